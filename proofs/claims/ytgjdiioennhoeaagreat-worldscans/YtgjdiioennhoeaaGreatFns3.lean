/-
  The functions, part 3.
-/
import Derived.Test.YtgjdiioennhoeaaGreatFns2
set_option maxRecDepth 20000
set_option maxHeartbeats 4000000
set_option linter.unusedVariables false
namespace Go.Abs.World
noncomputable section
open Go Go.Abs Go.Proofs Tryz
attribute [local irreducible] K1 Ly Bt
def Iq (p1:Int)(p2:Int)(p3:Int)(p4:Int)(p5:Int):Option Bool:=
  ((cond (decide (p1>p2)) (Se p3 p4) (some default))).bind fun v1=>((cond ((decide (p1>p2))&& (decide ((C9 (p2+v1))<p1))) (Se p5 p4) (some default))).bind fun v2=>some (((decide (p1>p2))&& (decide ((C9 (p2+v1))<p1)))&& (decide ((C9 ((C9 (p2+p5))+v2))≥p1)))
theorem Tt(p1 p2 p3 p4 p5 r)(h:Iq p1 p2 p3 p4 p5=some r):PCall prog 225 [(i64 p1),(.bp [(i64 p2)] 0),(.bp [(i64 p3)] 0),(.bp [(i64 p4)] 0),(.bp [(i64 p5)] 0)] (bo r):=by
 refine C0 (fk func225 ntmps225 m0 (by with_unfolding_all rfl)) (nl W) ?_
 unfold Iq at h
 refine B5 (s0:=⟨T [(0,(.d _)),(1,(.d _)),(2,(.d _)),(3,(.d _)),(4,(.d _))],G []⟩) (E3 W W) ?_
 refine B1<|sv W<|A1<|A4<|D5 W<|sv W<|sv W<|sv W<|sv W<|gt W (fun _=>W)<|gt W (fun _=>W)<|gt W (fun _=>W)<|bs h fun v1 hv1 h=> ?_
 refine I9 _ (i64 v1) (I8 W) (fun w4=>⟨_,[(di p3),(di p4)],_,_,(by simp only [A3 w4];rfl),W,A2,Ts _ _ _<|C2 w4 hv1,(.inl W)⟩) ?_
 refine gt W (fun w5=>(L4 (A3 w5) (A3 w5) W))<|gt W (fun _=>W)<|gt W (fun w7=>(L4 (A3 w7) (A3 w7) W))<|sa W W W<|sv W<|gt W (fun _=>W)<|gt W (fun _=>W)<|gt W (fun w10=>(L4 (A3 w10) (A3 w10) W))<|gt W (fun _=>W)<|gt W (fun _=>W)<|bs h fun v2 hv2 h=> ?_
 refine I9 _ (i64 v2) (I8 W) (fun w13=>⟨_,[(di p5),(di p4)],_,_,(by simp only [A3 w13];rfl),W,A2,Ts _ _ _<|C2 w13 hv2,(.inl W)⟩) ?_
 refine gt W (fun w14=>(L4 (A3 w14) (A3 w14) W))<|gt W (fun _=>W)<|gt W (fun w16=>(L4 (A3 w16) (A3 w16) W))<|sa W W W<|sv W<|A1<|B2 ?_
 cases h
 exact A7 (.inr W) (B4 (B3 W) B8) (.refl _)
def O6 (p1:(List Int))(p2:Int)(p3:Int)(p4:Int)(p5:Int)(x1:Int):Option (Stp Int (Sum Unit Int)):=
  cond (decide (x1< (p1.length:Int))) ((C8 p1 x1).bind fun v1=>(Iq v1 p2 p3 p4 p5).bind fun v2=>cond v2 (some (.out (.inr x1))) (some (.go (C9 (x1+1))))) (some (.out (.inl ())))
def I0 [Lp](p1:(List Int))(p2:Int)(p3:Int)(p4:Int)(p5:Int):Option Int:=
  thenS (loop (O6 p1 p2 p3 p4 p5) 0) (fun _=>some (-1)) (fun r=>some r)
theorem Dn(p1 p2 p3 p4 p5 r)(h:I0 p1 p2 p3 p4 p5=some r):PCall prog 254 [(.list (List.map A5 p1)),(.fn (.func 225) [] [(.bp [(i64 p2)] 0),(.bp [(i64 p3)] 0),(.bp [(i64 p4)] 0),(.bp [(i64 p5)] 0)])] (i64 r):=by
 refine C0 (fk func254 ntmps254 m0 (by with_unfolding_all rfl)) (nl W) ?_
 unfold I0 at h
 refine B5 (s0:=⟨T [(0,(.d _)),(1,(.d _))],G []⟩) (E3 W W) ?_
 refine B1<|sv W<|A1<|A4<|B1<|sv W<|sd W (D0 W)<|sv W<|A1<|js h fun z1 hz1 h=>D3 (fun s=> ∃(y1:Unit) (g1:Unit),z1= .inl y1∧Sb ⟨T [],G []⟩ s) ?_ ?_
 refine A9<|D7 (O6 p1 p2 p3 p4 p5) (fun (x1:Int) (g2:Unit)=>⟨T [(0,(dl A5 p1)),(1,(.d (.fn (.func 225) [] [(.bp [(i64 p2)] 0),(.bp [(i64 p3)] 0),(.bp [(i64 p4)] 0),(.bp [(i64 p5)] 0)]))),(7,(di (p1.length:Int))),(8,(di x1))],G []⟩) 0 () _ hz1 (E3 W W) ?_
 intro x1 g2 z2 hz2 ez2
 unfold O6 at hz2
 refine B1<|sv W<|A1<|A4<|cc W hz2 (fun c1 hz2=> ?_)<|fun c1 hz2=> ?_
 refine A8<|A4<|A9<|B1<|sv W<|sv W<|A1<|B1<|sv W<|sv W<|sv W<|bs hz2 fun _ hv1 hz2=>sd W (C5 W W hv1 W)<|sd W (D1 W hv1 W)<|bs hz2 fun _ hv2 hz2=>B0 W W A2 (Tt _ _ _ _ _ _ hv2) (.inl W) (A1<|cc W hz2 (fun c2 hz2=> ?_)<|fun c2 hz2=> ?_)
 refine B1<|sv W<|sv W<|A1<|B2 ?_
 cases hz2
 obtain rfl:=ez2 _ rfl
 refine ⟨nofun,E5 ?_⟩
 rw [bT]at h
 cases h
 exact A7 (.inr W) (B4 (B3 W) B8) (.refl _)
 refine A8<|D4<|C1<|sv W<|sv W<|A1<|D6 ?_
 cases hz2
 exact ⟨W,(),(E3 W W)⟩
 refine C6 W ?_
 cases hz2
 obtain rfl:=ez2 _ rfl
 refine ⟨nofun,C3 W<|T4 ?_⟩
 exact ⟨_,(),W,(E3 W W)⟩
 rintro _ ⟨y1,g1,rfl,q1⟩
 rw [bS]at h
 refine B5 q1<|B1<|sv W<|A1<|B2 ?_
 cases h
 exact A7 (.inr W) (B4 (B3 W) B8) (.refl _)
def G7 [Lp](p1:(List Int))(p2:Int)(p3:Int)(p4:Int)(p5:Int):Option Bool:=
  (I0 p1 p2 p3 p4 p5).bind fun v1=>some (decide (v1≥0))
theorem Bx(p1 p2 p3 p4 p5 r)(h:G7 p1 p2 p3 p4 p5=some r):PCall prog 224 [(.list (List.map A5 p1)),(.fn (.func 225) [] [(.bp [(i64 p2)] 0),(.bp [(i64 p3)] 0),(.bp [(i64 p4)] 0),(.bp [(i64 p5)] 0)])] (bo r):=by
 refine C0 (fk func224 ntmps224 m0 (by with_unfolding_all rfl)) (nl W) ?_
 unfold G7 at h
 refine B5 (s0:=⟨T [(0,(.d _)),(1,(.d _))],G []⟩) (E3 W W) ?_
 refine B1<|sv W<|A1<|B1<|sv W<|sv W<|bs h fun _ hv1 h=>B0 W W A2 (Dn _ _ _ _ _ _ hv1) (.inl W) (sv W<|sv W<|A1<|B2 ?_)
 cases h
 exact A7 (.inr W) (B4 (B3 W) B8) (.refl _)
def Ml [Lp](p1:(List Int))(p2:Int)(p3:Int)(p4:Int)(p5:Int):Option Bool:=
  (G7 p1 p2 p3 p5 p4).bind fun v1=>some (!v1)
theorem IT(p1 p2 p3 p4 p5 r)(h:Ml p1 p2 p3 p4 p5=some r):PCall prog 181 [(.list (List.map A5 p1)),(i64 p2),(i64 p3),(i64 p4),(i64 p5)] (bo r):=by
 refine C0 (fk func181 ntmps181 m0 (by with_unfolding_all rfl)) (nl W) ?_
 unfold Ml at h
 refine B5 (s0:=⟨T [(0,(.d _)),(1,(.d _)),(2,(.d _)),(3,(.d _)),(4,(.d _))],G []⟩) (E3 W W) ?_
 refine B1<|sm W<|sn W W<|sm W<|sn W W<|sv W<|A1<|B1<|sv W<|B9 (.fn _ _ _) W W (bs h fun v1 hv1 h=>B0 W (rD<|E0 (Zu F0<|E0 (Ab (gq W)<|rD F0)<|E0 (Ab (gq W)<|rD F0)<|E0 (Ab G_hit<|rD F0)<|E0 (Ab (gq W)<|rD F0) F0) F0) A2 (Bx _ _ _ _ _ _ hv1) (.inr W) (B9 (.d (bo (!v1))) W W (sv W<|A1<|B2 ?_)))
 cases h
 exact A7 (.inr W) (B4 (B3 W) B8) (.refl _)
def Ic [Lp](p2:Agent)(v1:(Int×Int))(v3:(Int×Int×Int))(v5:(List Int))(x1:Int):Option (Stp Int Int):=
  ((cond (decide (x1>(C9 (0 - v3.2.2)))) (Ka x1 p2 v3.1) (some default))).bind fun v6=>((cond (decide (x1>(C9 (0 - v3.2.2)))) (Ml v5 v1.2 p2.V v6 v3.2.2) (some default))).bind fun v7=>cond ((decide (x1>(C9 (0 - v3.2.2))))&& (!v7)) (some (.go (C9 (x1 - 1)))) (some (.out x1))
def Oe [Lp](p1:Map)(p2:Agent)(p3:Int)(p4:Int):Option Agent:=
  (Gr p1 p2).bind fun v1=>(C8 p1.Lanes v1.1).bind fun v2=>(Ec v2.Kind).bind fun v3=>((cond p2.Obey (Z1 p1 v1.1) (some default))).bind fun v4=>(cond (p2.Obey&& (decide (v1.2≤v4))) ((Rg p1 v1.1 p3).bind fun v5=>(loop (Ic p2 v1 v3 v5) (He true (C9 (0 - v3.2.2)) (He false p4 v3.2.1))).bind fun y2=>some y2) (some (He true (C9 (0 - v3.2.2)) (He false p4 v3.2.1)))).bind fun y1=>(Ka y1 p2 v3.1).bind fun v8=>(Gs p1 (Agent.mk p2.Route (C9 (p2.S+v8)) v8 p2.Len p2.Begin p2.Obey p2.Gone)).bind fun v9=>some (Agent.mk p2.Route (C9 (p2.S+v8)) v8 p2.Len p2.Begin p2.Obey v9)
theorem KP(p1 p2 p3 p4 r)(h:Oe p1 p2 p3 p4=some r):PCall prog 88 [(.agg (O8 p1)),(.agg (E4 p2)),(i64 p3),(i64 p4)] (.agg (E4 r)):=by
 refine C0 (fk func88 ntmps88 m0 (by with_unfolding_all rfl)) (nl W) ?_
 unfold Oe at h
 refine B5 (s0:=⟨T [(0,(.d _)),(1,(.d _)),(2,(.d _)),(3,(.d _))],G []⟩) (E3 W W) ?_
 refine lr<|fun u1 _=>sm W<|sm W<|sn W W<|A1<|B1<|sd W (A6 W (gq W) W W)<|sd W (A6 W (gq W) W W)<|bs h fun v1 hv1 h=>B0 W W A2 (Zy _ _ _ hv1) (.inl W) (sv W<|sv W<|sv W<|sv W<|sv W<|A1<|lr<|fun u3 _=>sq W<|sl W (gq W) W (sv W<|bs h fun _ hv2 h=>sd W (C5 W W hv2 W)<|sv W<|sd W (D1 W hv2 W)<|bs h fun v3 hv3 h=>B0 W W A2 (Lq _ _ hv3) (.inl W) (sv W<|sv W<|sv W<|sv W<|sm W<|Q4 W G_hit [(di v3.1)] W (sv W<|sv W<|A1<|B1<|B9 (.fn _ _ _) W W (B9 (.fn _ _ _) W W (A1<|B1<|sv W<|B9 (di<|C9 (0 - v3.2.2)) W W (sv W<|sv W<|sv W<|sv W<|sv W<|A1<|A4<|B1<|sq W<|sl W (gq W) W (sv W<|gt W (fun _=>W) ?_))))))))
 refine gt W (fun _=>(A6 W (gq W) W W))<|gt W (fun _=>W)<|bs h fun v4 hv4 h=> ?_
 refine I9 p2.Obey (i64 v4) (I8 W) (fun w4=>⟨_,[(.d (.agg (O8 p1))),(di v1.1)],_,_,(by simp only [A3 w4];rfl),W,A2,Ls _ _ _<|C2 w4 hv4,(.inl W)⟩) ?_
 refine gt W (fun w5=>(L4 (A3 w5) (A3 w5) W))<|sa W W W<|A1<|bs h fun y1 hy1 h=>D3 (fun s=> ∃g1:Unit,Sb ⟨T [(3,(di y1)),(4,(.ptr (4,u1) 0)),(5,(.ptr (5,u1) 0)),(8,(.ptr (8,u1) 0)),(14,(.fn (.func 179) [] [(.ptr (5,u1) 0),(.ptr (11,u3) 0)]))],G [((4,u1),some<|.box 33 (K7 p1)),((5,u1),some<|.box 45 (W9 p2)),((8,u1),some<|.box 45 ([(.d .nilS)]++ (zs 4)++ [(.d (bo false)),(.d (bo false))])),((11,u3),some<|.box 2 [(di v3.1)])]⟩ s) ?_ ?_
 refine cc W hy1 (fun c1 hy1=> ?_)<|fun c1 hy1=> ?_
 refine B1<|sd W (A6 W (gq W) W W)<|sv W<|sv W<|bs hy1 fun v5 hv5 hy1=>B0 W W A2 (OI _ _ _ _ hv5) (.inl W) (sv W<|A1<|bs hy1 fun y2 hy2 hy1=>D3 (fun s=> ∃g2:Unit,Sb ⟨T [(3,(di y2)),(4,(.ptr (4,u1) 0)),(5,(.ptr (5,u1) 0)),(8,(.ptr (8,u1) 0)),(14,(.fn (.func 179) [] [(.ptr (5,u1) 0),(.ptr (11,u3) 0)]))],G [((4,u1),some<|.box 33 (K7 p1)),((5,u1),some<|.box 45 (W9 p2)),((8,u1),some<|.box 45 ([(.d .nilS)]++ (zs 4)++ [(.d (bo false)),(.d (bo false))])),((11,u3),some<|.box 2 [(di v3.1)])]⟩ s) ?_ ?_)
 refine A9<|D7 (Ic p2 v1 v3 v5) (fun (x1:Int) (g3:Unit)=>⟨T [(3,(di x1)),(4,(.ptr (4,u1) 0)),(5,(.ptr (5,u1) 0)),(8,(.ptr (8,u1) 0)),(10,(di v1.2)),(13,(di v3.2.2)),(14,(.fn (.func 179) [] [(.ptr (5,u1) 0),(.ptr (11,u3) 0)])),(15,(dl A5 v5))],G [((4,u1),some<|.box 33 (K7 p1)),((5,u1),some<|.box 45 (W9 p2)),((8,u1),some<|.box 45 ([(.d .nilS)]++ (zs 4)++ [(.d (bo false)),(.d (bo false))])),((11,u3),some<|.box 2 [(di v3.1)])]⟩) (He true (C9 (0 - v3.2.2))<|He false p4 v3.2.1) () _ hy2 (E3 W W) ?_
 intro x1 g3 z1 hz1 ez1
 unfold Ic at hz1
 refine A4<|A4<|D5 W<|sv W<|sv W<|B9 (di<|C9 (0 - v3.2.2)) W W (sv W<|sv W<|gt W (fun _=>W)<|gt W (fun _=>W)<|gp W (I8 W) (fun _=>W) (gt W (vl W (gq W) W)<|M5 _ (.fn _ _ _) W (I8 W) (fun _=>W) (gt W (fun _=>W)<|bs hz1 fun v6 hv6 hz1=> ?_)))
 refine I9 _ (i64 v6) (I8 W) (fun w12=>⟨_,[(di x1),(.ptr (5,u1) 0),(.ptr (11,u3) 0)],_,_,(by simp only [A3 w12];rfl),(rD<|E0 (Ab (gq W)<|rD<|rD<|rD<|rD<|rD<|rD<|rD F0)<|E0 (Ab (gq W)<|rD F0) F0),A2,Qo _ _ _ _<|C2 w12 hv6,(.inr W)⟩) ?_
 refine gt W (fun _=>W)<|bs hz1 fun v7 hv7 hz1=> ?_
 refine I9 _ (bo v7) (I8 W) (fun w14=>⟨_,[(dl A5 v5),(di v1.2),(di p2.V),(di v6),(di v3.2.2)],_,_,(by simp only [A3 w14];rfl),W,A2,IT _ _ _ _ _ _<|C2 w14 hv7,(.inl W)⟩) ?_
 refine M5 _ (.d (bo (!v7))) W (I8 W) (fun w15=>(by simp only [A3 w15];rfl)) ?_
 refine sa W W W<|A1<|cc W hz1 (fun c2 hz1=> ?_)<|fun c2 hz1=> ?_
 refine A8<|A9<|C1<|sv W<|sv W<|sv W<|A1<|D4<|D6 ?_
 cases hz1
 exact ⟨W,(),(E3 W W)⟩
 refine C6 W ?_
 cases hz1
 obtain rfl:=ez1 _ rfl
 refine ⟨nofun,C3 W<|T4 ?_⟩
 exact ⟨(),(E3 W W)⟩
 rintro _ ⟨g2,q1⟩
 obtain rfl:=(lC hy1)
 exact T4 ⟨(),(Sb.after q1<|E3 W W)⟩
 refine A8 ?_
 cases hy1
 exact T4 ⟨(),(E3 W W)⟩
 rintro _ ⟨g1,q2⟩
 refine B5 q2<|B1<|B9 (.fn _ _ _) W W (sv W<|bs h fun v8 hv8 h=>B0 W (rD<|E0 (Ab (gq W)<|rD<|rD<|rD<|rD<|rD<|rD<|rD F0)<|E0 (Ab (gq W)<|rD F0) F0) A2 (Qo _ _ _ _ hv8) (.inr W) (sq W<|Q4 W (gq W) ((W9 p2).set 2 (di v8)) W (A1<|B1<|sq W<|sl W G_hit W<|sq W<|sl W G_hit W<|sv W<|sq W<|Q4 W G_hit (((W9 p2).set 1 (di<|C9 (p2.S+v8))).set 2 (di v8)) W (A1<|B1<|sd W (A6 W (gq W) W W)<|sd W (A6 W G_hit W W)<|bs h fun v9 hv9 h=>B0 W W A2 (Zz _ _ _ hv9) (.inl W) (sq W<|Q4 W G_hit ((((W9 p2).set 1 (di<|C9 (p2.S+v8))).set 2 (di v8)).set 6 (.d (bo v9))) W (A1<|B1<|sd W (A6 W G_hit W W)<|Q4 W (gq W) ((((W9 p2).set 1 (di<|C9 (p2.S+v8))).set 2 (di v8)).set 6 (.d (bo v9))) W (A1<|B2 ?_)))))))
 cases h
 exact A7 (.inr W) (B4 (G5 W G_hit (nl W) W) B8) (.refl _)
def Of [Lp](p1:Map)(p2:State)(p3:Int)(p4:Int):Option Agent:=
  cond ((decide (p3<0))||(decide (p3≥(p2.Agents.length:Int)))) (some (Agent.mk [] 0 0 0 0 false false)) ((C8 p2.Agents p3).bind fun v1=>(Ja v1).bind fun v2=>(Ce p2 p3).bind fun v3=>((cond (!(!v3)) (Ba p1 p2) (some default))).bind fun v4=>cond ((!v3)||(v4 !=0)) (some v2) ((Oe p1 v2 p2.Tick p4).bind fun v5=>some v5))
theorem KQ(p1 p2 p3 p4 r)(h:Of p1 p2 p3 p4=some r):PCall prog 29 [(.agg (O8 p1)),(.agg (U5 p2)),(i64 p3),(i64 p4)] (.agg (E4 r)):=by
 refine C0 (fk func29 ntmps29 m0 (by with_unfolding_all rfl)) (nl W) ?_
 unfold Of at h
 refine B5 (s0:=⟨T [(0,(.d _)),(1,(.d _)),(2,(.d _)),(3,(.d _))],G []⟩) (E3 W W) ?_
 refine B1<|sm W<|sn W W<|sm W<|A1<|A4<|B1<|sv W<|sv W<|sv W<|gf W (fun _=>W)<|gp W (H8 W) (fun _=>W) (gf W (vl W (gq W) W)<|gf W (fun w4=>(D0<|A3 w4))<|gf W (fun w5=>(L4 (A3 w5) (A3 w5) W))<|sd W (L8 W W<|fun hc=>A3<|G0 hc)<|A1<|cc W h (fun c1 h=> ?_)<|fun c1 h=> ?_)
 refine B1<|sv W<|Q4 W G_hit ([(.d .nilS)]++ (zs 4)++ [(.d (bo false)),(.d (bo false))]) W (A1<|B2 ?_)
 cases h
 exact A7 (.inr W) (B4 (G5 W G_hit (nl W) W) B8) (.agg (.cons ⟨DLe.nil,W⟩ (cz W)))
 refine A8<|B1<|sq W<|sl W (gq W) W (sv W<|bs h fun _ hv1 h=>sd W (C5 W W hv1 W)<|sd W (C7 W hv1 W W)<|bs h fun v2 hv2 h=>B0 W W A2 (Nc _ _ hv2) (.inl W) (sm W<|Q4 W G_hit (W9 v2) W (A1<|A4<|B1<|sd W (A6 W (gq W) W W)<|sv W<|bs h fun v3 hv3 h=>B0 W W A2 (Fo _ _ _ hv3) (.inl W) (B9 (.d (bo (!v3))) W W (sv W<|gf W (fun _=>(A6 W (gq W) W W))<|gf W (fun _=>(A6 W (gq W) W W))<|bs h fun v4 hv4 h=> ?_)))))
 refine I9 _ (i64 v4) (H8 W) (fun w8=>⟨_,[(.d (.agg (O8 p1))),(.d (.agg (U5 p2)))],_,_,(by simp only [A3 w8];rfl),W,A2,Nd _ _ _<|C2 w8 hv4,(.inl W)⟩) ?_
 refine gf W (vb W W W)<|sd W (L8 W W<|fun hc=>A3<|G0 hc)<|A1<|cc W h (fun c2 h=> ?_)<|fun c2 h=> ?_
 refine B1<|sd W (A6 W G_hit W W)<|Q4 W (gq W) (W9 v2) W (A1<|B2 ?_)
 cases h
 exact A7 (.inr W) (B4 (G5 W G_hit (nl W) W) B8) (.refl _)
 refine A8<|B1<|sd W (A6 W (gq W) W W)<|sd W (A6 W G_hit W W)<|sq W<|sl W (gq W) W (sv W<|bs h fun v5 hv5 h=>B0 W W A2 (KP _ _ _ _ _ hv5) (.inl W) (Q4 W (gq W) (W9 v5) W (A1<|B2 ?_)))
 cases h
 exact A7 (.inr W) (B4 (G5 W G_hit (nl W) W) B8) (.refl _)
theorem Sf(p1 r)(h:Bu p1=some r):MCall prog 121 [.d (.list (List.map J5 p1))] [] (oE r (800000,0)) [] [oB 127 4 J5 r]:=by
  cases p1 with
  |nil=>
   have hr:r= []:=by obtain ⟨_,rfl⟩:=Mf h;rfl
   subst hr
   exact MCall.ofP<|Km [] [] h
  |cons x xs=>
  have hr:Fk ([]:List Stay) (x::xs)=some r:=h
  have e:=(Mf hr).2
  rw [lN]at e
  rw [kF (T0 hr),aO (T0 hr)]
  refine VR (fk func121 ntmps121 m0 (by with_unfolding_all rfl)) W (Nat.le_of_ble_eq_true W) ?_
  refine (B5 (s0:=⟨T [(0, .d (.list (List.map J5 (x::xs))))],G []⟩) (D2 ⟨.of W,trivial⟩ trivial) ?_)
  refine A4 ?_
  refine Be fun _ _=> ?_
  refine B9 (.d .nilS) W W ?_
  refine A1 ?_
  refine A4 ?_
  refine A4 ?_
  refine Be fun _ _=> ?_
  refine B9 (.d (.list (List.map J5 (x::xs)))) W W ?_
  refine B9 (.d (bo false)) W W ?_
  refine A1 ?_
  refine Qt W ?_
  refine A8 ?_
  refine A4 ?_
  refine Be fun u3 _=> ?_
  refine Pf (.sl _) (.arr 127 4 (List.map J5 ([]:List Stay))) W W ?_
  refine B9 (.d (.list (List.map J5 (x::xs)))) W W ?_
  refine Xt J5 _ [] (x::xs) _ (M0<|fun _=>W) W G_hit hr ?_
  refine B9 (.sl _) W W ?_
  refine A1 ?_
  refine B2 ?_
  exact hO (v1:= .sl (7,u3)) (.inr W) (LZ<|B3 W) (.of W) [((7,u3),some<|.arr 127 4 (List.map J5 r))] (B6 G_hit (.of W) trivial) (cB [(7,u3)] W trivial ⟨G_hit,trivial⟩ W (by simp only [lR,List.not_mem_nil,or_false,forall_eq];exact fun i=>cA rfl i) nd1)
def Og (p1:State)(x1:(Int×State)):Option (Stp (Int×State) State):=
  cond (decide (x1.1< (p1.Agents.length:Int))) ((C8 p1.Agents x1.1).bind fun v2=>(Ja v2).bind fun v3=>(Fk x1.2.Agents [v3]).bind fun v4=>some (.go ((C9 (x1.1+1)),(State.mk x1.2.Tick v4 x1.2.In)))) (some (.out x1.2))
def Ie [Lp](p1:State):Option State:=
  (Bu p1.In).bind fun v1=>(loop (Og p1) (0,(State.mk p1.Tick [] v1))).bind fun y1=>some y1
theorem EP(p1 r)(h:Ie p1=some r):MCall prog 56 [(.d (.agg (U5 p1)))] [] (Y6 [(di r.Tick),(oS r.Agents (800000,0)),(oE r.In (800001,0))]) [] [oB 45 7 E4 r.Agents,oB 127 4 J5 r.In]:=by
 refine VR (fk func56 ntmps56 (fun r=>if r==1 then [1001004]else if r==5 then [1004]else []) (by with_unfolding_all rfl)) (by generalize r.Agents=x1;generalize r.In=x2;cases x1<;>cases x2<;>rfl) (nl W) ?_
 unfold Ie at h
 refine B5 (s0:=⟨T [(0,(.d _))],G []⟩) (E3 W W) ?_
 refine lr<|fun u1 _=>sm W<|sm W<|A1<|A4<|Qv fun u2 _=>Q0 (.ptr _ _) W W (Q0 (.d _) W (N8 W (gq W) W) (Q0 (.ptr _ _) W W (Q0 (.d _) W (N8 W (gq W) W) (bs h fun v1 hv1 h=> ?_))))
 refine cC (v:=oE v1 (10010040,u2)) (us:= [(10010040,u2)]) (hT (Sf _ _ hv1) [] [] _ (((10010040,u2),oB 127 4 J5 v1)::_) W Is W Eb trivial (fun _ h=>h) List.nodup_nil (by generalize v1=x1;cases x1<;>rfl) W (TT (W)) W) ?_
 refine Q0 (Y6 [(di p1.Tick),(.d .nilS),(oE v1 (10010040,u2))]) W (by generalize v1=x1;cases x1<;>rfl) ?_
 refine aV (.ptr _ _) (.box _ _) W W (Tc _ _ _ _ _ (X4 _) W W G_hit (nl W) [(di p1.Tick),(.d .nilS),(oE v1 (10010040,u2))] W (CQ ⟨W,?_⟩))
 refine A4<|B1<|sq W<|sl W (gq W) W (sd W (D0 W)<|sv W<|A1<|bs h fun y1 hy1 h=>D3 (fun s=> ∃g1:(Nat×Nat),Sb ⟨T [(2,(.ptr (2,u1) 0)),(3,(.ptr (3,u2) 0))],G [((2,u1),some<|.box 25 [(di 0),(.d .nilS),(.d .nilS)]),((3,u2),some<|.box 25 [(di y1.Tick),(oS y1.Agents (24,g1.1)),(oE y1.In (10010040,g1.2))]),((24,g1.1),oB 45 7 E4 y1.Agents),((10010040,g1.2),oB 127 4 J5 y1.In)]⟩ s) ?_ ?_)
 refine A9<|D7 (Og p1) (fun (x1:(Int×State)) (g2:(Nat×Nat))=>⟨T [(2,(.ptr (2,u1) 0)),(3,(.ptr (3,u2) 0)),(13,(dl E4 p1.Agents)),(14,(di (p1.Agents.length:Int))),(15,(di x1.1))],G [((2,u1),some<|.box 25 [(di 0),(.d .nilS),(.d .nilS)]),((3,u2),some<|.box 25 [(di x1.2.Tick),(oS x1.2.Agents (24,g2.1)),(oE x1.2.In (10010040,g2.2))]),((24,g2.1),oB 45 7 E4 x1.2.Agents),((10010040,g2.2),oB 127 4 J5 x1.2.In)]⟩) (0,(State.mk p1.Tick [] v1)) (0,u2) _ hy1 (D2 (X5 W)<|sg W<|B6 G_hit (.of W)<|O9<|B7 (gq W) trivial) ?_
 intro x1 g2 z1 hz1 ez1
 unfold Og at hz1
 refine B1<|sv W<|A1<|A4<|cc W hz1 (fun c1 hz1=> ?_)<|fun c1 hz1=> ?_
 refine A8<|A4<|A9<|B1<|bs hz1 fun v2 hv2 hz1=>sd W (C5 W W hv2 W)<|sd W (C7 W hv2 W W)<|sm W<|Q4 W G_hit (W9 v2) W (A1<|Fj W fun u6 _=>sq W<|B9 (oS x1.2.Agents (24,g2.1)) W (N8 W (gq W) W) (sd W (A6 W G_hit W W)<|bs hz1 fun v3 hv3 hz1=>B0 W W A2 (Nc _ _ hv3) (.inl W) (B9 (dl E4 [v3]) W W (bs hz1 fun _ hv4 hz1=>O1 E4 (24,g2.1) x1.2.Agents v3 [] _ (M0<|fun _=>W) W (gq W) hv4 (sq W<|Q4 W (gq W) [(di x1.2.Tick),(.sl (24,u6)),(oE x1.2.In (10010040,g2.2))] W (A1<|D4<|C1<|sv W<|sv W<|A1<|D6 ?_))))))
 cases hz1
 exact ⟨W,(u6,g2.2),(D2 (X5 W)<|sg W<|B6 G_hit (.box (cv<|.cons (.of (S5<|T0 hv4).symm) cw))<|L9 (gq W)<|B7 (gq W) trivial)⟩
 refine C6 W ?_
 cases hz1
 obtain rfl:=ez1 _ rfl
 refine ⟨nofun,C3 W<|T4 ?_⟩
 exact ⟨(g2.1,g2.2),(D2 (X5 W)<|B6 G_hit (.of W)<|sg W<|B7 (gq W)<|B7 (gq W) trivial)⟩
 rintro _ ⟨g1,q1⟩
 refine B5 q1<|B1<|B9 (Y6 [(di y1.Tick),(oS y1.Agents (24,g1.1)),(oE y1.In (10010040,g1.2))]) W (A6 W (gq W) W W) (Ll _ _ _ _ _ (X4 _) W W G_hit (nl W) [(di y1.Tick),(oS y1.Agents (24,g1.1)),(oE y1.In (10010040,g1.2))] W (A1<|B2 ?_))
 obtain rfl:=(lC h)
 exact hO (v1:=(Y6 [(di y1.Tick),(oS y1.Agents (24,g1.1)),(oE y1.In (10010040,g1.2))])) (.inr W) (LZ<|G5 W G_hit (Nat.le_of_ble_eq_true W) W) (.of W) [((24,g1.1),oB 45 7 E4 y1.Agents),((10010040,g1.2),oB 127 4 J5 y1.In)] (B7 (gq W)<|B7 (gq W) trivial) (fP [(24,g1.1),(10010040,g1.2)] (by generalize y1.Agents=x1;generalize y1.In=x2;cases x1<;>cases x2<;>rfl) trivial ⟨(G_hit).trans oB_ren.symm,((gq W)).trans oB_ren.symm,trivial⟩ W (List.forall_mem_cons.2 ⟨fun i hi=>VS W hi,(List.forall_mem_cons.2 ⟨fun i hi=>VS W hi,(fun _ h=>nomatch h)⟩)⟩) (hQ<|OA W))
def V8 [Lp](p1:WorldScene)(p2:Int)(p3:Int):Option (Int×Bool):=
  (C8 p1.before.Agents p2).bind fun v1=>(S7 v1.Route p3).bind fun v2=>cond (decide (v2<0)) (some (0,false)) ((Au p1.m v1.Route).bind fun v3=>(C8 v3 v2).bind fun v4=>some (v4,true))
theorem Nj(p1 p2 p3 r)(h:V8 p1 p2 p3=some r):PCall prog 227 [(.bp (Ph p1) 0),(i64 p2),(i64 p3)] (.tup [(i64 r.1),(bo r.2)]):=by
 refine C0 (fk func227 ntmps227 m0 (by with_unfolding_all rfl)) (nl W) ?_
 unfold V8 at h
 refine B5 (s0:=⟨T [(0,(.d _)),(1,(.d _)),(2,(.d _))],G []⟩) (E3 W W) ?_
 refine B1<|sv W<|sv W<|A1<|B1<|sv W<|sv W<|sv W<|sv W<|sv W<|sv W<|bs h fun _ hv1 h=>sd W (C5 W W hv1 W)<|sv W<|sd W (D1 W hv1 W)<|sv W<|A1<|B1<|sv W<|sv W<|bs h fun _ hv2 h=>B0 W W A2 (Mi _ _ _ hv2) (.inl W) (sv W<|A1<|A4<|B1<|sv W<|sv W<|A1<|cc W h (fun c1 h=> ?_)<|fun c1 h=> ?_)
 refine B1<|sv W<|sv W<|A1<|B2 ?_
 cases h
 exact A7 (.inr W) (Iz (B3 W) (B3 W) B8 B8) (.refl _)
 refine A8<|B1<|sv W<|sv W<|sv W<|sv W<|sv W<|bs h fun _ hv3 h=>B0 W W A2 (Qa _ _ _ hv3) (.inl W) (sv W<|bs h fun _ hv4 h=>sd W (C5 W W hv4 W)<|sd W (D1 W hv4 W)<|sv W<|sv W<|A1<|B2 ?_)
 cases h
 exact A7 (.inr W) (Iz (B3 W) (B3 W) B8 B8) (.refl _)
def X8 [Lp](p1:WorldScene)(p2:Int)(p3:Int):Option Stay:=
  (E6 p1.after.In (Stay.mk p2 p3 0 0)).bind fun v1=>(C8 p1.after.In v1.1).bind fun v2=>some v2
theorem Nz(p1 p2 p3 r)(h:X8 p1 p2 p3=some r):PCall prog 228 [(.bp (Ph p1) 0),(i64 p2),(i64 p3)] (.agg (J5 r)):=by
 refine C0 (fk func228 ntmps228 m0 (by with_unfolding_all rfl)) (nl W) ?_
 unfold X8 at h
 refine B5 (s0:=⟨T [(0,(.d _)),(1,(.d _)),(2,(.d _))],G []⟩) (E3 W W) ?_
 refine B1<|sm W<|A1<|B1<|sv W<|sv W<|sv W<|sv W<|sv W<|sv W<|sv W<|sv W<|bs h fun _ hv1 h=>B0 W W A2 (N3 _ _ _ hv1) (.inl W) (sv W<|sv W<|sv W<|sv W<|sv W<|A1<|B1<|sv W<|sv W<|sv W<|sv W<|sv W<|sv W<|bs h fun v2 hv2 h=>sd W (C5 W W hv2 W)<|sd W (C7 W hv2 W W)<|Q4 W G_hit (Vx v2) W (A1<|B2 ?_))
 cases h
 exact A7 (.inr W) (B4 (G5 W G_hit (nl W) W) B8) (.refl _)
def Fs [Lp](p1:Map)(p2:State)(p3:(List Int))(v2:State)(y2:(List Agent))(y5:(List Stay))(a1:(Int×Int))(x6:(Int× (List Crash))):Option (Stp (Int× (List Crash)) (List Crash)):=
  cond (decide (x6.1< (p1.Zones.length:Int))) ((V7 (WorldScene.mk p1 p2 (State.mk v2.Tick y2 y5) p3 x6.2) a1.1 a1.2 x6.1).bind fun v28=>cond (!v28) (some (.go ((C9 (x6.1+1)),x6.2))) ((X8 (WorldScene.mk p1 p2 (State.mk v2.Tick y2 y5) p3 x6.2) a1.1 x6.1).bind fun v29=>(X8 (WorldScene.mk p1 p2 (State.mk v2.Tick y2 y5) p3 x6.2) a1.2 x6.1).bind fun v30=>(Z9 v29.Rank v30.Rank).bind fun v31=>(Iv v30.Since v29.Since).bind fun v32=>(Et [v31,v32]).bind fun v33=>(cond (v33==(-1)) (some [a1.1]) (cond (v33==1) (some [a1.2]) (some [a1.1,a1.2]))).bind fun y17=>(Fk x6.2 [(Crash.mk p2.Tick a1.1 a1.2 (-1) x6.1 y17)]).bind fun v34=>some (.go ((C9 (x6.1+1)),v34)))) (some (.out x6.2))
def Jg [Lp](p1:Map)(p2:State)(p3:(List Int))(v2:State)(y2:(List Agent))(y5:(List Stay))(a1:(Int×Int))(y12:(List Crash)):Option (List Crash):=
  (loop (Fs p1 p2 p3 v2 y2 y5 a1) (0,y12)).bind fun y16=>some y16
def Ft [Lp](p1:Map)(p2:State)(p3:(List Int))(v2:State)(y2:(List Agent))(y5:(List Stay))(x4:(List Crash))(a1:(Int×Int))(x5:Int):Option (Stp Int (Sum Unit (List Crash))):=
  cond (decide (x5< (p1.Lanes.length:Int))) ((V8 (WorldScene.mk p1 p2 (State.mk v2.Tick y2 y5) p3 x4) a1.1 x5).bind fun v13=>(V8 (WorldScene.mk p1 p2 (State.mk v2.Tick y2 y5) p3 x4) a1.2 x5).bind fun v14=>cond ((!v13.2)||(!v14.2)) (some (.go (C9 (x5+1)))) ((C8 p2.Agents a1.1).bind fun v15=>(C8 p2.Agents a1.2).bind fun v16=>(cond (decide ((C9 (v15.S - v13.1))< (C9 (v16.S - v14.1)))) (some (v14.1,v13.1,a1.2,a1.1)) (some (v13.1,v14.1,a1.1,a1.2))).bind fun y14=>(C8 y2 y14.2.2.1).bind fun v17=>(Es v17).bind fun v18=>(Bo v18 y14.1).bind fun v19=>(C8 y2 y14.2.2.2).bind fun v20=>(Es v20).bind fun v21=>(Bo v21 y14.2.1).bind fun v22=>(C8 p2.Agents y14.2.2.2).bind fun v23=>(Es v23).bind fun v24=>(Bo v24 y14.2.1).bind fun v25=>(Z1 p1 x5).bind fun v26=>cond (((((decide (v19.to≥0))&& (decide (v22.to≥0)))&& (decide (v25.from_≤v26)))&& (decide (v19.from_≤v26)))&& (decide (v22.to≥v19.from_))) ((Fk x4 [(Crash.mk p2.Tick a1.1 a1.2 x5 (-1) [y14.2.2.2])]).bind fun v27=>some (.out (.inr v27))) (some (.go (C9 (x5+1)))))) (some (.out (.inl ())))
def Lb [Lp](p1:Map)(p2:State)(p3:(List Int))(v2:State)(y2:(List Agent))(y5:(List Stay))(x4:(List Crash))(a1:(Int×Int)):Option (List Crash):=
  thenS (loop (Ft p1 p2 p3 v2 y2 y5 x4 a1) 0) (fun _=>some x4) (fun r=>some r)
def If [Lp](p1:Map)(p2:State)(p3:(List Int))(v2:State)(y2:(List Agent))(y5:(List Stay))(x4:(List Crash))(a1:(Int×Int)):Option (Stp (List Crash) (List Crash)):=
  (Lb p1 p2 p3 v2 y2 y5 x4 a1).bind fun y12=>(Jg p1 p2 p3 v2 y2 y5 a1 y12).bind fun y15=>some (.go y15)
def AB:Option Unit:=
  some ()
def Lc [Lp](p1:Map)(p2:State)(p3:(List Int))(v2:State)(y2:(List Agent))(y5:(List Stay)):Option (List Crash):=
  (AB).bind fun y10=>((OF p2).bind fun v12=>loopL (If p1 p2 p3 v2 y2 y5) (fun (x4:(List Crash))=>x4) v12 []).bind fun y11=>some y11
def Ig [Lp](p1:Map)(p2:State)(p3:(List Int))(v2:State)(y2:(List Agent))(x2:(Int× (List Stay)))(v6:Agent)(x3:(Int× (List Stay))):Option (Stp (Int× (List Stay)) (List Stay)):=
  cond (decide (x3.1< (p1.Zones.length:Int))) ((O0 (WorldScene.mk p1 p2 (State.mk v2.Tick y2 x3.2) p3 []) x2.1 x3.1).bind fun v7=>cond (!v7) (some (.go ((C9 (x3.1+1)),x3.2))) ((E6 p2.In (Stay.mk x2.1 x3.1 p2.Tick 0)).bind fun v8=>(cond v8.2 ((C8 p2.In v8.1).bind fun v9=>some v9) ((Ma p1 v6 x3.1 p2.Tick).bind fun v10=>some (Stay.mk x2.1 x3.1 p2.Tick v10))).bind fun y8=>(Fk x3.2 [y8]).bind fun v11=>some (.go ((C9 (x3.1+1)),v11)))) (some (.out x3.2))
def Ih [Lp](p1:Map)(p2:State)(p3:(List Int))(v2:State)(y2:(List Agent))(x2:(Int× (List Stay))):Option (Stp (Int× (List Stay)) (List Stay)):=
  cond (decide (x2.1< (p2.Agents.length:Int))) ((C8 p2.Agents x2.1).bind fun v6=>(loop (Ig p1 p2 p3 v2 y2 x2 v6) (0,x2.2)).bind fun y7=>some (.go ((C9 (x2.1+1)),y7))) (some (.out x2.2))
def Ld [Lp](p1:Map)(p2:State)(p3:(List Int))(v2:State)(y2:(List Agent)):Option (List Stay):=
  (loop (Ih p1 p2 p3 v2 y2) (0,[])).bind fun y6=>some y6
def Ii [Lp](p1:Map)(p2:State)(p3:(List Int))(x1:(Int× (List Agent))):Option (Stp (Int× (List Agent)) (List Agent)):=
  cond (decide (x1.1< (p2.Agents.length:Int))) ((cond (decide (x1.1< (p3.length:Int))) ((C8 p3 x1.1).bind fun v3=>some v3) (some 0)).bind fun y4=>(Of p1 p2 x1.1 y4).bind fun v4=>(C8 x1.2 x1.1).bind fun v5=>some (.go ((C9 (x1.1+1)),(Qu x1.2 x1.1 v4)))) (some (.out x1.2))
def Lf [Lp](p1:Map)(p2:State)(p3:(List Int))(v2:State):Option (List Agent):=
  (loop (Ii p1 p2 p3) (0,v2.Agents)).bind fun y3=>some y3
def Oh [Lp](p1:Map)(p2:State)(p3:(List Int)):Option (State× (List Crash)×Int):=
  (Ba p1 p2).bind fun v1=>cond (v1 !=0) (some ((State.mk 0 [] []),[],v1)) (cond (decide (p2.Tick≥1099511627776)) (some ((State.mk 0 [] []),[],2)) ((Ie p2).bind fun v2=>((Lf p1 p2 p3 v2).bind fun y2=>(Ld p1 p2 p3 v2 y2).bind fun y5=>(Lc p1 p2 p3 v2 y2 y5).bind fun y9=>some (y2,y5,y9)).bind fun y1=>some ((State.mk (C9 (v2.Tick+1)) y1.1 y1.2.1),y1.2.2,0)))
theorem KR(p1 p2 p3 r)(h:Oh p1 p2 p3=some r):PCall prog 31 [(.agg (O8 p1)),(.agg (U5 p2)),(.list (List.map A5 p3))] (.tup [(.agg (U5 r.1)),(.list (List.map Dr r.2.1)),(i64 r.2.2)]):=by
 refine C0 (fk func31 ntmps31 (fun r=>if r==6 then [1006003]else if r==10 then [2]else []) (by with_unfolding_all rfl)) (nl W) ?_
 unfold Oh at h
 refine B5 (s0:=⟨T [(0,(.d _)),(1,(.d _)),(2,(.d _))],G []⟩) (E3 W W) ?_
 refine lr<|fun u1 _=>sm W<|sm W<|sn W W<|sv W<|sv W<|A1<|A4<|B1<|sd W (A6 W (gq W) W W)<|sd W (A6 W (gq W) W W)<|bs h fun _ hv1 h=>B0 W W A2 (Nd _ _ _ hv1) (.inl W) (sv W<|A1<|B1<|sv W<|sv W<|A1<|cc W h (fun c1 h=> ?_)<|fun c1 h=> ?_)
 refine B1<|sv W<|sv W<|Q4 W G_hit [(di 0),(.d .nilS),(.d .nilS)] W (sv W<|sv W<|A1<|B2 ?_)
 cases h
 exact A7 (.inr W) (Ta (G5 W G_hit (nl W) W) (B3 W) (B3 W) B8 B8 B8) (.tup (.cons (.agg (ca W<|.cons ⟨DLe.nil,W⟩ (.cons ⟨DLe.nil,W⟩ .nil))) (.cons DLe.nil A2)))
 refine A8<|A4<|B1<|sq W<|sl W (gq W) W (sv W<|A1<|cc W h (fun c2 h=> ?_)<|fun c2 h=> ?_)
 refine B1<|sv W<|Q4 W G_hit [(di 0),(.d .nilS),(.d .nilS)] W (sv W<|sv W<|A1<|B2 ?_)
 cases h
 exact A7 (.inr W) (Ta (G5 W G_hit (nl W) W) (B3 W) (B3 W) B8 B8 B8) (.tup (.cons (.agg (ca W<|.cons ⟨DLe.nil,W⟩ (.cons ⟨DLe.nil,W⟩ .nil))) (.cons DLe.nil A2)))
 refine A8<|A4<|Qv fun u7 _=>Q0 (.d _) W (A6 W (gq W) W W) (Q0 (.d _) W (A6 W (gq W) W W) (Q0 (.d _) W (A6 W (gq W) W W) (bs h fun v2 hv2 h=> ?_)))
 refine cC (v:=Y6 [(di v2.Tick),(oS v2.Agents (10060030,u7)),(oE v2.In (10060031,u7))]) (us:= [(10060030,u7),(10060031,u7)]) (hT (EP _ _ hv2) [] [] _ (((10060031,u7),oB 127 4 J5 v2.In)::(((10060030,u7),oB 45 7 E4 v2.Agents)::_)) W Is W Eb trivial (fun _ h=>h) List.nodup_nil (by generalize v2.Agents=x1;generalize v2.In=x2;cases x1<;>cases x2<;>rfl) W (TT<|TT (W)) W) ?_
 refine Q0 (.d _) W W ?_
 refine Q0 (Y6 ((K7 p1)++ (J8 p2)++ [(di v2.Tick),(oS v2.Agents (10060030,u7)),(oE v2.In (10060031,u7)),(dl A5 p3),(.d .nilS)])) W (by generalize v2.Agents=x1;generalize v2.In=x2;cases x1<;>cases x2<;>rfl) ?_
 refine aV (.ptr _ _) (.box _ _) W (TU W) (Q0 (.ptr _ _) W W (CQ ⟨W,?_⟩))
 refine A4<|B1<|sv W<|sv W<|A1<|bs h fun y1 hy1 h=>D3 (fun s=> ∃g1:(Nat×Nat× ({d:Nat // d∈ [72,158]}×Nat)),Sb ⟨T [(6,(.ptr (6,u1) 0)),(10,(.ptr (30,u7) 0))],G [((6,u1),some<|.box 25 [(di 0),(.d .nilS),(.d .nilS)]),((30,u7),some<|.box 135 ((K7 p1)++ (J8 p2)++ [(di v2.Tick),(oS y1.1 (10060030,g1.1)),(oS y1.2.1 (85,g1.2.1)),(dl A5 p3),(oS y1.2.2 (g1.2.2.1.val,g1.2.2.2))])),((10060030,g1.1),oB 45 7 E4 y1.1),((85,g1.2.1),oB 127 4 J5 y1.2.1),((g1.2.2.1.val,g1.2.2.2),oB 77 6 Dr y1.2.2)]⟩ s) ?_ ?_
 refine A9<|Rr<|B1<|sv W<|A1<|A4<|Tb W<|A8<|A4<|A9<|B1<|sv W<|sv W<|A1<|C1<|sv W<|sq W<|bs hy1 fun y2 hy2 hy1=>Vd (fk func90 ntmps90 m0 (by with_unfolding_all rfl)) (fun (g2:Nat)=> [(6,(.ptr (6,u1) 0)),(10,(.ptr (30,u7) 0)),(31,(.d (.agg [(.fn (.func 90) [] []),(.fn (.func 80) [] []),(.fn (.func 91) [] [])]))),(32,(di 0))]) (fun (g2:Nat)=> [((6,u1),some<|.box 25 [(di 0),(.d .nilS),(.d .nilS)]),((30,u7),some<|.box 135 ((K7 p1)++ (J8 p2)++ [(di v2.Tick),(oS y2 (10060030,g2)),(oE v2.In (10060031,u7)),(dl A5 p3),(.d .nilS)])),((10060031,u7),oB 127 4 J5 v2.In),((10060030,g2),oB 45 7 E4 y2)]) W (nl W) ?_ ?_
 unfold Lf at hy2
 refine B5 (s0:=⟨T [(0,(.ptr (30,u7) 0))],G [((30,u7),some<|.box 135 ((K7 p1)++ (J8 p2)++ [(di v2.Tick),(oS v2.Agents (10060030,u7)),(oE v2.In (10060031,u7)),(dl A5 p3),(.d .nilS)])),((10060030,u7),oB 45 7 E4 v2.Agents),((10060031,u7),oB 127 4 J5 v2.In),((6,u1),some<|.box 25 [(di 0),(.d .nilS),(.d .nilS)])]⟩) (D2 ⟨.of W,trivial⟩<|B6 G_hit (.of W)<|B7 (gq W)<|B7 (gq W)<|sg W trivial) ?_
 refine B1<|sq W<|sp W W<|sq W<|sp W W<|sl W G_hit W<|sd W (D0 W)<|sv W<|A1<|bs hy2 fun y3 hy3 hy2=>D3 (fun s=> ∃g3:Nat,Sb ⟨T [],G [((6,u1),some<|.box 25 [(di 0),(.d .nilS),(.d .nilS)]),((30,u7),some<|.box 135 ((K7 p1)++ (J8 p2)++ [(di v2.Tick),(oS y3 (10060030,g3)),(oE v2.In (10060031,u7)),(dl A5 p3),(.d .nilS)])),((10060031,u7),oB 127 4 J5 v2.In),((10060030,g3),oB 45 7 E4 y3)]⟩ s) ?_ ?_
 refine A9<|D7 (Ii p1 p2 p3) (fun (x1:(Int× (List Agent))) (g4:Nat)=>⟨T [(0,(.ptr (30,u7) 0)),(9,(di (p2.Agents.length:Int))),(10,(di x1.1))],G [((30,u7),some<|.box 135 ((K7 p1)++ (J8 p2)++ [(di v2.Tick),(oS x1.2 (10060030,g4)),(oE v2.In (10060031,u7)),(dl A5 p3),(.d .nilS)])),((6,u1),some<|.box 25 [(di 0),(.d .nilS),(.d .nilS)]),((10060031,u7),oB 127 4 J5 v2.In),((10060030,g4),oB 45 7 E4 x1.2)]⟩) (0,v2.Agents) u7 _ hy3 (D2 (X5 W)<|B6 G_hit (.of W)<|sg W<|B7 (gq W)<|B7 (gq W) trivial) ?_
 intro x1 g4 z1 hz1 ez1
 unfold Ii at hz1
 refine B1<|sv W<|A1<|A4<|cc W hz1 (fun c3 hz1=> ?_)<|fun c3 hz1=> ?_
 refine A8<|A4<|A9<|B1<|sv W<|sv W<|A1<|B1<|sv W<|A1<|A4<|B1<|sv W<|sq W<|sp W W<|sq W<|sl W G_hit W<|sd W (D0 W)<|sv W<|A1<|bs hz1 fun y4 hy4 hz1=>D3 (fun s=> ∃g5:Unit,Sb ⟨T [(0,(.ptr (30,u7) 0)),(2,(di x1.1)),(3,(di y4)),(9,(di (p2.Agents.length:Int))),(10,(di x1.1))],G [((30,u7),some<|.box 135 ((K7 p1)++ (J8 p2)++ [(di v2.Tick),(oS x1.2 (10060030,g4)),(oE v2.In (10060031,u7)),(dl A5 p3),(.d .nilS)])),((6,u1),some<|.box 25 [(di 0),(.d .nilS),(.d .nilS)]),((10060030,g4),oB 45 7 E4 x1.2),((10060031,u7),oB 127 4 J5 v2.In)]⟩ s) ?_ ?_
 refine cc W hy4 (fun c4 hy4=> ?_)<|fun c4 hy4=> ?_
 refine C1<|sq W<|sq W<|sp W W<|sl W G_hit W<|sv W<|bs hy4 fun _ hv3 hy4=>sd W (C5 W W hv3 W)<|sd W (D1 W hv3 W)<|sv W<|A1 ?_
 obtain rfl:=(lC hy4)
 exact T4 ⟨(),(D2 (X5 W)<|B6 G_hit (.of W)<|sg W<|B7 (gq W)<|B7 (gq W) trivial)⟩
 refine A8 ?_
 cases hy4
 exact T4 ⟨(),(D2 (X5 W)<|B6 G_hit (.of W)<|sg W<|B7 (gq W)<|B7 (gq W) trivial)⟩
 rintro _ ⟨g5,q1⟩
 refine B5 q1<|D5 W<|sq W<|sq W<|sp W W<|sq W<|B9 (oS x1.2 (10060030,g4)) W (N8 W G_hit W) (sv W<|sq W<|sp W W<|sq W<|sd W (A6 W G_hit W W)<|sq W<|sp W W<|sq W<|sd W (A6 W G_hit W W)<|sv W<|sv W<|bs hz1 fun v4 hv4 hz1=>B0 W W A2 (KQ _ _ _ _ _ hv4) (.inl W) (bs hz1 fun _ hv5 hz1=>B9 (.aptr _ _ _ _) W (Xu W W (gq W) hv5) ?_))
 rw [S5 (Fe hv5)]
 refine Pg E4 _ _ _ (x1.1) _ v4 (E4 v4) W W W (My (gq W)<|Fe hv5) hv5 (nl W) W (A1<|D4<|C1<|sv W<|sv W<|A1<|D6 ?_)
 cases hz1
 exact ⟨W,g4,(D2 (X5 W)<|B6 (gq W) (.box (cv<|cv<|cv<|cv<|cv<|cv<|cv<|cv<|cv<|.cons (.of (S5<|Zh<|Fe hv5).symm) cw)) (sg W<|B7 (gq W)<|L9 G_hit trivial))⟩
 refine C6 W ?_
 cases hz1
 obtain rfl:=ez1 _ rfl
 refine ⟨nofun,C3 W<|T4 ?_⟩
 exact ⟨g4,(D2 trivial<|sg W<|B6 G_hit (.of W)<|B7 (gq W)<|B7 (gq W) trivial)⟩
 rintro _ ⟨g3,q2⟩
 refine D6 ?_
 obtain rfl:=(lC hy2)
 exact Xz q2 (.inl W) g3 (X5 W) (B6 G_hit (.of W)<|sg W<|B7 (gq W)<|B7 (gq W) trivial)
 intro g2
 intro u20 hu20
 refine A1<|D4<|C1<|sv W<|sv W<|A1<|Rr<|B1<|sv W<|A1<|A4<|Tb W<|A8<|A4<|A9<|B1<|sv W<|sv W<|A1<|C1<|sv W<|sq W<|bs hy1 fun y5 hy5 hy1=>Vd (fk func80 ntmps80 (fun r=>if r==13 then [1007]else []) (by with_unfolding_all rfl)) (fun (g6:Nat)=> [(6,(.ptr (6,u1) 0)),(10,(.ptr (30,u7) 0)),(31,(.d (.agg [(.fn (.func 90) [] []),(.fn (.func 80) [] []),(.fn (.func 91) [] [])]))),(32,(di 1))]) (fun (g6:Nat)=> [((6,u1),some<|.box 25 [(di 0),(.d .nilS),(.d .nilS)]),((30,u7),some<|.box 135 ((K7 p1)++ (J8 p2)++ [(di v2.Tick),(oS y2 (10060030,g2)),(oS y5 (85,g6)),(dl A5 p3),(.d .nilS)])),((10060030,g2),oB 45 7 E4 y2),((85,g6),oB 127 4 J5 y5)]) W (nl W) ?_ ?_
 unfold Ld at hy5
 refine B5 (s0:=⟨T [(0,(.ptr (30,u7) 0))],G [((30,u7),some<|.box 135 ((K7 p1)++ (J8 p2)++ [(di v2.Tick),(oS y2 (10060030,g2)),(oE v2.In (10060031,u7)),(dl A5 p3),(.d .nilS)])),((10060030,g2),oB 45 7 E4 y2),((10060031,u7),oB 127 4 J5 v2.In),((6,u1),some<|.box 25 [(di 0),(.d .nilS),(.d .nilS)])]⟩) (D2 ⟨.of W,trivial⟩<|sg W<|B7 (gq W)<|B7 (gq W)<|B6 G_hit (.of W) trivial) ?_
 refine B1<|sq W<|sp W W<|sq W<|sp W W<|Q4 W G_hit ((K7 p1)++ (J8 p2)++ [(di v2.Tick),(oS y2 (10060030,g2)),(.d .nilS),(dl A5 p3),(.d .nilS)]) W (A1<|B1<|sq W<|sp W W<|sq W<|sp W W<|sl W G_hit W<|sd W (D0 W)<|sv W<|A1<|bs hy5 fun y6 hy6 hy5=>D3 (fun s=> ∃g7:Nat,Sb ⟨T [],G [((6,u1),some<|.box 25 [(di 0),(.d .nilS),(.d .nilS)]),((30,u7),some<|.box 135 ((K7 p1)++ (J8 p2)++ [(di v2.Tick),(oS y2 (10060030,g2)),(oS y6 (85,g7)),(dl A5 p3),(.d .nilS)])),((10060030,g2),oB 45 7 E4 y2),((85,g7),oB 127 4 J5 y6)]⟩ s) ?_ ?_)
 refine A9<|D7 (Ih p1 p2 p3 v2 y2) (fun (x2:(Int× (List Stay))) (g8:Nat)=>⟨T [(0,(.ptr (30,u7) 0)),(16,(dl E4 p2.Agents)),(17,(di (p2.Agents.length:Int))),(18,(di x2.1))],G [((30,u7),some<|.box 135 ((K7 p1)++ (J8 p2)++ [(di v2.Tick),(oS y2 (10060030,g2)),(oS x2.2 (85,g8)),(dl A5 p3),(.d .nilS)])),((6,u1),some<|.box 25 [(di 0),(.d .nilS),(.d .nilS)]),((10060030,g2),oB 45 7 E4 y2),((85,g8),oB 127 4 J5 x2.2)]⟩) (0,[]) 0 _ hy6 (D2 (X5 W)<|B6 G_hit (.of W)<|sg W<|B7 (gq W)<|O9 trivial) ?_
 intro x2 g8 z2 hz2 ez2
 unfold Ih at hz2
 refine B1<|sv W<|A1<|A4<|cc W hz2 (fun c5 hz2=> ?_)<|fun c5 hz2=> ?_
 refine A8<|A4<|A9<|lr<|fun u28 _=>sv W<|bs hz2 fun v6 hv6 hz2=>sd W (C5 W W hv6 W)<|sd W (C7 W hv6 W W)<|sm W<|sv W<|Q4 W G_hit (W9 v6) W (A1<|B1<|sq W<|sp W W<|sq W<|sp W W<|sl W (gq W) W (sd W (D0 W)<|sv W<|A1<|bs hz2 fun y7 hy7 hz2=>D3 (fun s=> ∃g9:Nat,Sb ⟨T [(0,(.ptr (30,u7) 0)),(16,(dl E4 p2.Agents)),(17,(di (p2.Agents.length:Int))),(18,(di x2.1))],G [((30,u7),some<|.box 135 ((K7 p1)++ (J8 p2)++ [(di v2.Tick),(oS y2 (10060030,g2)),(oS y7 (85,g9)),(dl A5 p3),(.d .nilS)])),((6,u1),some<|.box 25 [(di 0),(.d .nilS),(.d .nilS)]),((10060030,g2),oB 45 7 E4 y2),((85,g9),oB 127 4 J5 y7)]⟩ s) ?_ ?_))
 refine A9<|D7 (Ig p1 p2 p3 v2 y2 x2 v6) (fun (x3:(Int× (List Stay))) (g10:Nat)=>⟨T [(0,(.ptr (30,u7) 0)),(2,(di x2.1)),(3,(.ptr (3,u28) 0)),(16,(dl E4 p2.Agents)),(17,(di (p2.Agents.length:Int))),(18,(di x2.1)),(28,(di (p1.Zones.length:Int))),(29,(di x3.1))],G [((30,u7),some<|.box 135 ((K7 p1)++ (J8 p2)++ [(di v2.Tick),(oS y2 (10060030,g2)),(oS x3.2 (85,g10)),(dl A5 p3),(.d .nilS)])),((3,u28),some<|.box 45 (W9 v6)),((6,u1),some<|.box 25 [(di 0),(.d .nilS),(.d .nilS)]),((10060030,g2),oB 45 7 E4 y2),((85,g10),oB 127 4 J5 x3.2)]⟩) (0,x2.2) g8 _ hy7 (D2 (X5 W)<|sg W<|B6 G_hit (.of W)<|sg W<|B7 (gq W)<|B7 (gq W) trivial) ?_
 intro x3 g10 z3 hz3 ez3
 unfold Ig at hz3
 refine B1<|sv W<|A1<|A4<|cc W hz3 (fun c6 hz3=> ?_)<|fun c6 hz3=> ?_
 refine A8<|A4<|A9<|B1<|sv W<|sv W<|A1<|A4<|B1<|sq W<|sv W<|sv W<|bs hz3 fun v7 hv7 hz3=>B0 W (E0 (Ab G_hit<|rD<|rD<|rD<|rD<|rD<|rD<|rD<|rD<|rD<|E0 (U4<|gq W)<|E0 (U4<|gq W)<|rD<|rD F0)<|rD<|rD F0) (.cons (DLe.bp<|ca W<|ca W<|ca W<|ca W<|ca W<|ca W<|ca W<|ca W<|ca W<|.cons ⟨U3,W⟩ (.cons ⟨U3,W⟩ (ca W<|.cons ⟨DLe.nil,W⟩ .nil))) (.cons (.refl _) A2)) (Av _ _ _ _ hv7) (.inr W) (B9 (.d (bo (!v7))) W W (A1<|cc W hz3 (fun c7 hz3=> ?_)<|fun c7 hz3=> ?_))
 refine Mx W<|C1<|sv W<|sv W<|A1<|D6 ?_
 cases hz3
 exact ⟨W,g10,(D2 (X5 W)<|B6 G_hit (.of W)<|sg W<|sg W<|B7 (gq W)<|B7 (gq W) trivial)⟩
 refine A8<|lr<|fun u34 _=>sv W<|sv W<|sq W<|sp W W<|sq W<|sp W W<|sl W G_hit W<|sv W<|sm W<|Q4 W G_hit [(di x2.1),(di x3.1),(di p2.Tick),(di 0)] W (A1<|A4<|A4<|D5 W<|sq W<|sq W<|sp W W<|sq W<|sl W (gq W) W (sd W (A6 W G_hit W W)<|bs hz3 fun _ hv8 hz3=>B0 W W A2 (N3 _ _ _ hv8) (.inl W) (sv W<|sv W<|sv W<|sv W<|sv W<|A1<|B1<|sv W<|A1<|bs hz3 fun y8 hy8 hz3=>D3 (fun s=> ∃g11:Unit,Sb ⟨T [(0,(.ptr (30,u7) 0)),(2,(di x2.1)),(3,(.ptr (3,u28) 0)),(5,(.ptr (5,u34) 0)),(16,(dl E4 p2.Agents)),(17,(di (p2.Agents.length:Int))),(18,(di x2.1)),(28,(di (p1.Zones.length:Int))),(29,(di x3.1))],G [((30,u7),some<|.box 135 ((K7 p1)++ (J8 p2)++ [(di v2.Tick),(oS y2 (10060030,g2)),(oS x3.2 (85,g10)),(dl A5 p3),(.d .nilS)])),((3,u28),some<|.box 45 (W9 v6)),((5,u34),some<|.box 127 (Vx y8)),((6,u1),some<|.box 25 [(di 0),(.d .nilS),(.d .nilS)]),((10060030,g2),oB 45 7 E4 y2),((85,g10),oB 127 4 J5 x3.2)]⟩ s) ?_ ?_)))
 refine cc W hy8 (fun c8 hy8=> ?_)<|fun c8 hy8=> ?_
 refine C1<|sq W<|sq W<|sp W W<|sq W<|sl W (gq W) W (sv W<|bs hy8 fun v9 hv9 hy8=>sd W (C5 W W hv9 W)<|sd W (C7 W hv9 W W)<|Q4 W G_hit (Vx v9) W (A1 ?_))
 obtain rfl:=(lC hy8)
 exact T4 ⟨(),(D2 (X5 W)<|sg W<|sg W<|B6 G_hit (.of W)<|sg W<|B7 (gq W)<|B7 (gq W) trivial)⟩
 refine D5 W<|sq W<|sq W<|sp W W<|sd W (A6 W (gq W) W W)<|sd W (A6 W (gq W) W W)<|sv W<|sq W<|sp W W<|sq W<|sp W W<|sl W (gq W) W (bs hy8 fun v10 hv10 hy8=>B0 W W A2 (AA _ _ _ _ _ hv10) (.inl W) (sq W<|Q4 W G_hit [(di x2.1),(di x3.1),(di p2.Tick),(di v10)] W (A1 ?_)))
 cases hy8
 exact T4 ⟨(),(D2 (X5 W)<|sg W<|sg W<|B6 G_hit (.of W)<|sg W<|B7 (gq W)<|B7 (gq W) trivial)⟩
 rintro _ ⟨g11,q3⟩
 refine B5 q3<|Fj W fun u39 _=>sq W<|sq W<|sp W W<|sq W<|sp W W<|B9 (oS x3.2 (85,g10)) W (N8 W G_hit W) (sd W (A6 W (gq W) W W)<|B9 (dl J5 [y8]) W W (bs hz3 fun _ hv11 hz3=>O1 J5 (85,g10) x3.2 y8 [] _ (M0<|fun _=>W) W (gq W) hv11 (sq W<|sp W W<|sq W<|Q4 W (gq W) ((K7 p1)++ (J8 p2)++ [(di v2.Tick),(oS y2 (10060030,g2)),(.sl (85,u39)),(dl A5 p3),(.d .nilS)]) W (A1<|D4<|C1<|sv W<|sv W<|A1<|D6 ?_))))
 cases hz3
 exact ⟨W,u39,(D2 (X5 W)<|B6 G_hit (.box (cv<|cv<|cv<|cv<|cv<|cv<|cv<|cv<|cv<|cv<|.cons (.of (S5<|T0 hv11).symm) cw))<|sg W<|sg W<|B7 (gq W)<|L9 (gq W) trivial)⟩
 refine C6 W ?_
 cases hz3
 obtain rfl:=ez3 _ rfl
 refine ⟨nofun,C3 W<|T4 ?_⟩
 exact ⟨g10,(D2 (X5 W)<|B6 G_hit (.of W)<|sg W<|B7 (gq W)<|B7 (gq W) trivial)⟩
 rintro _ ⟨g9,q4⟩
 refine D4<|B5 q4<|C1<|sv W<|sv W<|A1<|D6 ?_
 cases hz2
 exact ⟨W,g9,(D2 (X5 W)<|B6 G_hit (.of W)<|sg W<|B7 (gq W)<|B7 (gq W) trivial)⟩
 refine C6 W ?_
 cases hz2
 obtain rfl:=ez2 _ rfl
 refine ⟨nofun,C3 W<|T4 ?_⟩
 exact ⟨g8,(D2 trivial<|sg W<|B6 G_hit (.of W)<|B7 (gq W)<|B7 (gq W) trivial)⟩
 rintro _ ⟨g7,q5⟩
 refine D6 ?_
 obtain rfl:=(lC hy5)
 exact Xz q5 (.inl W) g7 (X5 W) (B6 G_hit (.of W)<|sg W<|B7 (gq W)<|B7 (gq W) trivial)
 intro g6
 intro u42 hu42
 refine A1<|D4<|C1<|sv W<|sv W<|A1<|Rr<|B1<|sv W<|A1<|A4<|Tb W<|A8<|A4<|A9<|B1<|sv W<|sv W<|A1<|C1<|sv W<|sq W<|bs hy1 fun y9 hy9 hy1=>Vd (fk func91 ntmps91 (fun r=>if r==1 then [1]else if r==4 then [3]else if r==5 then [3]else []) (by with_unfolding_all rfl)) (fun (g12:({d:Nat // d∈ [72,158]}×Nat))=> [(6,(.ptr (6,u1) 0)),(10,(.ptr (30,u7) 0)),(31,(.d (.agg [(.fn (.func 90) [] []),(.fn (.func 80) [] []),(.fn (.func 91) [] [])]))),(32,(di 2))]) (fun (g12:({d:Nat // d∈ [72,158]}×Nat))=> [((6,u1),some<|.box 25 [(di 0),(.d .nilS),(.d .nilS)]),((30,u7),some<|.box 135 ((K7 p1)++ (J8 p2)++ [(di v2.Tick),(oS y2 (10060030,g2)),(oS y5 (85,g6)),(dl A5 p3),(oS y9 (g12.1.val,g12.2))])),((10060030,g2),oB 45 7 E4 y2),((85,g6),oB 127 4 J5 y5),((g12.1.val,g12.2),oB 77 6 Dr y9)]) W (nl W) ?_ ?_
 unfold Lc at hy9
 refine B5 (s0:=⟨T [(0,(.ptr (30,u7) 0))],G [((30,u7),some<|.box 135 ((K7 p1)++ (J8 p2)++ [(di v2.Tick),(oS y2 (10060030,g2)),(oS y5 (85,g6)),(dl A5 p3),(.d .nilS)])),((10060030,g2),oB 45 7 E4 y2),((85,g6),oB 127 4 J5 y5),((6,u1),some<|.box 25 [(di 0),(.d .nilS),(.d .nilS)])]⟩) (D2 ⟨.of W,trivial⟩<|sg W<|B7 (gq W)<|B7 (gq W)<|B6 G_hit (.of W) trivial) ?_
 refine lr<|fun u47 _=>sm W<|A1<|B1<|sp W (N8 W G_hit W)<|bs hy9 fun _ hy10 hy9=>Vd (fk func81 ntmps81 m0 (by with_unfolding_all rfl)) (fun (g13:{g:Nat // g≠u47})=> [(1,(.ptr (1,u47) 0)),(5,(.fn (.func 174) [] [(.ptr (1,g13.1) 0)]))]) (fun (g13:{g:Nat // g≠u47})=> [((1,u47),some<|.box 133 [(.ptr (30,u7) 0)]),((30,u7),some<|.box 135 ((K7 p1)++ (J8 p2)++ [(di v2.Tick),(oS y2 (10060030,g2)),(oS y5 (85,g6)),(dl A5 p3),(.d .nilS)])),((6,u1),some<|.box 25 [(di 0),(.d .nilS),(.d .nilS)]),((10060030,g2),oB 45 7 E4 y2),((85,g6),oB 127 4 J5 y5),((1,g13.1),some<|.box 133 [(.ptr (30,u7) 0)])]) W (nl W) ?_ ?_
 unfold AB at hy10
 refine B5 (s0:=⟨T [(0,(.ptr (30,u7) 0))],G [((30,u7),some<|.box 135 ((K7 p1)++ (J8 p2)++ [(di v2.Tick),(oS y2 (10060030,g2)),(oS y5 (85,g6)),(dl A5 p3),(.d .nilS)])),((10060030,g2),oB 45 7 E4 y2),((85,g6),oB 127 4 J5 y5),((6,u1),some<|.box 25 [(di 0),(.d .nilS),(.d .nilS)]),((1,u47),some<|.box 133 [(.ptr (30,u7) 0)])]⟩) (D2 ⟨.of W,trivial⟩<|sg W<|B7 (gq W)<|B7 (gq W)<|sg W<|B6 G_hit (.of W) trivial) ?_
 refine lr<|fun u49 hu49=>sm W<|sv W<|A1<|B1<|B9 (.fn _ _ _) W W (B9 (.fn _ _ _) W W (A1<|B2 ?_))
 cases hy10
 exact CX (.inr W) (LZ<|B3 W) ⟨u49,(Ne.symm<|Uf (k:=(1,u47)) hu49 (gq W))⟩ (X5 W) (B6 (V3 (Uf hu49<|gq W)<|gq W) (.of W) (sg W<|sg W<|B7 (gq W)<|B7 (gq W)<|B6 G_hit (.of W) trivial))
 intro g13
 intro u51 hu51
 refine A1<|bs hy9 fun y11 hy11 hy9=>D3 (fun s=> ∃g14:({d:Nat // d∈ [72,158]}×Nat),Sb ⟨T [],G [((6,u1),some<|.box 25 [(di 0),(.d .nilS),(.d .nilS)]),((30,u7),some<|.box 135 ((K7 p1)++ (J8 p2)++ [(di v2.Tick),(oS y2 (10060030,g2)),(oS y5 (85,g6)),(dl A5 p3),(oS y11 (g14.1.val,g14.2))])),((10060030,g2),oB 45 7 E4 y2),((85,g6),oB 127 4 J5 y5),((g14.1.val,g14.2),oB 77 6 Dr y11)]⟩ s) ?_ ?_
 refine A9<|bs hy11 fun v12 hv12 hy11=>B5 (s0:=⟨T [(1,(.ptr (1,u47) 0)),(5,(.fn (.func 174) [] [(.ptr (1,g13.1) 0)]))],G [((1,u47),some<|.box 133 [(.ptr (30,u7) 0)]),((30,u7),some<|.box 135 ((K7 p1)++ (J8 p2)++ [(di v2.Tick),(oS y2 (10060030,g2)),(oS y5 (85,g6)),(dl A5 p3),(.d .nilS)])),((10060030,g2),oB 45 7 E4 y2),((85,g6),oB 127 4 J5 y5),((1,g13.1),some<|.box 133 [(.ptr (30,u7) 0)]),((6,u1),some<|.box 25 [(di 0),(.d .nilS),(.d .nilS)])]⟩) (D2 (X5 W)<|B6 G_hit (.of W)<|sg W<|B7 (gq W)<|B7 (gq W)<|B6 (V3 g13.2<|gq W) (.of W) (sg W trivial)) ?_
 refine QS (.fn (.func 174) [] [(.ptr (1,g13.1) 0)]) (Vi (1,g13.1) (30,u7) p2) IR v12 (If p1 p2 p3 v2 y2 y5) (fun (x4:(List Crash))=>x4) (fun (x4:(List Crash)) (g15:({d:Nat // d∈ [72,158]}×Nat))=> [((1,u47),some<|.box 133 [(.ptr (30,u7) 0)]),((1,g13.1),some<|.box 133 [(.ptr (30,u7) 0)]),((6,u1),some<|.box 25 [(di 0),(.d .nilS),(.d .nilS)]),((30,u7),some<|.box 135 ((K7 p1)++ (J8 p2)++ [(di v2.Tick),(oS y2 (10060030,g2)),(oS y5 (85,g6)),(dl A5 p3),(oS x4 (g15.1.val,g15.2))])),((10060030,g2),oB 45 7 E4 y2),((85,g6),oB 127 4 J5 y5),((g15.1.val,g15.2),oB 77 6 Dr x4)]) [] (⟨72, .head _⟩,0) _ W (IS hv12 _ _) (fun x4 g15 _ _=>⟨C4 W<|V3 g13.2 G_hit,_,_,_,_,_,_,_,_,_,_,C4 W<|gq W⟩) (fun _=>W) hy11 (D2 trivial<|B6 G_hit (.of W)<|B6 (V3 g13.2<|gq W) (.of W) (sg W<|sg W<|B7 (gq W)<|B7 (gq W)<|O9 trivial)) nofun ?_ ?_
 intro u53 hu53 hku53
 refine ⟨fun x4 g15=>(C4 W<|C4 W<|C4 W<|C4 W<|C4 W<|C4 W<|C4 (IH g15.1.property W) W),?_⟩
 intro r1 x4 g15 a1 z4 hrr1 hz4 ez4
 unfold If at hz4
 show Bt _ _ _ _ _ _ ⟨T [(7,(di a1.2)),(6,(di a1.1)),(1,(.ptr (1,u47) 0)),(5,(.fn (.func 174) [] [(.ptr (1,g13.1) 0)]))],G [((1000000,u53),some (.obj (T [(1,(.ptr (1,u47) 0)),(5,(.fn (.func 174) [] [(.ptr (1,g13.1) 0)]))]) r1)),((1,u47),some (.box 133 [(.ptr (30,u7) 0)])),((1,g13.1),some (.box 133 [(.ptr (30,u7) 0)])),((6,u1),some (.box 25 [(di 0),(.d .nilS),(.d .nilS)])),((30,u7),some (.box 135 ((K7 p1)++ (J8 p2)++ [(di v2.Tick),(oS y2 (10060030,g2)),(oS y5 (85,g6)),(dl A5 p3),(oS x4 (g15.1.val,g15.2))]))),((10060030,g2),oB 45 7 E4 y2),((85,g6),oB 127 4 J5 y5),((g15.1.val,g15.2),oB 77 6 Dr x4)]⟩
 refine B1<|sv W<|A1<|C1<|sv W<|A1<|T4<|NS G_hit ?_
 refine A9<|B1<|sp W (N8 W (gq W) W)<|sv W<|sv W<|bs hz4 fun y12 hy12 hz4=>Vd (fk func183 ntmps183 (fun r=>if r==13 then [1014,1016]else []) (by with_unfolding_all rfl)) (fun (g16:({d:Nat // d∈ [72,158]}×Nat))=> [(1,(.ptr (1,u47) 0)),(2,(di a1.1)),(3,(di a1.2))]) (fun (g16:({d:Nat // d∈ [72,158]}×Nat))=> [((1,u47),some<|.box 133 [(.ptr (30,u7) 0)]),((6,u1),some<|.box 25 [(di 0),(.d .nilS),(.d .nilS)]),((30,u7),some<|.box 135 ((K7 p1)++ (J8 p2)++ [(di v2.Tick),(oS y2 (10060030,g2)),(oS y5 (85,g6)),(dl A5 p3),(oS y12 (g16.1.val,g16.2))])),((1,g13.1),some<|.box 133 [(.ptr (30,u7) 0)]),((1000000,u53),some<|.obj (T [(1,(.ptr (1,u47) 0)),(5,(.fn (.func 174) [] [(.ptr (1,g13.1) 0)]))]) {r1 with state:= .busy}),((10060030,g2),oB 45 7 E4 y2),((85,g6),oB 127 4 J5 y5),((g16.1.val,g16.2),oB 77 6 Dr y12)]) W (nl W) ?_ ?_
 unfold Lb at hy12
 refine B5 (s0:=⟨T [(0,(.ptr (30,u7) 0)),(1,(di a1.1)),(2,(di a1.2))],G [((30,u7),some<|.box 135 ((K7 p1)++ (J8 p2)++ [(di v2.Tick),(oS y2 (10060030,g2)),(oS y5 (85,g6)),(dl A5 p3),(oS x4 (g15.1.val,g15.2))])),((10060030,g2),oB 45 7 E4 y2),((85,g6),oB 127 4 J5 y5),((g15.1.val,g15.2),oB 77 6 Dr x4),((6,u1),some<|.box 25 [(di 0),(.d .nilS),(.d .nilS)]),((1,u47),some<|.box 133 [(.ptr (30,u7) 0)]),((1,g13.1),some<|.box 133 [(.ptr (30,u7) 0)]),((1000000,u53),some<|.obj (T [(1,(.ptr (1,u47) 0)),(5,(.fn (.func 174) [] [(.ptr (1,g13.1) 0)]))]) {r1 with state:= .busy})]⟩) (D2 (X5 W)<|sg W<|B7 (gq W)<|B7 (gq W)<|B7 (Zo g15.1.property 8 W G_hit)<|sg W<|sg W<|B6 (Vv 2 W<|V3 g13.2 G_hit) (.of W) (B6 G_hit (.of W) trivial)) ?_
 refine B1<|sq W<|sp W W<|sq W<|sp W W<|sl W G_hit W<|sd W (D0 W)<|sv W<|A1<|js hy12 fun z5 hz5 hy12=>D3 (fun s=> ∃(y13:Unit) (g17:Unit),z5= .inl y13∧Sb ⟨T [],G [((6,u1),some<|.box 25 [(di 0),(.d .nilS),(.d .nilS)]),((30,u7),some<|.box 135 ((K7 p1)++ (J8 p2)++ [(di v2.Tick),(oS y2 (10060030,g2)),(oS y5 (85,g6)),(dl A5 p3),(oS x4 (g15.1.val,g15.2))])),((1,u47),some<|.box 133 [(.ptr (30,u7) 0)]),((1,g13.1),some<|.box 133 [(.ptr (30,u7) 0)]),((1000000,u53),some<|.obj (T [(1,(.ptr (1,u47) 0)),(5,(.fn (.func 174) [] [(.ptr (1,g13.1) 0)]))]) {r1 with state:= .busy}),((10060030,g2),oB 45 7 E4 y2),((85,g6),oB 127 4 J5 y5),((g15.1.val,g15.2),oB 77 6 Dr x4)]⟩ s) ?_ ?_
 refine A9<|D7 (Ft p1 p2 p3 v2 y2 y5 x4 a1) (fun (x5:Int) (g18:Unit)=>⟨T [(0,(.ptr (30,u7) 0)),(1,(di a1.1)),(2,(di a1.2)),(22,(di (p1.Lanes.length:Int))),(23,(di x5))],G [((30,u7),some<|.box 135 ((K7 p1)++ (J8 p2)++ [(di v2.Tick),(oS y2 (10060030,g2)),(oS y5 (85,g6)),(dl A5 p3),(oS x4 (g15.1.val,g15.2))])),((6,u1),some<|.box 25 [(di 0),(.d .nilS),(.d .nilS)]),((1,u47),some<|.box 133 [(.ptr (30,u7) 0)]),((1,g13.1),some<|.box 133 [(.ptr (30,u7) 0)]),((1000000,u53),some<|.obj (T [(1,(.ptr (1,u47) 0)),(5,(.fn (.func 174) [] [(.ptr (1,g13.1) 0)]))]) {r1 with state:= .busy}),((10060030,g2),oB 45 7 E4 y2),((85,g6),oB 127 4 J5 y5),((g15.1.val,g15.2),oB 77 6 Dr x4)]⟩) 0 () _ hz5 (D2 (X5 W)<|B6 G_hit (.of W)<|B6 (Vv 3 W<|C4 (IH g15.1.property W) G_hit) (.of W) (B6 (Vv 3 W<|C4 (IH g15.1.property W)<|gq W) (.of W) (B6 (Vv 3 W<|C4 (IH g15.1.property W)<|C4 W<|V3 g13.2 G_hit) (.of W) (B6 (Vv 3 W<|C4 (IH g15.1.property W)<|gq W) (.of W) (B7 (gq W)<|B7 (gq W)<|B7 (Zo g15.1.property 3 W G_hit) trivial))))) ?_
 intro x5 g18 z6 hz6 ez6
 unfold Ft at hz6
 refine B1<|sv W<|A1<|A4<|cc W hz6 (fun c9 hz6=> ?_)<|fun c9 hz6=> ?_
 refine A8<|A4<|A9<|B1<|sv W<|sv W<|A1<|B1<|sq W<|sv W<|sv W<|bs hz6 fun v13 hv13 hz6=>B0 W (E0 (Ab G_hit<|rD<|rD<|rD<|rD<|rD<|rD<|rD<|rD<|rD<|E0 (U4<|gq W)<|E0 (U4<|gq W)<|rD<|E0 (U4<|Zo g15.1.property 7 W G_hit) F0)<|rD<|rD F0) (.cons (DLe.bp<|ca W<|ca W<|ca W<|ca W<|ca W<|ca W<|ca W<|ca W<|ca W<|.cons ⟨U3,W⟩ (.cons ⟨U3,W⟩ (ca W<|.cons ⟨U3,W⟩ .nil))) (.cons (.refl _) A2)) (Nj _ _ _ _ hv13) (.inr W) (sv W<|sv W<|sv W<|sv W<|sv W<|A1<|B1<|sq W<|sv W<|sv W<|bs hz6 fun v14 hv14 hz6=>B0 W (E0 (Ab G_hit<|rD<|rD<|rD<|rD<|rD<|rD<|rD<|rD<|rD<|E0 (U4<|gq W)<|E0 (U4<|gq W)<|rD<|E0 (U4<|Zo g15.1.property 7 W G_hit) F0)<|rD<|rD F0) (.cons (DLe.bp<|ca W<|ca W<|ca W<|ca W<|ca W<|ca W<|ca W<|ca W<|ca W<|.cons ⟨U3,W⟩ (.cons ⟨U3,W⟩ (ca W<|.cons ⟨U3,W⟩ .nil))) (.cons (.refl _) A2)) (Nj _ _ _ _ hv14) (.inr W) (sv W<|sv W<|sv W<|sv W<|sv W<|A1<|A4<|B1<|sv W<|B9 (.d (bo (!v13.2))) W W (sv W<|gf W (fun _=>W) ?_)))
 refine M5 _ (.d (bo (!v14.2))) W (H8 W) (fun w2=>(by simp only [A3 w2];rfl)) ?_
 refine sd W (L8 W W<|fun hc=>A3<|G0 hc)<|A1<|cc W hz6 (fun c10 hz6=> ?_)<|fun c10 hz6=> ?_
 refine Mx W<|C1<|sv W<|sv W<|A1<|D6 ?_
 cases hz6
 exact ⟨W,(),(D2 (X5 W)<|B6 G_hit (.of W)<|sg W<|sg W<|B6 (Vv 2 W<|V3 g13.2 G_hit) (.of W) (sg W<|B7 (gq W)<|B7 (gq W)<|B7 (Zo g15.1.property 7 W G_hit) trivial))⟩
 refine A8<|B1<|sv W<|sv W<|sv W<|sv W<|A1<|A4<|A4<|D5 W<|sq W<|sq W<|sp W W<|sq W<|sl W G_hit W<|sv W<|bs hz6 fun _ hv15 hz6=>sd W (C5 W W hv15 W)<|sv W<|sd W (D1 W hv15 W)<|sv W<|sv W<|sq W<|sp W W<|sq W<|sp W W<|sl W G_hit W<|sv W<|bs hz6 fun _ hv16 hz6=>sd W (C5 W W hv16 W)<|sv W<|sd W (D1 W hv16 W)<|sv W<|sv W<|sv W<|A1<|bs hz6 fun y14 hy14 hz6=>D3 (fun s=> ∃g19:Unit,Sb ⟨T [(0,(.ptr (30,u7) 0)),(1,(di a1.1)),(2,(di a1.2)),(6,(di x5)),(7,(di y14.1)),(9,(di y14.2.1)),(11,(di y14.2.2.1)),(12,(di y14.2.2.2)),(22,(di (p1.Lanes.length:Int))),(23,(di x5))],G [((30,u7),some<|.box 135 ((K7 p1)++ (J8 p2)++ [(di v2.Tick),(oS y2 (10060030,g2)),(oS y5 (85,g6)),(dl A5 p3),(oS x4 (g15.1.val,g15.2))])),((6,u1),some<|.box 25 [(di 0),(.d .nilS),(.d .nilS)]),((1,u47),some<|.box 133 [(.ptr (30,u7) 0)]),((1,g13.1),some<|.box 133 [(.ptr (30,u7) 0)]),((1000000,u53),some<|.obj (T [(1,(.ptr (1,u47) 0)),(5,(.fn (.func 174) [] [(.ptr (1,g13.1) 0)]))]) {r1 with state:= .busy}),((10060030,g2),oB 45 7 E4 y2),((85,g6),oB 127 4 J5 y5),((g15.1.val,g15.2),oB 77 6 Dr x4)]⟩ s) ?_ ?_
 refine cc W hy14 (fun c11 hy14=> ?_)<|fun c11 hy14=> ?_
 refine C1<|sv W<|sv W<|sv W<|sv W<|sv W<|sv W<|sv W<|sv W<|A1 ?_
 cases hy14
 exact T4 ⟨(),(D2 (X5 W)<|B6 G_hit (.of W)<|sg W<|sg W<|B6 (Vv 2 W<|V3 g13.2 G_hit) (.of W) (sg W<|B7 (gq W)<|B7 (gq W)<|B7 (Zo g15.1.property 7 W G_hit) trivial))⟩
 refine A8 ?_
 cases hy14
 exact T4 ⟨(),(D2 (X5 W)<|B6 G_hit (.of W)<|sg W<|sg W<|B6 (Vv 2 W<|V3 g13.2 G_hit) (.of W) (sg W<|B7 (gq W)<|B7 (gq W)<|B7 (Zo g15.1.property 7 W G_hit) trivial))⟩
 rintro _ ⟨g19,q6⟩
 refine B5 q6<|A4<|D5 W<|sq W<|sq W<|sp W W<|sq W<|B9 (oS y2 (10060030,g2)) W (N8 W G_hit W) (sv W<|bs hz6 fun _ hv17 hz6=>B9 (.aptr _ _ _ _) W (Xu W W (gq W) hv17) (sd W (Ug W (My (gq W)<|Fe hv17) hv17 W W)<|bs hz6 fun _ hv18 hz6=>B0 W W A2 (Hz _ _ hv18) (.inl W) (sv W<|bs hz6 fun v19 hv19 hz6=>B0 W W A2 (Gw _ _ _ hv19) (.inl W) (sq W<|sp W W<|sq W<|sp W W<|B9 (oS y2 (10060030,g2)) W (N8 W G_hit W) (sv W<|bs hz6 fun _ hv20 hz6=>B9 (.aptr _ _ _ _) W (Xu W W (gq W) hv20) (sd W (Ug W (My (gq W)<|Fe hv20) hv20 W W)<|bs hz6 fun _ hv21 hz6=>B0 W W A2 (Hz _ _ hv21) (.inl W) (sv W<|bs hz6 fun v22 hv22 hz6=>B0 W W A2 (Gw _ _ _ hv22) (.inl W) (sm W<|sn W W<|Q4 W (gq W) [(di v19.from_),(di v19.to)] W (Q4 W (gq W) [(di v22.from_),(di v22.to)] W (A1<|B1<|sq W<|sp W W<|sq W<|sp W W<|sl W (gq W) W (sv W<|bs hz6 fun _ hv23 hz6=>sd W (C5 W W hv23 W)<|sd W (C7 W hv23 W W)<|bs hz6 fun _ hv24 hz6=>B0 W W A2 (Hz _ _ hv24) (.inl W) (sv W<|bs hz6 fun v25 hv25 hz6=>B0 W W A2 (Gw _ _ _ hv25) (.inl W) (sm W<|Q4 W G_hit [(di v25.from_),(di v25.to)] W (A1<|B1<|sq W<|sp W W<|sp W W ?_))))))))))))))
 refine sd W (A6 W (gq W) W W)<|sv W<|bs hz6 fun _ hv26 hz6=>B0 W W A2 (Ls _ _ _ hv26) (.inl W) (sv W<|A1<|B1<|sq W<|sl W (gq W) W (sv W<|sv W<|gp W (I8 W) (fun _=>W) (gt W (vl W (gq W) W)<|gt W (vb W W W)<|sa W W W<|sv W<|gp W (I8 W) (fun _=>W) (gt W (vl W G_hit W)<|gt W (fun _=>W)<|gt W (fun w9=>(L4 (A3 w9) (A3 w9) W))<|sa W W W<|sv W<|gp W (I8 W) (fun _=>W) (gt W (vl W (gq W) W)<|gt W (fun _=>W)<|gt W (fun w13=>(L4 (A3 w13) (A3 w13) W))<|sa W W W<|sv W<|gp W (I8 W) (fun _=>W) (gt W (vl W (gq W) W)<|gp W (I8 W) (fun _=>W) (gt W (vl W (gq W) W)<|gt W (fun w18=>(L4 (A3 w18) (A3 w18) W))<|sa W W W<|A1<|cc W hz6 (fun c12 hz6=> ?_)<|fun c12 hz6=> ?_)))))))
 refine A4<|Fj W fun u71 _=>sq W<|sq W<|sp W W<|sq W<|B9 (oS x4 (g15.1.val,g15.2)) W (N8 W (gq W) W) (sq W<|sp W W<|sq W<|sp W W<|sl W (gq W) W (sv W<|sv W<|sv W<|sv W<|B9 (dl A5 [y14.2.2.2]) W W (sv W<|B9 (dl Dr [(Crash.mk p2.Tick a1.1 a1.2 x5 (-1) [y14.2.2.2])]) W W (bs hz6 fun _ hv27 hz6=>O1 Dr (g15.1.val,g15.2) x4 (Crash.mk p2.Tick a1.1 a1.2 x5 (-1) [y14.2.2.2]) [] _ (M0<|fun _=>W) W (C4 (KN g15.1.property W)<|C4 (KN g15.1.property W)<|C4 (KN g15.1.property W)<|C4 (KN g15.1.property W)<|C4 (KN g15.1.property W)<|C4 (KN g15.1.property W)<|C4 (KN g15.1.property W)<|C4 (KN g15.1.property W)<|C4 (KN g15.1.property W)<|C4 (KN g15.1.property W)<|C4 (KN g15.1.property W)<|C4 (KN g15.1.property W)<|C4 (KN g15.1.property W) G_hit) hv27 (sq W<|sp W W<|Ll _ _ _ _ _ W W W (C4 W<|C4 (IH g15.1.property W)<|gq W) (nl W) ((K7 p1)++ (J8 p2)++ [(di v2.Tick),(oS y2 (10060030,g2)),(oS y5 (85,g6)),(dl A5 p3),(.sl (158,u71))]) W (A1<|B2 ?_))))))
 cases hz6
 obtain rfl:=ez6 _ rfl
 refine ⟨nofun,E5 ?_⟩
 rw [bT]at hy12
 cases hy12
 exact CX (.inr W) (kD) (⟨158, .tail _ (.head _)⟩,u71) (X5 W) (B6 (Vv 2 W<|C4 (IH g15.1.property W)<|gq W) (.of W) (B6 (Vv 2 W<|C4 (IH g15.1.property W)<|gq W) (.of W) (B6 G_hit (.box (cv<|cv<|cv<|cv<|cv<|cv<|cv<|cv<|cv<|cv<|cv<|cv<|.cons (.of (S5<|T0 hv27).symm) .nil))<|B6 (Vv 2 W<|C4 (IH g15.1.property W)<|C4 W<|C4 W<|C4 W<|C4 W<|C4 W<|C4 W<|C4 W<|C4 W<|V3 g13.2 G_hit) (.of W) (B6 (Vv 2 W<|C4 (IH g15.1.property W)<|gq W) (.of W) (B7 (Vv 2 W<|C4 (IH g15.1.property W)<|gq W)<|B7 (Vv 2 W<|C4 (IH g15.1.property W)<|gq W)<|L9 (gq W) trivial)))))
 refine A8<|D4<|C1<|sv W<|sv W<|A1<|D6 ?_
 cases hz6
 exact ⟨W,(),(D2 (X5 W)<|sg W<|sg W<|sg W<|B6 (Vv 8 W<|V3 g13.2 G_hit) (.of W) (sg W<|B7 (gq W)<|B7 (gq W)<|B7 (Zo g15.1.property 13 W G_hit) trivial))⟩
 refine C6 W ?_
 cases hz6
 obtain rfl:=ez6 _ rfl
 refine ⟨nofun,C3 W<|T4 ?_⟩
 exact ⟨_,(),W,(D2 trivial<|sg W<|B6 G_hit (.of W)<|sg W<|B6 (Vv 2 W<|V3 g13.2 G_hit) (.of W) (sg W<|B7 (gq W)<|B7 (gq W)<|B7 (Zo g15.1.property 7 W G_hit) trivial))⟩
 rintro _ ⟨y13,g17,rfl,q7⟩
 rw [bS]at hy12
 refine D6 ?_
 obtain rfl:=(lC hy12)
 exact Xz q7 (.inl W) (g15.1,g15.2) (X5 W) (sg W<|B6 G_hit (.of W)<|sg W<|B6 (Vv 2 W<|V3 g13.2 G_hit) (.of W) (sg W<|B7 (gq W)<|B7 (gq W)<|B7 (Zo g15.1.property 7 W G_hit) trivial))
 intro g16
 intro u73 hu73
 refine A1<|C1<|sp W (N8 W G_hit W)<|sv W<|sv W<|bs hz4 fun y15 hy15 hz4=>Vd (fk func184 ntmps184 (fun r=>if r==5 then [1002]else if r==6 then [1010]else if r==8 then [1001]else if r==10 then [1001]else if r==11 then [1015]else []) (by with_unfolding_all rfl)) (fun (g20:({d:Nat // d∈ [72,158]}×Nat))=> []) (fun (g20:({d:Nat // d∈ [72,158]}×Nat))=> [((6,u1),some<|.box 25 [(di 0),(.d .nilS),(.d .nilS)]),((30,u7),some<|.box 135 ((K7 p1)++ (J8 p2)++ [(di v2.Tick),(oS y2 (10060030,g2)),(oS y5 (85,g6)),(dl A5 p3),(oS y15 (g20.1.val,g20.2))])),((1,u47),some<|.box 133 [(.ptr (30,u7) 0)]),((1,g13.1),some<|.box 133 [(.ptr (30,u7) 0)]),((1000000,u53),some<|.obj (T [(1,(.ptr (1,u47) 0)),(5,(.fn (.func 174) [] [(.ptr (1,g13.1) 0)]))]) {r1 with state:= .busy}),((10060030,g2),oB 45 7 E4 y2),((85,g6),oB 127 4 J5 y5),((g20.1.val,g20.2),oB 77 6 Dr y15)]) W (nl W) ?_ ?_
 unfold Jg at hy15
 refine B5 (s0:=⟨T [(0,(.ptr (30,u7) 0)),(1,(di a1.1)),(2,(di a1.2))],G [((30,u7),some<|.box 135 ((K7 p1)++ (J8 p2)++ [(di v2.Tick),(oS y2 (10060030,g2)),(oS y5 (85,g6)),(dl A5 p3),(oS y12 (g16.1.val,g16.2))])),((10060030,g2),oB 45 7 E4 y2),((85,g6),oB 127 4 J5 y5),((g16.1.val,g16.2),oB 77 6 Dr y12),((6,u1),some<|.box 25 [(di 0),(.d .nilS),(.d .nilS)]),((1,u47),some<|.box 133 [(.ptr (30,u7) 0)]),((1,g13.1),some<|.box 133 [(.ptr (30,u7) 0)]),((1000000,u53),some<|.obj (T [(1,(.ptr (1,u47) 0)),(5,(.fn (.func 174) [] [(.ptr (1,g13.1) 0)]))]) {r1 with state:= .busy})]⟩) (D2 (X5 W)<|sg W<|B7 (gq W)<|B7 (gq W)<|B7 (Zo g16.1.property 7 W G_hit)<|sg W<|B6 G_hit (.of W)<|B6 (V3 g13.2<|gq W) (.of W) (sg W trivial)) ?_
 refine B1<|sq W<|sp W W<|sq W<|sp W W<|sl W G_hit W<|sd W (D0 W)<|sv W<|A1<|bs hy15 fun y16 hy16 hy15=>D3 (fun s=> ∃g21:({d:Nat // d∈ [72,158]}×Nat),Sb ⟨T [],G [((6,u1),some<|.box 25 [(di 0),(.d .nilS),(.d .nilS)]),((30,u7),some<|.box 135 ((K7 p1)++ (J8 p2)++ [(di v2.Tick),(oS y2 (10060030,g2)),(oS y5 (85,g6)),(dl A5 p3),(oS y16 (g21.1.val,g21.2))])),((1,u47),some<|.box 133 [(.ptr (30,u7) 0)]),((1,g13.1),some<|.box 133 [(.ptr (30,u7) 0)]),((1000000,u53),some<|.obj (T [(1,(.ptr (1,u47) 0)),(5,(.fn (.func 174) [] [(.ptr (1,g13.1) 0)]))]) {r1 with state:= .busy}),((10060030,g2),oB 45 7 E4 y2),((85,g6),oB 127 4 J5 y5),((g21.1.val,g21.2),oB 77 6 Dr y16)]⟩ s) ?_ ?_
 refine A9<|D7 (Fs p1 p2 p3 v2 y2 y5 a1) (fun (x6:(Int× (List Crash))) (g22:({d:Nat // d∈ [72,158]}×Nat))=>⟨T [(0,(.ptr (30,u7) 0)),(1,(di a1.1)),(2,(di a1.2)),(15,(di (p1.Zones.length:Int))),(16,(di x6.1))],G [((30,u7),some<|.box 135 ((K7 p1)++ (J8 p2)++ [(di v2.Tick),(oS y2 (10060030,g2)),(oS y5 (85,g6)),(dl A5 p3),(oS x6.2 (g22.1.val,g22.2))])),((6,u1),some<|.box 25 [(di 0),(.d .nilS),(.d .nilS)]),((1,u47),some<|.box 133 [(.ptr (30,u7) 0)]),((1,g13.1),some<|.box 133 [(.ptr (30,u7) 0)]),((1000000,u53),some<|.obj (T [(1,(.ptr (1,u47) 0)),(5,(.fn (.func 174) [] [(.ptr (1,g13.1) 0)]))]) {r1 with state:= .busy}),((10060030,g2),oB 45 7 E4 y2),((85,g6),oB 127 4 J5 y5),((g22.1.val,g22.2),oB 77 6 Dr x6.2)]⟩) (0,y12) (g16.1,g16.2) _ hy16 (D2 (X5 W)<|B6 G_hit (.of W)<|B6 (Vv 3 W<|C4 (IH g16.1.property W) G_hit) (.of W) (B6 (Vv 3 W<|C4 (IH g16.1.property W)<|gq W) (.of W) (B6 (Vv 3 W<|C4 (IH g16.1.property W)<|C4 W<|V3 g13.2 G_hit) (.of W) (B6 (Vv 3 W<|C4 (IH g16.1.property W)<|gq W) (.of W) (B7 (gq W)<|B7 (gq W)<|B7 (Zo g16.1.property 3 W G_hit) trivial))))) ?_
 intro x6 g22 z7 hz7 ez7
 unfold Fs at hz7
 refine B1<|sv W<|A1<|A4<|cc W hz7 (fun c13 hz7=> ?_)<|fun c13 hz7=> ?_
 refine A8<|A4<|A9<|B1<|sv W<|sv W<|A1<|A4<|B1<|sq W<|sv W<|sv W<|sv W<|bs hz7 fun v28 hv28 hz7=>B0 W (E0 (Ab G_hit<|rD<|rD<|rD<|rD<|rD<|rD<|rD<|rD<|rD<|E0 (U4<|gq W)<|E0 (U4<|gq W)<|rD<|E0 (U4<|Zo g22.1.property 7 W G_hit) F0)<|rD<|rD<|rD F0) (.cons (DLe.bp<|ca W<|ca W<|ca W<|ca W<|ca W<|ca W<|ca W<|ca W<|ca W<|.cons ⟨U3,W⟩ (.cons ⟨U3,W⟩ (ca W<|.cons ⟨U3,W⟩ .nil))) (.cons (.refl _) (.cons (.refl _) A2))) (Ng _ _ _ _ _ hv28) (.inr W) (B9 (.d (bo (!v28))) W W (A1<|cc W hz7 (fun c14 hz7=> ?_)<|fun c14 hz7=> ?_))
 refine Mx W<|C1<|sv W<|sv W<|A1<|D6 ?_
 cases hz7
 exact ⟨W,(g22.1,g22.2),(D2 (X5 W)<|B6 G_hit (.of W)<|sg W<|sg W<|B6 (Vv 2 W<|V3 g13.2 G_hit) (.of W) (sg W<|B7 (gq W)<|B7 (gq W)<|B7 (Zo g22.1.property 7 W G_hit) trivial))⟩
 refine A8<|B1<|sq W<|sv W<|sv W<|bs hz7 fun v29 hv29 hz7=>B0 W (E0 (Ab G_hit<|rD<|rD<|rD<|rD<|rD<|rD<|rD<|rD<|rD<|E0 (U4<|gq W)<|E0 (U4<|gq W)<|rD<|E0 (U4<|Zo g22.1.property 7 W G_hit) F0)<|rD<|rD F0) (.cons (DLe.bp<|ca W<|ca W<|ca W<|ca W<|ca W<|ca W<|ca W<|ca W<|ca W<|.cons ⟨U3,W⟩ (.cons ⟨U3,W⟩ (ca W<|.cons ⟨U3,W⟩ .nil))) (.cons (.refl _) A2)) (Nz _ _ _ _ hv29) (.inr W) (sq W<|sv W<|sv W<|bs hz7 fun v30 hv30 hz7=>B0 W (E0 (Ab G_hit<|rD<|rD<|rD<|rD<|rD<|rD<|rD<|rD<|rD<|E0 (U4<|gq W)<|E0 (U4<|gq W)<|rD<|E0 (U4<|Zo g22.1.property 7 W G_hit) F0)<|rD<|rD F0) (.cons (DLe.bp<|ca W<|ca W<|ca W<|ca W<|ca W<|ca W<|ca W<|ca W<|ca W<|.cons ⟨U3,W⟩ (.cons ⟨U3,W⟩ (ca W<|.cons ⟨U3,W⟩ .nil))) (.cons (.refl _) A2)) (Nz _ _ _ _ hv30) (.inr W) (sm W<|sn W W<|Q4 W (gq W) (Vx v29) W (Q4 W (gq W) (Vx v30) W (A1<|B1<|sv W<|sv W<|B9 (dl A5 [a1.1,a1.2]) W W (B9 (dl A5 [a1.1,a1.2]) W W (A1<|A4<|A4<|D5 W<|sq W<|sl W (gq W) W (sq W<|sl W G_hit W<|bs hz7 fun v31 hv31 hz7=>B0 W W A2 (Gu _ _ _ hv31) (.inl W) (sq W<|sl W G_hit W<|sq W<|sl W (gq W) W (bs hz7 fun v32 hv32 hz7=>B0 W W A2 (Pn _ _ _ hv32) (.inl W) (B9 (dl A5 [v31,v32]) W W (bs hz7 fun _ hv33 hz7=>B0 W W A2 (Tp _ _ hv33) (.inl W) (A1<|bs hz7 fun y17 hy17 hz7=>D3 (fun s=> ∃g23:Unit,Sb ⟨T [(0,(.ptr (30,u7) 0)),(1,(di a1.1)),(2,(di a1.2)),(6,(di x6.1)),(9,(dl A5 y17)),(15,(di (p1.Zones.length:Int))),(16,(di x6.1))],G [((30,u7),some<|.box 135 ((K7 p1)++ (J8 p2)++ [(di v2.Tick),(oS y2 (10060030,g2)),(oS y5 (85,g6)),(dl A5 p3),(oS x6.2 (g22.1.val,g22.2))])),((6,u1),some<|.box 25 [(di 0),(.d .nilS),(.d .nilS)]),((1,u47),some<|.box 133 [(.ptr (30,u7) 0)]),((1,g13.1),some<|.box 133 [(.ptr (30,u7) 0)]),((1000000,u53),some<|.obj (T [(1,(.ptr (1,u47) 0)),(5,(.fn (.func 174) [] [(.ptr (1,g13.1) 0)]))]) {r1 with state:= .busy}),((10060030,g2),oB 45 7 E4 y2),((85,g6),oB 127 4 J5 y5),((g22.1.val,g22.2),oB 77 6 Dr x6.2)]⟩ s) ?_ ?_))))))))))))
 refine A9<|B1<|sv W<|sv W<|A1<|cc W hy17 (fun c15 hy17=> ?_)<|fun c15 hy17=> ?_
 refine C1<|sv W<|B9 (dl A5 [a1.1]) W W (B9 (dl A5 [a1.1]) W W (A1<|D4 ?_))
 cases hy17
 exact T4 ⟨(),(D2 (X5 W)<|sg W<|sg W<|sg W<|B6 (Vv 6 W<|V3 g13.2 G_hit) (.of W) (sg W<|B7 (gq W)<|B7 (gq W)<|B7 (Zo g22.1.property 11 W G_hit) trivial))⟩
 refine B1<|sv W<|sv W<|A1<|cc W hy17 (fun c16 hy17=> ?_)<|fun c16 hy17=> ?_
 refine C1<|sv W<|B9 (dl A5 [a1.2]) W W (B9 (dl A5 [a1.2]) W W (A1<|D4 ?_))
 cases hy17
 exact T4 ⟨(),(D2 (X5 W)<|sg W<|sg W<|sg W<|B6 (Vv 6 W<|V3 g13.2 G_hit) (.of W) (sg W<|B7 (gq W)<|B7 (gq W)<|B7 (Zo g22.1.property 11 W G_hit) trivial))⟩
 refine A8<|D4 ?_
 cases hy17
 exact T4 ⟨(),(D2 (X5 W)<|sg W<|sg W<|sg W<|B6 (Vv 6 W<|V3 g13.2 G_hit) (.of W) (sg W<|B7 (gq W)<|B7 (gq W)<|B7 (Zo g22.1.property 11 W G_hit) trivial))⟩
 rintro _ ⟨g23,q8⟩
 refine B5 q8<|Fj W fun u87 _=>sq W<|sq W<|sp W W<|sq W<|B9 (oS x6.2 (g22.1.val,g22.2)) W (N8 W G_hit W) (sq W<|sp W W<|sq W<|sp W W<|sl W G_hit W<|sv W<|sv W<|sv W<|sv W<|sv W<|B9 (dl Dr [(Crash.mk p2.Tick a1.1 a1.2 (-1) x6.1 y17)]) W W (bs hz7 fun _ hv34 hz7=>O1 Dr (g22.1.val,g22.2) x6.2 (Crash.mk p2.Tick a1.1 a1.2 (-1) x6.1 y17) [] _ (M0<|fun _=>W) W (C4 (KN g22.1.property W)<|C4 (KN g22.1.property W)<|C4 (KN g22.1.property W)<|C4 (KN g22.1.property W)<|C4 (KN g22.1.property W)<|C4 (KN g22.1.property W)<|C4 (KN g22.1.property W) G_hit) hv34 (sq W<|sp W W<|Ll _ _ _ _ _ W W W (C4 W<|C4 (IH g22.1.property W) G_hit) (nl W) ((K7 p1)++ (J8 p2)++ [(di v2.Tick),(oS y2 (10060030,g2)),(oS y5 (85,g6)),(dl A5 p3),(.sl (72,u87))]) W (A1<|D4<|C1<|sv W<|sv W<|A1<|D6 ?_))))
 cases hz7
 exact ⟨W,(⟨72, .head _⟩,u87),(D2 (X5 W)<|B6 G_hit (.box (cv<|cv<|cv<|cv<|cv<|cv<|cv<|cv<|cv<|cv<|cv<|cv<|.cons (.of (S5<|T0 hv34).symm) .nil))<|B6 (Vv 2 W<|C4 (IH g22.1.property W)<|gq W) (.of W) (B6 (Vv 2 W<|C4 (IH g22.1.property W)<|gq W) (.of W) (B6 (Vv 2 W<|C4 (IH g22.1.property W)<|C4 W<|C4 W<|V3 g13.2 G_hit) (.of W) (B6 (Vv 2 W<|C4 (IH g22.1.property W)<|gq W) (.of W) (B7 (Vv 2 W<|C4 (IH g22.1.property W)<|gq W)<|B7 (Vv 2 W<|C4 (IH g22.1.property W)<|gq W)<|L9 (gq W) trivial)))))⟩
 refine C6 W ?_
 cases hz7
 obtain rfl:=ez7 _ rfl
 refine ⟨nofun,C3 W<|T4 ?_⟩
 exact ⟨(g22.1,g22.2),(D2 trivial<|sg W<|B6 G_hit (.of W)<|sg W<|B6 (Vv 2 W<|V3 g13.2 G_hit) (.of W) (sg W<|B7 (gq W)<|B7 (gq W)<|B7 (Zo g22.1.property 7 W G_hit) trivial))⟩
 rintro _ ⟨g21,q9⟩
 refine D6 ?_
 obtain rfl:=(lC hy15)
 exact Xz q9 (.inl W) (g21.1,g21.2) trivial (B6 G_hit (.of W)<|sg W<|sg W<|B6 (Vv 2 W<|V3 g13.2 G_hit) (.of W) (sg W<|B7 (gq W)<|B7 (gq W)<|B7 (Zo g21.1.property 7 W G_hit) trivial))
 intro g20
 intro u89 hu89
 refine A1<|D4<|D6 ?_
 cases hz4
 exact NT (gq W) (g20.1,g20.2) (sg W<|B6 (Vv 2 W<|V3 g13.2 G_hit) (.of W) (B6 G_hit (.of W)<|sg W<|B7 (gq W)<|B7 (gq W)<|B7 (Zo g20.1.property 7 W G_hit) trivial))
 rintro x4 g15 _ rfl qx4
 refine D4<|T4 ?_
 exact ⟨(g15.1,g15.2),(Sb.after qx4<|D2 trivial<|sg W<|sg W<|B7 (gq W)<|B7 (gq W)<|B7 (Zo g15.1.property 6 W G_hit) trivial)⟩
 rintro _ ⟨g14,q10⟩
 refine D6 ?_
 obtain rfl:=(lC hy9)
 exact Xz q10 (.inl W) (g14.1,g14.2) (X5 W) (B6 G_hit (.of W)<|sg W<|B7 (gq W)<|B7 (gq W)<|B7 (Zo g14.1.property 4 W G_hit) trivial)
 intro g12
 intro u90 hu90
 refine A1<|D4<|C1<|sv W<|sv W<|A1<|Rr<|B1<|sv W<|A1<|A4<|Qt W<|Mx W ?_
 cases hy1
 exact T4 ⟨(g2,g6,(g12.1,g12.2)),(D2 (X5 W)<|B6 G_hit (.of W)<|sg W<|B7 (gq W)<|B7 (gq W)<|B7 (Zo g12.1.property 4 W G_hit) trivial)⟩
 rintro _ ⟨g1,q11⟩
 refine B5 q11<|B1<|sq W<|sp W W<|sq W<|sp W W<|sl W (gq W) W (sv W<|sq W<|sp W W<|sq W<|Q4 W (gq W) ((K7 p1)++ (J8 p2)++ [(di<|C9 (v2.Tick+1)),(oS y1.1 (10060030,g1.1)),(oS y1.2.1 (85,g1.2.1)),(dl A5 p3),(oS y1.2.2 (g1.2.2.1.val,g1.2.2.2))]) W (A1<|A4<|Qv fun _ _=>Q0 (.ptr _ _) W W (Q0 (.ptr _ _) W W (Q0 (.ptr _ _) W W (Q0 (Y6 [(di<|C9 (v2.Tick+1)),(oS y1.1 (10060030,g1.1)),(oS y1.2.1 (85,g1.2.1))]) W (A6 W G_hit W W) (Q0 (.ptr _ _) W W (Q0 (.ptr _ _) W W (Q0 (.ptr _ _) W W (Q0 (oS y1.2.2 (g1.2.2.1.val,g1.2.2.2)) W (N8 W G_hit W) (Tc _ _ _ _ _ (X4 _) W W (gq W) (nl W) [(di<|C9 (v2.Tick+1)),(oS y1.1 (10060030,g1.1)),(oS y1.2.1 (85,g1.2.1))] W (Q0 (oS y1.2.2 (g1.2.2.1.val,g1.2.2.2)) W W (Q0 (.d _) W W (CQ ⟨by first|rfl|((generalize g1.2.2.1=q0;rcases q0 with ⟨d0,_|⟨_,_|⟨_,h0⟩⟩⟩)<;>(generalize y1.2.2=z4;cases z4)<;>first|rfl|contradiction),?_⟩)))))))))))))
 refine B2 ?_
 cases h
 exact A7 (.inr W) (Ta (G5 W G_hit (nl W) W) (B3 W) (B3 W) (Mz<|rD<|E0 (U4<|gq W)<|E0 (U4<|gq W) F0) (U4<|Zo g1.2.2.1.property 6 W G_hit) B8) (.tup (.cons (.agg (ca W<|.cons ⟨U3,W⟩ (.cons ⟨U3,W⟩ .nil))) (.cons U3 A2)))
def Gl [Lp]:Option Bool:=
  (Rc).bind fun v1=>(Te 0 10000 1000).bind fun v2=>(Te 1 46000 1000).bind fun v3=>(Re v1 [v2,v3]).bind fun v4=>cond (((v4.2 !=0)||((v4.1.In.length:Int) !=0))||((v4.1.Agents.length:Int) !=2)) (some false) ((Oh v1 v4.1 [50,(-90)]).bind fun v5=>((cond (((v5.2.2==0)&& ((v5.2.1.length:Int)==0))&& ((v5.1.Agents.length:Int)==2)) (C8 v5.1.Agents 0) (some default))).bind fun v6=>((cond ((((v5.2.2==0)&& ((v5.2.1.length:Int)==0))&& ((v5.1.Agents.length:Int)==2))&& (v6.S==11030)) (C8 v5.1.Agents 1) (some default))).bind fun v7=>((cond (((((v5.2.2==0)&& ((v5.2.1.length:Int)==0))&& ((v5.1.Agents.length:Int)==2))&& (v6.S==11030))&& (v7.V==910)) (Se 100 30) (some default))).bind fun v8=>some ((((((v5.2.2==0)&& ((v5.2.1.length:Int)==0))&& ((v5.1.Agents.length:Int)==2))&& (v6.S==11030))&& (v7.V==910))&& (v8==120)))
theorem Yk(r)(h:Gl=some r):PCall prog 21 [] (bo r):=by
 refine C0 (fk func21 ntmps21 (fun r=>if r==2 then [1003]else if r==5 then [1002]else []) (by with_unfolding_all rfl)) (nl W) ?_
 unfold Gl at h
 refine B5 (s0:=⟨T [],G []⟩) (E3 W W) ?_
 refine B1<|sv W<|A1<|B1<|bs h fun v1 hv1 h=>B0 W W A2 (OE _ hv1) (.inl W) (sm W<|Q4 W G_hit (K7 v1) W (A1<|A4<|D5 W<|sd W (A6 W G_hit W W)<|bs h fun v2 hv2 h=>B0 W W A2 (Yc _ _ _ _ hv2) (.inl W) (bs h fun v3 hv3 h=>B0 W W A2 (Yc _ _ _ _ hv3) (.inl W) (B9 (dl E4 [v2,v3]) W (EL E4 ([v2,v3]:List Agent) (fun _=>W) W W ⟨W,W,W,W,W,W,trivial⟩ (fun _=>W)) (bs h fun v4 hv4 h=>B0 W W A2 (OG _ _ _ hv4) (.inl W) (sv W<|sv W<|sv W<|sm W<|Q4 W G_hit (J8 v4.1) W (sv W<|A1<|A4<|B1<|sv W<|sv W<|sv W<|gp W (H8 W) (fun _=>W) (gf W (vl W G_hit W)<|gf W (fun w3=>(D0<|A3 w3))<|gf W (vb W W W)<|sd W (L8 W W<|fun hc=>A3<|G0 hc)<|sv W<|gp W (H8 W) (fun _=>W) (gf W (vl W G_hit W)<|gf W (fun w7=>(D0<|A3 w7))<|gf W (vb W W W)<|sd W (L8 W W<|fun hc=>A3<|G0 hc)<|A1<|cc W h (fun c1 h=> ?_)<|fun c1 h=> ?_)))))))))
 refine B1<|sv W<|A1<|B2 ?_
 cases h
 exact A7 (.inr W) (B4 (B3 W) B8) (.refl _)
 refine A8<|B1<|sd W (A6 W (gq W) W W)<|sd W (A6 W G_hit W W)<|B9 (dl A5 [50,(-90)]) W W (bs h fun v5 hv5 h=>B0 W W A2 (KR _ _ _ _ hv5) (.inl W) (sv W<|sv W<|sv W<|sv W<|sm W<|Q4 W G_hit (J8 v5.1) W (sv W<|sv W<|A1<|B1<|sv W<|sv W<|sv W<|gt W (fun _=>W)<|gt W (fun w10=>(D0<|A3 w10))<|gt W (vb W W W)<|sa W W W<|sv W<|gp W (I8 W) (fun _=>W) (gt W (vl W G_hit W)<|gt W (fun w14=>(D0<|A3 w14))<|gt W (vb W W W)<|sa W W W<|sv W<|gp W (I8 W) (fun _=>W) (gt W (vl W G_hit W)<|bs h fun _ hv6 h=>gt W (fun w18=>(C5 (A3 w18) W (C2 w18 hv6) W)) ?_)))))
 refine gt W (fun w19=>(by simp only [A3 w19];rfl)) ?_
 refine gt W (fun w20=>(D1 (A3 w20) (C2 w20 hv6) W))<|gt W (vb W W W)<|sa W W W<|sv W<|gp W (I8 W) (fun _=>W) (gt W (vl W G_hit W)<|bs h fun _ hv7 h=>gt W (fun w24=>(C5 (A3 w24) W (C2 w24 hv7) W)) ?_)
 refine gt W (fun w25=>(by simp only [A3 w25];rfl)) ?_
 refine gt W (fun w26=>(D1 (A3 w26) (C2 w26 hv7) W))<|gt W (vb W W W)<|sa W W W<|sv W<|bs h fun v8 hv8 h=>I9 _ (i64 v8) (I8 W) (fun w28=>⟨_,_,_,_,W,W,A2,Ts _ _ _<|C2 w28 hv8,(.inl W)⟩) (gt W (vb W W W)<|sa W W W<|sv W<|A1<|B2 ?_)
 cases h
 exact A7 (.inr W) (B4 (B3 W) B8) (.refl _)
def DG (p1:Int)(p2:Int):Option Int:=
  (Xr p1 p2).bind fun v1=>cond (decide (v1<0)) (some (C9 (v1+p2))) (some v1)
theorem TY(p1 p2 r)(h:DG p1 p2=some r):PCall prog 37 [(i64 p1),(i64 p2)] (i64 r):=by
 refine C0 (fk func37 ntmps37 m0 (by with_unfolding_all rfl)) (nl W) ?_
 unfold DG at h
 refine B5 (s0:=⟨T [(0,(.d _)),(1,(.d _))],G []⟩) (E3 W W) ?_
 refine B1<|sv W<|A1<|B1<|sv W<|sv W<|bs h fun _ hv1 h=>sd W (CP W W hv1)<|sv W<|A1<|A4<|B1<|sv W<|sv W<|A1<|cc W h (fun c1 h=> ?_)<|fun c1 h=> ?_
 refine C1<|sv W<|sv W<|sv W<|sv W<|A1<|B1<|sv W<|sv W<|A1<|B2 ?_
 cases h
 exact A7 (.inr W) (B4 (B3 W) B8) (.refl _)
 refine A8<|B1<|sv W<|sv W<|A1<|B2 ?_
 cases h
 exact A7 (.inr W) (B4 (B3 W) B8) (.refl _)
def Sg (p1:Int)(p2:Int)(p3:Int):Option Signal:=
  some (Signal.mk p1 [(Phase.mk 12 [p2]),(Phase.mk 5 []),(Phase.mk 9 [p3]),(Phase.mk 4 [])])
theorem Tu(p1 p2 p3 r)(h:Sg p1 p2 p3=some r):PCall prog 70 [(i64 p1),(i64 p2),(i64 p3)] (.agg [(i64 r.Offset),(.list (List.map Dq r.Phases))]):=by
 refine C0 (fk func70 ntmps70 (fun r=>if r==1 then [1002,1006,1009]else []) (by with_unfolding_all rfl)) (nl W) ?_
 unfold Sg at h
 refine B5 (s0:=⟨T [(0,(.d _)),(1,(.d _)),(2,(.d _))],G []⟩) (E3 W W) ?_
 refine B1<|sm W<|A1<|B1<|sv W<|sv W<|B9 (dl A5 [p2]) W W (sv W<|sv W<|sv W<|B9 (dl A5 [p3]) W W (sv W<|sv W<|B9 (dl Dq [(Phase.mk 12 [p2]),(Phase.mk 5 []),(Phase.mk 9 [p3]),(Phase.mk 4 [])]) W W (sv W<|Q4 W G_hit [(di p1),(dl Dq [(Phase.mk 12 [p2]),(Phase.mk 5 []),(Phase.mk 9 [p3]),(Phase.mk 4 [])])] W (A1<|B2 ?_))))
 cases h
 exact A7 (.inr W) (B4 (G5 W G_hit (nl W) W) B8) (.refl _)
def Zj [Lp](p1:Int):Option Map:=
  (DG p1 16777216).bind fun v1=>(C8 [1500,600,1000,300] ((C9 (v1.tdiv 7)).tmod 4)).bind fun v2=>(cond ((v1.tmod 7)==0) ((T3 1 v2 [] [0,0,60000,0]).bind fun v3=>some ([v3],[],[])) ((cond ((v1.tmod 7)==1) (some ((v1.tmod 7)==1)) (some ((v1.tmod 7)==2))).bind fun y2=>cond y2 ((T3 1 v2 [] [0,0,50000,0]).bind fun v4=>(T3 1 1500 [] [30000,(-20000),30000,20000]).bind fun v5=>cond ((v1.tmod 7)==2) ((C8 [(Zone.mk [(Part.mk 0 28000 32000 ((C9 (v1.tdiv 28)).tmod 2)),(Part.mk 1 18000 22000 (C9 (2 - (C9 (2* ((C9 (v1.tdiv 28)).tmod 2))))))] 0)] 0).bind fun v6=>(Sg ((C9 (v1.tdiv 28)).tmod 31) 0 1).bind fun v7=>some ([v4,v5],(Qu [(Zone.mk [(Part.mk 0 28000 32000 ((C9 (v1.tdiv 28)).tmod 2)),(Part.mk 1 18000 22000 (C9 (2 - (C9 (2* ((C9 (v1.tdiv 28)).tmod 2))))))] 0)] 0 (Zone.mk v6.Parts 1)),[v7])) (some ([v4,v5],[(Zone.mk [(Part.mk 0 28000 32000 ((C9 (v1.tdiv 28)).tmod 2)),(Part.mk 1 18000 22000 (C9 (2 - (C9 (2* ((C9 (v1.tdiv 28)).tmod 2))))))] 0)],[]))) (cond ((v1.tmod 7)==3) ((T3 1 v2 [1,2] [0,0,30000,0]).bind fun v8=>(T3 1 1500 [] [30000,0,60000,0]).bind fun v9=>(T3 1 800 [] [30000,0,54000,10000]).bind fun v10=>some ([v8,v9,v10],[],[])) (cond ((v1.tmod 7)==4) ((T3 1 v2 [2] [0,0,30000,0]).bind fun v11=>(T3 1 1500 [2] [6000,(-10000),30000,0]).bind fun v12=>(T3 1 1500 [] [30000,0,60000,0]).bind fun v13=>some ([v11,v12,v13],[(Zone.mk [(Part.mk 0 25000 30000 1),(Part.mk 1 20000 26000 0),(Part.mk 2 0 5000 0)] 0)],[])) (cond ((v1.tmod 7)==5) ((T3 1 v2 [1] [0,0,20000,0]).bind fun v14=>(T3 1 v2 [] [20000,0,50000,0]).bind fun v15=>(T3 3 200 [] [35000,(-8000),35000,8000]).bind fun v16=>some ([v14,v15,v16],[(Zone.mk [(Part.mk 1 14000 16000 0),(Part.mk 2 6000 10000 3)] 0)],[])) (cond ((v1.tmod 7)==6) ((T3 1 v2 [1,2] [0,0,20000,0]).bind fun v17=>(T3 1 1500 [] [20000,0,50000,0]).bind fun v18=>(T3 1 1000 [] [20000,0,44000,10000]).bind fun v19=>(T3 2 700 [] [36000,(-12000),36000,18000]).bind fun v20=>cond (((C9 (v1.tdiv 28)).tmod 2)==1) ((C8 [(Zone.mk [(Part.mk 1 14000 18000 1),(Part.mk 3 10000 14000 0)] 0),(Zone.mk [(Part.mk 2 14000 21000 1),(Part.mk 3 14500 23000 0)] 0)] 0).bind fun v21=>(C8 (Qu [(Zone.mk [(Part.mk 1 14000 18000 1),(Part.mk 3 10000 14000 0)] 0),(Zone.mk [(Part.mk 2 14000 21000 1),(Part.mk 3 14500 23000 0)] 0)] 0 (Zone.mk v21.Parts 1)) 1).bind fun v22=>(Sg ((C9 (v1.tdiv 56)).tmod 31) 1 3).bind fun v23=>(Sg ((C9 (v1.tdiv 56)).tmod 17) 2 3).bind fun v24=>some ([v17,v18,v19,v20],(Qu (Qu [(Zone.mk [(Part.mk 1 14000 18000 1),(Part.mk 3 10000 14000 0)] 0),(Zone.mk [(Part.mk 2 14000 21000 1),(Part.mk 3 14500 23000 0)] 0)] 0 (Zone.mk v21.Parts 1)) 1 (Zone.mk v22.Parts 2)),[v23,v24])) (some ([v17,v18,v19,v20],[(Zone.mk [(Part.mk 1 14000 18000 1),(Part.mk 3 10000 14000 0)] 0),(Zone.mk [(Part.mk 2 14000 21000 1),(Part.mk 3 14500 23000 0)] 0)],[]))) (some ([],[],[])))))))).bind fun y1=>cond (((C9 (v1.tdiv 1736)).tmod 3)==1) (some (Map.mk ((C9 (v1.tdiv 28)).tmod 5) y1.1 y1.2.1 y1.2.2 [(Work.mk 0 10000 15000 ((C9 (v1.tdiv 5208)).tmod 40) (C9 (((C9 (v1.tdiv 5208)).tmod 40)+20)) (C9 (((C9 (v1.tdiv 208320)).tmod 3)*200)))])) (some (Map.mk ((C9 (v1.tdiv 28)).tmod 5) y1.1 y1.2.1 y1.2.2 []))
theorem TZ(p1 r)(h:Zj p1=some r):PCall prog 22 [(i64 p1)] (.agg (O8 r)):=by
 refine C0 (fk func22 ntmps22 (fun r=>if r==2 then [1000]else if r==6 then [1001]else if r==9 then [1001,1003]else if r==10 then [1010]else if r==15 then [1001,1002,1004,1006]else if r==17 then [1001,1002,1004,1005,1007]else if r==18 then [1003]else if r==20 then [1001,1002,1005,1007]else if r==21 then [1002]else if r==23 then [1001,1002,1004,1006,1008]else if r==24 then [1002,1006]else if r==30 then [1012]else []) (by with_unfolding_all rfl)) (nl W) ?_
 unfold Zj at h
 refine B5 (s0:=⟨T [(0,(.d _))],G []⟩) (E3 W W) ?_
 refine lr<|fun u1 _=>sm W<|A1<|B1<|sv W<|bs h fun v1 hv1 h=>B0 W W A2 (TY _ _ _ hv1) (.inl W) (sv W<|A1<|B1<|B9 (dl A5 [1500,600,1000,300]) W W (sv W<|sv W<|sv W<|bs h fun v2 hv2 h=>sd W (C5 W W hv2 W)<|sd W (D1 W hv2 W)<|sv W<|A1<|lr<|fun u4 _=>sm W<|A1<|A4<|B1<|sv W<|sv W<|A1<|bs h fun y1 hy1 h=>D3 (fun s=> ∃g1:(({d:Nat // d∈ [20,30,69,82,102,122]}×Nat)× ({d:Nat // d∈ [44,89,108,132]}×Nat)× ({d:Nat // d∈ [57,154]}×Nat)),Sb ⟨T [(0,(di v1)),(2,(.ptr (2,u1) 0)),(4,(.ptr (4,u4) 0))],G [((2,u1),some<|.box 33 [(di 0),(.d .nilS),(.d .nilS),(.d .nilS),(.d .nilS)]),((4,u4),some<|.box 33 [(di 0),(oS y1.1 (g1.1.1.val,g1.1.2)),(oS y1.2.1 (g1.2.1.1.val,g1.2.1.2)),(oS y1.2.2 (g1.2.2.1.val,g1.2.2.2)),(.d .nilS)]),((g1.1.1.val,g1.1.2),oB 63 5 Do y1.1),((g1.2.1.1.val,g1.2.1.2),oB 117 2 Dp y1.2.1),((g1.2.2.1.val,g1.2.2.2),oB 120 2 Ju y1.2.2)]⟩ s) ?_ ?_))
 refine A9<|B1<|sv W<|sv W<|A1<|cc W hy1 (fun c1 hy1=> ?_)<|fun c1 hy1=> ?_
 refine Be fun u7 _=>sv W<|B9 (dl A5 [0,0,60000,0]) W W (bs hy1 fun v3 hv3 hy1=>B0 W W (.cons (.refl _) (.cons (.refl _) (.cons DLe.nil A2))) (Q8 _ _ _ _ _ hv3) (.inl W) (Pf (.sl _) (.arr 63 5 (List.map Do ([v3]:List Lane))) W W (sq W<|Q4 W (gq W) [(di 0),(.sl (20,u7)),(.d .nilS),(.d .nilS),(.d .nilS)] W (A1<|D4 ?_))))
 cases hy1
 exact T4 ⟨((⟨20, .head _⟩,u7),(⟨44, .head _⟩,0),(⟨57, .head _⟩,0)),(D2 (X5 W)<|sg W<|B6 G_hit (.box (cv<|.cons (.of (S5<|List.cons_ne_nil _ _).symm) cw))<|L9 (gq W)<|O9<|O9 trivial)⟩
 refine A4<|B1<|sv W<|sv W<|A1<|bs hy1 fun y2 hy2 hy1=>D3 (fun s=> ∃g2:Unit,Sb ⟨T [(0,(di v1)),(2,(.ptr (2,u1) 0)),(3,(di v2)),(4,(.ptr (4,u4) 0)),(14,(di<|v1.tmod 7)),(22,(.d (bo y2)))],G [((2,u1),some<|.box 33 [(di 0),(.d .nilS),(.d .nilS),(.d .nilS),(.d .nilS)]),((4,u4),some<|.box 33 [(di 0),(.d .nilS),(.d .nilS),(.d .nilS),(.d .nilS)])]⟩ s) ?_ ?_
 refine cc W hy2 (fun c2 hy2=> ?_)<|fun c2 hy2=> ?_
 refine A8 ?_
 cases hy2
 exact T4 ⟨(),(E3 W W)⟩
 refine C1<|sv W<|sv W<|A1 ?_
 cases hy2
 exact T4 ⟨(),(E3 W W)⟩
 rintro _ ⟨g2,q1⟩
 refine B5 q1<|cc W hy1 (fun c3 hy1=> ?_)<|fun c3 hy1=> ?_
 refine lr<|fun u10 _=>sv W<|B9 (dl A5 [0,0,50000,0]) W W (bs hy1 fun v4 hv4 hy1=>B0 W W (.cons (.refl _) (.cons (.refl _) (.cons DLe.nil A2))) (Q8 _ _ _ _ _ hv4) (.inl W) (B9 (dl A5 [30000,(-20000),30000,20000]) W W (bs hy1 fun v5 hv5 hy1=>B0 W W (.cons (.refl _) (.cons (.refl _) (.cons DLe.nil A2))) (Q8 _ _ _ _ _ hv5) (.inl W) (Pf (.sl _) (.arr 63 5 (List.map Do ([v4,v5]:List Lane))) W (Na Do _ (fun _=>W) W W ⟨W,W,W,W,W,W,trivial⟩) (sq W<|Q4 W (gq W) [(di 0),(.sl (30,u10)),(.d .nilS),(.d .nilS),(.d .nilS)] W (A1<|lr<|fun u11 _=>sv W<|sv W<|sv W<|sv W<|sv W<|sv W<|sv W<|sv W<|sv W<|sv W<|B9 (dl Cs [(Part.mk 0 28000 32000 ((C9<|v1.tdiv 28).tmod 2)),(Part.mk 1 18000 22000<|C9 (2 - (C9 (2* ((C9<|v1.tdiv 28).tmod 2)))))]) W W (sv W<|Pf (.sl _) (.arr 117 2 (List.map Dp ([(Zone.mk [(Part.mk 0 28000 32000 ((C9<|v1.tdiv 28).tmod 2)),(Part.mk 1 18000 22000<|C9 (2 - (C9 (2* ((C9<|v1.tdiv 28).tmod 2)))))] 0)]:List Zone))) W W (sq W<|Q4 W (gq W) [(di 0),(.sl (30,u10)),(.sl (44,u11)),(.d .nilS),(.d .nilS)] W (A1<|B1<|sv W<|sv W<|sv W<|A1<|cc W hy1 (fun c4 hy1=> ?_)<|fun c4 hy1=> ?_)))))))))
 refine B1<|sq W<|B9 (.sl _) W (N8 W G_hit W) (bs hy1 fun v6 hv6 hy1=>B9 (.aptr _ _ _ _) W (Kp W W (gq W) hv6) (B9 (.aptr _ _ _ _) W W (Pg Dp _ _ _ (0) _ (Zone.mk v6.Parts 1) [(i64 1)] W W W (gq W) hv6 (nl W) W (A1<|Be fun u14 _=>sv W<|sv W<|sv W<|bs hy1 fun v7 hv7 hy1=>B0 W W A2 (Tu _ _ _ _ hv7) (.inl W) (Pf (.sl _) (.arr 120 2 (List.map Ju ([v7]:List Signal))) W W (sq W<|Q4 W (gq W) [(di 0),(.sl (30,u10)),(.sl (44,u11)),(.sl (57,u14)),(.d .nilS)] W (A1<|D4 ?_)))))))
 cases hy1
 exact T4 ⟨((⟨30, .tail _ (.head _)⟩,u10),(⟨44, .head _⟩,u11),(⟨57, .head _⟩,u14)),(D2 (X5 W)<|sg W<|B6 G_hit (.box (cv<|.cons (.of (S5<|List.cons_ne_nil _ _).symm) (.cons (.of (S5<|Zh<|List.cons_ne_nil _ _).symm) (.cons (.of (S5<|List.cons_ne_nil _ _).symm) cw))))<|L9 (gq W)<|L9 (gq W)<|L9 (gq W) trivial)⟩
 refine A8<|D4 ?_
 cases hy1
 exact T4 ⟨((⟨30, .tail _ (.head _)⟩,u10),(⟨44, .head _⟩,u11),(⟨57, .head _⟩,0)),(D2 (X5 W)<|sg W<|B6 G_hit (.box (cv<|.cons (.of (S5<|List.cons_ne_nil _ _).symm) (.cons (.of (S5<|List.cons_ne_nil _ _).symm) cw)))<|L9 (gq W)<|L9 (gq W)<|O9 trivial)⟩
 refine B1<|sv W<|sv W<|A1<|cc W hy1 (fun c5 hy1=> ?_)<|fun c5 hy1=> ?_
 refine Be fun u16 _=>sv W<|B9 (dl A5 [1,2]) W W (B9 (dl A5 [0,0,30000,0]) W W (bs hy1 fun v8 hv8 hy1=>B0 W W A2 (Q8 _ _ _ _ _ hv8) (.inl W) (B9 (dl A5 [30000,0,60000,0]) W W (bs hy1 fun v9 hv9 hy1=>B0 W W (.cons (.refl _) (.cons (.refl _) (.cons DLe.nil A2))) (Q8 _ _ _ _ _ hv9) (.inl W) (B9 (dl A5 [30000,0,54000,10000]) W W (bs hy1 fun v10 hv10 hy1=>B0 W W (.cons (.refl _) (.cons (.refl _) (.cons DLe.nil A2))) (Q8 _ _ _ _ _ hv10) (.inl W) (Pf (.sl _) (.arr 63 5 (List.map Do ([v8,v9,v10]:List Lane))) W (Na Do _ (fun _=>W) W W ⟨W,W,W,W,W,W,W,W,W,trivial⟩) (sq W<|Q4 W (gq W) [(di 0),(.sl (69,u16)),(.d .nilS),(.d .nilS),(.d .nilS)] W (A1<|D4 ?_)))))))))
 cases hy1
 exact T4 ⟨((⟨69, .tail _ (.tail _ (.head _))⟩,u16),(⟨44, .head _⟩,0),(⟨57, .head _⟩,0)),(D2 (X5 W)<|sg W<|B6 G_hit (.box (cv<|.cons (.of (S5<|List.cons_ne_nil _ _).symm) cw))<|L9 (gq W)<|O9<|O9 trivial)⟩
 refine B1<|sv W<|sv W<|A1<|cc W hy1 (fun c6 hy1=> ?_)<|fun c6 hy1=> ?_
 refine lr<|fun u18 _=>sv W<|B9 (dl A5 [2]) W W (B9 (dl A5 [0,0,30000,0]) W W (bs hy1 fun v11 hv11 hy1=>B0 W W A2 (Q8 _ _ _ _ _ hv11) (.inl W) (B9 (dl A5 [2]) W W (B9 (dl A5 [6000,(-10000),30000,0]) W W (bs hy1 fun v12 hv12 hy1=>B0 W W A2 (Q8 _ _ _ _ _ hv12) (.inl W) (B9 (dl A5 [30000,0,60000,0]) W W (bs hy1 fun v13 hv13 hy1=>B0 W W (.cons (.refl _) (.cons (.refl _) (.cons DLe.nil A2))) (Q8 _ _ _ _ _ hv13) (.inl W) (Pf (.sl _) (.arr 63 5 (List.map Do ([v11,v12,v13]:List Lane))) W (Na Do _ (fun _=>W) W W ⟨W,W,W,W,W,W,W,W,W,trivial⟩) (sq W<|Q4 W (gq W) [(di 0),(.sl (82,u18)),(.d .nilS),(.d .nilS),(.d .nilS)] W (A1<|Be fun u19 _=>sv W<|sv W<|sv W<|B9 (dl Cs [(Part.mk 0 25000 30000 1),(Part.mk 1 20000 26000 0),(Part.mk 2 0 5000 0)]) W (EL Cs ([(Part.mk 0 25000 30000 1),(Part.mk 1 20000 26000 0),(Part.mk 2 0 5000 0)]:List Part) (fun _=>W) W W ⟨W,W,W,W,W,W,W,W,W,trivial⟩ (fun _=>W)) (sv W<|Pf (.sl _) (.arr 117 2 (List.map Dp ([(Zone.mk [(Part.mk 0 25000 30000 1),(Part.mk 1 20000 26000 0),(Part.mk 2 0 5000 0)] 0)]:List Zone))) W W (sq W<|Q4 W (gq W) [(di 0),(.sl (82,u18)),(.sl (89,u19)),(.d .nilS),(.d .nilS)] W (A1<|D4 ?_)))))))))))))
 cases hy1
 exact T4 ⟨((⟨82, .tail _ (.tail _ (.tail _ (.head _)))⟩,u18),(⟨89, .tail _ (.head _)⟩,u19),(⟨57, .head _⟩,0)),(D2 (X5 W)<|sg W<|B6 G_hit (.box (cv<|.cons (.of (S5<|List.cons_ne_nil _ _).symm) (.cons (.of (S5<|List.cons_ne_nil _ _).symm) cw)))<|L9 (gq W)<|L9 (gq W)<|O9 trivial)⟩
 refine B1<|sv W<|sv W<|A1<|cc W hy1 (fun c7 hy1=> ?_)<|fun c7 hy1=> ?_
 refine lr<|fun u21 _=>sv W<|B9 (dl A5 [1]) W W (B9 (dl A5 [0,0,20000,0]) W W (bs hy1 fun v14 hv14 hy1=>B0 W W A2 (Q8 _ _ _ _ _ hv14) (.inl W) (sv W<|B9 (dl A5 [20000,0,50000,0]) W W (bs hy1 fun v15 hv15 hy1=>B0 W W (.cons (.refl _) (.cons (.refl _) (.cons DLe.nil A2))) (Q8 _ _ _ _ _ hv15) (.inl W) (B9 (dl A5 [35000,(-8000),35000,8000]) W W (bs hy1 fun v16 hv16 hy1=>B0 W W (.cons (.refl _) (.cons (.refl _) (.cons DLe.nil A2))) (Q8 _ _ _ _ _ hv16) (.inl W) (Pf (.sl _) (.arr 63 5 (List.map Do ([v14,v15,v16]:List Lane))) W (Na Do _ (fun _=>W) W W ⟨W,W,W,W,W,W,W,W,W,trivial⟩) (sq W<|Q4 W (gq W) [(di 0),(.sl (102,u21)),(.d .nilS),(.d .nilS),(.d .nilS)] W (A1<|Be fun u22 _=>sv W<|sv W<|B9 (dl Cs [(Part.mk 1 14000 16000 0),(Part.mk 2 6000 10000 3)]) W W (sv W<|Pf (.sl _) (.arr 117 2 (List.map Dp ([(Zone.mk [(Part.mk 1 14000 16000 0),(Part.mk 2 6000 10000 3)] 0)]:List Zone))) W W (sq W<|Q4 W (gq W) [(di 0),(.sl (102,u21)),(.sl (108,u22)),(.d .nilS),(.d .nilS)] W (A1<|D4 ?_))))))))))))
 cases hy1
 exact T4 ⟨((⟨102, .tail _ (.tail _ (.tail _ (.tail _ (.head _))))⟩,u21),(⟨108, .tail _ (.tail _ (.head _))⟩,u22),(⟨57, .head _⟩,0)),(D2 (X5 W)<|sg W<|B6 G_hit (.box (cv<|.cons (.of (S5<|List.cons_ne_nil _ _).symm) (.cons (.of (S5<|List.cons_ne_nil _ _).symm) cw)))<|L9 (gq W)<|L9 (gq W)<|O9 trivial)⟩
 refine B1<|sv W<|sv W<|A1<|cc W hy1 (fun c8 hy1=> ?_)<|fun c8 hy1=> ?_
 refine lr<|fun u24 _=>sv W<|B9 (dl A5 [1,2]) W W (B9 (dl A5 [0,0,20000,0]) W W (bs hy1 fun v17 hv17 hy1=>B0 W W A2 (Q8 _ _ _ _ _ hv17) (.inl W) (B9 (dl A5 [20000,0,50000,0]) W W (bs hy1 fun v18 hv18 hy1=>B0 W W (.cons (.refl _) (.cons (.refl _) (.cons DLe.nil A2))) (Q8 _ _ _ _ _ hv18) (.inl W) (B9 (dl A5 [20000,0,44000,10000]) W W (bs hy1 fun v19 hv19 hy1=>B0 W W (.cons (.refl _) (.cons (.refl _) (.cons DLe.nil A2))) (Q8 _ _ _ _ _ hv19) (.inl W) (B9 (dl A5 [36000,(-12000),36000,18000]) W W (bs hy1 fun v20 hv20 hy1=>B0 W W (.cons (.refl _) (.cons (.refl _) (.cons DLe.nil A2))) (Q8 _ _ _ _ _ hv20) (.inl W) (Pf (.sl _) (.arr 63 5 (List.map Do ([v17,v18,v19,v20]:List Lane))) W (Na Do _ (fun _=>W) W W ⟨W,W,W,W,W,W,W,W,W,W,W,W,trivial⟩) (sq W<|Q4 W (gq W) [(di 0),(.sl (122,u24)),(.d .nilS),(.d .nilS),(.d .nilS)] W (A1<|lr<|fun u25 _=>sv W<|sv W<|B9 (dl Cs [(Part.mk 1 14000 18000 1),(Part.mk 3 10000 14000 0)]) W W (sv W<|sv W<|sv W<|B9 (dl Cs [(Part.mk 2 14000 21000 1),(Part.mk 3 14500 23000 0)]) W W (sv W<|Pf (.sl _) (.arr 117 2 (List.map Dp ([(Zone.mk [(Part.mk 1 14000 18000 1),(Part.mk 3 10000 14000 0)] 0),(Zone.mk [(Part.mk 2 14000 21000 1),(Part.mk 3 14500 23000 0)] 0)]:List Zone))) W W (sq W<|Q4 W (gq W) [(di 0),(.sl (122,u24)),(.sl (132,u25)),(.d .nilS),(.d .nilS)] W (A1<|B1<|sv W<|sv W<|sv W<|sv W<|A1<|cc W hy1 (fun c9 hy1=> ?_)<|fun c9 hy1=> ?_)))))))))))))))
 refine A4<|Qv fun _ _=>Q0 (.ptr _ _) W W (Q0 (.sl _) W (N8 W G_hit W) (Q0 (.ptr _ _) W W (Q0 (.sl _) W (N8 W G_hit W) (bs hy1 fun v21 hv21 hy1=>Q0 (.aptr _ _ _ _) W (Kp W W (gq W) hv21) (Q0 (.aptr _ _ _ _) W W (QR Dp _ _ _ (0) _ (Zone.mk v21.Parts 1) [(i64 1)] W W W (gq W) hv21 (nl W) W (bs hy1 fun v22 hv22 hy1=>Q0 (.aptr _ _ _ _) W (Kp W W G_hit hv22) (Q0 (.aptr _ _ _ _) W W (QR Dp _ _ _ (1) _ (Zone.mk v22.Parts 2) [(i64 2)] W W W G_hit hv22 (nl W) W (CQ ⟨W,?_⟩))))))))))
 refine Be fun u28 _=>sv W<|sv W<|sv W<|bs hy1 fun v23 hv23 hy1=>B0 W W A2 (Tu _ _ _ _ hv23) (.inl W) (sv W<|sv W<|sv W<|bs hy1 fun v24 hv24 hy1=>B0 W W A2 (Tu _ _ _ _ hv24) (.inl W) (Pf (.sl _) (.arr 120 2 (List.map Ju ([v23,v24]:List Signal))) W W (sq W<|Q4 W (gq W) [(di 0),(.sl (122,u24)),(.sl (132,u25)),(.sl (154,u28)),(.d .nilS)] W (A1<|D4 ?_))))
 cases hy1
 exact T4 ⟨((⟨122, .tail _ (.tail _ (.tail _ (.tail _ (.tail _ (.head _)))))⟩,u24),(⟨132, .tail _ (.tail _ (.tail _ (.head _)))⟩,u25),(⟨154, .tail _ (.head _)⟩,u28)),(D2 (X5 W)<|sg W<|B6 G_hit (.box (cv<|.cons (.of (S5<|List.cons_ne_nil _ _).symm) (.cons (.of (S5<|Zh<|Zh<|List.cons_ne_nil _ _).symm) (.cons (.of (S5<|List.cons_ne_nil _ _).symm) cw))))<|L9 (gq W)<|L9 (gq W)<|L9 (gq W) trivial)⟩
 refine A8<|D4 ?_
 cases hy1
 exact T4 ⟨((⟨122, .tail _ (.tail _ (.tail _ (.tail _ (.tail _ (.head _)))))⟩,u24),(⟨132, .tail _ (.tail _ (.tail _ (.head _)))⟩,u25),(⟨57, .head _⟩,0)),(D2 (X5 W)<|sg W<|B6 G_hit (.box (cv<|.cons (.of (S5<|List.cons_ne_nil _ _).symm) (.cons (.of (S5<|List.cons_ne_nil _ _).symm) cw)))<|L9 (gq W)<|L9 (gq W)<|O9 trivial)⟩
 refine A8<|D4 ?_
 cases hy1
 exact T4 ⟨((⟨20, .head _⟩,0),(⟨44, .head _⟩,0),(⟨57, .head _⟩,0)),(D2 (X5 W)<|B6 G_hit (.of W)<|sg W<|O9<|O9<|O9 trivial)⟩
 rintro _ ⟨g1,q2⟩
 refine B5 q2<|B1<|sv W<|sv W<|sv W<|sq W<|Q4 W (gq W) [(di ((C9<|v1.tdiv 28).tmod 5)),(oS y1.1 (g1.1.1.val,g1.1.2)),(oS y1.2.1 (g1.2.1.1.val,g1.2.1.2)),(oS y1.2.2 (g1.2.2.1.val,g1.2.2.2)),(.d .nilS)] W (A1<|A4<|B1<|sv W<|sv W<|sv W<|sv W<|A1<|cc W h (fun c10 h=> ?_)<|fun c10 h=> ?_)
 refine C1<|sv W<|sv W<|sv W<|sv W<|sv W<|sv W<|sv W<|sv W<|sv W<|sv W<|sv W<|sv W<|B9 (dl Rt [(Work.mk 0 10000 15000 ((C9<|v1.tdiv 5208).tmod 40) (C9 (((C9<|v1.tdiv 5208).tmod 40)+20)) (C9 (((C9<|v1.tdiv 208320).tmod 3)*200)))]) W W (sq W<|Q4 W G_hit [(di ((C9<|v1.tdiv 28).tmod 5)),(oS y1.1 (g1.1.1.val,g1.1.2)),(oS y1.2.1 (g1.2.1.1.val,g1.2.1.2)),(oS y1.2.2 (g1.2.2.1.val,g1.2.2.2)),(dl Rt [(Work.mk 0 10000 15000 ((C9<|v1.tdiv 5208).tmod 40) (C9 (((C9<|v1.tdiv 5208).tmod 40)+20)) (C9 (((C9<|v1.tdiv 208320).tmod 3)*200)))])] W (A1<|B1<|B9 (Y6 [(di ((C9<|v1.tdiv 28).tmod 5)),(oS y1.1 (g1.1.1.val,g1.1.2)),(oS y1.2.1 (g1.2.1.1.val,g1.2.1.2)),(oS y1.2.2 (g1.2.2.1.val,g1.2.2.2)),(dl Rt [(Work.mk 0 10000 15000 ((C9<|v1.tdiv 5208).tmod 40) (C9 (((C9<|v1.tdiv 5208).tmod 40)+20)) (C9 (((C9<|v1.tdiv 208320).tmod 3)*200)))])]) W (A6 W G_hit W W) (Ll _ _ _ _ _ (X4 _) W W (gq W) (nl W) [(di ((C9<|v1.tdiv 28).tmod 5)),(oS y1.1 (g1.1.1.val,g1.1.2)),(oS y1.2.1 (g1.2.1.1.val,g1.2.1.2)),(oS y1.2.2 (g1.2.2.1.val,g1.2.2.2)),(dl Rt [(Work.mk 0 10000 15000 ((C9<|v1.tdiv 5208).tmod 40) (C9 (((C9<|v1.tdiv 5208).tmod 40)+20)) (C9 (((C9<|v1.tdiv 208320).tmod 3)*200)))])] W (A1<|B2 ?_))))
 cases h
 exact A7 (.inr W) (B4 (G5 W G_hit (nl W) W)<|Mz<|rD<|E0 (U4<|Zo g1.1.1.property 5 W G_hit)<|E0 (U4<|Zo g1.2.1.1.property 5 W<|C4 (XC g1.2.1.1.property g1.1.1.property W) G_hit)<|E0 (U4<|Zo g1.2.2.1.property 5 W<|C4 (XC g1.2.2.1.property g1.1.1.property W)<|C4 (XC g1.2.2.1.property g1.2.1.1.property W) G_hit)<|rD F0) (.agg (ca W<|.cons ⟨U3,W⟩ (.cons ⟨U3,W⟩ (.cons ⟨U3,W⟩ (cz W)))))
 refine A8<|B1<|B9 (Y6 [(di ((C9<|v1.tdiv 28).tmod 5)),(oS y1.1 (g1.1.1.val,g1.1.2)),(oS y1.2.1 (g1.2.1.1.val,g1.2.1.2)),(oS y1.2.2 (g1.2.2.1.val,g1.2.2.2)),(.d .nilS)]) W (A6 W G_hit W W) (Ll _ _ _ _ _ (X4 _) W W (gq W) (nl W) [(di ((C9<|v1.tdiv 28).tmod 5)),(oS y1.1 (g1.1.1.val,g1.1.2)),(oS y1.2.1 (g1.2.1.1.val,g1.2.1.2)),(oS y1.2.2 (g1.2.2.1.val,g1.2.2.2)),(.d .nilS)] W (A1<|B2 ?_))
 cases h
 exact A7 (.inr W) (B4 (G5 W G_hit (nl W) W)<|Mz<|rD<|E0 (U4<|Zo g1.1.1.property 4 W G_hit)<|E0 (U4<|Zo g1.2.1.1.property 4 W<|C4 (XC g1.2.1.1.property g1.1.1.property W) G_hit)<|E0 (U4<|Zo g1.2.2.1.property 4 W<|C4 (XC g1.2.2.1.property g1.1.1.property W)<|C4 (XC g1.2.2.1.property g1.2.1.1.property W) G_hit)<|rD F0) (.agg (ca W<|.cons ⟨U3,W⟩ (.cons ⟨U3,W⟩ (.cons ⟨U3,W⟩ (.cons ⟨DLe.nil,W⟩ .nil)))))
def Oi [Lp](p1:Map)(p2:State)(p3:Int):Option Bool:=
  ((cond ((decide (p3≥0))&& (decide (p3≤16777216))) (Ba p1 p2) (some default))).bind fun v1=>some (((decide (p3≥0))&& (decide (p3≤16777216)))&& (v1==0))
theorem AD(p1 p2 p3 r)(h:Oi p1 p2 p3=some r):PCall prog 122 [(.agg (O8 p1)),(.agg (U5 p2)),(i64 p3)] (bo r):=by
 refine C0 (fk func122 ntmps122 m0 (by with_unfolding_all rfl)) (nl W) ?_
 unfold Oi at h
 refine B5 (s0:=⟨T [(0,(.d _)),(1,(.d _)),(2,(.d _))],G []⟩) (E3 W W) ?_
 refine B1<|sm W<|sn W W<|sv W<|A1<|B1<|sv W<|sv W<|sv W<|gt W (fun _=>W)<|gt W (vb W W W)<|sa W W W<|sv W<|gt W (fun _=>(A6 W (gq W) W W))<|gt W (fun _=>(A6 W G_hit W W))<|bs h fun v1 hv1 h=> ?_
 refine I9 _ (i64 v1) (I8 W) (fun w5=>⟨_,[(.d (.agg (O8 p1))),(.d (.agg (U5 p2)))],_,_,(by simp only [A3 w5];rfl),W,A2,Nd _ _ _<|C2 w5 hv1,(.inl W)⟩) ?_
 refine gt W (vb W W W)<|sa W W W<|sv W<|A1<|B2 ?_
 cases h
 exact A7 (.inr W) (B4 (B3 W) B8) (.refl _)
def Cy (p3:Int)(v1:RoadsWay)(x1:Int):Option (Stp Int Int):=
  (C8 v1.starts x1).bind fun v3=>cond (decide (v3>p3)) (some (.go (C9 (x1 - 1)))) (some (.out x1))
def Mm [Lp](p1:Map)(p2:(List Int))(p3:Int):Option (Int×Int×Bool):=
  (X6 p1 p2).bind fun v1=>((cond (!((v1.lanes.length:Int)==0)) (Aq p3 0 v1.length) (some default))).bind fun v2=>cond (((v1.lanes.length:Int)==0)||(!v2)) (some (0,0,false)) ((loop (Cy p3 v1) (C9 ((v1.lanes.length:Int) - 1))).bind fun y1=>(C8 v1.lanes y1).bind fun v4=>(C8 v1.starts y1).bind fun v5=>some (v4,(C9 (p3 - v5)),true))
theorem IU(p1 p2 p3 r)(h:Mm p1 p2 p3=some r):PCall prog 231 [(.agg (O8 p1)),(.list (List.map A5 p2)),(i64 p3)] (.tup [(i64 r.1),(i64 r.2.1),(bo r.2.2)]):=by
 refine C0 (fk func231 ntmps231 m0 (by with_unfolding_all rfl)) (nl W) ?_
 unfold Mm at h
 refine B5 (s0:=⟨T [(0,(.d _)),(1,(.d _)),(2,(.d _))],G []⟩) (E3 W W) ?_
 refine B1<|sm W<|sv W<|sv W<|sv W<|A1<|lr<|fun u2 _=>sd W (A6 W G_hit W W)<|sv W<|bs h fun v1 hv1 h=>B0 W W A2 (Hl _ _ _ hv1) (.inl W) (sm W<|Q4 W G_hit (Hv v1) W (A1<|A4<|B1<|sq W<|sl W G_hit W<|sd W (D0 W)<|sv W<|sv W<|gf W (fun _=>W)<|gp W (H8 W) (fun _=>W) (gf W (vl W G_hit W)<|bs h fun v2 hv2 h=> ?_)))
 refine I9 _ (bo v2) (H8 W) (fun w4=>⟨_,[(di p3),(di 0),(di v1.length)],_,_,(by simp only [A3 w4];rfl),W,A2,Bj _ _ _ _<|C2 w4 hv2,(.inl W)⟩) ?_
 refine M5 _ (.d (bo (!v2))) W (H8 W) (fun w5=>(by simp only [A3 w5];rfl)) ?_
 refine sd W (L8 W W<|fun hc=>A3<|G0 hc)<|A1<|cc W h (fun c1 h=> ?_)<|fun c1 h=> ?_
 refine B1<|sv W<|sv W<|sv W<|A1<|B2 ?_
 cases h
 exact A7 (.inr W) (Ta (B3 W) (B3 W) (B3 W) B8 B8 B8) (.refl _)
 refine A8<|B1<|sq W<|sl W G_hit W<|sd W (D0 W)<|sv W<|sv W<|A1<|A4<|bs h fun y1 hy1 h=>D3 (fun s=> ∃g1:Unit,Sb ⟨T [(2,(di p3)),(9,(.ptr (9,u2) 0)),(10,(di y1))],G [((9,u2),some<|.box 260 (Hv v1))]⟩ s) ?_ ?_
 refine A9<|D7 (Cy p3 v1) (fun (x1:Int) (g2:Unit)=>⟨T [(2,(di p3)),(9,(.ptr (9,u2) 0)),(10,(di x1))],G [((9,u2),some<|.box 260 (Hv v1))]⟩) (C9 ((v1.lanes.length:Int) - 1)) () _ hy1 (E3 W W) ?_
 intro x1 g2 z1 hz1 ez1
 unfold Cy at hz1
 refine A4<|B1<|sq W<|sl W G_hit W<|sv W<|bs hz1 fun _ hv3 hz1=>sd W (C5 W W hv3 W)<|sd W (D1 W hv3 W)<|sv W<|sv W<|A1<|cc W hz1 (fun c2 hz1=> ?_)<|fun c2 hz1=> ?_
 refine A8<|A9<|C1<|sv W<|sv W<|sv W<|A1<|D4<|D6 ?_
 cases hz1
 exact ⟨W,(),(E3 W W)⟩
 refine C6 W ?_
 cases hz1
 obtain rfl:=ez1 _ rfl
 refine ⟨nofun,C3 W<|T4 ?_⟩
 exact ⟨(),(E3 W W)⟩
 rintro _ ⟨g1,q1⟩
 refine B5 q1<|A4<|D5 W<|sq W<|sl W G_hit W<|sv W<|bs h fun _ hv4 h=>sd W (C5 W W hv4 W)<|sd W (D1 W hv4 W)<|sv W<|sq W<|sl W G_hit W<|sv W<|bs h fun _ hv5 h=>sd W (C5 W W hv5 W)<|sd W (D1 W hv5 W)<|sv W<|sv W<|sv W<|sv W<|A1<|B2 ?_
 cases h
 exact A7 (.inr W) (Ta (B3 W) (B3 W) (B3 W) B8 B8 B8) (.refl _)
def X1 (p2:Int)(x1:(Int×CurvePiece))(a1:(Int×CurvePiece)):Option (Stp (Int×CurvePiece) (Int×CurvePiece)):=
  cond ((a1.1==0)||(decide (a1.2.start≤p2))) (some (.go (a1.1,a1.2))) (some (.go (x1.1,x1.2)))
def Oj [Lp](p1:Curve)(p2:Int):Option (Int×CurvePiece×Int):=
  ((Oq p1.Pts).bind fun v1=>loopL (X1 p2) (fun (x1:(Int×CurvePiece))=>(x1.1,x1.2)) v1 (0,(CurvePiece.mk (Spot.mk 0 0) (CurveVector.mk 0 0) 0 0))).bind fun y1=>some (y1.1,y1.2,(He true 0 (He false (C9 (p2 - y1.2.start)) y1.2.l)))
theorem KS(p1 p2 r)(h:Oj p1 p2=some r):PCall prog 199 [(.agg [(.list (List.map Q3 p1.Pts))]),(i64 p2)] (.tup [(i64 r.1),(.agg (Ya r.2.1)),(i64 r.2.2)]):=by
 refine C0 (fk func199 ntmps199 m0 (by with_unfolding_all rfl)) (nl W) ?_
 unfold Oj at h
 refine B5 (s0:=⟨T [(0,(.d _)),(1,(.d _))],G []⟩) (E3 W W) ?_
 refine lr<|fun u1 _=>sm W<|sm W<|sv W<|sm W<|sv W<|A1<|lr<|fun u2 _=>sm W<|A1<|lr<|fun u3 _=>sm W<|A1<|A4<|B1<|sd W (A6 W (gq W) W W)<|B0 W W A2 (FO p1) (.inl W) (A1<|bs h fun y1 hy1 h=>D3 (fun s=> ∃g1:Unit,Sb ⟨T [(3,(.ptr (3,u1) 0)),(5,(.ptr (5,u1) 0)),(7,(.ptr (7,u2) 0)),(8,(.ptr (8,u3) 0))],G [((3,u1),some<|.box 2 [(di p2)]),((5,u1),some<|.box 255 (zs 6)),((7,u2),some<|.box 3 [(di y1.1)]),((8,u3),some<|.box 255 (Gj y1.2))]⟩ s) ?_ ?_)
 refine A9<|bs hy1 fun v1 hv1 hy1=>B5 (s0:=⟨T [(3,(.ptr _ _)),(5,(.ptr _ _)),(7,(.ptr _ _)),(8,(.ptr _ _)),(12,(.d _))],G [((3,u1),some<|.box 2 _),((5,u1),some<|.box 255 _),((7,u2),some<|.box 3 _),((8,u3),some<|.box 255 _)]⟩) (E3 W W) ?_
 refine QH (.fn (.func 260) [] [(.bp [(.list (List.map Q3 p1.Pts))] 0)]) IM v1 (X1 p2) (fun (x1:(Int×CurvePiece))=>(x1.1,x1.2)) (fun (x1:(Int×CurvePiece)) (g2:Unit)=> [((3,u1),some<|.box 2 [(di p2)]),((5,u1),some<|.box 255 (zs 6)),((7,u2),some<|.box 3 [(di x1.1)]),((8,u3),some<|.box 255 (Gj x1.2))]) (0,(CurvePiece.mk (Spot.mk 0 0) (CurveVector.mk 0 0) 0 0)) () _ W (FP hv1) (fun _=>W) hy1 (E3 W W) nofun ?_ ?_
 intro u6 hu6 hku6
 refine ⟨fun x1 g2=>(C4 W<|C4 W<|C4 W<|C4 W W),?_⟩
 intro r1 x1 g2 a1 z1 hrr1 hz1 ez1
 unfold X1 at hz1
 show Bt _ _ _ _ _ _ ⟨T [(14,(.d (.agg (Ya a1.2)))),(13,(di a1.1)),(3,(.ptr (3,u1) 0)),(5,(.ptr (5,u1) 0)),(7,(.ptr (7,u2) 0)),(8,(.ptr (8,u3) 0)),(12,(.d (.fn (.func 260) [] [(.bp [(.list (List.map Q3 p1.Pts))] 0)])))],G [((1000000,u6),some (.obj (T [(3,(.ptr (3,u1) 0)),(5,(.ptr (5,u1) 0)),(7,(.ptr (7,u2) 0)),(8,(.ptr (8,u3) 0)),(12,(.d (.fn (.func 260) [] [(.bp [(.list (List.map Q3 p1.Pts))] 0)])))]) r1)),((3,u1),some (.box 2 [(di p2)])),((5,u1),some (.box 255 (zs 6))),((7,u2),some (.box 3 [(di x1.1)])),((8,u3),some (.box 255 (Gj x1.2)))]⟩
 refine B1<|sv W<|A1<|C1<|sm W<|Q4 W G_hit (Gj a1.2) W (A1<|T4<|NS (gq W) ?_)
 refine A9<|B1<|sv W<|sv W<|sv W<|gp W (H8 W) (fun _=>W) (gf W (vl W (gq W) W)<|gf W (fun _=>(N8 W (gq W) W))<|gf W (fun w4=>(L4 (A3 w4) (A3 w4) W))<|sd W (L8 W W<|fun hc=>A3<|G0 hc)<|A1<|cc W hz1 (fun c1 hz1=> ?_)<|fun c1 hz1=> ?_)
 refine Qv fun _ _=>Q0 (.d _) W W (Q0 (.d _) W (A6 W (gq W) W W) (Tc _ _ _ _ _ W W W (gq W) (nl W) [(di a1.1)] W (Tc _ _ _ _ _ W W W (gq W) (nl W) (Gj a1.2) W (CQ ⟨W,?_⟩))))
 refine D4<|D6 ?_
 cases hz1
 exact NT (gq W) () (sg W<|sg W<|sg W<|B6 G_hit (.of W) trivial)
 refine A8<|D4<|D6 ?_
 cases hz1
 exact NT G_hit ()<|sg W<|sg W<|sg W<|sg W trivial
 rintro x1 g2 _ rfl qx1
 refine D4<|T4 ?_
 exact ⟨(),(Sb.after qx1<|E3 W W)⟩
 rintro _ ⟨g1,q1⟩
 refine B5 q1<|A4<|Qv fun _ _=>Q0 (.d _) W (N8 W (gq W) W) (Q0 (.d _) W (A6 W (gq W) W W) (Q0 (.d _) W (N8 W G_hit W) (Q0 (.ptr _ _) W W (Q0 (.d _) W (N8 W (gq W) W) (Q0 (.d _) W W (Q0 (.ptr _ _) W W (Q0 (.d _) W (N8 W (gq W) W) (Q0 (.d _) W W (Q0 (.d _) W W (Q0 (.d _) W W (Tc _ _ _ _ _ W W W (gq W) (nl W) (Gj y1.2) W (Q0 (.d _) W W (CQ ⟨W,?_⟩)))))))))))))
 refine B2 ?_
 cases h
 exact A7 (.inr W) (Ta (B3 W) (G5 W G_hit (nl W) W) (B3 W) B8 B8 B8) (.refl _)
def Ej (p1:Int)(p2:Int):Option Int:=
  (QE .i64 p1 p2).bind fun v1=>(Xr p1 p2).bind fun v2=>cond (decide (v2<0)) (some (C9 (v1 - 1))) (some v1)
theorem Yl(p1 p2 r)(h:Ej p1 p2=some r):PCall prog 200 [(i64 p1),(i64 p2)] (i64 r):=by
 refine C0 (fk func200 ntmps200 m0 (by with_unfolding_all rfl)) (nl W) ?_
 unfold Ej at h
 refine B5 (s0:=⟨T [(0,(.d _)),(1,(.d _))],G []⟩) (E3 W W) ?_
 refine B1<|sv W<|A1<|B1<|sv W<|sv W<|bs h fun _ hv1 h=>sd W (aS W W hv1)<|sv W<|A1<|A4<|B1<|sv W<|sv W<|bs h fun _ hv2 h=>sd W (CP W W hv2)<|sv W<|A1<|cc W h (fun c1 h=> ?_)<|fun c1 h=> ?_
 refine C1<|sv W<|sv W<|sv W<|A1<|B1<|sv W<|sv W<|A1<|B2 ?_
 cases h
 exact A7 (.inr W) (B4 (B3 W) B8) (.refl _)
 refine A8<|B1<|sv W<|sv W<|A1<|B2 ?_
 cases h
 exact A7 (.inr W) (B4 (B3 W) B8) (.refl _)
def Hm [Lp](p1:Curve)(p2:Int):Option Spot:=
  (Cc p1).bind fun v1=>cond (v1 !=0) (some (Spot.mk 0 0)) ((Oj p1 (He true 0 p2)).bind fun v2=>(Ej (C9 (v2.2.1.v.x*v2.2.2)) v2.2.1.l).bind fun v3=>(Ej (C9 (v2.2.1.v.y*v2.2.2)) v2.2.1.l).bind fun v4=>some (Spot.mk (C9 (v2.2.1.p.X+v3)) (C9 (v2.2.1.p.Y+v4))))
theorem Tg(p1 p2 r)(h:Hm p1 p2=some r):PCall prog 130 [(.agg [(.list (List.map Q3 p1.Pts))]),(i64 p2)] (.agg [(i64 r.X),(i64 r.Y)]):=by
 refine C0 (fk func130 ntmps130 m0 (by with_unfolding_all rfl)) (nl W) ?_
 unfold Hm at h
 refine B5 (s0:=⟨T [(0,(.d _)),(1,(.d _))],G []⟩) (E3 W W) ?_
 refine B1<|sm W<|sn W W<|A1<|A4<|B1<|sd W (A6 W (gq W) W W)<|bs h fun _ hv1 h=>B0 W W A2 (Ru _ _ hv1) (.inl W) (sv W<|A1<|cc W h (fun c1 h=> ?_)<|fun c1 h=> ?_)
 refine B1<|sv W<|Q4 W G_hit [(di 0),(di 0)] W (A1<|B2 ?_)
 cases h
 exact A7 (.inr W) (B4 (G5 W G_hit (nl W) W) B8) (.refl _)
 refine A8<|B1<|sd W (A6 W (gq W) W W)<|sv W<|sv W<|bs h fun v2 hv2 h=>B0 W W A2 (KS _ _ _ hv2) (.inl W) (sv W<|sv W<|sv W<|sv W<|sm W<|sv W<|Q4 W G_hit (Gj v2.2.1) W (sv W<|A1<|A4<|D5 W<|sq W<|sq W<|sl W G_hit W<|sq W<|sp W W<|sl W G_hit W<|sv W<|sv W<|sq W<|sl W G_hit W<|bs h fun v3 hv3 h=>B0 W W A2 (Yl _ _ _ hv3) (.inl W) (sv W<|sq W<|sp W W<|sl W G_hit W<|sq W<|sp W W<|sl W G_hit W<|sv W<|sv W<|sq W<|sl W G_hit W<|bs h fun v4 hv4 h=>B0 W W A2 (Yl _ _ _ hv4) (.inl W) (sv W<|sv W<|Q4 W (gq W) [(di<|C9 (v2.2.1.p.X+v3)),(di<|C9 (v2.2.1.p.Y+v4))] W (A1<|B2 ?_)))))
 cases h
 exact A7 (.inr W) (B4 (G5 W G_hit (nl W) W) B8) (.refl _)
def Po [Lp](p1:Map)(p2:(List Int))(p3:Int):Option Spot:=
  (R5 p1 p2).bind fun v1=>(Mm p1 p2 (He true 0 (He false p3 v1))).bind fun v2=>(C8 p1.Lanes v2.1).bind fun v3=>(Hm v3.Curve_ v2.2.1).bind fun v4=>some v4
theorem Ym(p1 p2 p3 r)(h:Po p1 p2 p3=some r):PCall prog 193 [(.agg (O8 p1)),(.list (List.map A5 p2)),(i64 p3)] (.agg [(i64 r.X),(i64 r.Y)]):=by
 refine C0 (fk func193 ntmps193 m0 (by with_unfolding_all rfl)) (nl W) ?_
 unfold Po at h
 refine B5 (s0:=⟨T [(0,(.d _)),(1,(.d _)),(2,(.d _))],G []⟩) (E3 W W) ?_
 refine B1<|sm W<|sn W W<|A1<|A4<|D5 W<|sd W (A6 W (gq W) W W)<|sv W<|sv W<|sd W (A6 W (gq W) W W)<|sv W<|bs h fun _ hv1 h=>B0 W W A2 (Jb _ _ _ hv1) (.inl W) (sv W<|sv W<|bs h fun _ hv2 h=>B0 W W A2 (IU _ _ _ _ hv2) (.inl W) (sv W<|sv W<|sv W<|sv W<|sv W<|sv W<|sv W<|A1<|B1<|sq W<|sl W (gq W) W (sv W<|bs h fun _ hv3 h=>sd W (C5 W W hv3 W)<|sv W<|sd W (C7 W hv3 W W)<|sv W<|bs h fun v4 hv4 h=>B0 W W A2 (Tg _ _ _ hv4) (.inl W) (Q4 W G_hit [(di v4.X),(di v4.Y)] W (A1<|B2 ?_)))))
 cases h
 exact A7 (.inr W) (B4 (G5 W G_hit (nl W) W) B8) (.refl _)
def Pp [Lp](p1:Spot)(p2:Spot):Option Int:=
  (Bk [p1,p2]).bind fun v1=>cond (!v1) (some 0) ((Gq p1 p2).bind fun v2=>(Y1 v2 v2).bind fun v3=>some v3)
theorem IV(p1 p2 r)(h:Pp p1 p2=some r):PCall prog 256 [(.agg [(i64 p1.X),(i64 p1.Y)]),(.agg [(i64 p2.X),(i64 p2.Y)])] (i64 r):=by
 refine C0 (fk func256 ntmps256 (fun r=>if r==1 then [1002]else []) (by with_unfolding_all rfl)) (nl W) ?_
 unfold Pp at h
 refine B5 (s0:=⟨T [(0,(.d _)),(1,(.d _))],G []⟩) (E3 W W) ?_
 refine B1<|sm W<|sn W W<|sv W<|A1<|A4<|B1<|sd W (A6 W (gq W) W W)<|sd W (A6 W G_hit W W)<|B9 (dl Q3 [p1,p2]) W W (bs h fun v1 hv1 h=>B0 W W A2 (Kw _ _ hv1) (.inl W) (B9 (.d (bo (!v1))) W W (A1<|cc W h (fun c1 h=> ?_)<|fun c1 h=> ?_)))
 refine B1<|sv W<|A1<|B2 ?_
 cases h
 exact A7 (.inr W) (B4 (B3 W) B8) (.refl _)
 refine A8<|B1<|sd W (A6 W (gq W) W W)<|sd W (A6 W G_hit W W)<|bs h fun v2 hv2 h=>B0 W W A2 (Kx _ _ _ hv2) (.inl W) (sm W<|Q4 W G_hit [(di v2.x),(di v2.y)] W (A1<|B1<|sd W (A6 W G_hit W W)<|sd W (A6 W G_hit W W)<|bs h fun _ hv3 h=>B0 W W A2 (Fg _ _ _ hv3) (.inl W) (sv W<|A1<|B2 ?_)))
 cases h
 exact A7 (.inr W) (B4 (B3 W) B8) (.refl _)
def Ok [Lp](p1:Spot)(p2:Spot)(p3:Int):Option Bool:=
  (Bk [p1,p2]).bind fun v1=>((cond ((v1&& (decide (p3≥0)))&& (decide (p3≤33554432))) (Pp p1 p2) (some default))).bind fun v2=>some (((v1&& (decide (p3≥0)))&& (decide (p3≤33554432)))&& (decide (v2≤(C9 (p3*p3)))))
theorem AE(p1 p2 p3 r)(h:Ok p1 p2 p3=some r):PCall prog 232 [(.agg [(i64 p1.X),(i64 p1.Y)]),(.agg [(i64 p2.X),(i64 p2.Y)]),(i64 p3)] (bo r):=by
 refine C0 (fk func232 ntmps232 (fun r=>if r==1 then [1002]else []) (by with_unfolding_all rfl)) (nl W) ?_
 unfold Ok at h
 refine B5 (s0:=⟨T [(0,(.d _)),(1,(.d _)),(2,(.d _))],G []⟩) (E3 W W) ?_
 refine B1<|sm W<|sn W W<|sv W<|A1<|B1<|sd W (A6 W (gq W) W W)<|sd W (A6 W G_hit W W)<|B9 (dl Q3 [p1,p2]) W W (bs h fun _ hv1 h=>B0 W W A2 (Kw _ _ hv1) (.inl W) (sv W<|gt W (fun _=>W)<|gt W (vb W W W)<|sa W W W<|sv W<|gt W (fun _=>W)<|gt W (vb W W W)<|sa W W W<|sv W<|gt W (fun _=>(A6 W (gq W) W W))<|gt W (fun _=>(A6 W G_hit W W))<|bs h fun v2 hv2 h=> ?_))
 refine I9 _ (i64 v2) (I8 W) (fun w7=>⟨_,[(.d (.agg [(i64 p1.X),(i64 p1.Y)])),(.d (.agg [(i64 p2.X),(i64 p2.Y)]))],_,_,(by simp only [A3 w7];rfl),W,A2,IV _ _ _<|C2 w7 hv2,(.inl W)⟩) ?_
 refine gt W (fun _=>W)<|gt W (fun _=>W)<|gt W (fun w10=>(L4 (A3 w10) (A3 w10) W))<|gt W (fun w11=>(L4 (A3 w11) (A3 w11) W))<|sa W W W<|sv W<|A1<|B2 ?_
 cases h
 exact A7 (.inr W) (B4 (B3 W) B8) (.refl _)
def Mn (p1:(List Span))(p2:Span)(x1:Int):Option (Stp Int (Sum Unit (WorldSpan×Bool))):=
  cond (decide (x1< (p1.length:Int))) ((C8 p1 x1).bind fun v1=>cond (v1.Lane_==p2.Lane_) ((Cv (WorldSpan.mk v1.From v1.To) (WorldSpan.mk p2.From p2.To)).bind fun v2=>(Ai v2).bind fun v3=>some (.out (.inr (v2,(!v3))))) (some (.go (C9 (x1+1))))) (some (.out (.inl ())))
def Pq [Lp](p1:(List Span))(p2:Span):Option (WorldSpan×Bool):=
  thenS (loop (Mn p1 p2) 0) (fun _=>some ((WorldSpan.mk 0 0),false)) (fun r=>some r)
theorem Yn(p1 p2 r)(h:Pq p1 p2=some r):PCall prog 129 [(.list (List.map J2 p1)),(.agg (J2 p2))] (.tup [(.agg [(i64 r.1.from_),(i64 r.1.to)]),(bo r.2)]):=by
 refine C0 (fk func129 ntmps129 m0 (by with_unfolding_all rfl)) (nl W) ?_
 unfold Pq at h
 refine B5 (s0:=⟨T [(0,(.d _)),(1,(.d _))],G []⟩) (E3 W W) ?_
 refine lr<|fun u1 _=>sm W<|sm W<|sv W<|A1<|A4<|B1<|sv W<|sd W (D0 W)<|sv W<|A1<|js h fun z1 hz1 h=>D3 (fun s=> ∃(y1:Unit) (g1:Unit),z1= .inl y1∧Sb ⟨T [(4,(.ptr (4,u1) 0))],G [((4,u1),some<|.box 191 [(di 0),(di 0)])]⟩ s) ?_ ?_
 refine A9<|D7 (Mn p1 p2) (fun (x1:Int) (g2:Unit)=>⟨T [(3,(.ptr (3,u1) 0)),(4,(.ptr (4,u1) 0)),(9,(dl J2 p1)),(10,(di (p1.length:Int))),(11,(di x1))],G [((3,u1),some<|.box 93 (Pj p2)),((4,u1),some<|.box 191 [(di 0),(di 0)])]⟩) 0 () _ hz1 (E3 W W) ?_
 intro x1 g2 z2 hz2 ez2
 unfold Mn at hz2
 refine B1<|sv W<|A1<|A4<|cc W hz2 (fun c1 hz2=> ?_)<|fun c1 hz2=> ?_
 refine A8<|A4<|A9<|B1<|bs hz2 fun v1 hv1 hz2=>sd W (C5 W W hv1 W)<|sd W (C7 W hv1 W W)<|sm W<|Q4 W G_hit (Pj v1) W (A1<|B1<|sq W<|sl W G_hit W<|sq W<|sl W (gq W) W (sv W<|A1<|cc W hz2 (fun c2 hz2=> ?_)<|fun c2 hz2=> ?_))
 refine B1<|sq W<|sl W G_hit W<|sq W<|sl W G_hit W<|sv W<|sq W<|sl W (gq W) W (sq W<|sl W (gq W) W (sv W<|bs hz2 fun v2 hv2 hz2=>B0 W W A2 (Nf _ _ _ hv2) (.inl W) (sm W<|Q4 W G_hit [(di v2.from_),(di v2.to)] W (A1<|A4<|D5 W<|sd W (A6 W G_hit W W)<|sd W (A6 W G_hit W W)<|bs hz2 fun v3 hv3 hz2=>B0 W W A2 (Kr _ _ hv3) (.inl W) (B9 (.d (bo (!v3))) W W (Q4 W (gq W) [(di v2.from_),(di v2.to)] W (sv W<|A1<|B2 ?_)))))))
 cases hz2
 obtain rfl:=ez2 _ rfl
 refine ⟨nofun,E5 ?_⟩
 rw [bT]at h
 cases h
 exact A7 (.inr W) (Iz (G5 W G_hit (nl W) W) (B3 W) B8 B8) (.refl _)
 refine A8<|D4<|C1<|sv W<|sv W<|A1<|D6 ?_
 cases hz2
 exact ⟨W,(),(E3 W W)⟩
 refine C6 W ?_
 cases hz2
 obtain rfl:=ez2 _ rfl
 refine ⟨nofun,C3 W<|T4 ?_⟩
 exact ⟨_,(),W,(E3 W W)⟩
 rintro _ ⟨y1,g1,rfl,q1⟩
 rw [bS]at h
 refine B5 q1<|B1<|sv W<|Q4 W G_hit [(di 0),(di 0)] W (sv W<|A1<|B2 ?_)
 cases h
 exact A7 (.inr W) (Iz (G5 W G_hit (nl W) W) (B3 W) B8 B8) (.refl _)
def Cz (p1:CurveVector)(p2:CurveVector):Option Int:=
  some (C9 ((C9 (p1.x*p2.y)) - (C9 (p1.y*p2.x))))
theorem Wu(p1 p2 r)(h:Cz p1 p2=some r):PCall prog 269 [(.agg [(i64 p1.x),(i64 p1.y)]),(.agg [(i64 p2.x),(i64 p2.y)])] (i64 r):=by
 refine C0 (fk func269 ntmps269 m0 (by with_unfolding_all rfl)) (nl W) ?_
 unfold Cz at h
 refine B5 (s0:=⟨T [(0,(.d _)),(1,(.d _))],G []⟩) (E3 W W) ?_
 refine B1<|sm W<|sn W W<|sv W<|A1<|B1<|sq W<|sl W (gq W) W (sq W<|sl W G_hit W<|sv W<|sq W<|sl W (gq W) W (sq W<|sl W G_hit W<|sv W<|sv W<|sv W<|A1<|B2 ?_))
 cases h
 exact A7 (.inr W) (B4 (B3 W) B8) (.refl _)
def Vj (p1:Int):Option Int:=
  cond (decide (p1>0)) (some 1) (cond (decide (p1<0)) (some (-1)) (some 0))
theorem KT(p1 r)(h:Vj p1=some r):PCall prog 268 [(i64 p1)] (i64 r):=by
 refine C0 (fk func268 ntmps268 m0 (by with_unfolding_all rfl)) (nl W) ?_
 unfold Vj at h
 refine B5 (s0:=⟨T [(0,(.d _))],G []⟩) (E3 W W) ?_
 refine B1<|sv W<|A1<|A4<|A9<|B1<|sv W<|sv W<|sv W<|A1<|cc W h (fun c1 h=> ?_)<|fun c1 h=> ?_
 refine B1<|sv W<|A1<|B2 ?_
 cases h
 exact A7 (.inr W) (B4 (B3 W) B8) (.refl _)
 refine B1<|sv W<|sv W<|sv W<|A1<|cc W h (fun c2 h=> ?_)<|fun c2 h=> ?_
 refine B1<|sv W<|A1<|B2 ?_
 cases h
 exact A7 (.inr W) (B4 (B3 W) B8) (.refl _)
 refine A8<|D4<|B1<|sv W<|A1<|B2 ?_
 cases h
 exact A7 (.inr W) (B4 (B3 W) B8) (.refl _)
def Jh [Lp](p1:Spot)(p2:Spot)(p3:Spot):Option Int:=
  (Bk [p1,p2,p3]).bind fun v1=>cond (!v1) (some 0) ((Gq p1 p2).bind fun v2=>(Gq p1 p3).bind fun v3=>(Cz v2 v3).bind fun v4=>(Vj v4).bind fun v5=>some v5)
theorem Ow(p1 p2 p3 r)(h:Jh p1 p2 p3=some r):PCall prog 257 [(.agg [(i64 p1.X),(i64 p1.Y)]),(.agg [(i64 p2.X),(i64 p2.Y)]),(.agg [(i64 p3.X),(i64 p3.Y)])] (i64 r):=by
 refine C0 (fk func257 ntmps257 (fun r=>if r==1 then [1003]else []) (by with_unfolding_all rfl)) (nl W) ?_
 unfold Jh at h
 refine B5 (s0:=⟨T [(0,(.d _)),(1,(.d _)),(2,(.d _))],G []⟩) (E3 W W) ?_
 refine B1<|sm W<|sn W W<|sm W<|sv W<|A1<|A4<|B1<|sd W (A6 W (gq W) W W)<|sd W (A6 W (gq W) W W)<|sd W (A6 W G_hit W W)<|B9 (dl Q3 [p1,p2,p3]) W W (bs h fun v1 hv1 h=>B0 W W A2 (Kw _ _ hv1) (.inl W) (B9 (.d (bo (!v1))) W W (A1<|cc W h (fun c1 h=> ?_)<|fun c1 h=> ?_)))
 refine B1<|sv W<|A1<|B2 ?_
 cases h
 exact A7 (.inr W) (B4 (B3 W) B8) (.refl _)
 refine A8<|A4<|D5 W<|sd W (A6 W (gq W) W W)<|sd W (A6 W (gq W) W W)<|bs h fun _ hv2 h=>B0 W W A2 (Kx _ _ _ hv2) (.inl W) (sd W (A6 W (gq W) W W)<|sd W (A6 W G_hit W W)<|bs h fun _ hv3 h=>B0 W W A2 (Kx _ _ _ hv3) (.inl W) (bs h fun _ hv4 h=>B0 W W A2 (Wu _ _ _ hv4) (.inl W) (bs h fun _ hv5 h=>B0 W W A2 (KT _ _ hv5) (.inl W) (sv W<|A1<|B2 ?_))))
 cases h
 exact A7 (.inr W) (B4 (B3 W) B8) (.refl _)
def Cf (p1:Spot)(p2:Spot)(p3:Spot):Option Bool:=
  some ((((decide ((He false p1.X p2.X)≤p3.X))&& (decide (p3.X≤(He true p1.X p2.X))))&& (decide ((He false p1.Y p2.Y)≤p3.Y)))&& (decide (p3.Y≤(He true p1.Y p2.Y))))
theorem Kb(p1 p2 p3 r)(h:Cf p1 p2 p3=some r):PCall prog 258 [(.agg [(i64 p1.X),(i64 p1.Y)]),(.agg [(i64 p2.X),(i64 p2.Y)]),(.agg [(i64 p3.X),(i64 p3.Y)])] (bo r):=by
 refine C0 (fk func258 ntmps258 m0 (by with_unfolding_all rfl)) (nl W) ?_
 unfold Cf at h
 refine B5 (s0:=⟨T [(0,(.d _)),(1,(.d _)),(2,(.d _))],G []⟩) (E3 W W) ?_
 refine B1<|sm W<|sn W W<|sm W<|sv W<|A1<|B1<|sq W<|sl W (gq W) W (sq W<|sl W (gq W) W (sv W<|sq W<|sl W G_hit W<|sv W<|sv W<|gp W (I8 W) (fun _=>W) (gt W (vl W G_hit W)<|gp W (I8 W) (fun _=>W) (gt W (vl W (gq W) W)<|gp W (I8 W) (fun _=>W) (gt W (vl W (gq W) W) ?_)))))
 refine gt W (fun w7=>(by simp only [A3 w7];rfl)) ?_
 refine gt W (fun w8=>(L4 (A3 w8) (A3 w8) W))<|sa W W W<|sv W<|gp W (I8 W) (fun _=>W) (gt W (vl W (gq W) W)<|gp W (I8 W) (fun _=>W) (gt W (vl W (gq W) W) ?_))
 refine gt W (fun w13=>(by simp only [A3 w13];rfl)) ?_
 refine gp W (I8 W) (fun _=>W) (gt W (vl W G_hit W)<|gt W (fun w16=>(L4 (A3 w16) (A3 w16) W))<|sa W W W<|sv W<|gp W (I8 W) (fun _=>W) (gt W (vl W G_hit W)<|gp W (I8 W) (fun _=>W) (gt W (vl W (gq W) W)<|gp W (I8 W) (fun _=>W) (gt W (vl W (gq W) W) ?_))))
 refine gt W (fun w23=>(by simp only [A3 w23];rfl)) ?_
 refine gt W (fun w24=>(L4 (A3 w24) (A3 w24) W))<|sa W W W<|sv W<|A1<|B2 ?_
 cases h
 exact A7 (.inr W) (B4 (B3 W) B8) (.refl _)
def Kc [Lp](p1:Spot)(p2:Spot)(p3:Spot)(p4:Spot):Option Bool:=
  (Bk [p1,p2,p3,p4]).bind fun v1=>cond (!v1) (some false) ((Jh p1 p2 p3).bind fun v2=>(Jh p1 p2 p4).bind fun v3=>(Jh p3 p4 p1).bind fun v4=>(Jh p3 p4 p2).bind fun v5=>cond ((decide ((C9 (v2*v3))<0))&& (decide ((C9 (v4*v5))<0))) (some true) (((cond (v2==0) (Cf p1 p2 p3) (some default))).bind fun v6=>((cond ((!((v2==0)&&v6))&& (v3==0)) (Cf p1 p2 p4) (some default))).bind fun v7=>((cond ((!(((v2==0)&&v6)||((v3==0)&&v7)))&& (v4==0)) (Cf p3 p4 p1) (some default))).bind fun v8=>((cond ((!((((v2==0)&&v6)||((v3==0)&&v7))||((v4==0)&&v8)))&& (v5==0)) (Cf p3 p4 p2) (some default))).bind fun v9=>some (((((v2==0)&&v6)||((v3==0)&&v7))||((v4==0)&&v8))||((v5==0)&&v9))))
theorem Vz(p1 p2 p3 p4 r)(h:Kc p1 p2 p3 p4=some r):PCall prog 233 [(.agg [(i64 p1.X),(i64 p1.Y)]),(.agg [(i64 p2.X),(i64 p2.Y)]),(.agg [(i64 p3.X),(i64 p3.Y)]),(.agg [(i64 p4.X),(i64 p4.Y)])] (bo r):=by
 refine C0 (fk func233 ntmps233 (fun r=>if r==1 then [1004]else []) (by with_unfolding_all rfl)) (nl W) ?_
 unfold Kc at h
 refine B5 (s0:=⟨T [(0,(.d _)),(1,(.d _)),(2,(.d _)),(3,(.d _))],G []⟩) (E3 W W) ?_
 refine B1<|sm W<|sn W W<|sm W<|sn W W<|sv W<|A1<|A4<|B1<|sd W (A6 W (gq W) W W)<|sd W (A6 W (gq W) W W)<|sd W (A6 W (gq W) W W)<|sd W (A6 W G_hit W W)<|B9 (dl Q3 [p1,p2,p3,p4]) W W (bs h fun v1 hv1 h=>B0 W W A2 (Kw _ _ hv1) (.inl W) (B9 (.d (bo (!v1))) W W (A1<|cc W h (fun c1 h=> ?_)<|fun c1 h=> ?_)))
 refine B1<|sv W<|A1<|B2 ?_
 cases h
 exact A7 (.inr W) (B4 (B3 W) B8) (.refl _)
 refine A8<|A4<|D5 W<|sd W (A6 W (gq W) W W)<|sd W (A6 W (gq W) W W)<|sd W (A6 W (gq W) W W)<|bs h fun _ hv2 h=>B0 W W A2 (Ow _ _ _ _ hv2) (.inl W) (sd W (A6 W (gq W) W W)<|sd W (A6 W (gq W) W W)<|sd W (A6 W G_hit W W)<|bs h fun _ hv3 h=>B0 W W A2 (Ow _ _ _ _ hv3) (.inl W) (sd W (A6 W (gq W) W W)<|sd W (A6 W G_hit W W)<|sd W (A6 W (gq W) W W)<|bs h fun _ hv4 h=>B0 W W A2 (Ow _ _ _ _ hv4) (.inl W) (sd W (A6 W (gq W) W W)<|sd W (A6 W G_hit W W)<|sd W (A6 W (gq W) W W)<|bs h fun _ hv5 h=>B0 W W A2 (Ow _ _ _ _ hv5) (.inl W) (sv W<|sv W<|sv W<|sv W<|A1<|A4<|B1<|sv W<|sv W<|sv W<|sv W<|sv W<|gt W (fun _=>W)<|gt W (fun _=>W)<|gt W (fun w3=>(L4 (A3 w3) (A3 w3) W))<|gt W (vb W W W)<|sa W W W<|A1<|cc W h (fun c2 h=> ?_)<|fun c2 h=> ?_))))
 refine B1<|sv W<|A1<|B2 ?_
 cases h
 exact A7 (.inr W) (B4 (B3 W) B8) (.refl _)
 refine A8<|B1<|sv W<|sv W<|sv W<|gt W (fun _=>(A6 W (gq W) W W))<|gt W (fun _=>(A6 W (gq W) W W))<|gt W (fun _=>(A6 W (gq W) W W))<|bs h fun v6 hv6 h=> ?_
 refine I9 _ (bo v6) (I8 W) (fun w8=>⟨_,[(.d (.agg [(i64 p1.X),(i64 p1.Y)])),(.d (.agg [(i64 p2.X),(i64 p2.Y)])),(.d (.agg [(i64 p3.X),(i64 p3.Y)]))],_,_,(by simp only [A3 w8];rfl),W,A2,Kb _ _ _ _<|C2 w8 hv6,(.inl W)⟩) ?_
 refine sa W W W<|sv W<|gf W (fun _=>W)<|gf W (vb W W W)<|gf W (fun w11=>(ED<|A3 w11))<|gv W (O2 W) (fun _=>(A6 W (gq W) W W)) (gv W (O2 W) (fun _=>(A6 W (gq W) W W)) (gv W (O2 W) (fun _=>(A6 W G_hit W W)) (bs h fun v7 hv7 h=> ?_)))
 refine I9 _ (bo v7) (O2 W) (fun w15=>⟨_,[(.d (.agg [(i64 p1.X),(i64 p1.Y)])),(.d (.agg [(i64 p2.X),(i64 p2.Y)])),(.d (.agg [(i64 p4.X),(i64 p4.Y)]))],_,_,(by simp only [A3 w15];rfl),W,A2,Kb _ _ _ _<|C2 w15 hv7,(.inl W)⟩) ?_
 refine gf W (fun w16=>(Uh (A3 w16) (fun hc=>A3<|Ui w16 hc) W))<|sd W (L8 W W<|fun hc=>A3<|G0 hc)<|sv W<|gf W (fun _=>W)<|gf W (vb W W W)<|gf W (fun w19=>(ED<|A3 w19))<|gv W (O2 W) (fun _=>(A6 W (gq W) W W)) (gv W (O2 W) (fun _=>(A6 W G_hit W W)) (gv W (O2 W) (fun _=>(A6 W (gq W) W W)) (bs h fun v8 hv8 h=> ?_)))
 refine I9 _ (bo v8) (O2 W) (fun w23=>⟨_,[(.d (.agg [(i64 p3.X),(i64 p3.Y)])),(.d (.agg [(i64 p4.X),(i64 p4.Y)])),(.d (.agg [(i64 p1.X),(i64 p1.Y)]))],_,_,(by simp only [A3 w23];rfl),W,A2,Kb _ _ _ _<|C2 w23 hv8,(.inl W)⟩) ?_
 refine gf W (fun w24=>(Uh (A3 w24) (fun hc=>A3<|Ui w24 hc) W))<|sd W (L8 W W<|fun hc=>A3<|G0 hc)<|sv W<|gf W (fun _=>W)<|gf W (vb W W W)<|gf W (fun w27=>(ED<|A3 w27))<|gv W (O2 W) (fun _=>(A6 W (gq W) W W)) (gv W (O2 W) (fun _=>(A6 W G_hit W W)) (gv W (O2 W) (fun _=>(A6 W (gq W) W W)) (bs h fun v9 hv9 h=> ?_)))
 refine I9 _ (bo v9) (O2 W) (fun w31=>⟨_,[(.d (.agg [(i64 p3.X),(i64 p3.Y)])),(.d (.agg [(i64 p4.X),(i64 p4.Y)])),(.d (.agg [(i64 p2.X),(i64 p2.Y)]))],_,_,(by simp only [A3 w31];rfl),W,A2,Kb _ _ _ _<|C2 w31 hv9,(.inl W)⟩) ?_
 refine gf W (fun w32=>(Uh (A3 w32) (fun hc=>A3<|Ui w32 hc) W))<|sd W (L8 W W<|fun hc=>A3<|G0 hc)<|sv W<|A1<|B2 ?_
 cases h
 exact A7 (.inr W) (B4 (B3 W) B8) (.refl _)
def W4 [Lp](p1:WorldLooks)(p2:Span)(v3:Spot)(x2:Int):Option (Stp Int (Sum Unit Bool)):=
  cond (decide (x2< (p1.bars.length:Int))) ((C8 p1.bars x2).bind fun v10=>(C8 p1.bodies x2).bind fun v11=>(Pq v11 p2).bind fun v12=>((cond (!v12.2) (Kc p1.eye v3 v10.front v10.rear) (some default))).bind fun v13=>cond ((!v12.2)&&v13) (some (.out (.inr false))) (some (.go (C9 (x2+1))))) (some (.out (.inl ())))
def W5 [Lp](p1:WorldLooks)(p2:Span)(v2:Spot)(x1:Int):Option (Stp Int (Sum Unit Bool)):=
  cond (decide (x1< (p1.bars.length:Int))) ((C8 p1.bars x1).bind fun v5=>(C8 p1.bodies x1).bind fun v6=>(Pq v6 p2).bind fun v7=>((cond (!v7.2) (Kc p1.eye v2 v5.front v5.rear) (some default))).bind fun v8=>cond ((!v7.2)&&v8) (some (.out (.inr false))) (some (.go (C9 (x1+1))))) (some (.out (.inl ())))
def Da [Lp](p1:WorldLooks)(p2:Span):Option Bool:=
  (C8 p1.m.Lanes p2.Lane_).bind fun v1=>(Hm v1.Curve_ p2.From).bind fun v2=>(Hm v1.Curve_ p2.To).bind fun v3=>thenS ((Ok p1.eye v2 p1.view).bind fun v4=>cond (!v4) (some (.inr false)) (thenS (loop (W5 p1 p2 v2) 0) (fun _=>(Ok p1.eye v3 p1.view).bind fun v9=>cond (!v9) (some (.inr false)) (thenS (loop (W4 p1 p2 v3) 0) (fun _=>some (.inl ())) (fun r=>some (.inr r)))) (fun r=>some (.inr r)))) (fun _=>some true) (fun r=>some r)
theorem Wv(p1 p2 r)(h:Da p1 p2=some r):PCall prog 194 [(.bp (Pi p1) 0),(.agg (J2 p2))] (bo r):=by
 refine C0 (fk func194 ntmps194 m0 (by with_unfolding_all rfl)) (nl W) ?_
 unfold Da at h
 refine B5 (s0:=⟨T [(0,(.d _)),(1,(.d _))],G []⟩) (E3 W W) ?_
 refine lr<|fun u1 _=>sm W<|sv W<|A1<|A4<|D5 W<|sv W<|sv W<|sv W<|sv W<|sv W<|sq W<|sl W G_hit W<|bs h fun v1 hv1 h=>sd W (C5 W W hv1 W)<|sv W<|sd W (C7 W hv1 W W)<|sm W<|Q4 W G_hit [(dl Q3 v1.Curve_.Pts)] W (A1<|A4<|A4<|D5 W<|sd W (A6 W G_hit W W)<|sq W<|sl W (gq W) W (bs h fun v2 hv2 h=>B0 W W A2 (Tg _ _ _ hv2) (.inl W) (sd W (A6 W G_hit W W)<|sq W<|sl W (gq W) W (bs h fun v3 hv3 h=>B0 W W A2 (Tg _ _ _ hv3) (.inl W) (sv W<|sv W<|A1<|js h fun z1 hz1 h=>D3 (fun s=> ∃(y1:Unit) (g1:Unit),z1= .inl y1∧Sb ⟨T [],G []⟩ s) ?_ ?_)))))
 refine A9<|Rr<|B1<|sv W<|A1<|A4<|Tb W<|A8<|A4<|A9<|lr<|fun u5 _=>sv W<|sm W<|Q4 W G_hit [(di v2.X),(di v2.Y)] W (A1<|A4<|A4<|D5 W<|sv W<|sv W<|sv W<|sv W<|sd W (A6 W G_hit W W)<|sv W<|sv W<|sv W<|sv W<|bs hz1 fun v4 hv4 hz1=>B0 W W A2 (AE _ _ _ _ hv4) (.inl W) (B9 (.d (bo (!v4))) W W (A1<|cc W hz1 (fun c1 hz1=> ?_)<|fun c1 hz1=> ?_)))
 refine B1<|sv W<|A1<|B2 ?_
 cases hz1
 rw [bT]at h
 cases h
 exact A7 (.inr W) (B4 (B3 W) B8) (.refl _)
 refine A8<|B1<|sv W<|sv W<|sv W<|sv W<|sd W (D0 W)<|sv W<|A1<|js hz1 fun z2 hz2 hz1=>D3 (fun s=> ∃(y2:Unit) (g2:Unit),z2= .inl y2∧Sb ⟨T [(0,(.d (.bp (Pi p1) 0))),(3,(.ptr (3,u1) 0)),(30,(.d (.agg [(i64 v2.X),(i64 v2.Y),(i64 v3.X),(i64 v3.Y)]))),(31,(di 0))],G [((3,u1),some<|.box 93 (Pj p2))]⟩ s) ?_ ?_
 refine A9<|D7 (W5 p1 p2 v2) (fun (x1:Int) (g3:Unit)=>⟨T [(0,(.d (.bp (Pi p1) 0))),(3,(.ptr (3,u1) 0)),(7,(.ptr (7,u5) 0)),(30,(.d (.agg [(i64 v2.X),(i64 v2.Y),(i64 v3.X),(i64 v3.Y)]))),(31,(di 0)),(48,(dl Bg p1.bars)),(49,(di (p1.bars.length:Int))),(50,(di x1))],G [((3,u1),some<|.box 93 (Pj p2)),((7,u5),some<|.box 104 [(di v2.X),(di v2.Y)])]⟩) 0 () _ hz2 (E3 W W) ?_
 intro x1 g3 z3 hz3 ez3
 unfold W5 at hz3
 refine B1<|sv W<|A1<|A4<|cc W hz3 (fun c2 hz3=> ?_)<|fun c2 hz3=> ?_
 refine A8<|A4<|A9<|B1<|sv W<|bs hz3 fun v5 hv5 hz3=>sd W (C5 W W hv5 W)<|sd W (C7 W hv5 W W)<|sm W<|sv W<|Q4 W G_hit (MD v5) W (A1<|A4<|D5 W<|sv W<|sv W<|sv W<|sv W<|sv W<|bs hz3 fun _ hv6 hz3=>sd W (C5 W W hv6 W)<|sd W (D1 W hv6 W)<|sd W (A6 W (gq W) W W)<|bs hz3 fun v7 hv7 hz3=>B0 W W A2 (Yn _ _ _ hv7) (.inl W) (sv W<|sv W<|sv W<|sm W<|Q4 W G_hit [(di v7.1.from_),(di v7.1.to)] W (sv W<|A1<|A4<|D5 W<|sv W<|B9 (.d (bo (!v7.2))) W W (sv W<|gt W (fun _=>W) ?_))))
 refine gt W (fun w2=>(by simp only [A3 w2];rfl)) ?_
 refine gt W (fun w3=>(by simp only [A3 w3];rfl)) ?_
 refine gt W (fun w4=>(by simp only [A3 w4];rfl)) ?_
 refine gt W (fun _=>(A6 W (gq W) W W))<|gp W (I8 W) (fun _=>W) (gt W (fun w7=>(A6 (A3 w7) (gq W) W W))<|gp W (I8 W) (fun _=>W) (gt W (fun w9=>(A6 (A3 w9) (gq W) W W))<|bs hz3 fun v8 hv8 hz3=> ?_))
 refine I9 _ (bo v8) (I8 W) (fun w10=>⟨_,[(.d (.agg [(i64 p1.eye.X),(i64 p1.eye.Y)])),(.d (.agg [(i64 v2.X),(i64 v2.Y)])),(.d (.agg [(i64 v5.front.X),(i64 v5.front.Y)])),(.d (.agg [(i64 v5.rear.X),(i64 v5.rear.Y)]))],_,_,(by simp only [A3 w10];rfl),W,A2,Vz _ _ _ _ _<|C2 w10 hv8,(.inl W)⟩) ?_
 refine sa W W W<|A1<|cc W hz3 (fun c3 hz3=> ?_)<|fun c3 hz3=> ?_
 refine B1<|sv W<|A1<|B2 ?_
 cases hz3
 obtain rfl:=ez3 _ rfl
 refine ⟨nofun,E5 ?_⟩
 rw [bT]at hz1
 cases hz1
 rw [bT]at h
 cases h
 exact A7 (.inr W) (B4 (B3 W) B8) (.refl _)
 refine A8<|D4<|C1<|sv W<|sv W<|A1<|D6 ?_
 cases hz3
 exact ⟨W,(),(E3 W W)⟩
 refine C6 W ?_
 cases hz3
 obtain rfl:=ez3 _ rfl
 refine ⟨nofun,C3 W<|T4 ?_⟩
 exact ⟨_,(),W,(E3 W W)⟩
 rintro _ ⟨y2,g2,rfl,q1⟩
 rw [bS]at hz1
 refine D4<|B5 q1<|C1<|sv W<|sv W<|A1<|Rr<|B1<|sv W<|A1<|A4<|Tb W<|A8<|A4<|A9<|lr<|fun u17 _=>sv W<|sm W<|Q4 W G_hit [(di v3.X),(di v3.Y)] W (A1<|A4<|A4<|D5 W<|sv W<|sv W<|sv W<|sv W<|sd W (A6 W G_hit W W)<|sv W<|sv W<|sv W<|sv W<|bs hz1 fun v9 hv9 hz1=>B0 W W A2 (AE _ _ _ _ hv9) (.inl W) (B9 (.d (bo (!v9))) W W (A1<|cc W hz1 (fun c4 hz1=> ?_)<|fun c4 hz1=> ?_)))
 refine B1<|sv W<|A1<|B2 ?_
 cases hz1
 rw [bT]at h
 cases h
 exact A7 (.inr W) (B4 (B3 W) B8) (.refl _)
 refine A8<|B1<|sv W<|sv W<|sv W<|sv W<|sd W (D0 W)<|sv W<|A1<|js hz1 fun z4 hz4 hz1=>D3 (fun s=> ∃(y3:Unit) (g4:Unit),z4= .inl y3∧Sb ⟨T [(0,(.d (.bp (Pi p1) 0))),(3,(.ptr (3,u1) 0)),(30,(.d (.agg [(i64 v2.X),(i64 v2.Y),(i64 v3.X),(i64 v3.Y)]))),(31,(di 1))],G [((3,u1),some<|.box 93 (Pj p2))]⟩ s) ?_ ?_
 refine A9<|D7 (W4 p1 p2 v3) (fun (x2:Int) (g5:Unit)=>⟨T [(0,(.d (.bp (Pi p1) 0))),(3,(.ptr (3,u1) 0)),(7,(.ptr (7,u17) 0)),(30,(.d (.agg [(i64 v2.X),(i64 v2.Y),(i64 v3.X),(i64 v3.Y)]))),(31,(di 1)),(48,(dl Bg p1.bars)),(49,(di (p1.bars.length:Int))),(50,(di x2))],G [((3,u1),some<|.box 93 (Pj p2)),((7,u17),some<|.box 104 [(di v3.X),(di v3.Y)])]⟩) 0 () _ hz4 (E3 W W) ?_
 intro x2 g5 z5 hz5 ez5
 unfold W4 at hz5
 refine B1<|sv W<|A1<|A4<|cc W hz5 (fun c5 hz5=> ?_)<|fun c5 hz5=> ?_
 refine A8<|A4<|A9<|B1<|sv W<|bs hz5 fun v10 hv10 hz5=>sd W (C5 W W hv10 W)<|sd W (C7 W hv10 W W)<|sm W<|sv W<|Q4 W G_hit (MD v10) W (A1<|A4<|D5 W<|sv W<|sv W<|sv W<|sv W<|sv W<|bs hz5 fun _ hv11 hz5=>sd W (C5 W W hv11 W)<|sd W (D1 W hv11 W)<|sd W (A6 W (gq W) W W)<|bs hz5 fun v12 hv12 hz5=>B0 W W A2 (Yn _ _ _ hv12) (.inl W) (sv W<|sv W<|sv W<|sm W<|Q4 W G_hit [(di v12.1.from_),(di v12.1.to)] W (sv W<|A1<|A4<|D5 W<|sv W<|B9 (.d (bo (!v12.2))) W W (sv W<|gt W (fun _=>W) ?_))))
 refine gt W (fun w12=>(by simp only [A3 w12];rfl)) ?_
 refine gt W (fun w13=>(by simp only [A3 w13];rfl)) ?_
 refine gt W (fun w14=>(by simp only [A3 w14];rfl)) ?_
 refine gt W (fun _=>(A6 W (gq W) W W))<|gp W (I8 W) (fun _=>W) (gt W (fun w17=>(A6 (A3 w17) (gq W) W W))<|gp W (I8 W) (fun _=>W) (gt W (fun w19=>(A6 (A3 w19) (gq W) W W))<|bs hz5 fun v13 hv13 hz5=> ?_))
 refine I9 _ (bo v13) (I8 W) (fun w20=>⟨_,[(.d (.agg [(i64 p1.eye.X),(i64 p1.eye.Y)])),(.d (.agg [(i64 v3.X),(i64 v3.Y)])),(.d (.agg [(i64 v10.front.X),(i64 v10.front.Y)])),(.d (.agg [(i64 v10.rear.X),(i64 v10.rear.Y)]))],_,_,(by simp only [A3 w20];rfl),W,A2,Vz _ _ _ _ _<|C2 w20 hv13,(.inl W)⟩) ?_
 refine sa W W W<|A1<|cc W hz5 (fun c6 hz5=> ?_)<|fun c6 hz5=> ?_
 refine B1<|sv W<|A1<|B2 ?_
 cases hz5
 obtain rfl:=ez5 _ rfl
 refine ⟨nofun,E5 ?_⟩
 rw [bT]at hz1
 cases hz1
 rw [bT]at h
 cases h
 exact A7 (.inr W) (B4 (B3 W) B8) (.refl _)
 refine A8<|D4<|C1<|sv W<|sv W<|A1<|D6 ?_
 cases hz5
 exact ⟨W,(),(E3 W W)⟩
 refine C6 W ?_
 cases hz5
 obtain rfl:=ez5 _ rfl
 refine ⟨nofun,C3 W<|T4 ?_⟩
 exact ⟨_,(),W,(E3 W W)⟩
 rintro _ ⟨y3,g4,rfl,q2⟩
 rw [bS]at hz1
 refine D4<|B5 q2<|C1<|sv W<|sv W<|A1<|Rr<|B1<|sv W<|A1<|A4<|Qt W<|Mx W ?_
 cases hz1
 exact T4 ⟨_,(),W,(E3 W W)⟩
 rintro _ ⟨y1,g1,rfl,q3⟩
 rw [bS]at h
 refine B5 q3<|B1<|sv W<|A1<|B2 ?_
 cases h
 exact A7 (.inr W) (B4 (B3 W) B8) (.refl _)
def Cg [Lp](y1:WorldLooks)(x2:((List Span)×Int))(v12:Int)(x3:((List Span)×Int)):Option (Stp ((List Span)×Int) (List Span)):=
  cond (decide (x3.2<v12)) ((Da y1 (Span.mk x2.2 x3.2 (He false (C9 (x3.2+1000)) v12))).bind fun v13=>cond (!v13) (some (.go (x3.1,(C9 (x3.2+1000))))) (((cond (decide ((x3.1.length:Int)>0)) (C8 x3.1 (C9 ((x3.1.length:Int) - 1))) (some default))).bind fun v14=>cond ((decide ((x3.1.length:Int)>0))&& (v14.To==x3.2)) ((C8 x3.1 (C9 ((x3.1.length:Int) - 1))).bind fun v15=>some (.go ((Qu x3.1 (C9 ((x3.1.length:Int) - 1)) (Span.mk v15.Lane_ v15.From (He false (C9 (x3.2+1000)) v12))),(C9 (x3.2+1000))))) ((Fk x3.1 [(Span.mk x2.2 x3.2 (He false (C9 (x3.2+1000)) v12))]).bind fun v16=>some (.go (v16,(C9 (x3.2+1000))))))) (some (.out x3.1))
def Tv [Lp](y1:WorldLooks)(x2:((List Span)×Int)):Option (List Span):=
  (Z1 y1.m x2.2).bind fun v12=>(loop (Cg y1 x2 v12) ([],0)).bind fun y5=>some y5
def Lg [Lp](p1:Map)(y1:WorldLooks)(x2:((List Span)×Int)):Option (Stp ((List Span)×Int) (List Span)):=
  cond (decide (x2.2< (p1.Lanes.length:Int))) ((Tv y1 x2).bind fun y4=>(Fk x2.1 y4).bind fun v17=>some (.go (v17,(C9 (x2.2+1))))) (some (.out x2.1))
def Ij [Lp](p1:Map)(p2:State)(x1:(Int× ((List (List Span))× (List WorldBar)))):Option (Stp (Int× ((List (List Span))× (List WorldBar))) ((List (List Span))× (List WorldBar))):=
  cond (decide (x1.1< (p2.Agents.length:Int))) ((C8 p2.Agents x1.1).bind fun v5=>((cond (decide (x1.1>0)) (Ce p2 x1.1) (some default))).bind fun v6=>cond ((decide (x1.1>0))&&v6) ((Cw p1 v5).bind fun v7=>(Fk x1.2.1 [v7]).bind fun v8=>(Po p1 v5.Route v5.S).bind fun v9=>(Po p1 v5.Route (C9 (v5.S - v5.Len))).bind fun v10=>(Fk x1.2.2 [(WorldBar.mk v9 v10)]).bind fun v11=>some (.go ((C9 (x1.1+1)),(v8,v11)))) (some (.go ((C9 (x1.1+1)),x1.2)))) (some (.out x1.2))
def Lh [Lp](p1:Map)(p2:State)(p3:Int):Option WorldLooks:=
  (C8 p2.Agents 0).bind fun v2=>(C8 p2.Agents 0).bind fun v3=>(Po p1 v2.Route v3.S).bind fun v4=>(loop (Ij p1 p2) (0,([],[]))).bind fun y2=>some (WorldLooks.mk p1 v4 p3 y2.1 y2.2)
def Gx [Lp](p1:Map)(p2:State)(p3:Int):Option (List Span):=
  (Oi p1 p2 p3).bind fun v1=>cond (!v1) (some []) ((Lh p1 p2 p3).bind fun y1=>(loop (Lg p1 y1) ([],0)).bind fun y3=>some y3)
theorem AF(p1 p2 p3 r)(h:Gx p1 p2 p3=some r):PCall prog 57 [(.agg (O8 p1)),(.agg (U5 p2)),(i64 p3)] (.list (List.map J2 r)):=by
 refine C0 (fk func57 ntmps57 (fun r=>if r==4 then [3]else if r==8 then [3]else []) (by with_unfolding_all rfl)) (nl W) ?_
 unfold Gx at h
 refine B5 (s0:=⟨T [(0,(.d _)),(1,(.d _)),(2,(.d _))],G []⟩) (E3 W W) ?_
 refine lr<|fun u1 _=>sm W<|sm W<|sv W<|A1<|A4<|B1<|sd W (A6 W (gq W) W W)<|sd W (A6 W G_hit W W)<|sv W<|bs h fun v1 hv1 h=>B0 W W A2 (AD _ _ _ _ hv1) (.inl W) (B9 (.d (bo (!v1))) W W (A1<|cc W h (fun c1 h=> ?_)<|fun c1 h=> ?_))
 refine B1<|sv W<|A1<|B2 ?_
 cases h
 exact A7 (.inr W) (B4 (B3 W) B8) DLe.nil
 refine A8<|B1<|sv W<|A1<|B1<|sd W (A6 W (gq W) W W)<|sd W (A6 W G_hit W W)<|sv W<|bs h fun y1 hy1 h=>Vd (fk func123 ntmps123 (fun r=>if r==6 then [1008]else if r==7 then [1021]else []) (by with_unfolding_all rfl)) (fun (g1:(Nat×Nat×Nat))=> [(3,(.ptr (3,u1) 0)),(7,(.d .nilS)),(18,(.ptr (25,g1.2.2) 0))]) (fun (g1:(Nat×Nat×Nat))=> [((3,u1),some<|.box 33 (K7 p1)),((50,g1.1),oB 90 1 Ln y1.bodies),((75,g1.2.1),oB 248 4 Bg y1.bars),((25,g1.2.2),some<|.box 246 (((Mh y1).set 8 (oS y1.bodies (50,g1.1))).set 9 (oS y1.bars (75,g1.2.1))))]) W (nl W) ?_ ?_
 unfold Lh at hy1
 refine B5 (s0:=⟨T [(0,(.d _)),(1,(.d _)),(2,(.d _))],G [((3,u1),some<|.box 33 _)]⟩) (E3 W W) ?_
 refine lr<|fun u6 hu6=>sm W<|sm W<|sv W<|A1<|A4<|Fj W fun u7 _=>sd W (A6 W (gq W) W W)<|sv W<|sd W (A6 W (gq W) W W)<|sq W<|sl W G_hit W<|bs hy1 fun _ hv2 hy1=>sd W (C5 W W hv2 W)<|sv W<|sd W (D1 W hv2 W)<|sq W<|sl W G_hit W<|bs hy1 fun _ hv3 hy1=>sd W (C5 W W hv3 W)<|sv W<|sd W (D1 W hv3 W)<|bs hy1 fun v4 hv4 hy1=>B0 W W A2 (Ym _ _ _ _ hv4) (.inl W) (sv W<|sm W<|sq W<|A1<|A4<|B1<|sq W<|sl W (gq W) W (sd W (D0 W)<|sv W<|A1<|bs hy1 fun y2 hy2 hy1=>D3 (fun s=> ∃g2:(Nat×Nat),Sb ⟨T [(7,(.ptr (25,u7) 0))],G [((25,u7),some<|.box 246 ((K7 p1)++ [(di v4.X),(di v4.Y),(di p3),(oS y2.1 (50,g2.1)),(oS y2.2 (75,g2.2))])),((3,u1),some<|.box 33 (K7 p1)),((50,g2.1),oB 90 1 Ln y2.1),((75,g2.2),oB 248 4 Bg y2.2)]⟩ s) ?_ ?_))
 refine A9<|D7 (Ij p1 p2) (fun (x1:(Int× ((List<|List Span)× (List WorldBar)))) (g3:(Nat×Nat))=>⟨T [(3,(.ptr (3,u6) 0)),(4,(.ptr (4,u6) 0)),(7,(.ptr (25,u7) 0)),(27,(dl E4 p2.Agents)),(28,(di (p2.Agents.length:Int))),(29,(di x1.1))],G [((3,u6),some<|.box 33 (K7 p1)),((4,u6),some<|.box 25 (J8 p2)),((25,u7),some<|.box 246 ((K7 p1)++ [(di v4.X),(di v4.Y),(di p3),(oS x1.2.1 (50,g3.1)),(oS x1.2.2 (75,g3.2))])),((3,u1),some<|.box 33 (K7 p1)),((50,g3.1),oB 90 1 Ln x1.2.1),((75,g3.2),oB 248 4 Bg x1.2.2)]⟩) (0,([],[])) (0,0) _ hy2 (D2 (X5 W)<|sg W<|sg W<|B6 G_hit (.of W)<|B6 (Vv 2 W<|V3 (Uf hu6 G_hit) G_hit) (.of W) (O9<|O9 trivial)) ?_
 intro x1 g3 z1 hz1 ez1
 unfold Ij at hz1
 refine B1<|sv W<|A1<|A4<|cc W hz1 (fun c2 hz1=> ?_)<|fun c2 hz1=> ?_
 refine A8<|A4<|A9<|B1<|sv W<|bs hz1 fun v5 hv5 hz1=>sd W (C5 W W hv5 W)<|sd W (C7 W hv5 W W)<|sm W<|sv W<|Q4 W G_hit (W9 v5) W (A1<|B1<|sv W<|sv W<|sv W<|gt W (fun _=>(A6 W (gq W) W W))<|gt W (fun _=>W)<|bs hz1 fun v6 hv6 hz1=> ?_)
 refine I9 _ (bo v6) (I8 W) (fun w3=>⟨_,[(.d (.agg (U5 p2))),(di x1.1)],_,_,(by simp only [A3 w3];rfl),W,A2,Fo _ _ _<|C2 w3 hv6,(.inl W)⟩) ?_
 refine sa W W W<|A1<|cc W hz1 (fun c3 hz1=> ?_)<|fun c3 hz1=> ?_
 refine A4<|Fj W fun u12 _=>sq W<|sq W<|sp W W<|sq W<|B9 (oS x1.2.1 (50,g3.1)) W (N8 W (gq W) W) (sd W (A6 W (gq W) W W)<|sd W (A6 W G_hit W W)<|bs hz1 fun v7 hv7 hz1=>B0 W W A2 (Ou _ _ _ hv7) (.inl W) (B9 (dl Ln [v7]) W W (bs hz1 fun _ hv8 hz1=>O1 Ln (50,g3.1) x1.2.1 v7 [] _ (M0<|fun _=>W) W (gq W) hv8 (sq W<|sp W W<|Q4 W (gq W) ((K7 p1)++ [(di v4.X),(di v4.Y),(di p3),(.sl (50,u12)),(oS x1.2.2 (75,g3.2))]) W (A1<|Fj W fun u13 _=>sq W<|sq W<|sp W W<|sq W<|B9 (oS x1.2.2 (75,g3.2)) W (N8 W G_hit W) (sd W (A6 W (gq W) W W)<|sq W<|sl W (gq W) W (sq W<|sl W (gq W) W (bs hz1 fun v9 hv9 hz1=>B0 W W A2 (Ym _ _ _ _ hv9) (.inl W) (sd W (A6 W (gq W) W W)<|sq W<|sl W (gq W) W (sq W<|sl W (gq W) W (sq W<|sl W (gq W) W (sv W<|bs hz1 fun v10 hv10 hz1=>B0 W W A2 (Ym _ _ _ _ hv10) (.inl W) (sv W<|B9 (dl Bg [(WorldBar.mk v9 v10)]) W W (bs hz1 fun _ hv11 hz1=>O1 Bg (75,g3.2) x1.2.2 (WorldBar.mk v9 v10) [] _ (M0<|fun _=>W) W (gq W) hv11 (sq W<|sp W W<|Q4 W (gq W) ((K7 p1)++ [(di v4.X),(di v4.Y),(di p3),(.sl (50,u12)),(.sl (75,u13))]) W (A1<|D4<|C1<|sv W<|sv W<|A1<|D6 ?_))))))))))))))))
 cases hz1
 exact ⟨W,(u12,u13),(D2 (X5 W)<|sg W<|sg W<|B6 G_hit (.box (cv<|cv<|cv<|cv<|cv<|cv<|cv<|cv<|.cons (.of (S5<|T0 hv8).symm) (.cons (.of (S5<|T0 hv11).symm) .nil)))<|B6 (Vv 8 W<|V3 (Uf hu6 G_hit)<|gq W) (.of W) (L9 (gq W)<|L9 (gq W) trivial))⟩
 refine A8<|D4<|C1<|sv W<|sv W<|A1<|D6 ?_
 cases hz1
 exact ⟨W,(g3.1,g3.2),(D2 (X5 W)<|sg W<|sg W<|sg W<|B6 (Vv 2 W<|V3 (Uf hu6 G_hit)<|gq W) (.of W) (B7 (gq W)<|B7 (gq W) trivial))⟩
 refine C6 W ?_
 cases hz1
 obtain rfl:=ez1 _ rfl
 refine ⟨nofun,C3 W<|T4 ?_⟩
 exact ⟨(g3.1,g3.2),(D2 ⟨.of W,trivial⟩<|sg W<|B6 (V3 (Uf hu6 G_hit)<|gq W) (.of W) (B7 (gq W)<|B7 (gq W) trivial))⟩
 rintro _ ⟨g2,q1⟩
 refine B5 q1<|B1<|sq W<|sp W W<|A1<|B2 ?_
 cases hy1
 exact CX (.inr W) (LZ<|B3 W) (g2.1,g2.2,u7) (X5 W) (sg W<|B7 (gq W)<|B7 (gq W)<|B6 G_hit (.of W) trivial)
 intro g1
 intro u17 hu17
 refine sp W W<|A1<|A4<|B1<|sq W<|sl W G_hit W<|sd W (D0 W)<|sv W<|A1<|bs h fun y3 hy3 h=>D3 (fun s=> ∃g4:Nat,Sb ⟨T [(7,(oS y3 (29,g4)))],G [((29,g4),oB 93 3 J2 y3)]⟩ s) ?_ ?_
 refine A9<|D7 (Lg p1 y1) (fun (x2:((List Span)×Int)) (g5:Nat)=>⟨T [(7,(oS x2.1 (29,g5))),(8,(.ptr (25,g1.2.2) 0)),(21,(di (p1.Lanes.length:Int))),(22,(di x2.2))],G [((25,g1.2.2),some<|.box 246 (((Mh y1).set 8 (oS y1.bodies (50,g1.1))).set 9 (oS y1.bars (75,g1.2.1)))),((50,g1.1),oB 90 1 Ln y1.bodies),((75,g1.2.1),oB 248 4 Bg y1.bars),((29,g5),oB 93 3 J2 x2.1)]⟩) ([],0) 0 _ hy3 (D2 (X5 W)<|sg W<|B7 (gq W)<|B7 (gq W)<|O9 trivial) ?_
 intro x2 g5 z2 hz2 ez2
 unfold Lg at hz2
 refine B1<|sv W<|A1<|A4<|cc W hz2 (fun c4 hz2=> ?_)<|fun c4 hz2=> ?_
 refine A8<|A4<|A9<|B1<|sv W<|sv W<|A1<|C1<|B9 (oS x2.1 (29,g5)) W W (sq W<|sv W<|bs hz2 fun y4 hy4 hz2=>Vd (fk func124 ntmps124 (fun r=>if r==11 then [1002]else []) (by with_unfolding_all rfl)) (fun (g6:Nat)=> [(8,(.ptr (25,g1.2.2) 0)),(21,(di (p1.Lanes.length:Int))),(22,(di x2.2)),(25,(oS x2.1 (29,g5))),(28,(oS y4 (56,g6)))]) (fun (g6:Nat)=> [((25,g1.2.2),some<|.box 246 (((Mh y1).set 8 (oS y1.bodies (50,g1.1))).set 9 (oS y1.bars (75,g1.2.1)))),((29,g5),oB 93 3 J2 x2.1),((50,g1.1),oB 90 1 Ln y1.bodies),((75,g1.2.1),oB 248 4 Bg y1.bars),((56,g6),oB 93 3 J2 y4)]) W (nl W) ?_ ?_)
 unfold Tv at hy4
 refine B5 (s0:=⟨T [(0,(.ptr (25,g1.2.2) 0)),(1,(di x2.2))],G [((25,g1.2.2),some<|.box 246 (((Mh y1).set 8 (oS y1.bodies (50,g1.1))).set 9 (oS y1.bars (75,g1.2.1)))),((50,g1.1),oB 90 1 Ln y1.bodies),((75,g1.2.1),oB 248 4 Bg y1.bars),((29,g5),oB 93 3 J2 x2.1)]⟩) (D2 (X5 W)<|B6 G_hit (.of W)<|B7 (gq W)<|B7 (gq W)<|B7 (gq W) trivial) ?_
 refine B1<|sv W<|A1<|B1<|sv W<|A1<|B1<|sq W<|sp W W<|sq W<|sd W (A6 W G_hit W W)<|sv W<|bs hy4 fun v12 hv12 hy4=>B0 W W A2 (Ls _ _ _ hv12) (.inl W) (sv W<|A1<|A4<|B1<|sv W<|A1<|bs hy4 fun y5 hy5 hy4=>D3 (fun s=> ∃g7:Nat,Sb ⟨T [(5,(oS y5 (56,g7)))],G [((25,g1.2.2),some<|.box 246 (((Mh y1).set 8 (oS y1.bodies (50,g1.1))).set 9 (oS y1.bars (75,g1.2.1)))),((29,g5),oB 93 3 J2 x2.1),((50,g1.1),oB 90 1 Ln y1.bodies),((75,g1.2.1),oB 248 4 Bg y1.bars),((56,g7),oB 93 3 J2 y5)]⟩ s) ?_ ?_)
 refine A9<|D7 (Cg y1 x2 v12) (fun (x3:((List Span)×Int)) (g8:Nat)=>⟨T [(0,(.ptr (25,g1.2.2) 0)),(1,(di x2.2)),(5,(oS x3.1 (56,g8))),(6,(di v12)),(7,(di x3.2))],G [((25,g1.2.2),some<|.box 246 (((Mh y1).set 8 (oS y1.bodies (50,g1.1))).set 9 (oS y1.bars (75,g1.2.1)))),((29,g5),oB 93 3 J2 x2.1),((50,g1.1),oB 90 1 Ln y1.bodies),((75,g1.2.1),oB 248 4 Bg y1.bars),((56,g8),oB 93 3 J2 x3.1)]⟩) ([],0) 0 _ hy5 (D2 (X5 W)<|B6 G_hit (.of W)<|B7 (gq W)<|B7 (gq W)<|B7 (gq W)<|O9 trivial) ?_
 intro x3 g8 z3 hz3 ez3
 unfold Cg at hz3
 refine A4<|B1<|sv W<|sv W<|sv W<|A1<|cc W hz3 (fun c5 hz3=> ?_)<|fun c5 hz3=> ?_
 refine A8<|A4<|A9<|B1<|sv W<|sv W<|sv W<|sv W<|sv W<|sv W<|sv W<|sm W<|Q4 W G_hit [(di x2.2),(di x3.2),(di<|He false (C9 (x3.2+1000)) v12)] W (A1<|A4<|B1<|sq W<|sd W (A6 W G_hit W W)<|bs hz3 fun v13 hv13 hz3=>B0 W (E0 (Ab (gq W)<|rD<|rD<|rD<|rD<|rD<|rD<|rD<|rD<|E0 (U4<|gq W)<|E0 (U4<|gq W) F0)<|rD F0) (.cons (DLe.bp<|ca W<|ca W<|ca W<|ca W<|ca W<|ca W<|ca W<|ca W<|.cons ⟨U3,W⟩ (.cons ⟨U3,W⟩ .nil)) A2) (Wv _ _ _ hv13) (.inr W) (B9 (.d (bo (!v13))) W W (A1<|cc W hz3 (fun c6 hz3=> ?_)<|fun c6 hz3=> ?_)))
 refine Mx W<|C1<|sv W<|sv W<|sv W<|A1<|D6 ?_
 cases hz3
 exact ⟨W,g8,(D2 (X5 W)<|sg W<|B7 (gq W)<|B7 (gq W)<|B7 (gq W)<|B7 (gq W) trivial)⟩
 refine A8<|B1<|B9 (oS x3.1 (56,g8)) W W (sd W (aT (f:=J2) W (gq W))<|sv W<|A1<|B1<|sv W<|sv W<|sv W<|M5 _ (oS x3.1 (56,g8)) W (I8 W) (fun _=>W) (gt W (fun _=>W)<|gt W (vb W W W)<|bs hz3 fun _ hv14 hz3=>M5 _ (.aptr _ _ _ _) W (I8 W) (fun w7=>(Xu (A3 w7) (A3 w7) (gq W) (C2 w7 hv14))) ?_))
 refine M5 _ (.aptr _ _ _ _) W (I8 W) (fun w8=>(by simp only [A3 w8];rfl)) ?_
 refine gt W (fun w9=>(Vb (A3 w9) (My (gq W)<|Fe<|C2 w9 hv14) (C2 w9 hv14) W))<|gt W (fun _=>W)<|gt W (fun w11=>(L4 (A3 w11) (A3 w11) W))<|sa W W W<|A1<|cc W hz3 (fun c7 hz3=> ?_)<|fun c7 hz3=> ?_
 refine C1<|B9 (oS x3.1 (56,g8)) W W (sv W<|sv W<|sq W<|sl W G_hit W<|bs hz3 fun v15 hv15 hz3=>B9 (.aptr _ _ _ _) W (Xu W W (gq W) hv15) (B9 (.aptr _ _ _ _) W W ?_))
 rw [S5 (Fe hv15)]
 refine Pg J2 _ _ _ ((C9 ((x3.1.length:Int) - 1))) _ (Span.mk v15.Lane_ v15.From<|He false (C9 (x3.2+1000)) v12) [(i64<|He false (C9 (x3.2+1000)) v12)] W W W (My (gq W)<|Fe hv15) hv15 (nl W) W (A1<|D4<|C1<|sv W<|sv W<|sv W<|A1<|D6 ?_)
 cases hz3
 exact ⟨W,g8,(D2 ⟨.of W, .of W,(.of (S5<|Zh<|Fe hv15).symm), .of W, .of W,trivial⟩<|sg W<|B7 (gq W)<|B7 (gq W)<|B7 (gq W)<|L9 G_hit trivial)⟩
 refine Be fun u34 _=>B9 (oS x3.1 (56,g8)) W W (sd W (A6 W G_hit W W)<|B9 (dl J2 [(Span.mk x2.2 x3.2<|He false (C9 (x3.2+1000)) v12)]) W W (bs hz3 fun _ hv16 hz3=>O1 J2 (56,g8) x3.1 (Span.mk x2.2 x3.2<|He false (C9 (x3.2+1000)) v12) [] _ (M0<|fun _=>W) W (gq W) hv16 (ss W<|A1<|D4<|C1<|sv W<|sv W<|sv W<|A1<|D6 ?_)))
 cases hz3
 exact ⟨W,u34,(D2 ⟨.of W, .of W,(.of (S5<|T0 hv16).symm), .of W, .of W,trivial⟩<|sg W<|B7 (gq W)<|B7 (gq W)<|B7 (gq W)<|L9 G_hit trivial)⟩
 refine C6 W ?_
 cases hz3
 obtain rfl:=ez3 _ rfl
 refine ⟨nofun,C3 W<|T4 ?_⟩
 exact ⟨g8,(D2 ⟨.of W,trivial⟩<|B6 G_hit (.of W)<|B7 (gq W)<|B7 (gq W)<|B7 (gq W)<|B7 (gq W) trivial)⟩
 rintro _ ⟨g7,q2⟩
 refine B5 q2<|B1<|B9 (oS y5 (56,g7)) W W (B9 (oS y5 (56,g7)) W W (A1<|B2 ?_))
 obtain rfl:=(lC hy4)
 exact CX (.inr W) (LZ<|B3 W) g7 (X5 W) (B6 G_hit (.of W)<|B7 (gq W)<|B7 (gq W)<|B7 (gq W)<|B7 (gq W) trivial)
 intro g6
 intro u37 hu37
 refine bs hz2 fun v17 hv17 hz2=>XD J2 (29,g5) x2.1 y4 _ (fG<|gq W) W (gq W) hv17 (TR hu37) (B9 (oS v17 (29,u37)) W W (A1<|D4<|C1<|sv W<|sv W<|A1<|D6 ?_))
 cases hz2
 exact ⟨W,u37,(D2 (X5 W)<|sg W<|B7 (gq W)<|B7 (gq W)<|B7 G_hit trivial)⟩
 refine C6 W ?_
 cases hz2
 obtain rfl:=ez2 _ rfl
 refine ⟨nofun,C3 W<|T4 ?_⟩
 exact ⟨g5,(D2 ⟨.of W,trivial⟩<|B7 (gq W) trivial)⟩
 rintro _ ⟨g4,q3⟩
 refine B5 q3<|B1<|B9 (oS y3 (29,g4)) W W (B9 (oS y3 (29,g4)) W W (A1<|B2 ?_))
 cases h
 exact A7 (.inr W) (B4 (B3 W)<|U4 G_hit) U3
def By (p1:Int)(p2:Int)(p3:Int):Option Bool:=
  some ((decide (p1≥p2))&& (decide (p1≤p3)))
theorem Dw(p1 p2 p3 r)(h:By p1 p2 p3=some r):PCall prog 162 [(i64 p1),(i64 p2),(i64 p3)] (bo r):=by
 refine C0 (fk func162 ntmps162 m0 (by with_unfolding_all rfl)) (nl W) ?_
 unfold By at h
 refine B5 (s0:=⟨T [(0,(.d _)),(1,(.d _)),(2,(.d _))],G []⟩) (E3 W W) ?_
 refine B1<|sv W<|A1<|B1<|sv W<|sv W<|sv W<|sv W<|gt W (fun _=>W)<|gt W (fun _=>W)<|gt W (fun w3=>(L4 (A3 w3) (A3 w3) W))<|sa W W W<|sv W<|A1<|B2 ?_
 cases h
 exact A7 (.inr W) (B4 (B3 W) B8) (.refl _)
def W0 (p1:Spot):Option Bool:=
  some ((((decide (p1.X≥(-16777216)))&& (decide (p1.X≤16777216)))&& (decide (p1.Y≥(-16777216))))&& (decide (p1.Y≤16777216)))
theorem X2(p1 r)(h:W0 p1=some r):PCall prog 234 [(.agg [(i64 p1.X),(i64 p1.Y)])] (bo r):=by
 refine C0 (fk func234 ntmps234 m0 (by with_unfolding_all rfl)) (nl W) ?_
 unfold W0 at h
 refine B5 (s0:=⟨T [(0,(.d _))],G []⟩) (E3 W W) ?_
 refine B1<|sm W<|sv W<|A1<|B1<|sq W<|sl W G_hit W<|sv W<|sv W<|gp W (I8 W) (fun _=>W) (gt W (vl W G_hit W)<|gt W (vb W W W)<|sa W W W<|sv W<|gp W (I8 W) (fun _=>W) (gt W (vl W G_hit W)<|gt W (vb W W W)<|sa W W W<|sv W<|gp W (I8 W) (fun _=>W) (gt W (vl W G_hit W)<|gt W (vb W W W)<|sa W W W<|sv W<|A1<|B2 ?_)))
 cases h
 exact A7 (.inr W) (B4 (B3 W) B8) (.refl _)
end
end Go.Abs.World
