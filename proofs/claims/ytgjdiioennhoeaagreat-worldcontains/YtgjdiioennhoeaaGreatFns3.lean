/-
  The functions, part 3.
-/
import Derived.Test.YtgjdiioennhoeaaGreatFns2
set_option maxRecDepth 20000
set_option maxHeartbeats 4000000
set_option linter.unusedVariables false
namespace Go.Abs.World
noncomputable section
open Go Go.Abs Go.Proofs Tryz
attribute [local irreducible] K9 Cv Cb
def N9 [Lp](p1:Map)(x1:Int):Option (Stp Int (Sum Unit Int)):=
  cond (decide (x1< ([148,149,150,151,152,153].length:Int))) ((C3 [148,149,150,151,152,153] x1).bind fun v1=>(S3 v1 (RoadsCheck.mk p1)).bind fun v2=>cond (v2 !=0) (some (.out (.inr v2))) (some (.go (D9 (x1+1))))) (some (.out (.inl ())))
def Be [Lp](p1:Map):Option Int:=
  thenS (loop (N9 p1) 0) (fun _=>some 0) (fun r=>some r)
theorem Qi(p1 r)(h:Be p1=some r):PCall prog 71 [(.agg (P6 p1))] (i64 r):=by
 refine C2 (fk func71 ntmps71 (fun r=>if r==1 then [1000]else []) (by with_unfolding_all rfl)) (nl W) ?_
 unfold Be at h
 refine B4 (s0:=⟨T [(0,(.d _))],G []⟩) (F0 W W) ?_
 refine lr<|fun u1 _=>sm W<|sv W<|A1<|A5<|B0<|B8 (dl kH [148,149,150,151,152,153]) W W (sd W (D3 W)<|sv W<|A1<|js h fun z1 hz1 h=>D6 (fun s=> ∃(y1:Unit) (g1:Unit),z1= .inl y1∧Sb ⟨T [],G []⟩ s) ?_ ?_)
 refine A7<|E1 (N9 p1) (fun (x1:Int) (g2:Unit)=>⟨T [(1,(.ptr (1,u1) 0)),(6,(dl kH [148,149,150,151,152,153])),(7,(di ([148,149,150,151,152,153].length:Int))),(8,(di x1))],G [((1,u1),some<|.box 33 (L4 p1))]⟩) 0 () _ hz1 (F0 W W) ?_
 intro x1 g2 z2 hz2 ez2
 unfold N9 at hz2
 refine B0<|sv W<|A1<|A5<|cc W hz2 (fun c1 hz2=> ?_)<|fun c1 hz2=> ?_
 refine A8<|A5<|A7<|B0<|bs hz2 fun _ hv1 hz2=>sd W (C4 W W hv1 W)<|sd W (C9 W hv1 W)<|sv W<|A1<|B0<|sv W<|sd W (B2 W G_hit W W)<|sv W<|bs hz2 fun _ hv2 hz2=>A9 W W A3 (Oc _ _ _ hv2) (.inl W) (sv W<|A1<|B0<|sv W<|sv W<|A1<|cc W hz2 (fun c2 hz2=> ?_)<|fun c2 hz2=> ?_)
 refine B0<|sv W<|sv W<|A1<|B1 ?_
 cases hz2
 obtain rfl:=ez2 _ rfl
 refine ⟨nofun,F2 ?_⟩
 rw [bX]at h
 cases h
 exact A6 (.inr W) (B6 (B3 W) C0) (.refl _)
 refine A8<|E0<|B9<|sv W<|sv W<|A1<|E2 ?_
 cases hz2
 exact ⟨W,(),(F0 W W)⟩
 refine C7 W ?_
 cases hz2
 obtain rfl:=ez2 _ rfl
 refine ⟨nofun,C5 W<|U1 ?_⟩
 exact ⟨_,(),W,(F0 W W)⟩
 rintro _ ⟨y1,g1,rfl,q1⟩
 rw [bW]at h
 refine B4 q1<|B0<|sv W<|A1<|B1 ?_
 cases h
 exact A6 (.inr W) (B6 (B3 W) C0) (.refl _)
def X8 (p1:(List Int))(p2:Int)(x1:Int):Option (Stp Int (Sum Unit Int)):=
  cond (decide (x1< (p1.length:Int))) ((C3 p1 x1).bind fun v1=>cond (p2==v1) (some (.out (.inr x1))) (some (.go (D9 (x1+1))))) (some (.out (.inl ())))
def T0 [Lp](p1:(List Int))(p2:Int):Option Int:=
  thenS (loop (X8 p1 p2) 0) (fun _=>some (-1)) (fun r=>some r)
theorem La(p1 p2 r)(h:T0 p1 p2=some r):PCall prog 244 [(.list (List.map A4 p1)),(i64 p2)] (i64 r):=by
 refine C2 (fk func244 ntmps244 m0 (by with_unfolding_all rfl)) (nl W) ?_
 unfold T0 at h
 refine B4 (s0:=⟨T [(0,(.d _)),(1,(.d _))],G []⟩) (F0 W W) ?_
 refine B0<|sv W<|A1<|A5<|B0<|sv W<|sd W (D3 W)<|sv W<|A1<|js h fun z1 hz1 h=>D6 (fun s=> ∃(y1:Unit) (g1:Unit),z1= .inl y1∧Sb ⟨T [],G []⟩ s) ?_ ?_
 refine A7<|E1 (X8 p1 p2) (fun (x1:Int) (g2:Unit)=>⟨T [(0,(dl A4 p1)),(1,(di p2)),(7,(di (p1.length:Int))),(8,(di x1))],G []⟩) 0 () _ hz1 (F0 W W) ?_
 intro x1 g2 z2 hz2 ez2
 unfold X8 at hz2
 refine B0<|sv W<|A1<|A5<|cc W hz2 (fun c1 hz2=> ?_)<|fun c1 hz2=> ?_
 refine A8<|A5<|A7<|B0<|sv W<|sv W<|A1<|B0<|sv W<|sv W<|sv W<|bs hz2 fun _ hv1 hz2=>sd W (C4 W W hv1 W)<|sd W (C9 W hv1 W)<|sv W<|A1<|cc W hz2 (fun c2 hz2=> ?_)<|fun c2 hz2=> ?_
 refine B0<|sv W<|sv W<|A1<|B1 ?_
 cases hz2
 obtain rfl:=ez2 _ rfl
 refine ⟨nofun,F2 ?_⟩
 rw [bX]at h
 cases h
 exact A6 (.inr W) (B6 (B3 W) C0) (.refl _)
 refine A8<|E0<|B9<|sv W<|sv W<|A1<|E2 ?_
 cases hz2
 exact ⟨W,(),(F0 W W)⟩
 refine C7 W ?_
 cases hz2
 obtain rfl:=ez2 _ rfl
 refine ⟨nofun,C5 W<|U1 ?_⟩
 exact ⟨_,(),W,(F0 W W)⟩
 rintro _ ⟨y1,g1,rfl,q1⟩
 rw [bW]at h
 refine B4 q1<|B0<|sv W<|A1<|B1 ?_
 cases h
 exact A6 (.inr W) (B6 (B3 W) C0) (.refl _)
def M7 [Lp](p1:(List Int))(p2:Int):Option Bool:=
  (T0 p1 p2).bind fun v1=>some (decide (v1≥0))
theorem Cz(p1 p2 r)(h:M7 p1 p2=some r):PCall prog 215 [(.list (List.map A4 p1)),(i64 p2)] (bo r):=by
 refine C2 (fk func215 ntmps215 m0 (by with_unfolding_all rfl)) (nl W) ?_
 unfold M7 at h
 refine B4 (s0:=⟨T [(0,(.d _)),(1,(.d _))],G []⟩) (F0 W W) ?_
 refine B0<|sv W<|A1<|B0<|sv W<|sv W<|bs h fun _ hv1 h=>A9 W W A3 (La _ _ _ hv1) (.inl W) (sv W<|sv W<|A1<|B1 ?_)
 cases h
 exact A6 (.inr W) (B6 (B3 W) C0) (.refl _)
def Aa [Lp](p1:Map)(p2:Int)(x1:((List Int)×Int)):Option (Stp ((List Int)×Int) (List Int)):=
  cond (decide (x1.2< (p1.Lanes.length:Int))) ((C3 p1.Lanes x1.2).bind fun v1=>(M7 v1.Next p2).bind fun v2=>cond v2 ((Au x1.1 [x1.2]).bind fun v3=>some (.go (v3,(D9 (x1.2+1))))) (some (.go (x1.1,(D9 (x1.2+1)))))) (some (.out x1.1))
def Ee [Lp](p1:Map)(p2:Int):Option (List Int):=
  (loop (Aa p1 p2) ([],0)).bind fun y1=>some y1
theorem EY(p1 p2 r)(h:Ee p1 p2=some r):PCall prog 214 [(.agg (P6 p1)),(i64 p2)] (.list (List.map A4 r)):=by
 refine C2 (fk func214 ntmps214 (fun r=>if r==6 then [1002]else []) (by with_unfolding_all rfl)) (nl W) ?_
 unfold Ee at h
 refine B4 (s0:=⟨T [(0,(.d _)),(1,(.d _))],G []⟩) (F0 W W) ?_
 refine B0<|sm W<|sv W<|A1<|B0<|sv W<|A1<|A5<|B0<|sq W<|sl W G_hit W<|sd W (D3 W)<|sv W<|A1<|bs h fun y1 hy1 h=>D6 (fun s=> ∃g1:Nat,Sb ⟨T [(5,(oS y1 (23,g1)))],G [((23,g1),oB 3 1 A4 y1)]⟩ s) ?_ ?_
 refine A7<|E1 (Aa p1 p2) (fun (x1:((List Int)×Int)) (g2:Nat)=>⟨T [(1,(di p2)),(5,(oS x1.1 (23,g2))),(9,(dl Ev p1.Lanes)),(10,(di (p1.Lanes.length:Int))),(11,(di x1.2))],G [((23,g2),oB 3 1 A4 x1.1)]⟩) ([],0) 0 _ hy1 (D8 (Y0 W)<|R6 trivial) ?_
 intro x1 g2 z1 hz1 ez1
 unfold Aa at hz1
 refine B0<|sv W<|A1<|A5<|cc W hz1 (fun c1 hz1=> ?_)<|fun c1 hz1=> ?_
 refine A8<|A5<|A7<|B0<|sv W<|bs hz1 fun v1 hv1 hz1=>sd W (C4 W W hv1 W)<|sd W (D1 W hv1 W W)<|sm W<|sv W<|S5 W G_hit (BK v1) W (A1<|B0<|sq W<|sl W G_hit W<|sv W<|bs hz1 fun _ hv2 hz1=>A9 W W A3 (Cz _ _ _ hv2) (.inl W) (A1<|cc W hz1 (fun c2 hz1=> ?_)<|fun c2 hz1=> ?_))
 refine As fun u7 _=>B8 (oS x1.1 (23,g2)) W W (sv W<|B8 (dl A4 [x1.2]) W W (bs hz1 fun _ hv3 hz1=>P1 A4 (23,g2) x1.1 x1.2 [] _ (L3<|fun _=>W) W (gq W) hv3 (ss W<|A1<|E0<|B9<|sv W<|sv W<|A1<|E2 ?_)))
 cases hz1
 exact ⟨W,u7,(D8 ⟨.of W,(.of (T9<|U2 hv3).symm), .of W, .of W, .of W,trivial⟩<|N0 G_hit trivial)⟩
 refine A8<|E0<|B9<|sv W<|sv W<|A1<|E2 ?_
 cases hz1
 exact ⟨W,g2,(D8 (Y0 W)<|B7 (gq W) trivial)⟩
 refine C7 W ?_
 cases hz1
 obtain rfl:=ez1 _ rfl
 refine ⟨nofun,C5 W<|U1 ?_⟩
 exact ⟨g2,(D8 ⟨.of W,trivial⟩<|B7 G_hit trivial)⟩
 rintro _ ⟨g1,q1⟩
 refine B4 q1<|B0<|B8 (oS y1 (23,g1)) W W (B8 (oS y1 (23,g1)) W W (A1<|B1 ?_))
 cases h
 exact A6 (.inr W) (B6 (B3 W)<|S9 G_hit) S8
def P5 [Lp](p1:Map)(v7:List Int)(x1:(Int×Int)):Option (Stp (Int×Int) (Sum Unit Int)):=
  cond (decide (x1.2< (v7.length:Int))) ((C3 v7 x1.2).bind fun v8=>(C3 p1.Lanes x1.1).bind fun v9=>(M7 v9.Next v8).bind fun v10=>cond (!v10) (some (.out (.inr 13))) (some (.go (v8,(D9 (x1.2+1)))))) (some (.out (.inl ())))
def V9 [Lp](p1:Map)(p2:(List Int)):Option Int:=
  (Be p1).bind fun v1=>cond (v1 !=0) (some v1) (((cond (!(((p2.length:Int)==0)||(decide ((p2.length:Int)>8)))) (C3 p2 0) (some default))).bind fun v2=>((cond (!((((p2.length:Int)==0)||(decide ((p2.length:Int)>8)))||(decide (v2<0)))) (C3 p2 0) (some default))).bind fun v3=>((cond (!(((((p2.length:Int)==0)||(decide ((p2.length:Int)>8)))||(decide (v2<0)))||(decide (v3≥(p1.Lanes.length:Int))))) (C3 p2 0) (some default))).bind fun v4=>((cond (!(((((p2.length:Int)==0)||(decide ((p2.length:Int)>8)))||(decide (v2<0)))||(decide (v3≥(p1.Lanes.length:Int))))) (Ee p1 v4) (some default))).bind fun v5=>cond ((((((p2.length:Int)==0)||(decide ((p2.length:Int)>8)))||(decide (v2<0)))||(decide (v3≥(p1.Lanes.length:Int))))||(decide ((v5.length:Int)>0))) (some 13) ((C3 p2 0).bind fun v6=>(UU p2 1 (p2.length:Int)).bind fun v7=>thenS (loop (P5 p1 v7) (v6,0)) (fun _=>some 0) (fun r=>some r)))
theorem Ou(p1 p2 r)(h:V9 p1 p2=some r):PCall prog 154 [(.agg (P6 p1)),(.list (List.map A4 p2))] (i64 r):=by
 refine C2 (fk func154 ntmps154 m0 (by with_unfolding_all rfl)) (nl W) ?_
 unfold V9 at h
 refine B4 (s0:=⟨T [(0,(.d _)),(1,(.d _))],G []⟩) (F0 W W) ?_
 refine lr<|fun u1 _=>sm W<|sv W<|A1<|A5<|B0<|sd W (B2 W G_hit W W)<|bs h fun _ hv1 h=>A9 W W A3 (Qi _ _ hv1) (.inl W) (sv W<|A1<|B0<|sv W<|sv W<|A1<|cc W h (fun c1 h=> ?_)<|fun c1 h=> ?_)
 refine B0<|sv W<|sv W<|A1<|B1 ?_
 cases h
 exact A6 (.inr W) (B6 (B3 W) C0) (.refl _)
 refine A8<|A5<|A5<|E8 W<|sv W<|sd W (D3 W)<|sv W<|sv W<|gf W (fun _=>W)<|gf W (fun w2=>(D3<|A2 w2))<|gf W (vb W W W)<|sd W (O5 W W<|fun hc=>A2<|J6 hc)<|sv W<|gf W (fun _=>W)<|bs h fun _ hv2 h=>gf W (fun w5=>(C4 (A2 w5) W (C1 w5 hv2) W))<|gf W (fun w6=>(C9 (A2 w6) (C1 w6 hv2) W))<|gf W (vb W W W)<|sd W (O5 W W<|fun hc=>A2<|J6 hc)<|sv W<|gf W (fun _=>W)<|bs h fun _ hv3 h=>gf W (fun w9=>(C4 (A2 w9) W (C1 w9 hv3) W))<|gf W (fun w10=>(C9 (A2 w10) (C1 w10 hv3) W))<|gp W (K6 W) (fun _=>W) (gf W (vl W G_hit W)<|gf W (fun w13=>(D3<|A2 w13))<|gf W (fun w14=>(M4 (A2 w14) (A2 w14) W))<|sd W (O5 W W<|fun hc=>A2<|J6 hc)<|sv W<|gf W (fun _=>(B2 W G_hit W W))<|gf W (fun _=>W)<|bs h fun v4 hv4 h=>gf W (fun w17=>(C4 (A2 w17) W (C1 w17 hv4) W))<|gf W (fun w18=>(C9 (A2 w18) (C1 w18 hv4) W))<|bs h fun v5 hv5 h=> ?_)
 refine N4 _ (.list (List.map A4 v5)) (K6 W) (fun w19=>⟨_,[(.d (.agg (P6 p1))),(di v4)],_,_,(by simp only [A2 w19];rfl),W,A3,EY _ _ _<|C1 w19 hv5,(.inl W)⟩) ?_
 refine gf W (fun w20=>(D3<|A2 w20))<|gf W (vb W W W)<|sd W (O5 W W<|fun hc=>A2<|J6 hc)<|A1<|cc W h (fun c2 h=> ?_)<|fun c2 h=> ?_
 refine B0<|sv W<|A1<|B1 ?_
 cases h
 exact A6 (.inr W) (B6 (B3 W) C0) (.refl _)
 refine A8<|B0<|sv W<|bs h fun v6 hv6 h=>sd W (C4 W W hv6 W)<|sd W (C9 W hv6 W)<|sv W<|A1<|A5<|B0<|sv W<|bs h fun v7 hv7 h=>sd W (iQ W (fun _=>W) (jU W) gH hv7)<|sd W (D3 W)<|sv W<|A1<|js h fun z1 hz1 h=>D6 (fun s=> ∃(y1:Unit) (g1:Unit),z1= .inl y1∧Sb ⟨T [],G []⟩ s) ?_ ?_
 refine A7<|E1 (P5 p1 v7) (fun (x1:(Int×Int)) (g2:Unit)=>⟨T [(2,(.ptr (2,u1) 0)),(6,(di x1.1)),(50,(dl A4 v7)),(51,(di (v7.length:Int))),(52,(di x1.2))],G [((2,u1),some<|.box 33 (L4 p1))]⟩) (v6,0) () _ hz1 (F0 W W) ?_
 intro x1 g2 z2 hz2 ez2
 unfold P5 at hz2
 refine B0<|sv W<|A1<|A5<|cc W hz2 (fun c3 hz2=> ?_)<|fun c3 hz2=> ?_
 refine A8<|A5<|A7<|B0<|bs hz2 fun _ hv8 hz2=>sd W (C4 W W hv8 W)<|sd W (C9 W hv8 W)<|sv W<|A1<|A5<|B0<|sq W<|sl W G_hit W<|sv W<|bs hz2 fun _ hv9 hz2=>sd W (C4 W W hv9 W)<|sv W<|sd W (C9 W hv9 W)<|sv W<|bs hz2 fun v10 hv10 hz2=>A9 W W A3 (Cz _ _ _ hv10) (.inl W) (B8 (.d (bo (!v10))) W W (A1<|cc W hz2 (fun c4 hz2=> ?_)<|fun c4 hz2=> ?_))
 refine B0<|sv W<|A1<|B1 ?_
 cases hz2
 obtain rfl:=ez2 _ rfl
 refine ⟨nofun,F2 ?_⟩
 rw [bX]at h
 cases h
 exact A6 (.inr W) (B6 (B3 W) C0) (.refl _)
 refine A8<|B9<|sv W<|sv W<|A1<|E0<|B9<|sv W<|sv W<|A1<|E2 ?_
 cases hz2
 exact ⟨W,(),(F0 W W)⟩
 refine C7 W ?_
 cases hz2
 obtain rfl:=ez2 _ rfl
 refine ⟨nofun,C5 W<|U1 ?_⟩
 exact ⟨_,(),W,(F0 W W)⟩
 rintro _ ⟨y1,g1,rfl,q1⟩
 rw [bW]at h
 refine B4 q1<|B0<|sv W<|A1<|B1 ?_
 cases h
 exact A6 (.inr W) (B6 (B3 W) C0) (.refl _)
def V7 [Lp](p1:Map)(p2:(List Int))(x1:(Int× ((List Int)×Int))):Option (Stp (Int× ((List Int)×Int)) ((List Int)×Int)):=
  cond (decide (x1.1< (p2.length:Int))) ((C3 p2 x1.1).bind fun v2=>(Au x1.2.1 [x1.2.2]).bind fun v3=>(Bu p1 v2).bind fun v4=>some (.go ((D9 (x1.1+1)),(v3,(D9 (x1.2.2+v4)))))) (some (.out x1.2))
def Y9 [Lp](p1:Map)(p2:(List Int)):Option RoadsWay:=
  (V9 p1 p2).bind fun v1=>cond (v1 !=0) (some (RoadsWay.mk (Map.mk 0 [] [] [] []) [] [] 0)) ((loop (V7 p1 p2) (0,([],0))).bind fun y1=>some (RoadsWay.mk p1 p2 y1.1 y1.2))
theorem Kn(p1 p2 r)(h:Y9 p1 p2=some r):PCall prog 205 [(.agg (P6 p1)),(.list (List.map A4 p2))] (.agg (VI r)):=by
 refine C2 (fk func205 ntmps205 (fun r=>if r==7 then [1004]else []) (by with_unfolding_all rfl)) (nl W) ?_
 unfold Y9 at h
 refine B4 (s0:=⟨T [(0,(.d _)),(1,(.d _))],G []⟩) (F0 W W) ?_
 refine lr<|fun u1 _=>sm W<|sm W<|A1<|A5<|B0<|sd W (B2 W (gq W) W W)<|sv W<|bs h fun _ hv1 h=>A9 W W A3 (Ou _ _ _ hv1) (.inl W) (sv W<|A1<|cc W h (fun c1 h=> ?_)<|fun c1 h=> ?_)
 refine B0<|sv W<|S5 W G_hit [(di 0),(.d .nilS),(.d .nilS),(.d .nilS),(.d .nilS),(.d .nilS),(.d .nilS),(di 0)] W (A1<|B1 ?_)
 cases h
 exact A6 (.inr W) (B6 (H5 W G_hit (nl W) W) C0) (.agg (ca W<|.cons ⟨DLe.nil,W⟩ (.cons ⟨DLe.nil,W⟩ (.cons ⟨DLe.nil,W⟩ (.cons ⟨DLe.nil,W⟩ (.cons ⟨DLe.nil,W⟩ (.cons ⟨DLe.nil,W⟩ (cz W))))))))
 refine A8<|lr<|fun u4 _=>sd W (B2 W (gq W) W W)<|sv W<|sv W<|sm W<|S5 W G_hit ((L4 p1)++ [(dl A4 p2),(.d .nilS),(di 0)]) W (A1<|A5<|B0<|sv W<|sd W (D3 W)<|sv W<|A1<|bs h fun y1 hy1 h=>D6 (fun s=> ∃g1:Nat,Sb ⟨T [(4,(.ptr (4,u1) 0)),(5,(.ptr (5,u4) 0))],G [((4,u1),some<|.box 260 [(di 0),(.d .nilS),(.d .nilS),(.d .nilS),(.d .nilS),(.d .nilS),(.d .nilS),(di 0)]),((5,u4),some<|.box 260 ((L4 p1)++ [(dl A4 p2),(oS y1.1 (27,g1)),(di y1.2)])),((27,g1),oB 2 1 A4 y1.1)]⟩ s) ?_ ?_)
 refine A7<|E1 (V7 p1 p2) (fun (x1:(Int× ((List Int)×Int))) (g2:Nat)=>⟨T [(2,(.ptr (2,u1) 0)),(4,(.ptr (4,u1) 0)),(5,(.ptr (5,u4) 0)),(16,(dl A4 p2)),(17,(di (p2.length:Int))),(18,(di x1.1))],G [((2,u1),some<|.box 33 (L4 p1)),((4,u1),some<|.box 260 [(di 0),(.d .nilS),(.d .nilS),(.d .nilS),(.d .nilS),(.d .nilS),(.d .nilS),(di 0)]),((5,u4),some<|.box 260 ((L4 p1)++ [(dl A4 p2),(oS x1.2.1 (27,g2)),(di x1.2.2)])),((27,g2),oB 2 1 A4 x1.2.1)]⟩) (0,([],0)) 0 _ hy1 (D8 (Y0 W)<|sg W<|sg W<|B5 G_hit (.of W)<|R6 trivial) ?_
 intro x1 g2 z1 hz1 ez1
 unfold V7 at hz1
 refine B0<|sv W<|A1<|A5<|cc W hz1 (fun c2 hz1=> ?_)<|fun c2 hz1=> ?_
 refine A8<|A5<|A7<|B0<|bs hz1 fun _ hv2 hz1=>sd W (C4 W W hv2 W)<|sd W (C9 W hv2 W)<|sv W<|A1<|lr<|fun u8 _=>sq W<|B8 (oS x1.2.1 (27,g2)) W (P8 W (gq W) W) (sq W<|sl W (gq W) W (B8 (dl A4 [x1.2.2]) W W (bs hz1 fun _ hv3 hz1=>P1 A4 (27,g2) x1.2.1 x1.2.2 [] _ (L3<|fun _=>W) W (gq W) hv3 (sq W<|S5 W (gq W) ((L4 p1)++ [(dl A4 p2),(.sl (27,u8)),(di x1.2.2)]) W (A1<|E8 W<|sq W<|sl W G_hit W<|sd W (B2 W (gq W) W W)<|sv W<|bs hz1 fun v4 hv4 hz1=>A9 W W A3 (Nk _ _ _ hv4) (.inl W) (sv W<|sq W<|S5 W G_hit ((L4 p1)++ [(dl A4 p2),(.sl (27,u8)),(di<|D9 (x1.2.2+v4))]) W (A1<|E0<|B9<|sv W<|sv W<|A1<|E2 ?_)))))))
 cases hz1
 exact ⟨W,u8,(D8 (Y0 W)<|sg W<|sg W<|B5 G_hit (.box (cv<|cv<|cv<|cv<|cv<|cv<|.cons (.of (T9<|U2 hv3).symm) cw))<|N0 (gq W) trivial)⟩
 refine C7 W ?_
 cases hz1
 obtain rfl:=ez1 _ rfl
 refine ⟨nofun,C5 W<|U1 ?_⟩
 exact ⟨g2,(D8 (Y0 W)<|sg W<|sg W<|B7 (gq W) trivial)⟩
 rintro _ ⟨g1,q1⟩
 refine B4 q1<|B0<|B8 (W2 ((L4 p1)++ [(dl A4 p2),(oS y1.1 (27,g1)),(di y1.2)])) W (B2 W (gq W) W W) (Ie _ _ _ _ _ (V8 _) W W G_hit (nl W) ((L4 p1)++ [(dl A4 p2),(oS y1.1 (27,g1)),(di y1.2)]) W (A1<|B1 ?_))
 cases h
 exact A6 (.inr W) (B6 (H5 W G_hit (nl W) W)<|Lk<|rD<|rD<|rD<|rD<|rD<|rD<|E4 (S9<|gq W)<|rD F9) (.agg (ca W<|ca W<|ca W<|ca W<|ca W<|ca W<|.cons ⟨S8,W⟩ (cz W)))
def U6 [Lp](p1:Map)(p2:(List Int)):Option Int:=
  (Y9 p1 p2).bind fun v1=>some v1.length
theorem Od(p1 p2 r)(h:U6 p1 p2=some r):PCall prog 155 [(.agg (P6 p1)),(.list (List.map A4 p2))] (i64 r):=by
 refine C2 (fk func155 ntmps155 m0 (by with_unfolding_all rfl)) (nl W) ?_
 unfold U6 at h
 refine B4 (s0:=⟨T [(0,(.d _)),(1,(.d _))],G []⟩) (F0 W W) ?_
 refine B0<|sm W<|sv W<|A1<|B0<|sd W (B2 W G_hit W W)<|sv W<|bs h fun _ hv1 h=>A9 W W A3 (Kn _ _ _ hv1) (.inl W) (sv W<|sv W<|A1<|B1 ?_)
 cases h
 exact A6 (.inr W) (B6 (B3 W) C0) (.refl _)
def Ax [Lp](p1:Map)(p2:(List Int)):Option (List Int):=
  (Y9 p1 p2).bind fun v1=>some v1.starts
theorem Ol(p1 p2 r)(h:Ax p1 p2=some r):PCall prog 139 [(.agg (P6 p1)),(.list (List.map A4 p2))] (.list (List.map A4 r)):=by
 refine C2 (fk func139 ntmps139 m0 (by with_unfolding_all rfl)) (nl W) ?_
 unfold Ax at h
 refine B4 (s0:=⟨T [(0,(.d _)),(1,(.d _))],G []⟩) (F0 W W) ?_
 refine B0<|sm W<|sv W<|A1<|B0<|sd W (B2 W G_hit W W)<|sv W<|bs h fun _ hv1 h=>A9 W W A3 (Kn _ _ _ hv1) (.inl W) (sv W<|sv W<|A1<|B1 ?_)
 cases h
 exact A6 (.inr W) (B6 (B3 W) C0) (.refl _)
def Hp (p2:Agent)(v1:(List Int))(x1:Int):Option (Stp Int Int):=
  (C3 v1 x1).bind fun v2=>cond (decide (v2>p2.S)) (some (.go (D9 (x1 - 1)))) (some (.out x1))
def Gn [Lp](p1:Map)(p2:Agent):Option (Int×Int):=
  (Ax p1 p2.Route).bind fun v1=>(loop (Hp p2 v1) (D9 ((v1.length:Int) - 1))).bind fun y1=>(C3 p2.Route y1).bind fun v3=>(C3 v1 y1).bind fun v4=>some (v3,(D9 (p2.S - v4)))
theorem Yh(p1 p2 r)(h:Gn p1 p2=some r):PCall prog 156 [(.agg (P6 p1)),(.agg (C6 p2))] (.tup [(i64 r.1),(i64 r.2)]):=by
 refine C2 (fk func156 ntmps156 m0 (by with_unfolding_all rfl)) (nl W) ?_
 unfold Gn at h
 refine B4 (s0:=⟨T [(0,(.d _)),(1,(.d _))],G []⟩) (F0 W W) ?_
 refine lr<|fun u1 _=>sm W<|sm W<|sv W<|sv W<|A1<|B0<|sd W (B2 W (gq W) W W)<|sq W<|sl W G_hit W<|bs h fun v1 hv1 h=>A9 W W A3 (Ol _ _ _ hv1) (.inl W) (sv W<|A1<|B0<|sv W<|sd W (D3 W)<|sv W<|sv W<|A1<|A5<|bs h fun y1 hy1 h=>D6 (fun s=> ∃g1:Unit,Sb ⟨T [(3,(.ptr (3,u1) 0)),(6,(dl A4 v1)),(7,(di y1))],G [((3,u1),some<|.box 45 (Q8 p2))]⟩ s) ?_ ?_)
 refine A7<|E1 (Hp p2 v1) (fun (x1:Int) (g2:Unit)=>⟨T [(3,(.ptr (3,u1) 0)),(6,(dl A4 v1)),(7,(di x1))],G [((3,u1),some<|.box 45 (Q8 p2))]⟩) (D9 ((v1.length:Int) - 1)) () _ hy1 (F0 W W) ?_
 intro x1 g2 z1 hz1 ez1
 unfold Hp at hz1
 refine A5<|A5<|E8 W<|sv W<|sv W<|bs hz1 fun _ hv2 hz1=>sd W (C4 W W hv2 W)<|sd W (C9 W hv2 W)<|sq W<|sl W G_hit W<|sv W<|A1<|cc W hz1 (fun c1 hz1=> ?_)<|fun c1 hz1=> ?_
 refine A8<|A7<|B9<|sv W<|sv W<|sv W<|A1<|E0<|E2 ?_
 cases hz1
 exact ⟨W,(),(F0 W W)⟩
 refine C7 W ?_
 cases hz1
 obtain rfl:=ez1 _ rfl
 refine ⟨nofun,C5 W<|U1 ?_⟩
 exact ⟨(),(F0 W W)⟩
 rintro _ ⟨g1,q1⟩
 refine B4 q1<|A5<|E8 W<|sq W<|sl W G_hit W<|sv W<|bs h fun _ hv3 h=>sd W (C4 W W hv3 W)<|sd W (C9 W hv3 W)<|sq W<|sl W G_hit W<|sv W<|sv W<|bs h fun _ hv4 h=>sd W (C4 W W hv4 W)<|sd W (C9 W hv4 W)<|sv W<|sv W<|sv W<|A1<|B1 ?_
 cases h
 exact A6 (.inr W) (Jt (B3 W) (B3 W) C0 C0) (.refl _)
def Bv (p1:Agent):Option WorldSpan:=
  some (WorldSpan.mk (D9 (p1.S - p1.Len)) p1.S)
theorem Hq(p1 r)(h:Bv p1=some r):PCall prog 140 [(.agg (C6 p1))] (.agg [(i64 r.from_),(i64 r.to)]):=by
 refine C2 (fk func140 ntmps140 m0 (by with_unfolding_all rfl)) (nl W) ?_
 unfold Bv at h
 refine B4 (s0:=⟨T [(0,(.d _))],G []⟩) (F0 W W) ?_
 refine B0<|sm W<|sn W W<|A1<|B0<|sq W<|sl W (gq W) W (sq W<|sl W (gq W) W (sv W<|sq W<|sl W (gq W) W (sv W<|S5 W G_hit [(di<|D9 (p1.S - p1.Len)),(di p1.S)] W (A1<|B1 ?_))))
 cases h
 exact A6 (.inr W) (B6 (H5 W G_hit (nl W) W) C0) (.refl _)
def Gp [Lp](p1:Map)(p2:Agent):Option Bool:=
  (Bv p2).bind fun v1=>(U6 p1 p2.Route).bind fun v2=>some (decide (v1.from_>v2))
theorem Yi(p1 p2 r)(h:Gp p1 p2=some r):PCall prog 158 [(.agg (P6 p1)),(.agg (C6 p2))] (bo r):=by
 refine C2 (fk func158 ntmps158 m0 (by with_unfolding_all rfl)) (nl W) ?_
 unfold Gp at h
 refine B4 (s0:=⟨T [(0,(.d _)),(1,(.d _))],G []⟩) (F0 W W) ?_
 refine B0<|sm W<|sn W W<|sv W<|A1<|A5<|E8 W<|sd W (B2 W G_hit W W)<|bs h fun _ hv1 h=>A9 W W A3 (Hq _ _ hv1) (.inl W) (sv W<|sd W (B2 W (gq W) W W)<|sq W<|sl W G_hit W<|bs h fun _ hv2 h=>A9 W W A3 (Od _ _ _ hv2) (.inl W) (sv W<|sv W<|A1<|B1 ?_))
 cases h
 exact A6 (.inr W) (B6 (B3 W) C0) (.refl _)
def X9 [Lp](p1:Map)(p2:State)(p3:Int):Option Int:=
  (C3 p2.Agents p3).bind fun v1=>(V9 p1 v1.Route).bind fun v2=>cond (v2 !=0) (some 13) (((cond (!(((((decide (v1.Len<300))||(decide (v1.Len>20000)))||(decide (v1.Begin<0)))||(decide (v1.Begin>1099511627776)))||(decide (v1.S<0)))) (U6 p1 v1.Route) (some default))).bind fun v3=>cond ((((((decide (v1.Len<300))||(decide (v1.Len>20000)))||(decide (v1.Begin<0)))||(decide (v1.Begin>1099511627776)))||(decide (v1.S<0)))||(decide (v1.S>(D9 ((D9 (v3+v1.Len))+2000))))) (some 2) ((Gn p1 v1).bind fun v4=>(C3 p1.Lanes v4.1).bind fun v5=>(Ea v5.Kind).bind fun v6=>cond ((decide (v1.V<0))||(decide (v1.V>v6.1))) (some 2) ((Gp p1 v1).bind fun v7=>cond ((!(v1.Gone==v7))||(((decide (v1.Begin>p2.Tick))&& (v1.S !=0))||((p3==0)&& (v1.Begin !=0)))) (some 10) (some 0))))
theorem Xs(p1 p2 p3 r)(h:X9 p1 p2 p3=some r):PCall prog 72 [(.agg (P6 p1)),(.agg (Y1 p2)),(i64 p3)] (i64 r):=by
 refine C2 (fk func72 ntmps72 m0 (by with_unfolding_all rfl)) (nl W) ?_
 unfold X9 at h
 refine B4 (s0:=⟨T [(0,(.d _)),(1,(.d _)),(2,(.d _))],G []⟩) (F0 W W) ?_
 refine B0<|sm W<|sn W W<|sv W<|A1<|B0<|sq W<|sl W G_hit W<|sv W<|bs h fun v1 hv1 h=>sd W (C4 W W hv1 W)<|sd W (D1 W hv1 W W)<|sm W<|S5 W G_hit (Q8 v1) W (A1<|A5<|B0<|sd W (B2 W (gq W) W W)<|sq W<|sl W G_hit W<|bs h fun _ hv2 h=>A9 W W A3 (Ou _ _ _ hv2) (.inl W) (sv W<|A1<|cc W h (fun c1 h=> ?_)<|fun c1 h=> ?_))
 refine B0<|sv W<|A1<|B1 ?_
 cases h
 exact A6 (.inr W) (B6 (B3 W) C0) (.refl _)
 refine A8<|A5<|A5<|E8 W<|sq W<|sl W G_hit W<|sv W<|sv W<|gp W (K6 W) (fun _=>W) (gf W (vl W G_hit W)<|gf W (vb W W W)<|sd W (O5 W W<|fun hc=>A2<|J6 hc)<|sv W<|gp W (K6 W) (fun _=>W) (gf W (vl W G_hit W)<|gf W (vb W W W)<|sd W (O5 W W<|fun hc=>A2<|J6 hc)<|sv W<|gp W (K6 W) (fun _=>W) (gf W (vl W G_hit W)<|gf W (vb W W W)<|sd W (O5 W W<|fun hc=>A2<|J6 hc)<|sv W<|gp W (K6 W) (fun _=>W) (gf W (vl W G_hit W)<|gf W (vb W W W)<|sd W (O5 W W<|fun hc=>A2<|J6 hc)<|sv W<|gp W (K6 W) (fun _=>W) (gf W (vl W G_hit W)<|gf W (fun _=>(B2 W (gq W) W W))<|gp W (K6 W) (fun _=>W) (gf W (vl W G_hit W)<|bs h fun v3 hv3 h=> ?_))))))
 refine N4 _ (i64 v3) (K6 W) (fun w18=>⟨_,[(.d (.agg (P6 p1))),(dl A4 v1.Route)],_,_,(by simp only [A2 w18];rfl),W,A3,Od _ _ _<|C1 w18 hv3,(.inl W)⟩) ?_
 refine gp W (K6 W) (fun _=>W) (gf W (vl W G_hit W)<|gf W (fun w21=>(M4 (A2 w21) (A2 w21) W))<|gf W (vb W W W)<|gf W (fun w23=>(M4 (A2 w23) (A2 w23) W))<|sd W (O5 W W<|fun hc=>A2<|J6 hc)<|A1<|cc W h (fun c2 h=> ?_)<|fun c2 h=> ?_)
 refine B0<|sv W<|A1<|B1 ?_
 cases h
 exact A6 (.inr W) (B6 (B3 W) C0) (.refl _)
 refine A8<|B0<|sd W (B2 W (gq W) W W)<|sd W (B2 W G_hit W W)<|bs h fun _ hv4 h=>A9 W W A3 (Yh _ _ _ hv4) (.inl W) (sv W<|sv W<|sv W<|sv W<|sv W<|A1<|A5<|B0<|sq W<|sl W (gq W) W (sv W<|bs h fun _ hv5 h=>sd W (C4 W W hv5 W)<|sv W<|sd W (C9 W hv5 W)<|bs h fun _ hv6 h=>A9 W W A3 (Km _ _ hv6) (.inl W) (sv W<|sv W<|sv W<|sv W<|sv W<|sv W<|sv W<|A1<|B0<|sq W<|sl W G_hit W<|sv W<|sv W<|gp W (K6 W) (fun _=>W) (gf W (vl W G_hit W)<|gf W (fun _=>W)<|gf W (fun w27=>(M4 (A2 w27) (A2 w27) W))<|sd W (O5 W W<|fun hc=>A2<|J6 hc)<|A1<|cc W h (fun c3 h=> ?_)<|fun c3 h=> ?_))))
 refine B0<|sv W<|A1<|B1 ?_
 cases h
 exact A6 (.inr W) (B6 (B3 W) C0) (.refl _)
 refine A8<|B0<|sq W<|sl W G_hit W<|sq W<|sl W (gq W) W (sv W<|sv W<|gp W (K3 W) (fun _=>W) (gt W (vl W G_hit W)<|gt W (vb W W W)<|sa W W W<|sv W<|gf W (fun _=>W)<|gf W (vb W W W)<|gf W (fun w33=>(MD<|A2 w33))<|M5 _ (.ptr _ _) W (U0 W) (fun _=>W) (gv W (U0 W) (vl W G_hit W) (gv W (U0 W) (vb W W W) (gf W (fun w37=>(BB (A2 w37) (fun hc=>A2<|BC w37 hc) W))<|sd W (O5 W W<|fun hc=>A2<|J6 hc)<|sv W<|A1<|A5<|A5<|E8 W<|sq W<|sl W G_hit W<|sd W (B2 W (gq W) W W)<|sd W (B2 W G_hit W W)<|bs h fun v7 hv7 h=>A9 W W A3 (Yi _ _ _ hv7) (.inl W) (B8 (.d (bo (!(v1.Gone==v7)))) W W (sv W<|gf W (fun _=>W)<|sd W (O5 W W<|fun hc=>A2<|J6 hc)<|A1<|cc W h (fun c4 h=> ?_)<|fun c4 h=> ?_)))))))
 refine B0<|sv W<|A1<|B1 ?_
 cases h
 exact A6 (.inr W) (B6 (B3 W) C0) (.refl _)
 refine A8<|B0<|sv W<|A1<|B1 ?_
 cases h
 exact A6 (.inr W) (B6 (B3 W) C0) (.refl _)
def Hr (p1:Int):Option Bool:=
  some (p1 !=p1)
theorem Sv(p1 r)(h:Hr p1=some r):PCall prog 216 [(i64 p1)] (bo r):=by
 refine C2 (fk func216 ntmps216 m0 (by with_unfolding_all rfl)) (nl W) ?_
 unfold Hr at h
 refine B4 (s0:=⟨T [(0,(.d _))],G []⟩) (F0 W W) ?_
 refine B0<|sv W<|A1<|B0<|sv W<|sv W<|sv W<|sv W<|A1<|B1 ?_
 cases h
 exact A6 (.inr W) (B6 (B3 W) C0) (.refl _)
def Ab (p1:Int)(p2:Int):Option Int:=
  (Hr p1).bind fun v1=>(Hr p2).bind fun v2=>cond v1 (cond v2 (some 0) (some (-1))) (cond v2 (some 1) (cond (decide (p1<p2)) (some (-1)) (cond (decide (p1>p2)) (some 1) (some 0))))
theorem Gq(p1 p2 r)(h:Ab p1 p2=some r):PCall prog 160 [(i64 p1),(i64 p2)] (i64 r):=by
 refine C2 (fk func160 ntmps160 m0 (by with_unfolding_all rfl)) (nl W) ?_
 unfold Ab at h
 refine B4 (s0:=⟨T [(0,(.d _)),(1,(.d _))],G []⟩) (F0 W W) ?_
 refine B0<|sv W<|A1<|B0<|sv W<|bs h fun _ hv1 h=>A9 W W A3 (Sv _ _ hv1) (.inl W) (sv W<|A1<|B0<|sv W<|bs h fun _ hv2 h=>A9 W W A3 (Sv _ _ hv2) (.inl W) (sv W<|A1<|A5<|B0<|sv W<|A1<|cc W h (fun c1 h=> ?_)<|fun c1 h=> ?_))
 refine A5<|B0<|sv W<|A1<|cc W h (fun c2 h=> ?_)<|fun c2 h=> ?_
 refine B0<|sv W<|A1<|B1 ?_
 cases h
 exact A6 (.inr W) (B6 (B3 W) C0) (.refl _)
 refine A8<|B0<|sv W<|A1<|B1 ?_
 cases h
 exact A6 (.inr W) (B6 (B3 W) C0) (.refl _)
 refine A8<|A5<|B0<|sv W<|A1<|cc W h (fun c3 h=> ?_)<|fun c3 h=> ?_
 refine B0<|sv W<|A1<|B1 ?_
 cases h
 exact A6 (.inr W) (B6 (B3 W) C0) (.refl _)
 refine A8<|A5<|B0<|sv W<|sv W<|sv W<|A1<|cc W h (fun c4 h=> ?_)<|fun c4 h=> ?_
 refine B0<|sv W<|A1<|B1 ?_
 cases h
 exact A6 (.inr W) (B6 (B3 W) C0) (.refl _)
 refine A8<|A5<|B0<|sv W<|sv W<|sv W<|A1<|cc W h (fun c5 h=> ?_)<|fun c5 h=> ?_
 refine B0<|sv W<|A1<|B1 ?_
 cases h
 exact A6 (.inr W) (B6 (B3 W) C0) (.refl _)
 refine A8<|B0<|sv W<|A1<|B1 ?_
 cases h
 exact A6 (.inr W) (B6 (B3 W) C0) (.refl _)
def Y3 (p1:(List Int))(x1:Int):Option (Stp Int (Sum Unit Int)):=
  cond (decide (x1< (p1.length:Int))) ((C3 p1 x1).bind fun v1=>cond (v1 !=0) (some (.out (.inr v1))) (some (.go (D9 (x1+1))))) (some (.out (.inl ())))
def Bw [Lp](p1:(List Int)):Option Int:=
  thenS (loop (Y3 p1) 0) (fun _=>some 0) (fun r=>some r)
theorem Sf(p1 r)(h:Bw p1=some r):PCall prog 159 [(.list (List.map A4 p1))] (i64 r):=by
 refine C2 (fk func159 ntmps159 m0 (by with_unfolding_all rfl)) (nl W) ?_
 unfold Bw at h
 refine B4 (s0:=⟨T [(0,(.d _))],G []⟩) (F0 W W) ?_
 refine B0<|sv W<|A1<|B0<|sv W<|A1<|A5<|B0<|sv W<|sd W (D3 W)<|sv W<|A1<|js h fun z1 hz1 h=>D6 (fun s=> ∃(y1:Unit) (g1:Unit),z1= .inl y1∧Sb ⟨T [(3,(di 0))],G []⟩ s) ?_ ?_
 refine A7<|E1 (Y3 p1) (fun (x1:Int) (g2:Unit)=>⟨T [(3,(di 0)),(6,(dl A4 p1)),(7,(di (p1.length:Int))),(8,(di x1))],G []⟩) 0 () _ hz1 (F0 W W) ?_
 intro x1 g2 z2 hz2 ez2
 unfold Y3 at hz2
 refine B0<|sv W<|A1<|A5<|cc W hz2 (fun c1 hz2=> ?_)<|fun c1 hz2=> ?_
 refine A8<|A5<|A7<|B0<|bs hz2 fun _ hv1 hz2=>sd W (C4 W W hv1 W)<|sd W (C9 W hv1 W)<|sv W<|A1<|B0<|sv W<|sv W<|sv W<|A1<|cc W hz2 (fun c2 hz2=> ?_)<|fun c2 hz2=> ?_
 refine B0<|sv W<|sv W<|A1<|B1 ?_
 cases hz2
 obtain rfl:=ez2 _ rfl
 refine ⟨nofun,F2 ?_⟩
 rw [bX]at h
 cases h
 exact A6 (.inr W) (B6 (B3 W) C0) (.refl _)
 refine A8<|E0<|B9<|sv W<|sv W<|A1<|E2 ?_
 cases hz2
 exact ⟨W,(),(F0 W W)⟩
 refine C7 W ?_
 cases hz2
 obtain rfl:=ez2 _ rfl
 refine ⟨nofun,C5 W<|U1 ?_⟩
 exact ⟨_,(),W,(F0 W W)⟩
 rintro _ ⟨y1,g1,rfl,q1⟩
 rw [bW]at h
 refine B4 q1<|B0<|sv W<|sv W<|A1<|B1 ?_
 cases h
 exact A6 (.inr W) (B6 (B3 W) C0) (.refl _)
def Ck [Lp](p1:Stay)(p2:Stay):Option Int:=
  (Ab p1.Agent_ p2.Agent_).bind fun v1=>(Ab p1.Zone_ p2.Zone_).bind fun v2=>(Bw [v1,v2]).bind fun v3=>some v3
theorem Qj(p1 p2 r)(h:Ck p1 p2=some r):PCall prog 73 [(.agg (I7 p1)),(.agg (I7 p2))] (i64 r):=by
 refine C2 (fk func73 ntmps73 (fun r=>if r==1 then [1010]else []) (by with_unfolding_all rfl)) (nl W) ?_
 unfold Ck at h
 refine B4 (s0:=⟨T [(0,(.d _)),(1,(.d _))],G []⟩) (F0 W W) ?_
 refine B0<|sm W<|sn W W<|sv W<|A1<|A5<|E8 W<|sq W<|sl W (gq W) W (sq W<|sl W G_hit W<|bs h fun v1 hv1 h=>A9 W W A3 (Gq _ _ _ hv1) (.inl W) (sq W<|sl W (gq W) W (sq W<|sl W G_hit W<|bs h fun v2 hv2 h=>A9 W W A3 (Gq _ _ _ hv2) (.inl W) (B8 (dl A4 [v1,v2]) W W (bs h fun _ hv3 h=>A9 W W A3 (Sf _ _ hv3) (.inl W) (sv W<|A1<|B1 ?_))))))
 cases h
 exact A6 (.inr W) (B6 (B3 W) C0) (.refl _)
def Ko (p1:Stay)(p2:State):Option Bool:=
  some ((((decide (p1.Since<0))||(decide (p1.Since>p2.Tick)))||(decide (p1.Rank<0)))||(decide (p1.Rank>100)))
theorem Zo(p1 p2 r)(h:Ko p1 p2=some r):PCall prog 75 [(.agg (I7 p1)),(.bp (Y1 p2) 0)] (bo r):=by
 refine C2 (fk func75 ntmps75 m0 (by with_unfolding_all rfl)) (nl W) ?_
 unfold Ko at h
 refine B4 (s0:=⟨T [(0,(.d _)),(1,(.d _))],G []⟩) (F0 W W) ?_
 refine B0<|sm W<|sv W<|A1<|B0<|sq W<|sl W G_hit W<|sv W<|sv W<|gp W (K6 W) (fun _=>W) (gf W (vl W G_hit W)<|gf W (fun _=>W) ?_)
 refine gf W (fun w4=>(by simp only [A2 w4];rfl)) ?_
 refine gf W (fun w5=>(M4 (A2 w5) (A2 w5) W))<|sd W (O5 W W<|fun hc=>A2<|J6 hc)<|sv W<|gp W (K6 W) (fun _=>W) (gf W (vl W G_hit W)<|gf W (vb W W W)<|sd W (O5 W W<|fun hc=>A2<|J6 hc)<|sv W<|gp W (K6 W) (fun _=>W) (gf W (vl W G_hit W)<|gf W (vb W W W)<|sd W (O5 W W<|fun hc=>A2<|J6 hc)<|sv W<|A1<|B1 ?_))
 cases h
 exact A6 (.inr W) (B6 (B3 W) C0) (.refl _)
def L6 (p1:(List Stay))(p2:State)(x1:Int):Option (Stp Int (Sum Unit Int)):=
  cond (decide (x1< (p1.length:Int))) ((C3 p1 x1).bind fun v1=>(Ko v1 p2).bind fun v2=>cond v2 (some (.out (.inr x1))) (some (.go (D9 (x1+1))))) (some (.out (.inl ())))
def J0 [Lp](p1:(List Stay))(p2:State):Option Int:=
  thenS (loop (L6 p1 p2) 0) (fun _=>some (-1)) (fun r=>some r)
theorem Fr(p1 p2 r)(h:J0 p1 p2=some r):PCall prog 161 [(.list (List.map I7 p1)),(.fn (.func 75) [] [(.bp (Y1 p2) 0)])] (i64 r):=by
 refine C2 (fk func161 ntmps161 m0 (by with_unfolding_all rfl)) (nl W) ?_
 unfold J0 at h
 refine B4 (s0:=⟨T [(0,(.d _)),(1,(.d _))],G []⟩) (F0 W W) ?_
 refine B0<|sv W<|A1<|A5<|B0<|sv W<|sd W (D3 W)<|sv W<|A1<|js h fun z1 hz1 h=>D6 (fun s=> ∃(y1:Unit) (g1:Unit),z1= .inl y1∧Sb ⟨T [],G []⟩ s) ?_ ?_
 refine A7<|E1 (L6 p1 p2) (fun (x1:Int) (g2:Unit)=>⟨T [(0,(dl I7 p1)),(1,(.d (.fn (.func 75) [] [(.bp (Y1 p2) 0)]))),(7,(di (p1.length:Int))),(8,(di x1))],G []⟩) 0 () _ hz1 (F0 W W) ?_
 intro x1 g2 z2 hz2 ez2
 unfold L6 at hz2
 refine B0<|sv W<|A1<|A5<|cc W hz2 (fun c1 hz2=> ?_)<|fun c1 hz2=> ?_
 refine A8<|A5<|A7<|B0<|sv W<|sv W<|A1<|B0<|sv W<|sv W<|sv W<|bs hz2 fun _ hv1 hz2=>sd W (C4 W W hv1 W)<|sd W (D1 W hv1 W W)<|bs hz2 fun _ hv2 hz2=>A9 W W A3 (Zo _ _ _ hv2) (.inl W) (A1<|cc W hz2 (fun c2 hz2=> ?_)<|fun c2 hz2=> ?_)
 refine B0<|sv W<|sv W<|A1<|B1 ?_
 cases hz2
 obtain rfl:=ez2 _ rfl
 refine ⟨nofun,F2 ?_⟩
 rw [bX]at h
 cases h
 exact A6 (.inr W) (B6 (B3 W) C0) (.refl _)
 refine A8<|E0<|B9<|sv W<|sv W<|A1<|E2 ?_
 cases hz2
 exact ⟨W,(),(F0 W W)⟩
 refine C7 W ?_
 cases hz2
 obtain rfl:=ez2 _ rfl
 refine ⟨nofun,C5 W<|U1 ?_⟩
 exact ⟨_,(),W,(F0 W W)⟩
 rintro _ ⟨y1,g1,rfl,q1⟩
 rw [bW]at h
 refine B4 q1<|B0<|sv W<|A1<|B1 ?_
 cases h
 exact A6 (.inr W) (B6 (B3 W) C0) (.refl _)
def F6 [Lp](p1:(List Stay))(p2:State):Option Bool:=
  (J0 p1 p2).bind fun v1=>some (decide (v1≥0))
theorem Ef(p1 p2 r)(h:F6 p1 p2=some r):PCall prog 74 [(.list (List.map I7 p1)),(.fn (.func 75) [] [(.bp (Y1 p2) 0)])] (bo r):=by
 refine C2 (fk func74 ntmps74 m0 (by with_unfolding_all rfl)) (nl W) ?_
 unfold F6 at h
 refine B4 (s0:=⟨T [(0,(.d _)),(1,(.d _))],G []⟩) (F0 W W) ?_
 refine B0<|sv W<|A1<|B0<|sv W<|sv W<|bs h fun _ hv1 h=>A9 W W A3 (Fr _ _ _ hv1) (.inl W) (sv W<|sv W<|A1<|B1 ?_)
 cases h
 exact A6 (.inr W) (B6 (B3 W) C0) (.refl _)
def Z0 [Lp](p1:Map)(p2:State)(x2:Int):Option (Stp Int (Sum Unit Int)):=
  cond (decide (x2< (p2.In.length:Int))) ((C3 p2.In x2).bind fun v3=>((cond ((!((((decide (v3.Agent_<0))||(decide (v3.Agent_≥(p2.Agents.length:Int))))||(decide (v3.Zone_<0)))||(decide (v3.Zone_≥(p1.Zones.length:Int)))))&& (decide (x2>0))) (C3 p2.In (D9 (x2 - 1))) (some default))).bind fun v4=>((cond ((!((((decide (v3.Agent_<0))||(decide (v3.Agent_≥(p2.Agents.length:Int))))||(decide (v3.Zone_<0)))||(decide (v3.Zone_≥(p1.Zones.length:Int)))))&& (decide (x2>0))) (Ck v4 v3) (some default))).bind fun v5=>cond (((((decide (v3.Agent_<0))||(decide (v3.Agent_≥(p2.Agents.length:Int))))||(decide (v3.Zone_<0)))||(decide (v3.Zone_≥(p1.Zones.length:Int))))||((decide (x2>0))&& (decide (v5≥0)))) (some (.out (.inr 11))) (some (.go (D9 (x2+1))))) (some (.out (.inl ())))
def Z1 [Lp](p1:Map)(p2:State)(x1:Int):Option (Stp Int (Sum Unit Int)):=
  cond (decide (x1< (p2.Agents.length:Int))) ((X9 p1 p2 x1).bind fun v2=>cond (v2 !=0) (some (.out (.inr v2))) (some (.go (D9 (x1+1))))) (some (.out (.inl ())))
def Cl [Lp](p1:Map)(p2:State):Option Int:=
  (Be p1).bind fun v1=>cond (v1 !=0) (some v1) (cond ((decide (p2.Tick<0))||(decide (p2.Tick>1099511627776))) (some 2) (cond ((p2.Agents.length:Int)==0) (some 6) (cond (decide ((p2.Agents.length:Int)>8)) (some 8) (thenS (loop (Z1 p1 p2) 0) (fun _=>thenS (loop (Z0 p1 p2) 0) (fun _=>(F6 p2.In p2).bind fun v6=>cond v6 (some 2) (some 0)) (fun r=>some r)) (fun r=>some r)))))
theorem Qk(p1 p2 r)(h:Cl p1 p2=some r):PCall prog 24 [(.agg (P6 p1)),(.agg (Y1 p2))] (i64 r):=by
 refine C2 (fk func24 ntmps24 m0 (by with_unfolding_all rfl)) (nl W) ?_
 unfold Cl at h
 refine B4 (s0:=⟨T [(0,(.d _)),(1,(.d _))],G []⟩) (F0 W W) ?_
 refine lr<|fun u1 _=>sm W<|sm W<|sv W<|A1<|A5<|B0<|sd W (B2 W (gq W) W W)<|bs h fun _ hv1 h=>A9 W W A3 (Qi _ _ hv1) (.inl W) (sv W<|A1<|B0<|sv W<|sv W<|A1<|cc W h (fun c1 h=> ?_)<|fun c1 h=> ?_)
 refine B0<|sv W<|sv W<|A1<|B1 ?_
 cases h
 exact A6 (.inr W) (B6 (B3 W) C0) (.refl _)
 refine A8<|A5<|B0<|sq W<|sl W G_hit W<|sd W (D3 W)<|sv W<|A1<|A7<|B0<|sq W<|sl W G_hit W<|sv W<|sv W<|gp W (K6 W) (fun _=>W) (gf W (vl W G_hit W)<|gf W (vb W W W)<|sd W (O5 W W<|fun hc=>A2<|J6 hc)<|sv W<|A1<|cc W h (fun c2 h=> ?_)<|fun c2 h=> ?_)
 refine B0<|sv W<|A1<|B1 ?_
 cases h
 exact A6 (.inr W) (B6 (B3 W) C0) (.refl _)
 refine B0<|sv W<|sv W<|sv W<|A1<|cc W h (fun c3 h=> ?_)<|fun c3 h=> ?_
 refine B0<|sv W<|A1<|B1 ?_
 cases h
 exact A6 (.inr W) (B6 (B3 W) C0) (.refl _)
 refine B0<|sv W<|sv W<|sv W<|A1<|cc W h (fun c4 h=> ?_)<|fun c4 h=> ?_
 refine B0<|sv W<|A1<|B1 ?_
 cases h
 exact A6 (.inr W) (B6 (B3 W) C0) (.refl _)
 refine A8<|E0<|A5<|B0<|sq W<|sl W G_hit W<|sd W (D3 W)<|sv W<|A1<|js h fun z1 hz1 h=>D6 (fun s=> ∃(y1:Unit) (g1:Unit),z1= .inl y1∧Sb ⟨T [(2,(.ptr (2,u1) 0)),(3,(.ptr (3,u1) 0))],G [((2,u1),some<|.box 33 (L4 p1)),((3,u1),some<|.box 25 (K1 p2))]⟩ s) ?_ ?_
 refine A7<|E1 (Z1 p1 p2) (fun (x1:Int) (g2:Unit)=>⟨T [(2,(.ptr (2,u1) 0)),(3,(.ptr (3,u1) 0)),(36,(di (p2.Agents.length:Int))),(37,(di x1))],G [((2,u1),some<|.box 33 (L4 p1)),((3,u1),some<|.box 25 (K1 p2))]⟩) 0 () _ hz1 (F0 W W) ?_
 intro x1 g2 z2 hz2 ez2
 unfold Z1 at hz2
 refine B0<|sv W<|A1<|A5<|cc W hz2 (fun c5 hz2=> ?_)<|fun c5 hz2=> ?_
 refine A8<|A5<|A7<|B0<|sv W<|sv W<|A1<|B0<|sd W (B2 W G_hit W W)<|sd W (B2 W (gq W) W W)<|sv W<|bs hz2 fun _ hv2 hz2=>A9 W W A3 (Xs _ _ _ _ hv2) (.inl W) (sv W<|A1<|B0<|sv W<|sv W<|A1<|cc W hz2 (fun c6 hz2=> ?_)<|fun c6 hz2=> ?_)
 refine B0<|sv W<|sv W<|A1<|B1 ?_
 cases hz2
 obtain rfl:=ez2 _ rfl
 refine ⟨nofun,F2 ?_⟩
 rw [bX]at h
 cases h
 exact A6 (.inr W) (B6 (B3 W) C0) (.refl _)
 refine A8<|E0<|B9<|sv W<|sv W<|A1<|E2 ?_
 cases hz2
 exact ⟨W,(),(F0 W W)⟩
 refine C7 W ?_
 cases hz2
 obtain rfl:=ez2 _ rfl
 refine ⟨nofun,C5 W<|U1 ?_⟩
 exact ⟨_,(),W,(F0 W W)⟩
 rintro _ ⟨y1,g1,rfl,q1⟩
 rw [bW]at h
 refine B4 q1<|A5<|B0<|sq W<|sl W (gq W) W (sd W (D3 W)<|sv W<|A1<|js h fun z3 hz3 h=>D6 (fun s=> ∃(y2:Unit) (g3:Unit),z3= .inl y2∧Sb ⟨T [(3,(.ptr (3,u1) 0))],G [((3,u1),some<|.box 25 (K1 p2))]⟩ s) ?_ ?_)
 refine A7<|E1 (Z0 p1 p2) (fun (x2:Int) (g4:Unit)=>⟨T [(2,(.ptr (2,u1) 0)),(3,(.ptr (3,u1) 0)),(49,(dl I7 p2.In)),(50,(di (p2.In.length:Int))),(51,(di x2))],G [((2,u1),some<|.box 33 (L4 p1)),((3,u1),some<|.box 25 (K1 p2))]⟩) 0 () _ hz3 (F0 W W) ?_
 intro x2 g4 z4 hz4 ez4
 unfold Z0 at hz4
 refine B0<|sv W<|A1<|A5<|cc W hz4 (fun c7 hz4=> ?_)<|fun c7 hz4=> ?_
 refine A8<|A5<|A7<|B0<|sv W<|bs hz4 fun v3 hv3 hz4=>sd W (C4 W W hv3 W)<|sd W (D1 W hv3 W W)<|sm W<|sv W<|S5 W G_hit (Uo v3) W (A1<|A5<|E8 W<|sq W<|sl W G_hit W<|sv W<|sv W<|gp W (K6 W) (fun _=>W) (gf W (vl W G_hit W)<|gp W (K6 W) (fun _=>W) (gf W (vl W (gq W) W)<|gf W (fun w8=>(D3<|A2 w8))<|gf W (fun w9=>(M4 (A2 w9) (A2 w9) W))<|sd W (O5 W W<|fun hc=>A2<|J6 hc)<|sv W<|gp W (K6 W) (fun _=>W) (gf W (vl W G_hit W)<|gf W (vb W W W)<|sd W (O5 W W<|fun hc=>A2<|J6 hc)<|sv W<|gp W (K6 W) (fun _=>W) (gf W (vl W G_hit W)<|gp W (K6 W) (fun _=>W) (gf W (vl W (gq W) W)<|gf W (fun w17=>(D3<|A2 w17))<|gf W (fun w18=>(M4 (A2 w18) (A2 w18) W))<|sd W (O5 W W<|fun hc=>A2<|J6 hc)<|sv W<|gf W (fun _=>W)<|gf W (vb W W W)<|gf W (fun w21=>(MD<|A2 w21))<|M5 _ (.ptr _ _) W (U0 W) (fun _=>W) (gv W (U0 W) (vl W (gq W) W) (gv W (U0 W) (fun _=>W) (gv W (U0 W) (vb W W W) (bs hz4 fun v4 hv4 hz4=>gv W (U0 W) (fun w26=>(C4 (A2 w26) (A2 w26) (C1 w26 hv4) W)) (gv W (U0 W) (fun w27=>(D1 (A2 w27) (C1 w27 hv4) W W)) (gv W (U0 W) (fun _=>(B2 W G_hit W W)) (bs hz4 fun v5 hv5 hz4=> ?_)))))))))))))
 refine N4 _ (i64 v5) (U0 W) (fun w29=>⟨_,[(.d (.agg (I7 v4))),(.d (.agg (I7 v3)))],_,_,(by simp only [A2 w29];rfl),W,A3,Qj _ _ _<|C1 w29 hv5,(.inl W)⟩) ?_
 refine gv W (U0 W) (vb W W W) (gf W (fun w31=>(BB (A2 w31) (fun hc=>A2<|BC w31 hc) W))<|sd W (O5 W W<|fun hc=>A2<|J6 hc)<|A1<|cc W hz4 (fun c8 hz4=> ?_)<|fun c8 hz4=> ?_)
 refine B0<|sv W<|A1<|B1 ?_
 cases hz4
 obtain rfl:=ez4 _ rfl
 refine ⟨nofun,F2 ?_⟩
 rw [bX]at h
 cases h
 exact A6 (.inr W) (B6 (B3 W) C0) (.refl _)
 refine A8<|E0<|B9<|sv W<|sv W<|A1<|E2 ?_
 cases hz4
 exact ⟨W,(),(F0 W W)⟩
 refine C7 W ?_
 cases hz4
 obtain rfl:=ez4 _ rfl
 refine ⟨nofun,C5 W<|U1 ?_⟩
 exact ⟨_,(),W,(F0 W W)⟩
 rintro _ ⟨y2,g3,rfl,q2⟩
 rw [bW]at h
 refine B4 q2<|A5<|B0<|sq W<|sl W G_hit W<|B8 (.fn _ _ _) W W (bs h fun _ hv6 h=>A9 W (rD<|E4 (Xx F9<|E4 (Aj G_hit<|rD<|rD<|rD F9) F9) F9) A3 (Ef _ _ _ hv6) (.inr W) (A1<|cc W h (fun c9 h=> ?_)<|fun c9 h=> ?_))
 refine B0<|sv W<|A1<|B1 ?_
 cases h
 exact A6 (.inr W) (B6 (B3 W) C0) (.refl _)
 refine A8<|B0<|sv W<|A1<|B1 ?_
 cases h
 exact A6 (.inr W) (B6 (B3 W) C0) (.refl _)
def Wl (p1:Agent):Option Bool:=
  some p1.Gone
theorem HM(p1 r)(h:Wl p1=some r):PCall prog 79 [(.agg (C6 p1))] (bo r):=by
 refine C2 (fk func79 ntmps79 m0 (by with_unfolding_all rfl)) (nl W) ?_
 unfold Wl at h
 refine B4 (s0:=⟨T [(0,(.d _))],G []⟩) (F0 W W) ?_
 refine B0<|sm W<|sv W<|A1<|B0<|sq W<|sl W G_hit W<|sv W<|A1<|B1 ?_
 cases h
 exact A6 (.inr W) (B6 (B3 W) C0) (.refl _)
def S6 (p1:(List Agent))(x1:Int):Option (Stp Int (Sum Unit Int)):=
  cond (decide (x1< (p1.length:Int))) ((C3 p1 x1).bind fun v1=>(Wl v1).bind fun v2=>cond v2 (some (.out (.inr x1))) (some (.go (D9 (x1+1))))) (some (.out (.inl ())))
def K8 [Lp](p1:(List Agent)):Option Int:=
  thenS (loop (S6 p1) 0) (fun _=>some (-1)) (fun r=>some r)
theorem Fx(p1 r)(h:K8 p1=some r):PCall prog 170 [(.list (List.map C6 p1)),(.fn (.func 79) [] [])] (i64 r):=by
 refine C2 (fk func170 ntmps170 m0 (by with_unfolding_all rfl)) (nl W) ?_
 unfold K8 at h
 refine B4 (s0:=⟨T [(0,(.d _)),(1,(.d _))],G []⟩) (F0 W W) ?_
 refine B0<|sv W<|A1<|A5<|B0<|sv W<|sd W (D3 W)<|sv W<|A1<|js h fun z1 hz1 h=>D6 (fun s=> ∃(y1:Unit) (g1:Unit),z1= .inl y1∧Sb ⟨T [],G []⟩ s) ?_ ?_
 refine A7<|E1 (S6 p1) (fun (x1:Int) (g2:Unit)=>⟨T [(0,(dl C6 p1)),(1,(.d (.fn (.func 79) [] []))),(7,(di (p1.length:Int))),(8,(di x1))],G []⟩) 0 () _ hz1 (F0 W W) ?_
 intro x1 g2 z2 hz2 ez2
 unfold S6 at hz2
 refine B0<|sv W<|A1<|A5<|cc W hz2 (fun c1 hz2=> ?_)<|fun c1 hz2=> ?_
 refine A8<|A5<|A7<|B0<|sv W<|sv W<|A1<|B0<|sv W<|sv W<|sv W<|bs hz2 fun _ hv1 hz2=>sd W (C4 W W hv1 W)<|sd W (D1 W hv1 W W)<|bs hz2 fun _ hv2 hz2=>A9 W W A3 (HM _ _ hv2) (.inl W) (A1<|cc W hz2 (fun c2 hz2=> ?_)<|fun c2 hz2=> ?_)
 refine B0<|sv W<|sv W<|A1<|B1 ?_
 cases hz2
 obtain rfl:=ez2 _ rfl
 refine ⟨nofun,F2 ?_⟩
 rw [bX]at h
 cases h
 exact A6 (.inr W) (B6 (B3 W) C0) (.refl _)
 refine A8<|E0<|B9<|sv W<|sv W<|A1<|E2 ?_
 cases hz2
 exact ⟨W,(),(F0 W W)⟩
 refine C7 W ?_
 cases hz2
 obtain rfl:=ez2 _ rfl
 refine ⟨nofun,C5 W<|U1 ?_⟩
 exact ⟨_,(),W,(F0 W W)⟩
 rintro _ ⟨y1,g1,rfl,q1⟩
 rw [bW]at h
 refine B4 q1<|B0<|sv W<|A1<|B1 ?_
 cases h
 exact A6 (.inr W) (B6 (B3 W) C0) (.refl _)
def J8 [Lp](p1:(List Agent)):Option Bool:=
  (K8 p1).bind fun v1=>some (decide (v1≥0))
theorem Eu(p1 r)(h:J8 p1=some r):PCall prog 78 [(.list (List.map C6 p1)),(.fn (.func 79) [] [])] (bo r):=by
 refine C2 (fk func78 ntmps78 m0 (by with_unfolding_all rfl)) (nl W) ?_
 unfold J8 at h
 refine B4 (s0:=⟨T [(0,(.d _)),(1,(.d _))],G []⟩) (F0 W W) ?_
 refine B0<|sv W<|A1<|B0<|sv W<|sv W<|bs h fun _ hv1 h=>A9 W W A3 (Fx _ _ hv1) (.inl W) (sv W<|sv W<|A1<|B1 ?_)
 cases h
 exact A6 (.inr W) (B6 (B3 W) C0) (.refl _)
def Gc (p1:State)(p2:Int):Option Bool:=
  ((cond ((decide (p2≥0))&& (decide (p2< (p1.Agents.length:Int)))) (C3 p1.Agents p2) (some default))).bind fun v1=>((cond (((decide (p2≥0))&& (decide (p2< (p1.Agents.length:Int))))&& (!v1.Gone)) (C3 p1.Agents p2) (some default))).bind fun v2=>some ((((decide (p2≥0))&& (decide (p2< (p1.Agents.length:Int))))&& (!v1.Gone))&& (decide (v2.Begin≤p1.Tick)))
theorem Lw(p1 p2 r)(h:Gc p1 p2=some r):PCall prog 36 [(.agg (Y1 p1)),(i64 p2)] (bo r):=by
 refine C2 (fk func36 ntmps36 m0 (by with_unfolding_all rfl)) (nl W) ?_
 unfold Gc at h
 refine B4 (s0:=⟨T [(0,(.d _)),(1,(.d _))],G []⟩) (F0 W W) ?_
 refine B0<|sm W<|sv W<|A1<|A5<|E8 W<|sv W<|sv W<|sv W<|gt W (fun _=>W)<|gp W (K3 W) (fun _=>W) (gt W (vl W G_hit W)<|gt W (fun w4=>(D3<|A2 w4))<|gt W (fun w5=>(M4 (A2 w5) (A2 w5) W))<|sa W W W<|sv W<|gp W (K3 W) (fun _=>W) (gt W (vl W G_hit W)<|gt W (fun _=>W)<|bs h fun v1 hv1 h=>gt W (fun w9=>(C4 (A2 w9) (A2 w9) (C1 w9 hv1) W)) ?_))
 refine gt W (fun w10=>(by simp only [A2 w10];rfl)) ?_
 refine gt W (fun w11=>(C9 (A2 w11) (C1 w11 hv1) W)) ?_
 refine M5 _ (.d (bo (!v1.Gone))) W (K3 W) (fun w12=>(by simp only [A2 w12];rfl)) ?_
 refine sa W W W<|sv W<|gp W (K3 W) (fun _=>W) (gt W (vl W G_hit W)<|gt W (fun _=>W)<|bs h fun _ hv2 h=>gt W (fun w16=>(C4 (A2 w16) (A2 w16) (C1 w16 hv2) W)) ?_)
 refine gt W (fun w17=>(by simp only [A2 w17];rfl)) ?_
 refine gt W (fun w18=>(C9 (A2 w18) (C1 w18 hv2) W))<|gp W (K3 W) (fun _=>W) (gt W (vl W G_hit W)<|gt W (fun w21=>(M4 (A2 w21) (A2 w21) W))<|sa W W W<|sv W<|A1<|B1 ?_)
 cases h
 exact A6 (.inr W) (B6 (B3 W) C0) (.refl _)
def Kt (p1:Agent):Option Bool:=
  some ((((decide (p1.S≥0))&& (decide (p1.S≤1099511627776)))&& (decide (p1.Len≥0)))&& (decide (p1.Len≤1099511627776)))
theorem Sg(p1 r)(h:Kt p1=some r):PCall prog 138 [(.agg (C6 p1))] (bo r):=by
 refine C2 (fk func138 ntmps138 m0 (by with_unfolding_all rfl)) (nl W) ?_
 unfold Kt at h
 refine B4 (s0:=⟨T [(0,(.d _))],G []⟩) (F0 W W) ?_
 refine B0<|sm W<|sv W<|A1<|B0<|sq W<|sl W G_hit W<|sv W<|sv W<|gp W (K3 W) (fun _=>W) (gt W (vl W G_hit W)<|gt W (vb W W W)<|sa W W W<|sv W<|gp W (K3 W) (fun _=>W) (gt W (vl W G_hit W)<|gt W (vb W W W)<|sa W W W<|sv W<|gp W (K3 W) (fun _=>W) (gt W (vl W G_hit W)<|gt W (vb W W W)<|sa W W W<|sv W<|A1<|B1 ?_)))
 cases h
 exact A6 (.inr W) (B6 (B3 W) C0) (.refl _)
def Ac (p1:Int):Option Bool:=
  some (p1 !=p1)
theorem Gr(p1 r)(h:Ac p1=some r):PCall prog 255 [(i64 p1)] (bo r):=by
 refine C2 (fk func255 ntmps255 m0 (by with_unfolding_all rfl)) (nl W) ?_
 unfold Ac at h
 refine B4 (s0:=⟨T [(0,(.d _))],G []⟩) (F0 W W) ?_
 refine B0<|sv W<|A1<|B0<|sv W<|sv W<|sv W<|sv W<|A1<|B1 ?_
 cases h
 exact A6 (.inr W) (B6 (B3 W) C0) (.refl _)
def Bn (p1:Int)(p2:Int):Option Int:=
  (Ac p1).bind fun v1=>(Ac p2).bind fun v2=>cond v1 (cond v2 (some 0) (some (-1))) (cond v2 (some 1) (cond (decide (p1<p2)) (some (-1)) (cond (decide (p1>p2)) (some 1) (some 0))))
theorem Oe(p1 p2 r)(h:Bn p1 p2=some r):PCall prog 229 [(i64 p1),(i64 p2)] (i64 r):=by
 refine C2 (fk func229 ntmps229 m0 (by with_unfolding_all rfl)) (nl W) ?_
 unfold Bn at h
 refine B4 (s0:=⟨T [(0,(.d _)),(1,(.d _))],G []⟩) (F0 W W) ?_
 refine B0<|sv W<|A1<|B0<|sv W<|bs h fun _ hv1 h=>A9 W W A3 (Gr _ _ hv1) (.inl W) (sv W<|A1<|B0<|sv W<|bs h fun _ hv2 h=>A9 W W A3 (Gr _ _ hv2) (.inl W) (sv W<|A1<|A5<|B0<|sv W<|A1<|cc W h (fun c1 h=> ?_)<|fun c1 h=> ?_))
 refine A5<|B0<|sv W<|A1<|cc W h (fun c2 h=> ?_)<|fun c2 h=> ?_
 refine B0<|sv W<|A1<|B1 ?_
 cases h
 exact A6 (.inr W) (B6 (B3 W) C0) (.refl _)
 refine A8<|B0<|sv W<|A1<|B1 ?_
 cases h
 exact A6 (.inr W) (B6 (B3 W) C0) (.refl _)
 refine A8<|A5<|B0<|sv W<|A1<|cc W h (fun c3 h=> ?_)<|fun c3 h=> ?_
 refine B0<|sv W<|A1<|B1 ?_
 cases h
 exact A6 (.inr W) (B6 (B3 W) C0) (.refl _)
 refine A8<|A5<|B0<|sv W<|sv W<|sv W<|A1<|cc W h (fun c4 h=> ?_)<|fun c4 h=> ?_
 refine B0<|sv W<|A1<|B1 ?_
 cases h
 exact A6 (.inr W) (B6 (B3 W) C0) (.refl _)
 refine A8<|A5<|B0<|sv W<|sv W<|sv W<|A1<|cc W h (fun c5 h=> ?_)<|fun c5 h=> ?_
 refine B0<|sv W<|A1<|B1 ?_
 cases h
 exact A6 (.inr W) (B6 (B3 W) C0) (.refl _)
 refine A8<|B0<|sv W<|A1<|B1 ?_
 cases h
 exact A6 (.inr W) (B6 (B3 W) C0) (.refl _)
def Bf [Lp](p1:Pass)(p2:Pass):Option Int:=
  (Bn p1.From p2.From).bind fun v1=>(Ab p1.Zone_ p2.Zone_).bind fun v2=>(Bw [v1,v2]).bind fun v3=>some v3
theorem BP(p1 p2 r)(h:Bf p1 p2=some r):PCall prog 264 [(.agg (Q0 p1)),(.agg (Q0 p2))] (i64 r):=by
 refine C2 (fk func264 ntmps264 (fun r=>if r==1 then [1010]else []) (by with_unfolding_all rfl)) (nl W) ?_
 unfold Bf at h
 refine B4 (s0:=⟨T [(0,(.d _)),(1,(.d _))],G []⟩) (F0 W W) ?_
 refine B0<|sm W<|sn W W<|sv W<|A1<|A5<|E8 W<|sq W<|sl W (gq W) W (sq W<|sl W G_hit W<|bs h fun v1 hv1 h=>A9 W W A3 (Oe _ _ _ hv1) (.inl W) (sq W<|sl W (gq W) W (sq W<|sl W G_hit W<|bs h fun v2 hv2 h=>A9 W W A3 (Gq _ _ _ hv2) (.inl W) (B8 (dl A4 [v1,v2]) W W (bs h fun _ hv3 h=>A9 W W A3 (Sf _ _ hv3) (.inl W) (sv W<|A1<|B1 ?_))))))
 cases h
 exact A6 (.inr W) (B6 (B3 W) C0) (.refl _)
def C8 [Lp](p2:Int)(x2:(Int× (List Pass))):Option (Stp (Int× (List Pass)) (List Pass)):=
  ((cond (decide (x2.1>p2)) (C3 x2.2 x2.1) (some default))).bind fun v1=>((cond (decide (x2.1>p2)) (C3 x2.2 (D9 (x2.1 - 1))) (some default))).bind fun v2=>((cond (decide (x2.1>p2)) (Bf v1 v2) (some default))).bind fun v3=>cond ((decide (x2.1>p2))&& (decide (v3<0))) ((C3 x2.2 (D9 (x2.1 - 1))).bind fun v4=>(C3 x2.2 x2.1).bind fun v5=>(C3 x2.2 x2.1).bind fun v6=>(C3 (Mh x2.2 x2.1 v4) (D9 (x2.1 - 1))).bind fun v7=>some (.go ((D9 (x2.1 - 1)),(Mh (Mh x2.2 x2.1 v4) (D9 (x2.1 - 1)) v5)))) (some (.out x2.2))
def D2 [Lp](p2:Int)(p3:Int)(x1:(Int× (List Pass))):Option (Stp (Int× (List Pass)) (List Pass)):=
  cond (decide (x1.1<p3)) ((loop (C8 p2) (x1.1,x1.2)).bind fun y1=>some (.go ((D9 (x1.1+1)),y1))) (some (.out (x1.2)))
def D0 [Lp](p1:(List Pass))(p2:Int)(p3:Int):Option (List Pass):=
  loop (D2 p2 p3) ((D9 (p2+1)),p1)
theorem U7(p1 p2 p3 r)(h:D0 p1 p2 p3=some r):MCall prog 282 [(.sl (900000,0)),(di p2),(di p3),(.d (.fn (.func 264) [] []))] [(.arr 229 4 (List.map Q0 p1))] (.d (.tup [])) [some (.arr 229 4 (List.map Q0 r))] []:=by
 refine Tk (fk func282 ntmps282 m0 (by with_unfolding_all rfl)) W (nl W) ?_
 unfold D0 at h
 refine B4 (s0:=⟨T [(0,(.sl _)),(1,(.d _)),(2,(.d _)),(3,(.d _))],G [((900000,0),some _)]⟩) (F0 W W) ?_
 refine B0<|sv W<|sv W<|sv W<|A1<|A7<|E1 (D2 p2 p3) (fun (x1:(Int× (List Pass))) (g1:Unit)=>⟨T [(0,(.sl (900000,0))),(1,(di p2)),(2,(di p3)),(3,(.d (.fn (.func 264) [] []))),(8,(di x1.1))],G [((900000,0),some<|.arr 229 4 (List.map Q0 x1.2))]⟩) ((D9 (p2+1)),p1) () _ h (F0 W W) ?_
 intro x1 g1 z1 hz1 ez1
 unfold D2 at hz1
 refine A5<|B0<|sv W<|sv W<|sv W<|A1<|cc W hz1 (fun c1 hz1=> ?_)<|fun c1 hz1=> ?_
 refine A8<|A5<|A7<|B0<|sv W<|sv W<|A1<|bs hz1 fun y1 hy1 hz1=>D6 (fun s=> ∃g2:Unit,Sb ⟨T [(0,(.sl (900000,0))),(1,(di p2)),(2,(di p3)),(3,(.d (.fn (.func 264) [] []))),(8,(di x1.1))],G [((900000,0),some<|.arr 229 4 (List.map Q0 y1))]⟩ s) ?_ ?_
 refine A7<|E1 (C8 p2) (fun (x2:(Int× (List Pass))) (g3:Unit)=>⟨T [(0,(.sl (900000,0))),(1,(di p2)),(2,(di p3)),(3,(.d (.fn (.func 264) [] []))),(8,(di x1.1)),(9,(di x2.1))],G [((900000,0),some<|.arr 229 4 (List.map Q0 x2.2))]⟩) (x1.1,x1.2) () _ hy1 (F0 W W) ?_
 intro x2 g3 z2 hz2 ez2
 unfold C8 at hz2
 refine A5<|A5<|E8 W<|sv W<|sv W<|sv W<|sv W<|gt W (fun _=>W)<|M5 _ (.sl _) W (K3 W) (fun _=>W) (gt W (fun _=>W)<|bs hz2 fun v1 hv1 hz2=>M5 _ (.aptr _ _ _ _) W (K3 W) (fun w4=>(Ij (A2 w4) (A2 w4) G_hit (C1 w4 hv1))) (gt W (fun w5=>(Nt (A2 w5) G_hit (C1 w5 hv1) W W))<|M5 _ (.sl _) W (K3 W) (fun _=>W) (gt W (fun _=>W)<|gt W (vb W W W)<|bs hz2 fun v2 hv2 hz2=>M5 _ (.aptr _ _ _ _) W (K3 W) (fun w9=>(Ij (A2 w9) (A2 w9) G_hit (C1 w9 hv2))) (gt W (fun w10=>(Nt (A2 w10) G_hit (C1 w10 hv2) W W))<|bs hz2 fun v3 hv3 hz2=> ?_))))
 refine N4 _ (i64 v3) (K3 W) (fun w11=>⟨_,[(.d (.agg (Q0 v1))),(.d (.agg (Q0 v2)))],_,_,(by simp only [A2 w11];rfl),W,A3,BP _ _ _<|C1 w11 hv3,(.inl W)⟩) ?_
 refine gt W (vb W W W)<|sa W W W<|A1<|cc W hz2 (fun c2 hz2=> ?_)<|fun c2 hz2=> ?_
 refine A8<|A5<|A7<|E8 W<|ss W<|sv W<|ss W<|sv W<|sv W<|ss W<|sv W<|sv W<|bs hz2 fun v4 hv4 hz2=>B8 (.aptr _ _ _ _) W (Ij W W G_hit hv4) (sd W (Nt W G_hit hv4 W W)<|ss W<|sv W<|bs hz2 fun v5 hv5 hz2=>B8 (.aptr _ _ _ _) W (Ij W W G_hit hv5) (sd W (Nt W G_hit hv5 W W)<|bs hz2 fun _ hv6 hz2=>B8 (.aptr _ _ _ _) W (Ij W W G_hit hv6) (Ns Q0 _ _ _ (x2.1) _ v4 (Q0 v4) W W W G_hit hv6 (nl W) W (bs hz2 fun _ hv7 hz2=>B8 (.aptr _ _ _ _) W (Ij W W G_hit hv7) (Ns Q0 _ _ _ ((D9 (x2.1 - 1))) _ v5 (Q0 v5) W W W G_hit hv7 (nl W) W (A1<|E0<|B9<|sv W<|sv W<|sv W<|A1<|E2 ?_))))))
 cases hz2
 exact ⟨W,(),(F0 W W)⟩
 refine C7 W ?_
 cases hz2
 obtain rfl:=ez2 _ rfl
 refine ⟨nofun,C5 W<|U1 ?_⟩
 exact ⟨(),(F0 W W)⟩
 rintro _ ⟨g2,q1⟩
 refine E0<|B4 q1<|B9<|sv W<|sv W<|sv W<|A1<|E2 ?_
 cases hz1
 exact ⟨W,(),(F0 W W)⟩
 refine C7 W ?_
 cases hz1
 obtain rfl:=ez1 _ rfl
 refine ⟨nofun,C5 W<|E2 ?_⟩
 exact Ze (.inl W) [] Zf (.refl _) ⟨⟨G_hit,El⟩,trivial⟩
def R3 (p2:Int)(x3:(Int×Int)):Option (Stp (Int×Int) Int):=
  cond (decide (x3.2≤p2)) (none) (some (.out x3.1))
def G5 [Lp](p2:Int)(v2:(List Pass))(x2:Int):Option (Stp Int (List Pass)):=
  cond (decide (x2<p2)) ((loop (R3 p2) (0,(D9 (2*x2)))).bind fun y2=>cond (decide ((D9 (y2+x2))<p2)) (none) (some (.go (D9 (x2*2))))) (some (.out (v2)))
def D7 [Lp](p2:Int)(x1:(Int×Int× (List Pass))):Option (Stp (Int×Int× (List Pass)) (Int× (List Pass))):=
  cond (decide (x1.2.1≤p2)) ((D0 x1.2.2 x1.1 x1.2.1).bind fun v1=>some (.go (x1.2.1,(D9 (x1.2.1+20)),v1))) (some (.out (x1.1,x1.2.2)))
def I8 [Lp](p1:(List Pass))(p2:Int):Option (List Pass):=
  (loop (D7 p2) (0,20,p1)).bind fun y1=>(D0 y1.2 y1.1 p2).bind fun v2=>loop (G5 p2 v2) 20
theorem Ey(p1 p2 r)(h:I8 p1 p2=some r):MCall prog 270 [(.sl (900000,0)),(di p2),(.d (.fn (.func 264) [] []))] [(.arr 229 4 (List.map Q0 p1))] (.d (.tup [])) [some (.arr 229 4 (List.map Q0 r))] []:=by
 refine Tk (fk func270 ntmps270 (fun r=>if r==3 then [1003004]else if r==6 then [1006004]else []) (by with_unfolding_all rfl)) W (nl W) ?_
 unfold I8 at h
 refine B4 (s0:=⟨T [(0,(.sl _)),(1,(.d _)),(2,(.d _))],G [((900000,0),some _)]⟩) (F0 W W) ?_
 refine B0<|sv W<|A1<|B0<|sv W<|sv W<|sv W<|A1<|A5<|bs h fun y1 hy1 h=>D6 (fun s=> ∃g1:Unit,Sb ⟨T [(0,(.sl (900000,0))),(1,(di p2)),(2,(.d (.fn (.func 264) [] []))),(6,(di 20)),(7,(di y1.1))],G [((900000,0),some<|.arr 229 4 (List.map Q0 y1.2))]⟩ s) ?_ ?_
 refine A7<|E1 (D7 p2) (fun (x1:(Int×Int× (List Pass))) (g2:Unit)=>⟨T [(0,(.sl (900000,0))),(1,(di p2)),(2,(.d (.fn (.func 264) [] []))),(6,(di 20)),(7,(di x1.1)),(8,(di x1.2.1))],G [((900000,0),some<|.arr 229 4 (List.map Q0 x1.2.2))]⟩) (0,20,p1) () _ hy1 (F0 W W) ?_
 intro x1 g2 z1 hz1 ez1
 unfold D7 at hz1
 refine A5<|B0<|sv W<|sv W<|sv W<|A1<|cc W hz1 (fun c1 hz1=> ?_)<|fun c1 hz1=> ?_
 refine A8<|A7<|B0<|ss W<|sv W<|sv W<|sv W<|bs hz1 fun v1 hv1 hz1=>CW (v:= .d (.tup [])) (us:= [(900000,0)]) (JD (U7 _ _ _ _ hv1) [(900000,0)] [(900000,0)] _ (((900000,0),some<|.arr 229 4 (List.map Q0 v1))::_) W Ll (X1 BH<|X1 Zd<|X1 Zd<|X1 Zd Ry) (Jf G_hit Gz) ⟨⟨_,G_hit, .of W⟩,trivial⟩ (fun _ h=>h) nd1 W W W) (A1<|B0<|sv W<|sv W<|A1<|B9<|sv W<|sv W<|sv W<|sv W<|A1<|E0<|E2 ?_)
 cases hz1
 exact ⟨W,(),(F0 W W)⟩
 refine C7 W ?_
 cases hz1
 obtain rfl:=ez1 _ rfl
 refine ⟨nofun,C5 W<|U1 ?_⟩
 exact ⟨(),(F0 W W)⟩
 rintro _ ⟨g1,q1⟩
 refine B4 q1<|B0<|ss W<|sv W<|sv W<|sv W<|bs h fun v2 hv2 h=>CW (v:= .d (.tup [])) (us:= [(900000,0)]) (JD (U7 _ _ _ _ hv2) [(900000,0)] [(900000,0)] _ (((900000,0),some<|.arr 229 4 (List.map Q0 v2))::_) W Ll (X1 BH<|X1 Zd<|X1 Zd<|X1 Zd Ry) (Jf G_hit Gz) ⟨⟨_,G_hit, .of W⟩,trivial⟩ (fun _ h=>h) nd1 W W W) (A1<|A7<|E1 (G5 p2 v2) (fun (x2:Int) (g3:Unit)=>⟨T [(0,(.sl (900000,0))),(1,(di p2)),(2,(.d (.fn (.func 264) [] []))),(6,(di x2))],G [((900000,0),some<|.arr 229 4 (List.map Q0 v2))]⟩) 20 () _ h (F0 W W) ?_)
 intro x2 g3 z2 hz2 ez2
 unfold G5 at hz2
 refine A5<|B0<|sv W<|sv W<|sv W<|A1<|cc W hz2 (fun c2 hz2=> ?_)<|fun c2 hz2=> ?_
 refine A8<|A7<|B0<|sv W<|sv W<|sv W<|sv W<|A1<|A5<|bs hz2 fun y2 hy2 hz2=>D6 (fun s=> ∃g4:Unit,Sb ⟨T [(0,(.sl (900000,0))),(1,(di p2)),(2,(.d (.fn (.func 264) [] []))),(6,(di x2)),(7,(di y2))],G [((900000,0),some<|.arr 229 4 (List.map Q0 v2))]⟩ s) ?_ ?_
 refine A7<|E1 (R3 p2) (fun (x3:(Int×Int)) (g5:Unit)=>⟨T [(0,(.sl (900000,0))),(1,(di p2)),(2,(.d (.fn (.func 264) [] []))),(6,(di x2)),(7,(di x3.1)),(8,(di x3.2))],G [((900000,0),some<|.arr 229 4 (List.map Q0 v2))]⟩) (0,(D9 (2*x2))) () _ hy2 (F0 W W) ?_
 intro x3 g5 z3 hz3 ez3
 unfold R3 at hz3
 refine A5<|B0<|sv W<|sv W<|sv W<|A1<|cc W hz3 (fun c3 hz3=> ?_)<|fun c3 hz3=> ?_
 refine A8<|A7<|B0<|ss W<|sv W<|sv W<|sv W<|sv W<|sv W<|sv W ?_
 cases hz3
 refine C7 W ?_
 cases hz3
 obtain rfl:=ez3 _ rfl
 refine ⟨nofun,C5 W<|U1 ?_⟩
 exact ⟨(),(F0 W W)⟩
 rintro _ ⟨g4,q2⟩
 refine B4 q2<|A5<|B0<|sv W<|sv W<|sv W<|sv W<|A1<|B0<|sv W<|sv W<|sv W<|A1<|cc W hz2 (fun c4 hz2=> ?_)<|fun c4 hz2=> ?_
 refine B9<|ss W<|sv W<|sv W<|sv W<|sv W ?_
 cases hz2
 refine A8<|B9<|sv W<|sv W<|sv W<|A1<|E0<|E2 ?_
 cases hz2
 exact ⟨W,(),(F0 W W)⟩
 refine C7 W ?_
 cases hz2
 obtain rfl:=ez2 _ rfl
 refine ⟨nofun,C5 W<|E2 ?_⟩
 exact Ze (.inl W) [] Zf (.refl _) ⟨⟨G_hit,El⟩,trivial⟩
def F7 [Lp](p1:(List Pass)):Option (List Pass):=
  (I8 p1 (p1.length:Int)).bind fun v1=>some v1
theorem Cq(p1 r)(h:F7 p1=some r):MCall prog 263 [(.sl (900000,0)),(.d (.fn (.func 264) [] []))] [(.arr 229 4 (List.map Q0 p1))] (.d (.tup [])) [some (.arr 229 4 (List.map Q0 r))] []:=by
 refine Tk (fk func263 ntmps263 (fun r=>if r==0 then [1000004]else []) (by with_unfolding_all rfl)) W (nl W) ?_
 unfold F7 at h
 refine B4 (s0:=⟨T [(0,(.sl _)),(1,(.d _))],G [((900000,0),some _)]⟩) (F0 W W) ?_
 refine B9<|ss W<|ss W<|sd W (RS (f:=Q0) W G_hit)<|sv W<|bs h fun v1 hv1 h=>CW (v:= .d (.tup [])) (us:= [(900000,0)]) (JD (Ey _ _ _ hv1) [(900000,0)] [(900000,0)] _ (((900000,0),some<|.arr 229 4 (List.map Q0 v1))::_) W Ll (X1 BH<|X1 Zd<|X1 Zd Ry) (Jf G_hit Gz) ⟨⟨_,G_hit, .of W⟩,trivial⟩ (fun _ h=>h) nd1 W W W) (A1<|E2 ?_)
 obtain rfl:=(lD h)
 exact Ze (.inl W) [] Zf (.refl _) ⟨⟨G_hit,El⟩,trivial⟩
def O2 (p1:Int)(x2:Int):Option (Stp Int Unit):=
  ((cond (decide (x2>p1)) ((none:Option Unit)) (some default))).bind fun v1=>cond ((decide (x2>p1))&&false) (none) (some (.out ()))
def H6 [Lp](p1:Int)(p2:Int)(x1:Int):Option (Stp Int Unit):=
  cond (decide (x1<p2)) ((loop (O2 p1) x1).bind fun _=>some (.go (D9 (x1+1)))) (some (.out (())))
def E5 [Lp](p1:Int)(p2:Int):Option Unit:=
  loop (H6 p1 p2) (D9 (p1+1))
theorem U8(p1 p2 r)(h:E5 p1 p2=some r):PCall prog 282 [.nilS,(i64 p1),(i64 p2),(.fn (.func 264) [] [])] (.tup []):=by
 refine C2 (fk func282 ntmps282 m0 (by with_unfolding_all rfl)) (nl W) ?_
 unfold E5 at h
 refine B4 (s0:=⟨T [(0,(.d _)),(1,(.d _)),(2,(.d _)),(3,(.d _))],G []⟩) (F0 W W) ?_
 refine B0<|sv W<|sv W<|sv W<|A1<|A7<|E1 (H6 p1 p2) (fun (x1:Int) (g1:Unit)=>⟨T [(0,(.d .nilS)),(1,(di p1)),(2,(di p2)),(3,(.d (.fn (.func 264) [] []))),(8,(di x1))],G []⟩) (D9 (p1+1)) () _ h (F0 W W) ?_
 intro x1 g1 z1 hz1 ez1
 unfold H6 at hz1
 refine A5<|B0<|sv W<|sv W<|sv W<|A1<|cc W hz1 (fun c1 hz1=> ?_)<|fun c1 hz1=> ?_
 refine A8<|A5<|A7<|B0<|sv W<|sv W<|A1<|bs hz1 fun _ hy1 hz1=>D6 (fun s=> ∃g2:Unit,Sb ⟨T [(0,(.d .nilS)),(1,(di p1)),(2,(di p2)),(3,(.d (.fn (.func 264) [] []))),(8,(di x1))],G []⟩ s) ?_ ?_
 refine A7<|E1 (O2 p1) (fun (x2:Int) (g3:Unit)=>⟨T [(0,(.d .nilS)),(1,(di p1)),(2,(di p2)),(3,(.d (.fn (.func 264) [] []))),(8,(di x1)),(9,(di x2))],G []⟩) x1 () _ hy1 (F0 W W) ?_
 intro x2 g3 z2 hz2 ez2
 unfold O2 at hz2
 refine A5<|A5<|E8 W<|sv W<|sv W<|sv W<|sv W<|gt W (fun _=>W)<|gt W (fun _=>W)<|gt W (fun _=>W)<|bs hz2 fun _ hv1 hz2=>M5 _ (.d (.tup [])) W (K3 W) (fun w4=>nomatch C1 w4 hv1) (M5 _ (.d (.tup [])) W (K3 W) (fun w5=>nomatch C1 w5 hv1) (M5 _ (.d (.tup [])) W (K3 W) (fun w6=>nomatch C1 w6 hv1) (M5 _ (di 0) W (K3 W) (fun w7=>nomatch C1 w7 hv1) (M5 _ (di 0) W (K3 W) (fun w8=>nomatch C1 w8 hv1) (M5 _ (.d (.tup [])) W (K3 W) (fun w9=>nomatch C1 w9 hv1) (M5 _ (.d (.tup [])) W (K3 W) (fun w10=>nomatch C1 w10 hv1) (N4 _ (i64 0) (K3 W) (fun w11=>nomatch C1 w11 hv1) (M5 _ (.d (bo false)) W (K3 W) (fun w12=>nomatch C1 w12 hv1) (sa W W W<|A1<|cc W hz2 (fun c2 hz2=> ?_)<|fun c2 hz2=> ?_)))))))))
 refine A8<|A5<|A7<|E8 W<|sv W<|sv W<|sv W<|sv W<|sv W<|sv W<|sv W<|sv W ?_
 cases hz2
 refine C7 W ?_
 cases hz2
 obtain rfl:=ez2 _ rfl
 refine ⟨nofun,C5 W<|U1 ?_⟩
 exact ⟨(),(F0 W W)⟩
 rintro _ ⟨g2,q1⟩
 refine E0<|B4 q1<|B9<|sv W<|sv W<|sv W<|A1<|E2 ?_
 cases hz1
 exact ⟨W,(),(F0 W W)⟩
 refine C7 W ?_
 cases hz1
 obtain rfl:=ez1 _ rfl
 refine ⟨nofun,C5 W<|E2 ?_⟩
 exact A6 (.inl W) W (.refl _)
def R4 (p1:Int)(x3:(Int×Int)):Option (Stp (Int×Int) Int):=
  cond (decide (x3.2≤p1)) (none) (some (.out x3.1))
def H7 [Lp](p1:Int)(x2:Int):Option (Stp Int Unit):=
  cond (decide (x2<p1)) ((loop (R4 p1) (0,(D9 (2*x2)))).bind fun y2=>cond (decide ((D9 (y2+x2))<p1)) (none) (some (.go (D9 (x2*2))))) (some (.out (())))
def H8 [Lp](p1:Int)(x1:(Int×Int)):Option (Stp (Int×Int) Int):=
  cond (decide (x1.2≤p1)) ((E5 x1.1 x1.2).bind fun v1=>some (.go (x1.2,(D9 (x1.2+20))))) (some (.out x1.1))
def I9 [Lp](p1:Int):Option Unit:=
  (loop (H8 p1) (0,20)).bind fun y1=>(E5 y1 p1).bind fun v2=>loop (H7 p1) 20
theorem Ez(p1 r)(h:I9 p1=some r):PCall prog 270 [.nilS,(i64 p1),(.fn (.func 264) [] [])] (.tup []):=by
 refine C2 (fk func270 ntmps270 m0 (by with_unfolding_all rfl)) (nl W) ?_
 unfold I9 at h
 refine B4 (s0:=⟨T [(0,(.d _)),(1,(.d _)),(2,(.d _))],G []⟩) (F0 W W) ?_
 refine B0<|sv W<|A1<|B0<|sv W<|sv W<|sv W<|A1<|A5<|bs h fun y1 hy1 h=>D6 (fun s=> ∃g1:Unit,Sb ⟨T [(0,(.d .nilS)),(1,(di p1)),(2,(.d (.fn (.func 264) [] []))),(6,(di 20)),(7,(di y1))],G []⟩ s) ?_ ?_
 refine A7<|E1 (H8 p1) (fun (x1:(Int×Int)) (g2:Unit)=>⟨T [(0,(.d .nilS)),(1,(di p1)),(2,(.d (.fn (.func 264) [] []))),(6,(di 20)),(7,(di x1.1)),(8,(di x1.2))],G []⟩) (0,20) () _ hy1 (F0 W W) ?_
 intro x1 g2 z1 hz1 ez1
 unfold H8 at hz1
 refine A5<|B0<|sv W<|sv W<|sv W<|A1<|cc W hz1 (fun c1 hz1=> ?_)<|fun c1 hz1=> ?_
 refine A8<|A7<|B0<|sv W<|sv W<|sv W<|sv W<|bs hz1 fun _ hv1 hz1=>A9 W W A3 (U8 _ _ _ hv1) (.inl W) (A1<|B0<|sv W<|sv W<|A1<|B9<|sv W<|sv W<|sv W<|sv W<|A1<|E0<|E2 ?_)
 cases hz1
 exact ⟨W,(),(F0 W W)⟩
 refine C7 W ?_
 cases hz1
 obtain rfl:=ez1 _ rfl
 refine ⟨nofun,C5 W<|U1 ?_⟩
 exact ⟨(),(F0 W W)⟩
 rintro _ ⟨g1,q1⟩
 refine B4 q1<|B0<|sv W<|sv W<|sv W<|sv W<|bs h fun _ hv2 h=>A9 W W A3 (U8 _ _ _ hv2) (.inl W) (A1<|A7<|E1 (H7 p1) (fun (x2:Int) (g3:Unit)=>⟨T [(0,(.d .nilS)),(1,(di p1)),(2,(.d (.fn (.func 264) [] []))),(6,(di x2))],G []⟩) 20 () _ h (F0 W W) ?_)
 intro x2 g3 z2 hz2 ez2
 unfold H7 at hz2
 refine A5<|B0<|sv W<|sv W<|sv W<|A1<|cc W hz2 (fun c2 hz2=> ?_)<|fun c2 hz2=> ?_
 refine A8<|A7<|B0<|sv W<|sv W<|sv W<|sv W<|A1<|A5<|bs hz2 fun y2 hy2 hz2=>D6 (fun s=> ∃g4:Unit,Sb ⟨T [(0,(.d .nilS)),(1,(di p1)),(2,(.d (.fn (.func 264) [] []))),(6,(di x2)),(7,(di y2))],G []⟩ s) ?_ ?_
 refine A7<|E1 (R4 p1) (fun (x3:(Int×Int)) (g5:Unit)=>⟨T [(0,(.d .nilS)),(1,(di p1)),(2,(.d (.fn (.func 264) [] []))),(6,(di x2)),(7,(di x3.1)),(8,(di x3.2))],G []⟩) (0,(D9 (2*x2))) () _ hy2 (F0 W W) ?_
 intro x3 g5 z3 hz3 ez3
 unfold R4 at hz3
 refine A5<|B0<|sv W<|sv W<|sv W<|A1<|cc W hz3 (fun c3 hz3=> ?_)<|fun c3 hz3=> ?_
 refine A8<|A7<|B0<|sv W<|sv W<|sv W<|sv W<|sv W<|sv W<|sv W ?_
 cases hz3
 refine C7 W ?_
 cases hz3
 obtain rfl:=ez3 _ rfl
 refine ⟨nofun,C5 W<|U1 ?_⟩
 exact ⟨(),(F0 W W)⟩
 rintro _ ⟨g4,q2⟩
 refine B4 q2<|A5<|B0<|sv W<|sv W<|sv W<|sv W<|A1<|B0<|sv W<|sv W<|sv W<|A1<|cc W hz2 (fun c4 hz2=> ?_)<|fun c4 hz2=> ?_
 refine B9<|sv W<|sv W<|sv W<|sv W<|sv W ?_
 cases hz2
 refine A8<|B9<|sv W<|sv W<|sv W<|A1<|E0<|E2 ?_
 cases hz2
 exact ⟨W,(),(F0 W W)⟩
 refine C7 W ?_
 cases hz2
 obtain rfl:=ez2 _ rfl
 refine ⟨nofun,C5 W<|E2 ?_⟩
 exact A6 (.inl W) W (.refl _)
def F8 [Lp]:Option Unit:=
  (I9 0).bind fun v1=>some ()
theorem Cr(r)(h:F8=some r):PCall prog 263 [.nilS,(.fn (.func 264) [] [])] (.tup []):=by
 refine C2 (fk func263 ntmps263 m0 (by with_unfolding_all rfl)) (nl W) ?_
 unfold F8 at h
 refine B4 (s0:=⟨T [(0,(.d _)),(1,(.d _))],G []⟩) (F0 W W) ?_
 refine B9<|sv W<|sv W<|sv W<|sv W<|bs h fun _ hv1 h=>A9 W W A3 (Ez _ _ hv1) (.inl W) (A1<|E2 ?_)
 cases h
 exact A6 (.inl W) W (.refl _)
def Ad (v1:RoadsWay)(x1:((List Pass)×Int))(v2:Int)(x2:((List Pass)×Int))(v3:Zone)(x3:((List Pass)×Int)):Option (Stp ((List Pass)×Int) (List Pass)):=
  cond (decide (x3.2< (v3.Parts.length:Int))) ((C3 v3.Parts x3.2).bind fun v4=>cond (v4.Lane_==v2) ((C3 v1.starts x1.2).bind fun v5=>(C3 v1.starts x1.2).bind fun v6=>(Au x3.1 [(Pass.mk x2.2 x3.2 (D9 (v5+v4.From)) (D9 (v6+v4.To)))]).bind fun v7=>some (.go (v7,(D9 (x3.2+1))))) (some (.go (x3.1,(D9 (x3.2+1)))))) (some (.out x3.1))
def T7 [Lp](p1:Map)(v1:RoadsWay)(x1:((List Pass)×Int))(v2:Int)(x2:((List Pass)×Int)):Option (Stp ((List Pass)×Int) (List Pass)):=
  cond (decide (x2.2< (p1.Zones.length:Int))) ((C3 p1.Zones x2.2).bind fun v3=>(loop (Ad v1 x1 v2 x2 v3) (x2.1,0)).bind fun y3=>some (.go (y3,(D9 (x2.2+1))))) (some (.out x2.1))
def N7 [Lp](p1:Map)(v1:RoadsWay)(x1:((List Pass)×Int)):Option (Stp ((List Pass)×Int) (List Pass)):=
  cond (decide (x1.2< (v1.lanes.length:Int))) ((C3 v1.lanes x1.2).bind fun v2=>(loop (T7 p1 v1 x1 v2) (x1.1,0)).bind fun y2=>some (.go (y2,(D9 (x1.2+1))))) (some (.out x1.1))
def U9 [Lp](p1:Map)(p2:(List Int)):Option (List Pass):=
  (Y9 p1 p2).bind fun v1=>(loop (N7 p1 v1) ([],0)).bind fun y1=>cond (List.isEmpty y1) ((F8).bind fun v9=>some []) ((F7 y1).bind fun v8=>some v8)
theorem EZ(p1 p2 r)(h:U9 p1 p2=some r):PCall prog 246 [(.agg (P6 p1)),(.list (List.map A4 p2))] (.list (List.map Q0 r)):=by
 refine C2 (fk func246 ntmps246 (fun r=>if r==13 then [1020]else if r==17 then [1017001]else []) (by with_unfolding_all rfl)) (nl W) ?_
 unfold U9 at h
 refine B4 (s0:=⟨T [(0,(.d _)),(1,(.d _))],G []⟩) (F0 W W) ?_
 refine lr<|fun u1 _=>sm W<|sv W<|A1<|lr<|fun u2 _=>sd W (B2 W G_hit W W)<|sv W<|bs h fun v1 hv1 h=>A9 W W A3 (Kn _ _ _ hv1) (.inl W) (sm W<|S5 W G_hit (Mp v1) W (A1<|B0<|sv W<|A1<|A5<|B0<|sq W<|sl W G_hit W<|sd W (D3 W)<|sv W<|A1<|bs h fun y1 hy1 h=>D6 (fun s=> ∃g1:Nat,Sb ⟨T [(6,(oS y1 (65,g1)))],G [((65,g1),oB 229 4 Q0 y1)]⟩ s) ?_ ?_))
 refine A7<|E1 (N7 p1 v1) (fun (x1:((List Pass)×Int)) (g2:Nat)=>⟨T [(2,(.ptr (2,u1) 0)),(5,(.ptr (5,u2) 0)),(6,(oS x1.1 (65,g2))),(17,(dl A4 v1.lanes)),(18,(di (v1.lanes.length:Int))),(19,(di x1.2))],G [((2,u1),some<|.box 33 (L4 p1)),((5,u2),some<|.box 260 (Mp v1)),((65,g2),oB 229 4 Q0 x1.1)]⟩) ([],0) 0 _ hy1 (D8 (Y0 W)<|sg W<|B5 G_hit (.of W)<|R6 trivial) ?_
 intro x1 g2 z1 hz1 ez1
 unfold N7 at hz1
 refine B0<|sv W<|A1<|A5<|cc W hz1 (fun c1 hz1=> ?_)<|fun c1 hz1=> ?_
 refine A8<|A5<|A7<|B0<|sv W<|bs hz1 fun v2 hv2 hz1=>sd W (C4 W W hv2 W)<|sd W (C9 W hv2 W)<|sv W<|sv W<|A1<|B0<|sq W<|sl W G_hit W<|sd W (D3 W)<|sv W<|A1<|bs hz1 fun y2 hy2 hz1=>D6 (fun s=> ∃g3:Nat,Sb ⟨T [(2,(.ptr (2,u1) 0)),(5,(.ptr (5,u2) 0)),(6,(oS y2 (65,g3))),(17,(dl A4 v1.lanes)),(18,(di (v1.lanes.length:Int))),(19,(di x1.2))],G [((2,u1),some<|.box 33 (L4 p1)),((5,u2),some<|.box 260 (Mp v1)),((65,g3),oB 229 4 Q0 y2)]⟩ s) ?_ ?_
 refine A7<|E1 (T7 p1 v1 x1 v2) (fun (x2:((List Pass)×Int)) (g4:Nat)=>⟨T [(2,(.ptr (2,u1) 0)),(5,(.ptr (5,u2) 0)),(6,(oS x2.1 (65,g4))),(7,(di x1.2)),(8,(di v2)),(17,(dl A4 v1.lanes)),(18,(di (v1.lanes.length:Int))),(19,(di x1.2)),(25,(dl Ew p1.Zones)),(26,(di (p1.Zones.length:Int))),(27,(di x2.2))],G [((2,u1),some<|.box 33 (L4 p1)),((5,u2),some<|.box 260 (Mp v1)),((65,g4),oB 229 4 Q0 x2.1)]⟩) (x1.1,0) g2 _ hy2 (D8 (Y0 W)<|B5 G_hit (.of W)<|sg W<|B7 (gq W) trivial) ?_
 intro x2 g4 z2 hz2 ez2
 unfold T7 at hz2
 refine B0<|sv W<|A1<|A5<|cc W hz2 (fun c2 hz2=> ?_)<|fun c2 hz2=> ?_
 refine A8<|A5<|A7<|B0<|sv W<|bs hz2 fun v3 hv3 hz2=>sd W (C4 W W hv3 W)<|sd W (D1 W hv3 W W)<|sm W<|sv W<|S5 W G_hit [(dl At v3.Parts),(di v3.Signal_)] W (A1<|B0<|sq W<|sl W G_hit W<|sd W (D3 W)<|sv W<|A1<|bs hz2 fun y3 hy3 hz2=>D6 (fun s=> ∃g5:Nat,Sb ⟨T [(2,(.ptr (2,u1) 0)),(5,(.ptr (5,u2) 0)),(6,(oS y3 (65,g5))),(7,(di x1.2)),(8,(di v2)),(17,(dl A4 v1.lanes)),(18,(di (v1.lanes.length:Int))),(19,(di x1.2)),(25,(dl Ew p1.Zones)),(26,(di (p1.Zones.length:Int))),(27,(di x2.2))],G [((2,u1),some<|.box 33 (L4 p1)),((5,u2),some<|.box 260 (Mp v1)),((65,g5),oB 229 4 Q0 y3)]⟩ s) ?_ ?_)
 refine A7<|E1 (Ad v1 x1 v2 x2 v3) (fun (x3:((List Pass)×Int)) (g6:Nat)=>⟨T [(2,(.ptr (2,u1) 0)),(5,(.ptr (5,u2) 0)),(6,(oS x3.1 (65,g6))),(7,(di x1.2)),(8,(di v2)),(9,(di x2.2)),(17,(dl A4 v1.lanes)),(18,(di (v1.lanes.length:Int))),(19,(di x1.2)),(25,(dl Ew p1.Zones)),(26,(di (p1.Zones.length:Int))),(27,(di x2.2)),(33,(dl At v3.Parts)),(34,(di (v3.Parts.length:Int))),(35,(di x3.2))],G [((2,u1),some<|.box 33 (L4 p1)),((5,u2),some<|.box 260 (Mp v1)),((65,g6),oB 229 4 Q0 x3.1)]⟩) (x2.1,0) g4 _ hy3 (D8 (Y0 W)<|sg W<|sg W<|B7 (gq W) trivial) ?_
 intro x3 g6 z3 hz3 ez3
 unfold Ad at hz3
 refine B0<|sv W<|A1<|A5<|cc W hz3 (fun c3 hz3=> ?_)<|fun c3 hz3=> ?_
 refine A8<|A5<|A7<|B0<|sv W<|bs hz3 fun v4 hv4 hz3=>sd W (C4 W W hv4 W)<|sd W (D1 W hv4 W W)<|sm W<|sv W<|S5 W G_hit (Ya v4) W (A1<|B0<|sq W<|sl W G_hit W<|sv W<|sv W<|A1<|cc W hz3 (fun c4 hz3=> ?_)<|fun c4 hz3=> ?_)
 refine Lj W fun u14 _=>B8 (oS x3.1 (65,g6)) W W (sv W<|sv W<|sq W<|sl W (gq W) W (sv W<|bs hz3 fun v5 hv5 hz3=>sd W (C4 W W hv5 W)<|sd W (C9 W hv5 W)<|sq W<|sl W G_hit W<|sv W<|sq W<|sl W (gq W) W (sv W<|bs hz3 fun v6 hv6 hz3=>sd W (C4 W W hv6 W)<|sd W (C9 W hv6 W)<|sq W<|sl W G_hit W<|sv W<|sv W<|B8 (dl Q0 [(Pass.mk x2.2 x3.2 (D9 (v5+v4.From))<|D9 (v6+v4.To))]) W W (bs hz3 fun _ hv7 hz3=>P1 Q0 (65,g6) x3.1 (Pass.mk x2.2 x3.2 (D9 (v5+v4.From))<|D9 (v6+v4.To)) [] _ (L3<|fun _=>W) W (gq W) hv7 (ss W<|A1<|E0<|B9<|sv W<|sv W<|A1<|E2 ?_)))))
 cases hz3
 exact ⟨W,u14,(D8 ⟨.of W, .of W,(.of (T9<|U2 hv7).symm), .of W, .of W, .of W, .of W, .of W, .of W, .of W, .of W, .of W, .of W, .of W, .of W,trivial⟩<|sg W<|sg W<|N0 G_hit trivial)⟩
 refine A8<|E0<|B9<|sv W<|sv W<|A1<|E2 ?_
 cases hz3
 exact ⟨W,g6,(D8 (Y0 W)<|sg W<|sg W<|B7 (gq W) trivial)⟩
 refine C7 W ?_
 cases hz3
 obtain rfl:=ez3 _ rfl
 refine ⟨nofun,C5 W<|U1 ?_⟩
 exact ⟨g6,(D8 (Y0 W)<|B5 G_hit (.of W)<|sg W<|B7 (gq W) trivial)⟩
 rintro _ ⟨g5,q1⟩
 refine E0<|B4 q1<|B9<|sv W<|sv W<|A1<|E2 ?_
 cases hz2
 exact ⟨W,g5,(D8 (Y0 W)<|B5 G_hit (.of W)<|sg W<|B7 (gq W) trivial)⟩
 refine C7 W ?_
 cases hz2
 obtain rfl:=ez2 _ rfl
 refine ⟨nofun,C5 W<|U1 ?_⟩
 exact ⟨g4,(D8 (Y0 W)<|B5 G_hit (.of W)<|sg W<|B7 (gq W) trivial)⟩
 rintro _ ⟨g3,q2⟩
 refine E0<|B4 q2<|B9<|sv W<|sv W<|A1<|E2 ?_
 cases hz1
 exact ⟨W,g3,(D8 (Y0 W)<|B5 G_hit (.of W)<|sg W<|B7 (gq W) trivial)⟩
 refine C7 W ?_
 cases hz1
 obtain rfl:=ez1 _ rfl
 refine ⟨nofun,C5 W<|U1 ?_⟩
 exact ⟨g2,(D8 ⟨.of W,trivial⟩<|B7 (gq W) trivial)⟩
 rintro _ ⟨g1,q3⟩
 refine B4 q3<|A5 ?_
 rcases KN h with ⟨e1,h⟩|⟨e1,h⟩
 refine B4 (s0:=⟨T [(6,(.d .nilS))],G []⟩) (D8 ⟨.of (ZQ e1),trivial⟩ trivial) ?_
 refine B9<|sv W<|bs h fun _ hv9 h=>CW (v:= .d (.tup [])) (us:= []) (dV [] _ W W A3 (Cr _ hv9) W W) (A1<|B0<|sv W<|sv W<|A1<|B1 ?_)
 cases h
 exact A6 (.inr W) (B6 (B3 W) C0) DLe.nil
 refine B4 (s0:=⟨T [(6,(.sl (65,g1)))],G [((65,g1),some<|.arr 229 4 (List.map Q0 y1))]⟩) (D8 ⟨.of (T9 e1),trivial⟩<|B5 (Gh G_hit e1) (.of W) trivial) ?_
 refine B9<|ss W<|bs h fun v8 hv8 h=>CW (v:= .d (.tup [])) (us:= [(65,g1)]) (JD (Cq _ _ hv8) [(65,g1)] [(65,g1)] _ (((65,g1),some<|.arr 229 4 (List.map Q0 v8))::_) W Ll (X1 BH<|X1 Zd Ry) (Jf G_hit Gz) ⟨⟨_,G_hit, .of W⟩,trivial⟩ (fun _ h=>h) nd1 W W W) (A1<|B0<|ss W<|ss W<|A1<|B1 ?_)
 cases h
 exact A6 (.inr W) (B6 (B3 W)<|KH G_hit) (.refl _)
def Fc (p1:Pass)(p2:Int)(p3:WorldSpan):Option Bool:=
  some (((p1.Zone_==p2)&& (decide (p1.From≤p3.to)))&& (decide (p3.from_≤p1.To)))
theorem Tw(p1 p2 p3 r)(h:Fc p1 p2 p3=some r):PCall prog 247 [(.agg (Q0 p1)),(.bp [(i64 p2)] 0),(.bp [(i64 p3.from_),(i64 p3.to)] 0)] (bo r):=by
 refine C2 (fk func247 ntmps247 m0 (by with_unfolding_all rfl)) (nl W) ?_
 unfold Fc at h
 refine B4 (s0:=⟨T [(0,(.d _)),(1,(.d _)),(2,(.d _))],G []⟩) (F0 W W) ?_
 refine B0<|sm W<|sv W<|A1<|B0<|sq W<|sl W G_hit W<|sv W<|sv W<|sv W<|gp W (K3 W) (fun _=>W) (gt W (vl W G_hit W)<|gt W (fun _=>W) ?_)
 refine gt W (fun w4=>(by simp only [A2 w4];rfl)) ?_
 refine gt W (fun w5=>(M4 (A2 w5) (A2 w5) W))<|sa W W W<|sv W<|gt W (fun _=>W) ?_
 refine gt W (fun w7=>(by simp only [A2 w7];rfl)) ?_
 refine gp W (K3 W) (fun _=>W) (gt W (vl W G_hit W)<|gt W (fun w10=>(M4 (A2 w10) (A2 w10) W))<|sa W W W<|sv W<|A1<|B1 ?_)
 cases h
 exact A6 (.inr W) (B6 (B3 W) C0) (.refl _)
def K5 (p1:(List Pass))(p2:Int)(p3:WorldSpan)(x1:Int):Option (Stp Int (Sum Unit Int)):=
  cond (decide (x1< (p1.length:Int))) ((C3 p1 x1).bind fun v1=>(Fc v1 p2 p3).bind fun v2=>cond v2 (some (.out (.inr x1))) (some (.go (D9 (x1+1))))) (some (.out (.inl ())))
def I4 [Lp](p1:(List Pass))(p2:Int)(p3:WorldSpan):Option Int:=
  thenS (loop (K5 p1 p2 p3) 0) (fun _=>some (-1)) (fun r=>some r)
theorem Eg(p1 p2 p3 r)(h:I4 p1 p2 p3=some r):PCall prog 262 [(.list (List.map Q0 p1)),(.fn (.func 247) [] [(.bp [(i64 p2)] 0),(.bp [(i64 p3.from_),(i64 p3.to)] 0)])] (i64 r):=by
 refine C2 (fk func262 ntmps262 m0 (by with_unfolding_all rfl)) (nl W) ?_
 unfold I4 at h
 refine B4 (s0:=⟨T [(0,(.d _)),(1,(.d _))],G []⟩) (F0 W W) ?_
 refine B0<|sv W<|A1<|A5<|B0<|sv W<|sd W (D3 W)<|sv W<|A1<|js h fun z1 hz1 h=>D6 (fun s=> ∃(y1:Unit) (g1:Unit),z1= .inl y1∧Sb ⟨T [],G []⟩ s) ?_ ?_
 refine A7<|E1 (K5 p1 p2 p3) (fun (x1:Int) (g2:Unit)=>⟨T [(0,(dl Q0 p1)),(1,(.d (.fn (.func 247) [] [(.bp [(i64 p2)] 0),(.bp [(i64 p3.from_),(i64 p3.to)] 0)]))),(7,(di (p1.length:Int))),(8,(di x1))],G []⟩) 0 () _ hz1 (F0 W W) ?_
 intro x1 g2 z2 hz2 ez2
 unfold K5 at hz2
 refine B0<|sv W<|A1<|A5<|cc W hz2 (fun c1 hz2=> ?_)<|fun c1 hz2=> ?_
 refine A8<|A5<|A7<|B0<|sv W<|sv W<|A1<|B0<|sv W<|sv W<|sv W<|bs hz2 fun _ hv1 hz2=>sd W (C4 W W hv1 W)<|sd W (D1 W hv1 W W)<|bs hz2 fun _ hv2 hz2=>A9 W W A3 (Tw _ _ _ _ hv2) (.inl W) (A1<|cc W hz2 (fun c2 hz2=> ?_)<|fun c2 hz2=> ?_)
 refine B0<|sv W<|sv W<|A1<|B1 ?_
 cases hz2
 obtain rfl:=ez2 _ rfl
 refine ⟨nofun,F2 ?_⟩
 rw [bX]at h
 cases h
 exact A6 (.inr W) (B6 (B3 W) C0) (.refl _)
 refine A8<|E0<|B9<|sv W<|sv W<|A1<|E2 ?_
 cases hz2
 exact ⟨W,(),(F0 W W)⟩
 refine C7 W ?_
 cases hz2
 obtain rfl:=ez2 _ rfl
 refine ⟨nofun,C5 W<|U1 ?_⟩
 exact ⟨_,(),W,(F0 W W)⟩
 rintro _ ⟨y1,g1,rfl,q1⟩
 rw [bW]at h
 refine B4 q1<|B0<|sv W<|A1<|B1 ?_
 cases h
 exact A6 (.inr W) (B6 (B3 W) C0) (.refl _)
def G0 [Lp](p1:(List Pass))(p2:Int)(p3:WorldSpan):Option Bool:=
  (I4 p1 p2 p3).bind fun v1=>some (decide (v1≥0))
theorem Da(p1 p2 p3 r)(h:G0 p1 p2 p3=some r):PCall prog 245 [(.list (List.map Q0 p1)),(.fn (.func 247) [] [(.bp [(i64 p2)] 0),(.bp [(i64 p3.from_),(i64 p3.to)] 0)])] (bo r):=by
 refine C2 (fk func245 ntmps245 m0 (by with_unfolding_all rfl)) (nl W) ?_
 unfold G0 at h
 refine B4 (s0:=⟨T [(0,(.d _)),(1,(.d _))],G []⟩) (F0 W W) ?_
 refine B0<|sv W<|A1<|B0<|sv W<|sv W<|bs h fun _ hv1 h=>A9 W W A3 (Eg _ _ _ _ hv1) (.inl W) (sv W<|sv W<|A1<|B1 ?_)
 cases h
 exact A6 (.inr W) (B6 (B3 W) C0) (.refl _)
def Cm [Lp](p1:Map)(p2:Agent)(p3:Agent)(p4:Int):Option Bool:=
  (Kt p2).bind fun v1=>((cond (!(!v1)) (Kt p3) (some default))).bind fun v2=>cond ((!v1)||(!v2)) (some false) ((Bv p2).bind fun v3=>(U9 p1 p2.Route).bind fun v4=>(G0 v4 p4 (WorldSpan.mk v3.from_ p3.S)).bind fun v5=>some v5)
theorem DE(p1 p2 p3 p4 r)(h:Cm p1 p2 p3 p4=some r):PCall prog 218 [(.agg (P6 p1)),(.agg (C6 p2)),(.agg (C6 p3)),(i64 p4)] (bo r):=by
 refine C2 (fk func218 ntmps218 m0 (by with_unfolding_all rfl)) (nl W) ?_
 unfold Cm at h
 refine B4 (s0:=⟨T [(0,(.d _)),(1,(.d _)),(2,(.d _)),(3,(.d _))],G []⟩) (F0 W W) ?_
 refine B0<|sm W<|sn W W<|sm W<|sn W W<|sv W<|A1<|A5<|B0<|sd W (B2 W (gq W) W W)<|bs h fun v1 hv1 h=>A9 W W A3 (Sg _ _ hv1) (.inl W) (B8 (.d (bo (!v1))) W W (sv W<|gf W (fun _=>(B2 W (gq W) W W))<|bs h fun v2 hv2 h=> ?_))
 refine N4 _ (bo v2) (K6 W) (fun w2=>⟨_,[(.d (.agg (C6 p3)))],_,_,(by simp only [A2 w2];rfl),W,A3,Sg _ _<|C1 w2 hv2,(.inl W)⟩) ?_
 refine M5 _ (.d (bo (!v2))) W (K6 W) (fun w3=>(by simp only [A2 w3];rfl)) ?_
 refine sd W (O5 W W<|fun hc=>A2<|J6 hc)<|A1<|cc W h (fun c1 h=> ?_)<|fun c1 h=> ?_
 refine B0<|sv W<|A1<|B1 ?_
 cases h
 exact A6 (.inr W) (B6 (B3 W) C0) (.refl _)
 refine A8<|A5<|E8 W<|sd W (B2 W (gq W) W W)<|bs h fun v3 hv3 h=>A9 W W A3 (Hq _ _ hv3) (.inl W) (sv W<|sq W<|sl W (gq W) W (sv W<|sm W<|S5 W G_hit [(di v3.from_),(di p3.S)] W (A1<|B0<|sd W (B2 W (gq W) W W)<|sq W<|sl W (gq W) W (bs h fun _ hv4 h=>A9 W W A3 (EZ _ _ _ hv4) (.inl W) (B8 (.fn _ _ _) W W (bs h fun _ hv5 h=>A9 W (rD<|E4 (Xx F9<|E4 (Aj (gq W)<|rD F9)<|E4 (Aj G_hit<|rD<|rD F9) F9) F9) A3 (Da _ _ _ _ hv5) (.inr W) (sv W<|A1<|B1 ?_)))))))
 cases h
 exact A6 (.inr W) (B6 (B3 W) C0) (.refl _)
def P0 [Lp](p1:WorldScene)(p2:Int)(p3:Int):Option Bool:=
  (Gc p1.before p2).bind fun v1=>((cond v1 (C3 p1.before.Agents p2) (some default))).bind fun v2=>((cond v1 (C3 p1.after.Agents p2) (some default))).bind fun v3=>((cond v1 (Cm p1.m v2 v3 p3) (some default))).bind fun v4=>some (v1&&v4)
theorem Ay(p1 p2 p3 r)(h:P0 p1 p2 p3=some r):PCall prog 171 [(.bp (Nu p1) 0),(i64 p2),(i64 p3)] (bo r):=by
 refine C2 (fk func171 ntmps171 m0 (by with_unfolding_all rfl)) (nl W) ?_
 unfold P0 at h
 refine B4 (s0:=⟨T [(0,(.d _)),(1,(.d _)),(2,(.d _))],G []⟩) (F0 W W) ?_
 refine B0<|sv W<|A1<|A5<|E8 W<|sv W<|sv W<|sv W<|sv W<|sv W<|bs h fun v1 hv1 h=>A9 W W A3 (Lw _ _ _ hv1) (.inl W) (sv W<|gt W (fun _=>W) ?_)
 refine gt W (fun w2=>(by simp only [A2 w2];rfl)) ?_
 refine gt W (fun w3=>(by simp only [A2 w3];rfl)) ?_
 refine gt W (fun w4=>(by simp only [A2 w4];rfl)) ?_
 refine gt W (fun _=>W) ?_
 refine gt W (fun w6=>(by simp only [A2 w6];rfl)) ?_
 refine gt W (fun w7=>(by simp only [A2 w7];rfl)) ?_
 refine gt W (fun w8=>(by simp only [A2 w8];rfl)) ?_
 refine gt W (fun w9=>(by simp only [A2 w9];rfl)) ?_
 refine gt W (fun _=>W)<|bs h fun v2 hv2 h=>gt W (fun w11=>(C4 (A2 w11) (A2 w11) (C1 w11 hv2) W))<|gt W (fun w12=>(D1 (A2 w12) (C1 w12 hv2) W W))<|gt W (fun _=>W) ?_
 refine gt W (fun w14=>(by simp only [A2 w14];rfl)) ?_
 refine gt W (fun w15=>(by simp only [A2 w15];rfl)) ?_
 refine gt W (fun w16=>(by simp only [A2 w16];rfl)) ?_
 refine gt W (fun w17=>(by simp only [A2 w17];rfl)) ?_
 refine gt W (fun _=>W)<|bs h fun v3 hv3 h=>gt W (fun w19=>(C4 (A2 w19) (A2 w19) (C1 w19 hv3) W))<|gt W (fun w20=>(D1 (A2 w20) (C1 w20 hv3) W W))<|gt W (fun _=>W)<|bs h fun v4 hv4 h=> ?_
 refine N4 v1 (bo v4) (K3 W) (fun w22=>⟨_,[(.d (.agg (P6 p1.m))),(.d (.agg (C6 v2))),(.d (.agg (C6 v3))),(di p3)],_,_,(by simp only [A2 w22];rfl),W,A3,DE _ _ _ _ _<|C1 w22 hv4,(.inl W)⟩) ?_
 refine sa W W W<|sv W<|A1<|B1 ?_
 cases h
 exact A6 (.inr W) (B6 (B3 W) C0) (.refl _)
def G9 [Lp](p1:(List Stay))(p2:Stay)(x1:(Int×Int)):Option (Stp (Int×Int) Int):=
  cond (decide (x1.1<x1.2)) ((C3 p1 (D9 ((IntKind.wrap .u64 (D9 (x1.1+x1.2))).fdiv (2^ (min (1:Int).toNat (IntKind.bits .u64)))))).bind fun v1=>(Ck v1 p2).bind fun v2=>cond (decide (v2<0)) (some (.go ((D9 ((D9 ((IntKind.wrap .u64 (D9 (x1.1+x1.2))).fdiv (2^ (min (1:Int).toNat (IntKind.bits .u64)))))+1)),x1.2))) (some (.go (x1.1,(D9 ((IntKind.wrap .u64 (D9 (x1.1+x1.2))).fdiv (2^ (min (1:Int).toNat (IntKind.bits .u64))))))))) (some (.out x1.1))
def F3 [Lp](p1:(List Stay))(p2:Stay):Option (Int×Bool):=
  (loop (G9 p1 p2) (0,(p1.length:Int))).bind fun y1=>((cond (decide (y1< (p1.length:Int))) (C3 p1 y1) (some default))).bind fun v3=>((cond (decide (y1< (p1.length:Int))) (Ck v3 p2) (some default))).bind fun v4=>some (y1,((decide (y1< (p1.length:Int)))&& (v4==0)))
theorem O0(p1 p2 r)(h:F3 p1 p2=some r):PCall prog 172 [(.list (List.map I7 p1)),(.agg (I7 p2)),(.fn (.func 73) [] [])] (.tup [(i64 r.1),(bo r.2)]):=by
 refine C2 (fk func172 ntmps172 m0 (by with_unfolding_all rfl)) (nl W) ?_
 unfold F3 at h
 refine B4 (s0:=⟨T [(0,(.d _)),(1,(.d _)),(2,(.d _))],G []⟩) (F0 W W) ?_
 refine lr<|fun u1 _=>sm W<|sv W<|sv W<|A1<|B0<|sv W<|sd W (D3 W)<|sv W<|A1<|B0<|sv W<|sv W<|sv W<|A1<|A5<|bs h fun y1 hy1 h=>D6 (fun s=> ∃g1:Unit,Sb ⟨T [(0,(dl I7 p1)),(2,(.d (.fn (.func 73) [] []))),(4,(.ptr (4,u1) 0)),(8,(di (p1.length:Int))),(9,(di y1))],G [((4,u1),some<|.box 127 (Uo p2))]⟩ s) ?_ ?_
 refine A7<|E1 (G9 p1 p2) (fun (x1:(Int×Int)) (g2:Unit)=>⟨T [(0,(dl I7 p1)),(2,(.d (.fn (.func 73) [] []))),(4,(.ptr (4,u1) 0)),(8,(di (p1.length:Int))),(9,(di x1.1)),(10,(di x1.2))],G [((4,u1),some<|.box 127 (Uo p2))]⟩) (0,(p1.length:Int)) () _ hy1 (F0 W W) ?_
 intro x1 g2 z1 hz1 ez1
 unfold G9 at hz1
 refine A5<|B0<|sv W<|sv W<|sv W<|A1<|cc W hz1 (fun c1 hz1=> ?_)<|fun c1 hz1=> ?_
 refine A8<|A7<|B0<|sv W<|sv W<|sv W<|sv W<|sv W<|sv W<|sv W<|A1<|A5<|E8 W<|sv W<|sv W<|sv W<|bs hz1 fun _ hv1 hz1=>sd W (C4 W W hv1 W)<|sd W (D1 W hv1 W W)<|sd W (B2 W G_hit W W)<|bs hz1 fun _ hv2 hz1=>A9 W W A3 (Qj _ _ _ hv2) (.inl W) (sv W<|A1<|cc W hz1 (fun c2 hz1=> ?_)<|fun c2 hz1=> ?_)
 refine B9<|sv W<|sv W<|sv W<|A1<|E0<|E2 ?_
 cases hz1
 exact ⟨W,(),(F0 W W)⟩
 refine B9<|sv W<|sv W<|A1<|E0<|E2 ?_
 cases hz1
 exact ⟨W,(),(F0 W W)⟩
 refine C7 W ?_
 cases hz1
 obtain rfl:=ez1 _ rfl
 refine ⟨nofun,C5 W<|U1 ?_⟩
 exact ⟨(),(F0 W W)⟩
 rintro _ ⟨g1,q1⟩
 refine B4 q1<|A5<|E8 W<|sv W<|sv W<|sv W<|sv W<|sv W<|gt W (fun _=>W)<|gt W (fun _=>W)<|gt W (fun _=>W)<|bs h fun v3 hv3 h=>gt W (fun w4=>(C4 (A2 w4) (A2 w4) (C1 w4 hv3) W))<|gt W (fun w5=>(D1 (A2 w5) (C1 w5 hv3) W W))<|gt W (fun _=>(B2 W G_hit W W))<|bs h fun v4 hv4 h=> ?_
 refine N4 _ (i64 v4) (K3 W) (fun w7=>⟨_,[(.d (.agg (I7 v3))),(.d (.agg (I7 p2)))],_,_,(by simp only [A2 w7];rfl),W,A3,Qj _ _ _<|C1 w7 hv4,(.inl W)⟩) ?_
 refine gt W (vb W W W)<|sa W W W<|sv W<|sv W<|A1<|B1 ?_
 cases h
 exact A6 (.inr W) (Jt (B3 W) (B3 W) C0 C0) (.refl _)
def Lx (p1:Part)(p2:Int):Option Bool:=
  some (p1.Lane_==p2)
theorem BQ(p1 p2 r)(h:Lx p1 p2=some r):PCall prog 265 [(.agg (At p1)),(.bp [(i64 p2)] 0)] (bo r):=by
 refine C2 (fk func265 ntmps265 m0 (by with_unfolding_all rfl)) (nl W) ?_
 unfold Lx at h
 refine B4 (s0:=⟨T [(0,(.d _)),(1,(.d _))],G []⟩) (F0 W W) ?_
 refine B0<|sm W<|sv W<|A1<|B0<|sq W<|sl W G_hit W<|sv W<|sv W<|sv W<|A1<|B1 ?_
 cases h
 exact A6 (.inr W) (B6 (B3 W) C0) (.refl _)
def M0 (p1:(List Part))(p2:Int)(x1:Int):Option (Stp Int (Sum Unit Int)):=
  cond (decide (x1< (p1.length:Int))) ((C3 p1 x1).bind fun v1=>(Lx v1 p2).bind fun v2=>cond v2 (some (.out (.inr x1))) (some (.go (D9 (x1+1))))) (some (.out (.inl ())))
def J4 [Lp](p1:(List Part))(p2:Int):Option Int:=
  thenS (loop (M0 p1 p2) 0) (fun _=>some (-1)) (fun r=>some r)
theorem Fy(p1 p2 r)(h:J4 p1 p2=some r):PCall prog 220 [(.list (List.map At p1)),(.fn (.func 265) [] [(.bp [(i64 p2)] 0)])] (i64 r):=by
 refine C2 (fk func220 ntmps220 m0 (by with_unfolding_all rfl)) (nl W) ?_
 unfold J4 at h
 refine B4 (s0:=⟨T [(0,(.d _)),(1,(.d _))],G []⟩) (F0 W W) ?_
 refine B0<|sv W<|A1<|A5<|B0<|sv W<|sd W (D3 W)<|sv W<|A1<|js h fun z1 hz1 h=>D6 (fun s=> ∃(y1:Unit) (g1:Unit),z1= .inl y1∧Sb ⟨T [],G []⟩ s) ?_ ?_
 refine A7<|E1 (M0 p1 p2) (fun (x1:Int) (g2:Unit)=>⟨T [(0,(dl At p1)),(1,(.d (.fn (.func 265) [] [(.bp [(i64 p2)] 0)]))),(7,(di (p1.length:Int))),(8,(di x1))],G []⟩) 0 () _ hz1 (F0 W W) ?_
 intro x1 g2 z2 hz2 ez2
 unfold M0 at hz2
 refine B0<|sv W<|A1<|A5<|cc W hz2 (fun c1 hz2=> ?_)<|fun c1 hz2=> ?_
 refine A8<|A5<|A7<|B0<|sv W<|sv W<|A1<|B0<|sv W<|sv W<|sv W<|bs hz2 fun _ hv1 hz2=>sd W (C4 W W hv1 W)<|sd W (D1 W hv1 W W)<|bs hz2 fun _ hv2 hz2=>A9 W W A3 (BQ _ _ _ hv2) (.inl W) (A1<|cc W hz2 (fun c2 hz2=> ?_)<|fun c2 hz2=> ?_)
 refine B0<|sv W<|sv W<|A1<|B1 ?_
 cases hz2
 obtain rfl:=ez2 _ rfl
 refine ⟨nofun,F2 ?_⟩
 rw [bX]at h
 cases h
 exact A6 (.inr W) (B6 (B3 W) C0) (.refl _)
 refine A8<|E0<|B9<|sv W<|sv W<|A1<|E2 ?_
 cases hz2
 exact ⟨W,(),(F0 W W)⟩
 refine C7 W ?_
 cases hz2
 obtain rfl:=ez2 _ rfl
 refine ⟨nofun,C5 W<|U1 ?_⟩
 exact ⟨_,(),W,(F0 W W)⟩
 rintro _ ⟨y1,g1,rfl,q1⟩
 rw [bW]at h
 refine B4 q1<|B0<|sv W<|A1<|B1 ?_
 cases h
 exact A6 (.inr W) (B6 (B3 W) C0) (.refl _)
def Iw [Lp](p1:Zone)(p2:Int):Option (Part×Bool):=
  (J4 p1.Parts p2).bind fun v1=>cond (decide (v1<0)) (some ((Part.mk 0 0 0 0),false)) ((C3 p1.Parts v1).bind fun v2=>some (v2,true))
theorem JJ(p1 p2 r)(h:Iw p1 p2=some r):PCall prog 251 [(.agg [(.list (List.map At p1.Parts)),(i64 p1.Signal_)]),(i64 p2)] (.tup [(.agg (At r.1)),(bo r.2)]):=by
 refine C2 (fk func251 ntmps251 m0 (by with_unfolding_all rfl)) (nl W) ?_
 unfold Iw at h
 refine B4 (s0:=⟨T [(0,(.d _)),(1,(.d _))],G []⟩) (F0 W W) ?_
 refine B0<|sm W<|sn W W<|sm W<|sv W<|A1<|B0<|sq W<|sl W (gq W) W (B8 (.fn _ _ _) W W (bs h fun _ hv1 h=>A9 W (rD<|E4 (Xx F9<|E4 (Aj (gq W)<|rD F9) F9) F9) A3 (Fy _ _ _ hv1) (.inr W) (sv W<|A1<|A5<|B0<|sv W<|sv W<|A1<|cc W h (fun c1 h=> ?_)<|fun c1 h=> ?_)))
 refine B0<|sv W<|S5 W G_hit (zs 4) W (sv W<|A1<|B1 ?_)
 cases h
 exact A6 (.inr W) (Jt (H5 W G_hit (nl W) W) (B3 W) C0 C0) (.refl _)
 refine A8<|B0<|sq W<|sl W (gq W) W (sv W<|bs h fun v2 hv2 h=>sd W (C4 W W hv2 W)<|sd W (D1 W hv2 W W)<|S5 W G_hit (Ya v2) W (sv W<|A1<|B1 ?_))
 cases h
 exact A6 (.inr W) (Jt (H5 W G_hit (nl W) W) (B3 W) C0 C0) (.refl _)
def Z2 [Lp](p1:Int)(p2:Map)(p3:Int):Option Bool:=
  (C3 p2.Zones p3).bind fun v1=>(Iw v1 p1).bind fun v2=>some v2.2
theorem Wm(p1 p2 p3 r)(h:Z2 p1 p2 p3=some r):PCall prog 250 [(i64 p1),(.bp (P6 p2) 0),(.bp [(i64 p3)] 0)] (bo r):=by
 refine C2 (fk func250 ntmps250 m0 (by with_unfolding_all rfl)) (nl W) ?_
 unfold Z2 at h
 refine B4 (s0:=⟨T [(0,(.d _)),(1,(.d _)),(2,(.d _))],G []⟩) (F0 W W) ?_
 refine B0<|sv W<|A1<|B0<|sv W<|sv W<|sv W<|bs h fun _ hv1 h=>sd W (C4 W W hv1 W)<|sd W (D1 W hv1 W W)<|sv W<|bs h fun v2 hv2 h=>A9 W W A3 (JJ _ _ _ hv2) (.inl W) (sv W<|sv W<|sv W<|sm W<|S5 W G_hit (Ya v2.1) W (sv W<|A1<|B0<|sv W<|sv W<|A1<|B1 ?_))
 cases h
 exact A6 (.inr W) (B6 (B3 W) C0) (.refl _)
def G8 [Lp](p1:(List Int))(p2:Map)(p3:Int)(x1:Int):Option (Stp Int (Sum Unit Int)):=
  cond (decide (x1< (p1.length:Int))) ((C3 p1 x1).bind fun v1=>(Z2 v1 p2 p3).bind fun v2=>cond v2 (some (.out (.inr x1))) (some (.go (D9 (x1+1))))) (some (.out (.inl ())))
def H9 [Lp](p1:(List Int))(p2:Map)(p3:Int):Option Int:=
  thenS (loop (G8 p1 p2 p3) 0) (fun _=>some (-1)) (fun r=>some r)
theorem Fz(p1 p2 p3 r)(h:H9 p1 p2 p3=some r):PCall prog 249 [(.list (List.map A4 p1)),(.fn (.func 250) [] [(.bp (P6 p2) 0),(.bp [(i64 p3)] 0)])] (i64 r):=by
 refine C2 (fk func249 ntmps249 m0 (by with_unfolding_all rfl)) (nl W) ?_
 unfold H9 at h
 refine B4 (s0:=⟨T [(0,(.d _)),(1,(.d _))],G []⟩) (F0 W W) ?_
 refine B0<|sv W<|A1<|A5<|B0<|sv W<|sd W (D3 W)<|sv W<|A1<|js h fun z1 hz1 h=>D6 (fun s=> ∃(y1:Unit) (g1:Unit),z1= .inl y1∧Sb ⟨T [],G []⟩ s) ?_ ?_
 refine A7<|E1 (G8 p1 p2 p3) (fun (x1:Int) (g2:Unit)=>⟨T [(0,(dl A4 p1)),(1,(.d (.fn (.func 250) [] [(.bp (P6 p2) 0),(.bp [(i64 p3)] 0)]))),(7,(di (p1.length:Int))),(8,(di x1))],G []⟩) 0 () _ hz1 (F0 W W) ?_
 intro x1 g2 z2 hz2 ez2
 unfold G8 at hz2
 refine B0<|sv W<|A1<|A5<|cc W hz2 (fun c1 hz2=> ?_)<|fun c1 hz2=> ?_
 refine A8<|A5<|A7<|B0<|sv W<|sv W<|A1<|B0<|sv W<|sv W<|sv W<|bs hz2 fun _ hv1 hz2=>sd W (C4 W W hv1 W)<|sd W (C9 W hv1 W)<|bs hz2 fun _ hv2 hz2=>A9 W W A3 (Wm _ _ _ _ hv2) (.inl W) (A1<|cc W hz2 (fun c2 hz2=> ?_)<|fun c2 hz2=> ?_)
 refine B0<|sv W<|sv W<|A1<|B1 ?_
 cases hz2
 obtain rfl:=ez2 _ rfl
 refine ⟨nofun,F2 ?_⟩
 rw [bX]at h
 cases h
 exact A6 (.inr W) (B6 (B3 W) C0) (.refl _)
 refine A8<|E0<|B9<|sv W<|sv W<|A1<|E2 ?_
 cases hz2
 exact ⟨W,(),(F0 W W)⟩
 refine C7 W ?_
 cases hz2
 obtain rfl:=ez2 _ rfl
 refine ⟨nofun,C5 W<|U1 ?_⟩
 exact ⟨_,(),W,(F0 W W)⟩
 rintro _ ⟨y1,g1,rfl,q1⟩
 rw [bW]at h
 refine B4 q1<|B0<|sv W<|A1<|B1 ?_
 cases h
 exact A6 (.inr W) (B6 (B3 W) C0) (.refl _)
def Gd [Lp](p1:Map)(p2:(List Int))(p3:Int):Option Int:=
  (Y9 p1 p2).bind fun v1=>cond ((decide (p3<0))||(decide (p3≥(p1.Zones.length:Int)))) (some (-1)) ((H9 v1.lanes p1 p3).bind fun v2=>some v2)
theorem HN(p1 p2 p3 r)(h:Gd p1 p2 p3=some r):PCall prog 222 [(.agg (P6 p1)),(.list (List.map A4 p2)),(i64 p3)] (i64 r):=by
 refine C2 (fk func222 ntmps222 m0 (by with_unfolding_all rfl)) (nl W) ?_
 unfold Gd at h
 refine B4 (s0:=⟨T [(0,(.d _)),(1,(.d _)),(2,(.d _))],G []⟩) (F0 W W) ?_
 refine B0<|sm W<|sn W W<|sv W<|A1<|B0<|sd W (B2 W (gq W) W W)<|sv W<|bs h fun v1 hv1 h=>A9 W W A3 (Kn _ _ _ hv1) (.inl W) (sm W<|S5 W G_hit (Mp v1) W (A1<|A5<|B0<|sl W (gq W) W (sv W<|sv W<|gf W (fun _=>(P8 W (gq W) W))<|gp W (K6 W) (fun _=>W) (gf W (vl W (gq W) W)<|gf W (fun w4=>(D3<|A2 w4))<|gf W (fun w5=>(M4 (A2 w5) (A2 w5) W))<|sd W (O5 W W<|fun hc=>A2<|J6 hc)<|A1<|cc W h (fun c1 h=> ?_)<|fun c1 h=> ?_))))
 refine B0<|sv W<|A1<|B1 ?_
 cases h
 exact A6 (.inr W) (B6 (B3 W) C0) (.refl _)
 refine A8<|B0<|sq W<|sl W G_hit W<|B8 (.fn _ _ _) W W (bs h fun _ hv2 h=>A9 W (rD<|E4 (Xx F9<|E4 (Aj (gq W)<|rD<|rD<|rD<|rD<|rD F9)<|E4 (Aj (gq W)<|rD F9) F9) F9) A3 (Fz _ _ _ _ hv2) (.inr W) (sv W<|A1<|B1 ?_))
 cases h
 exact A6 (.inr W) (B6 (B3 W) C0) (.refl _)
def Cn [Lp](p1:Map)(p2:(List Int))(p3:Int):Option Int:=
  (Gd p1 p2 p3).bind fun v1=>cond (decide (v1≥0)) ((C3 p2 v1).bind fun v2=>some v2) (some (-1))
theorem Ql(p1 p2 p3 r)(h:Cn p1 p2 p3=some r):PCall prog 175 [(.agg (P6 p1)),(.list (List.map A4 p2)),(i64 p3)] (i64 r):=by
 refine C2 (fk func175 ntmps175 m0 (by with_unfolding_all rfl)) (nl W) ?_
 unfold Cn at h
 refine B4 (s0:=⟨T [(0,(.d _)),(1,(.d _)),(2,(.d _))],G []⟩) (F0 W W) ?_
 refine B0<|sm W<|sv W<|A1<|A5<|B0<|sd W (B2 W G_hit W W)<|sv W<|sv W<|bs h fun _ hv1 h=>A9 W W A3 (HN _ _ _ _ hv1) (.inl W) (sv W<|A1<|B0<|sv W<|sv W<|A1<|cc W h (fun c1 h=> ?_)<|fun c1 h=> ?_)
 refine B0<|sv W<|sv W<|bs h fun _ hv2 h=>sd W (C4 W W hv2 W)<|sd W (C9 W hv2 W)<|sv W<|A1<|B1 ?_
 cases h
 exact A6 (.inr W) (B6 (B3 W) C0) (.refl _)
 refine A8<|B0<|sv W<|A1<|B1 ?_
 cases h
 exact A6 (.inr W) (B6 (B3 W) C0) (.refl _)
def Ke [Lp](p1:Map)(p2:Int):Option Bool:=
  ((cond ((decide (p2≥0))&& (decide (p2< (p1.Lanes.length:Int)))) (Be p1) (some default))).bind fun v1=>some (((decide (p2≥0))&& (decide (p2< (p1.Lanes.length:Int))))&& (v1==0))
theorem Wn(p1 p2 r)(h:Ke p1 p2=some r):PCall prog 206 [(.agg (P6 p1)),(i64 p2)] (bo r):=by
 refine C2 (fk func206 ntmps206 m0 (by with_unfolding_all rfl)) (nl W) ?_
 unfold Ke at h
 refine B4 (s0:=⟨T [(0,(.d _)),(1,(.d _))],G []⟩) (F0 W W) ?_
 refine B0<|sm W<|sv W<|A1<|B0<|sv W<|sv W<|sv W<|gt W (fun _=>W)<|gp W (K3 W) (fun _=>W) (gt W (vl W G_hit W)<|gt W (fun w4=>(D3<|A2 w4))<|gt W (fun w5=>(M4 (A2 w5) (A2 w5) W))<|sa W W W<|sv W<|gt W (fun _=>(B2 W G_hit W W))<|bs h fun v1 hv1 h=> ?_)
 refine N4 _ (i64 v1) (K3 W) (fun w7=>⟨_,[(.d (.agg (P6 p1)))],_,_,(by simp only [A2 w7];rfl),W,A3,Qi _ _<|C1 w7 hv1,(.inl W)⟩) ?_
 refine gt W (vb W W W)<|sa W W W<|sv W<|A1<|B1 ?_
 cases h
 exact A6 (.inr W) (B6 (B3 W) C0) (.refl _)
def T8 [Lp](p1:Signal)(p2:Int)(x2:(Int×Int)):Option (Stp (Int×Int) (Sum Unit Bool)):=
  cond (decide (x2.2< (p1.Phases.length:Int))) ((C3 p1.Phases x2.2).bind fun v5=>cond (decide (x2.1≥v5.Ticks)) (some (.go ((D9 (x2.1 - v5.Ticks)),(D9 (x2.2+1))))) ((M7 v5.Green p2).bind fun v6=>some (.out (.inr v6)))) (some (.out (.inl ())))
def Bg (p1:Signal)(x1:(Int×Int)):Option (Stp (Int×Int) Int):=
  cond (decide (x1.2< (p1.Phases.length:Int))) ((C3 p1.Phases x1.2).bind fun v1=>some (.go ((D9 (x1.1+v1.Ticks)),(D9 (x1.2+1))))) (some (.out x1.1))
def Eh [Lp](p1:Signal)(p2:Int)(p3:Int):Option Bool:=
  (loop (Bg p1) (0,0)).bind fun y1=>(Re p1.Offset y1).bind fun v2=>(Re p3 y1).bind fun v3=>(Re (D9 (v2+v3)) y1).bind fun v4=>thenS (loop (T8 p1 p2) (v4,0)) (fun _=>some false) (fun r=>some r)
theorem Wo(p1 p2 p3 r)(h:Eh p1 p2 p3=some r):PCall prog 248 [(.agg [(i64 p1.Offset),(.list (List.map Ak p1.Phases))]),(i64 p2),(i64 p3)] (bo r):=by
 refine C2 (fk func248 ntmps248 m0 (by with_unfolding_all rfl)) (nl W) ?_
 unfold Eh at h
 refine B4 (s0:=⟨T [(0,(.d _)),(1,(.d _)),(2,(.d _))],G []⟩) (F0 W W) ?_
 refine lr<|fun u1 _=>sm W<|sv W<|A1<|dK<|B0<|sv W<|A1<|A5<|B0<|sq W<|sl W G_hit W<|sd W (D3 W)<|sv W<|A1<|bs h fun y1 hy1 h=>D6 (fun s=> ∃g1:Unit,Sb ⟨T [(1,(di p2)),(2,(di p3)),(3,(.ptr (3,u1) 0)),(7,(di y1))],G [((3,u1),some<|.box 120 [(di p1.Offset),(dl Ak p1.Phases)])]⟩ s) ?_ ?_
 refine A7<|E1 (Bg p1) (fun (x1:(Int×Int)) (g2:Unit)=>⟨T [(1,(di p2)),(2,(di p3)),(3,(.ptr (3,u1) 0)),(7,(di x1.1)),(14,(dl Ak p1.Phases)),(15,(di (p1.Phases.length:Int))),(16,(di x1.2))],G [((3,u1),some<|.box 120 [(di p1.Offset),(dl Ak p1.Phases)])]⟩) (0,0) () _ hy1 (F0 W W) ?_
 intro x1 g2 z1 hz1 ez1
 unfold Bg at hz1
 refine B0<|sv W<|A1<|A5<|cc W hz1 (fun c1 hz1=> ?_)<|fun c1 hz1=> ?_
 refine A8<|A5<|A7<|B0<|bs hz1 fun v1 hv1 hz1=>sd W (C4 W W hv1 W)<|sd W (D1 W hv1 W W)<|sm W<|S5 W G_hit [(di v1.Ticks),(dl A4 v1.Green)] W (A1<|B9<|sv W<|sq W<|sl W G_hit W<|sv W<|sv W<|A1<|E0<|B9<|sv W<|sv W<|A1<|E2 ?_)
 cases hz1
 exact ⟨W,(),(F0 W W)⟩
 refine C7 W ?_
 cases hz1
 obtain rfl:=ez1 _ rfl
 refine ⟨nofun,C5 W<|U1 ?_⟩
 exact ⟨(),(F0 W W)⟩
 rintro _ ⟨g1,q1⟩
 refine B4 q1<|A5<|E8 W<|sq W<|sl W G_hit W<|sv W<|bs h fun _ hv2 h=>sd W (Ul W W hv2)<|sv W<|sv W<|bs h fun _ hv3 h=>sd W (Ul W W hv3)<|sv W<|sv W<|bs h fun v4 hv4 h=>sd W (Ul W W hv4)<|sv W<|A1<|A5<|A8<|A5<|B0<|sq W<|sl W G_hit W<|sd W (D3 W)<|sv W<|A1<|js h fun z2 hz2 h=>D6 (fun s=> ∃(y2:Unit) (g3:Unit),z2= .inl y2∧Sb ⟨T [],G []⟩ s) ?_ ?_
 refine A7<|E1 (T8 p1 p2) (fun (x2:(Int×Int)) (g4:Unit)=>⟨T [(1,(di p2)),(10,(di x2.1)),(36,(dl Ak p1.Phases)),(37,(di (p1.Phases.length:Int))),(38,(di x2.2))],G []⟩) (v4,0) () _ hz2 (F0 W W) ?_
 intro x2 g4 z3 hz3 ez3
 unfold T8 at hz3
 refine B0<|sv W<|A1<|A5<|cc W hz3 (fun c2 hz3=> ?_)<|fun c2 hz3=> ?_
 refine A8<|A5<|A7<|B0<|bs hz3 fun v5 hv5 hz3=>sd W (C4 W W hv5 W)<|sd W (D1 W hv5 W W)<|sm W<|S5 W G_hit [(di v5.Ticks),(dl A4 v5.Green)] W (A1<|A5<|B0<|sv W<|sq W<|sl W G_hit W<|sv W<|A1<|cc W hz3 (fun c3 hz3=> ?_)<|fun c3 hz3=> ?_)
 refine B0<|sv W<|sq W<|sl W G_hit W<|sv W<|sv W<|A1<|Tj W<|B9<|sv W<|sv W<|A1<|E2 ?_
 cases hz3
 exact ⟨W,(),(F0 W W)⟩
 refine A8<|B0<|sq W<|sl W G_hit W<|sv W<|bs hz3 fun _ hv6 hz3=>A9 W W A3 (Cz _ _ _ hv6) (.inl W) (sv W<|A1<|B1 ?_)
 cases hz3
 obtain rfl:=ez3 _ rfl
 refine ⟨nofun,F2 ?_⟩
 rw [bX]at h
 cases h
 exact A6 (.inr W) (B6 (B3 W) C0) (.refl _)
 refine C7 W ?_
 cases hz3
 obtain rfl:=ez3 _ rfl
 refine ⟨nofun,C5 W<|U1 ?_⟩
 exact ⟨_,(),W,(F0 W W)⟩
 rintro _ ⟨y2,g3,rfl,q2⟩
 rw [bW]at h
 refine B4 q2<|B0<|sv W<|A1<|B1 ?_
 cases h
 exact A6 (.inr W) (B6 (B3 W) C0) (.refl _)
def Gf [Lp](p1:Map)(p2:Int)(p3:Int)(p4:Int):Option Bool:=
  ((cond (((decide (p4≥0))&& (decide (p2≥0)))&& (decide (p2< (p1.Signals.length:Int)))) (Ke p1 p3) (some default))).bind fun v1=>((cond ((((decide (p4≥0))&& (decide (p2≥0)))&& (decide (p2< (p1.Signals.length:Int))))&&v1) (C3 p1.Signals p2) (some default))).bind fun v2=>((cond ((((decide (p4≥0))&& (decide (p2≥0)))&& (decide (p2< (p1.Signals.length:Int))))&&v1) (Eh v2 p3 p4) (some default))).bind fun v3=>some (((((decide (p4≥0))&& (decide (p2≥0)))&& (decide (p2< (p1.Signals.length:Int))))&&v1)&&v3)
theorem HO(p1 p2 p3 p4 r)(h:Gf p1 p2 p3 p4=some r):PCall prog 219 [(.agg (P6 p1)),(i64 p2),(i64 p3),(i64 p4)] (bo r):=by
 refine C2 (fk func219 ntmps219 m0 (by with_unfolding_all rfl)) (nl W) ?_
 unfold Gf at h
 refine B4 (s0:=⟨T [(0,(.d _)),(1,(.d _)),(2,(.d _)),(3,(.d _))],G []⟩) (F0 W W) ?_
 refine B0<|sm W<|sv W<|A1<|B0<|sv W<|sv W<|sv W<|gt W (fun _=>W)<|gt W (vb W W W)<|sa W W W<|sv W<|gt W (fun _=>W)<|gp W (K3 W) (fun _=>W) (gt W (vl W G_hit W)<|gt W (fun w6=>(D3<|A2 w6))<|gt W (fun w7=>(M4 (A2 w7) (A2 w7) W))<|sa W W W<|sv W<|gt W (fun _=>(B2 W G_hit W W))<|gt W (fun _=>W)<|bs h fun v1 hv1 h=> ?_)
 refine N4 _ (bo v1) (K3 W) (fun w10=>⟨_,[(.d (.agg (P6 p1))),(di p3)],_,_,(by simp only [A2 w10];rfl),W,A3,Wn _ _ _<|C1 w10 hv1,(.inl W)⟩) ?_
 refine sa W W W<|sv W<|gp W (K3 W) (fun _=>W) (gt W (vl W G_hit W)<|gt W (fun _=>W)<|bs h fun v2 hv2 h=>gt W (fun w14=>(C4 (A2 w14) (A2 w14) (C1 w14 hv2) W))<|gt W (fun w15=>(D1 (A2 w15) (C1 w15 hv2) W W))<|gt W (fun _=>W)<|gt W (fun _=>W)<|bs h fun v3 hv3 h=> ?_)
 refine N4 _ (bo v3) (K3 W) (fun w18=>⟨_,[(.d (.agg [(i64 v2.Offset),(.list (List.map Ak v2.Phases))])),(di p3),(di p4)],_,_,(by simp only [A2 w18];rfl),W,A3,Wo _ _ _ _<|C1 w18 hv3,(.inl W)⟩) ?_
 refine sa W W W<|sv W<|A1<|B1 ?_
 cases h
 exact A6 (.inr W) (B6 (B3 W) C0) (.refl _)
def Ly (p1:Part)(p2:Int):Option Bool:=
  some (p1.Lane_==p2)
theorem BR(p1 p2 r)(h:Ly p1 p2=some r):PCall prog 221 [(.agg (At p1)),(.bp [(i64 p2)] 0)] (bo r):=by
 refine C2 (fk func221 ntmps221 m0 (by with_unfolding_all rfl)) (nl W) ?_
 unfold Ly at h
 refine B4 (s0:=⟨T [(0,(.d _)),(1,(.d _))],G []⟩) (F0 W W) ?_
 refine B0<|sm W<|sv W<|A1<|B0<|sq W<|sl W G_hit W<|sv W<|sv W<|sv W<|A1<|B1 ?_
 cases h
 exact A6 (.inr W) (B6 (B3 W) C0) (.refl _)
def M1 (p1:(List Part))(p2:Int)(x1:Int):Option (Stp Int (Sum Unit Int)):=
  cond (decide (x1< (p1.length:Int))) ((C3 p1 x1).bind fun v1=>(Ly v1 p2).bind fun v2=>cond v2 (some (.out (.inr x1))) (some (.go (D9 (x1+1))))) (some (.out (.inl ())))
def I0 [Lp](p1:(List Part))(p2:Int):Option Int:=
  thenS (loop (M1 p1 p2) 0) (fun _=>some (-1)) (fun r=>some r)
theorem Ga(p1 p2 r)(h:I0 p1 p2=some r):PCall prog 220 [(.list (List.map At p1)),(.fn (.func 221) [] [(.bp [(i64 p2)] 0)])] (i64 r):=by
 refine C2 (fk func220 ntmps220 m0 (by with_unfolding_all rfl)) (nl W) ?_
 unfold I0 at h
 refine B4 (s0:=⟨T [(0,(.d _)),(1,(.d _))],G []⟩) (F0 W W) ?_
 refine B0<|sv W<|A1<|A5<|B0<|sv W<|sd W (D3 W)<|sv W<|A1<|js h fun z1 hz1 h=>D6 (fun s=> ∃(y1:Unit) (g1:Unit),z1= .inl y1∧Sb ⟨T [],G []⟩ s) ?_ ?_
 refine A7<|E1 (M1 p1 p2) (fun (x1:Int) (g2:Unit)=>⟨T [(0,(dl At p1)),(1,(.d (.fn (.func 221) [] [(.bp [(i64 p2)] 0)]))),(7,(di (p1.length:Int))),(8,(di x1))],G []⟩) 0 () _ hz1 (F0 W W) ?_
 intro x1 g2 z2 hz2 ez2
 unfold M1 at hz2
 refine B0<|sv W<|A1<|A5<|cc W hz2 (fun c1 hz2=> ?_)<|fun c1 hz2=> ?_
 refine A8<|A5<|A7<|B0<|sv W<|sv W<|A1<|B0<|sv W<|sv W<|sv W<|bs hz2 fun _ hv1 hz2=>sd W (C4 W W hv1 W)<|sd W (D1 W hv1 W W)<|bs hz2 fun _ hv2 hz2=>A9 W W A3 (BR _ _ _ hv2) (.inl W) (A1<|cc W hz2 (fun c2 hz2=> ?_)<|fun c2 hz2=> ?_)
 refine B0<|sv W<|sv W<|A1<|B1 ?_
 cases hz2
 obtain rfl:=ez2 _ rfl
 refine ⟨nofun,F2 ?_⟩
 rw [bX]at h
 cases h
 exact A6 (.inr W) (B6 (B3 W) C0) (.refl _)
 refine A8<|E0<|B9<|sv W<|sv W<|A1<|E2 ?_
 cases hz2
 exact ⟨W,(),(F0 W W)⟩
 refine C7 W ?_
 cases hz2
 obtain rfl:=ez2 _ rfl
 refine ⟨nofun,C5 W<|U1 ?_⟩
 exact ⟨_,(),W,(F0 W W)⟩
 rintro _ ⟨y1,g1,rfl,q1⟩
 rw [bW]at h
 refine B4 q1<|B0<|sv W<|A1<|B1 ?_
 cases h
 exact A6 (.inr W) (B6 (B3 W) C0) (.refl _)
def Gs [Lp](p1:Map)(p2:Agent)(p3:Int)(p4:Int):Option Int:=
  (Cn p1 p2.Route p3).bind fun v1=>cond (decide (v1<0)) (some 0) ((C3 p1.Zones p3).bind fun v2=>((cond (decide (v2.Signal_>0)) (Gf p1 (D9 (v2.Signal_ - 1)) v1 p4) (some default))).bind fun v3=>cond ((decide (v2.Signal_>0))&&v3) (some 2) (cond (decide (v2.Signal_>0)) (some 0) ((I0 v2.Parts v1).bind fun v4=>(C3 v2.Parts v4).bind fun v5=>some v5.Rank)))
theorem Yj(p1 p2 p3 p4 r)(h:Gs p1 p2 p3 p4=some r):PCall prog 173 [(.agg (P6 p1)),(.agg (C6 p2)),(i64 p3),(i64 p4)] (i64 r):=by
 refine C2 (fk func173 ntmps173 m0 (by with_unfolding_all rfl)) (nl W) ?_
 unfold Gs at h
 refine B4 (s0:=⟨T [(0,(.d _)),(1,(.d _)),(2,(.d _)),(3,(.d _))],G []⟩) (F0 W W) ?_
 refine B0<|sm W<|sn W W<|sv W<|A1<|B0<|sd W (B2 W (gq W) W W)<|sq W<|sl W G_hit W<|sv W<|bs h fun v1 hv1 h=>A9 W W A3 (Ql _ _ _ _ hv1) (.inl W) (sm W<|S5 W G_hit [(di v1)] W (A1<|A5<|B0<|sl W G_hit W<|sv W<|A1<|cc W h (fun c1 h=> ?_)<|fun c1 h=> ?_))
 refine B0<|sv W<|A1<|B1 ?_
 cases h
 exact A6 (.inr W) (B6 (B3 W) C0) (.refl _)
 refine A8<|B0<|sq W<|sl W (gq W) W (sv W<|bs h fun v2 hv2 h=>sd W (C4 W W hv2 W)<|sd W (D1 W hv2 W W)<|sm W<|S5 W G_hit [(dl At v2.Parts),(di v2.Signal_)] W (A1<|A5<|A7<|B0<|sq W<|sl W G_hit W<|sv W<|sv W<|gt W (fun _=>(B2 W (gq W) W W))<|gp W (K3 W) (fun _=>W) (gt W (vl W G_hit W)<|gt W (vb W W W)<|gt W (fun _=>(P8 W (gq W) W))<|gt W (fun _=>W)<|bs h fun v3 hv3 h=> ?_)))
 refine N4 _ (bo v3) (K3 W) (fun w7=>⟨_,[(.d (.agg (P6 p1))),(di<|D9 (v2.Signal_ - 1)),(di v1),(di p4)],_,_,(by simp only [A2 w7];rfl),W,A3,HO _ _ _ _ _<|C1 w7 hv3,(.inl W)⟩) ?_
 refine sa W W W<|sv W<|A1<|cc W h (fun c2 h=> ?_)<|fun c2 h=> ?_
 refine B0<|sv W<|A1<|B1 ?_
 cases h
 exact A6 (.inr W) (B6 (B3 W) C0) (.refl _)
 refine B0<|sq W<|sl W G_hit W<|sv W<|sv W<|A1<|cc W h (fun c3 h=> ?_)<|fun c3 h=> ?_
 refine B0<|sv W<|A1<|B1 ?_
 cases h
 exact A6 (.inr W) (B6 (B3 W) C0) (.refl _)
 refine A8<|E0<|A5<|E8 W<|sq W<|sl W G_hit W<|sq W<|sl W G_hit W<|B8 (.fn _ _ _) W W (bs h fun _ hv4 h=>A9 W (rD<|E4 (Xx F9<|E4 (Aj (gq W)<|rD F9) F9) F9) A3 (Ga _ _ _ hv4) (.inr W) (bs h fun _ hv5 h=>sd W (C4 W W hv5 W)<|sv W<|sd W (C9 W hv5 W)<|sv W<|A1<|B1 ?_))
 cases h
 exact A6 (.inr W) (B6 (B3 W) C0) (.refl _)
def W0 [Lp](p1:WorldScene)(x1:(Int× (List Stay)))(v1:Agent)(x2:(Int× (List Stay))):Option (Stp (Int× (List Stay)) (List Stay)):=
  cond (decide (x2.1< (p1.m.Zones.length:Int))) ((P0 (WorldScene.mk p1.m p1.before (State.mk p1.after.Tick p1.after.Agents x2.2) p1.acts p1.crashes) x1.1 x2.1).bind fun v2=>cond (!v2) (some (.go ((D9 (x2.1+1)),x2.2))) ((F3 p1.before.In (Stay.mk x1.1 x2.1 p1.before.Tick 0)).bind fun v3=>(cond v3.2 ((C3 p1.before.In v3.1).bind fun v4=>some v4) ((Gs p1.m v1 x2.1 p1.before.Tick).bind fun v5=>some (Stay.mk x1.1 x2.1 p1.before.Tick v5))).bind fun y2=>(Au x2.2 [y2]).bind fun v6=>some (.go ((D9 (x2.1+1)),v6)))) (some (.out x2.2))
def W1 [Lp](p1:WorldScene)(x1:(Int× (List Stay))):Option (Stp (Int× (List Stay)) WorldScene):=
  cond (decide (x1.1< (p1.before.Agents.length:Int))) ((C3 p1.before.Agents x1.1).bind fun v1=>(loop (W0 p1 x1 v1) (0,x1.2)).bind fun y1=>some (.go ((D9 (x1.1+1)),y1))) (some (.out ((WorldScene.mk p1.m p1.before (State.mk p1.after.Tick p1.after.Agents x1.2) p1.acts p1.crashes))))
def Z4 [Lp](p1:WorldScene):Option WorldScene:=
  loop (W1 p1) (0,[])
theorem Tx(p1 r)(h:Z4 p1=some r):MCall prog 80 [(.ptr (900000,0) 0)] [(.box 135 (V2 p1))] (.d (.tup [])) [some (.box 135 (V2 r))] []:=by
 refine Tk (fk func80 ntmps80 (fun r=>if r==13 then [1007]else []) (by with_unfolding_all rfl)) W (nl W) ?_
 unfold Z4 at h
 refine B4 (s0:=⟨T [(0,(.ptr _ _))],G [((900000,0),some<|.box 135 _)]⟩) (F0 W W) ?_
 refine B0<|sq W<|sp W W<|sq W<|sp W W<|S5 W G_hit ((V2 p1).set 10 (.d .nilS)) W (A1<|B0<|sq W<|sp W W<|sq W<|sp W W<|sl W G_hit W<|sd W (D3 W)<|sv W<|A1<|A7<|E1 (W1 p1) (fun (x1:(Int× (List Stay))) (g1:Nat)=>⟨T [(0,(.ptr (900000,0) 0)),(16,(dl C6 p1.before.Agents)),(17,(di (p1.before.Agents.length:Int))),(18,(di x1.1))],G [((900000,0),some<|.box 135 ((V2 p1).set 10 (oS x1.2 (85,g1)))),((85,g1),oB 127 4 I7 x1.2)]⟩) (0,[]) 0 _ h (D8 (Y0 W)<|B5 G_hit (.of W)<|R6 trivial) ?_)
 intro x1 g1 z1 hz1 ez1
 unfold W1 at hz1
 refine B0<|sv W<|A1<|A5<|cc W hz1 (fun c1 hz1=> ?_)<|fun c1 hz1=> ?_
 refine A8<|A5<|A7<|lr<|fun u4 _=>sv W<|bs hz1 fun v1 hv1 hz1=>sd W (C4 W W hv1 W)<|sd W (D1 W hv1 W W)<|sm W<|sv W<|S5 W G_hit (Q8 v1) W (A1<|B0<|sq W<|sp W W<|sq W<|sp W W<|sl W (gq W) W (sd W (D3 W)<|sv W<|A1<|bs hz1 fun y1 hy1 hz1=>D6 (fun s=> ∃g2:Nat,Sb ⟨T [(0,(.ptr (900000,0) 0)),(16,(dl C6 p1.before.Agents)),(17,(di (p1.before.Agents.length:Int))),(18,(di x1.1))],G [((900000,0),some<|.box 135 ((V2 p1).set 10 (oS y1 (85,g2)))),((85,g2),oB 127 4 I7 y1)]⟩ s) ?_ ?_))
 refine A7<|E1 (W0 p1 x1 v1) (fun (x2:(Int× (List Stay))) (g3:Nat)=>⟨T [(0,(.ptr (900000,0) 0)),(2,(di x1.1)),(3,(.ptr (3,u4) 0)),(16,(dl C6 p1.before.Agents)),(17,(di (p1.before.Agents.length:Int))),(18,(di x1.1)),(28,(di (p1.m.Zones.length:Int))),(29,(di x2.1))],G [((900000,0),some<|.box 135 ((V2 p1).set 10 (oS x2.2 (85,g3)))),((3,u4),some<|.box 45 (Q8 v1)),((85,g3),oB 127 4 I7 x2.2)]⟩) (0,x1.2) g1 _ hy1 (D8 (Y0 W)<|sg W<|B5 G_hit (.of W)<|B7 (gq W) trivial) ?_
 intro x2 g3 z2 hz2 ez2
 unfold W0 at hz2
 refine B0<|sv W<|A1<|A5<|cc W hz2 (fun c2 hz2=> ?_)<|fun c2 hz2=> ?_
 refine A8<|A5<|A7<|B0<|sv W<|sv W<|A1<|A5<|B0<|sq W<|sv W<|sv W<|bs hz2 fun v2 hv2 hz2=>A9 W (E4 (Aj G_hit<|rD<|rD<|rD<|rD<|rD<|rD<|rD<|rD<|rD<|rD<|E4 (S9<|gq W)<|rD<|rD F9)<|rD<|rD F9) (.cons (DLe.bp<|ca W<|ca W<|ca W<|ca W<|ca W<|ca W<|ca W<|ca W<|ca W<|ca W<|.cons ⟨S8,W⟩ (cz W)) (.cons (.refl _) A3)) (Ay _ _ _ _ hv2) (.inr W) (B8 (.d (bo (!v2))) W W (A1<|cc W hz2 (fun c3 hz2=> ?_)<|fun c3 hz2=> ?_))
 refine Tj W<|B9<|sv W<|sv W<|A1<|E2 ?_
 cases hz2
 exact ⟨W,g3,(D8 (Y0 W)<|B5 G_hit (.of W)<|sg W<|B7 (gq W) trivial)⟩
 refine A8<|lr<|fun u10 _=>sv W<|sv W<|sq W<|sp W W<|sq W<|sp W W<|sl W G_hit W<|sv W<|sm W<|S5 W G_hit [(di x1.1),(di x2.1),(di p1.before.Tick),(di 0)] W (A1<|A5<|A5<|E8 W<|sq W<|sq W<|sp W W<|sq W<|sl W (gq W) W (sd W (B2 W G_hit W W)<|bs hz2 fun _ hv3 hz2=>A9 W W A3 (O0 _ _ _ hv3) (.inl W) (sv W<|sv W<|sv W<|sv W<|sv W<|A1<|B0<|sv W<|A1<|bs hz2 fun y2 hy2 hz2=>D6 (fun s=> ∃g4:Unit,Sb ⟨T [(0,(.ptr (900000,0) 0)),(2,(di x1.1)),(3,(.ptr (3,u4) 0)),(5,(.ptr (5,u10) 0)),(16,(dl C6 p1.before.Agents)),(17,(di (p1.before.Agents.length:Int))),(18,(di x1.1)),(28,(di (p1.m.Zones.length:Int))),(29,(di x2.1))],G [((900000,0),some<|.box 135 ((V2 p1).set 10 (oS x2.2 (85,g3)))),((3,u4),some<|.box 45 (Q8 v1)),((5,u10),some<|.box 127 (Uo y2)),((85,g3),oB 127 4 I7 x2.2)]⟩ s) ?_ ?_)))
 refine cc W hy2 (fun c4 hy2=> ?_)<|fun c4 hy2=> ?_
 refine B9<|sq W<|sq W<|sp W W<|sq W<|sl W (gq W) W (sv W<|bs hy2 fun v4 hv4 hy2=>sd W (C4 W W hv4 W)<|sd W (D1 W hv4 W W)<|S5 W G_hit (Uo v4) W (A1 ?_))
 obtain rfl:=(lD hy2)
 exact U1 ⟨(),(D8 (Y0 W)<|sg W<|sg W<|B5 G_hit (.of W)<|B7 (gq W) trivial)⟩
 refine E8 W<|sq W<|sq W<|sp W W<|sd W (B2 W (gq W) W W)<|sd W (B2 W (gq W) W W)<|sv W<|sq W<|sp W W<|sq W<|sp W W<|sl W (gq W) W (bs hy2 fun v5 hv5 hy2=>A9 W W A3 (Yj _ _ _ _ _ hv5) (.inl W) (sq W<|S5 W G_hit [(di x1.1),(di x2.1),(di p1.before.Tick),(di v5)] W (A1 ?_)))
 cases hy2
 exact U1 ⟨(),(D8 (Y0 W)<|sg W<|sg W<|B5 G_hit (.of W)<|B7 (gq W) trivial)⟩
 rintro _ ⟨g4,q1⟩
 refine B4 q1<|Lj W fun u15 _=>sq W<|sq W<|sp W W<|sq W<|sp W W<|B8 (oS x2.2 (85,g3)) W (P8 W G_hit W) (sd W (B2 W (gq W) W W)<|B8 (dl I7 [y2]) W W (bs hz2 fun _ hv6 hz2=>P1 I7 (85,g3) x2.2 y2 [] _ (L3<|fun _=>W) W (gq W) hv6 (sq W<|sp W W<|sq W<|S5 W (gq W) ((V2 p1).set 10 (.sl (85,u15))) W (A1<|E0<|B9<|sv W<|sv W<|A1<|E2 ?_))))
 cases hz2
 exact ⟨W,u15,(D8 (Y0 W)<|B5 G_hit (.box (cv<|cv<|cv<|cv<|cv<|cv<|cv<|cv<|cv<|cv<|.cons (.of (T9<|U2 hv6).symm) cw))<|sg W<|N0 (gq W) trivial)⟩
 refine C7 W ?_
 cases hz2
 obtain rfl:=ez2 _ rfl
 refine ⟨nofun,C5 W<|U1 ?_⟩
 exact ⟨g3,(D8 (Y0 W)<|B5 G_hit (.of W)<|B7 (gq W) trivial)⟩
 rintro _ ⟨g2,q2⟩
 refine E0<|B4 q2<|B9<|sv W<|sv W<|A1<|E2 ?_
 cases hz1
 exact ⟨W,g2,(D8 (Y0 W)<|B5 G_hit (.of W)<|B7 (gq W) trivial)⟩
 refine C7 W ?_
 cases hz1
 obtain rfl:=ez1 _ rfl
 refine ⟨nofun,C5 W<|E2 ?_⟩
 exact Ze (.inl W) [(85,g1)] Zf (.refl _) ⟨⟨_,_,_,G_hit,(VC W El),(rD<|rD<|rD<|rD<|rD<|rD<|rD<|rD<|rD<|rD<|E4 (S9<|OW (.head _)<|gq W)<|rD<|rD F9),(.cons (.refl _) (.cons (.refl _) (.cons (.refl _) (.cons (.refl _) (.cons (.refl _) (.cons (.refl _) (.cons (.refl _) (.cons (.refl _) (.cons (.refl _) (.cons (.refl _) (.cons S8 (.cons (.refl _) A3)))))))))))),W⟩,trivial⟩
def DF (s:State)(i:Nat):Nat→Nat→Option (List (Int×Int))
  |0,_=>some []
  |k+1,j=>(Gc s i).bind fun a=>(Gc s j).bind fun b=>(DF s i k (j+1)).bind fun l=>some (cond (a&&b) (((i:Int),(j:Int))::l) l)
def HP (s:State)(n:Nat):Nat→Nat→Option (List (Int×Int))
  |0,_=>some []
  |k+1,i=>(DF s i (n - (i+1)) (i+1)).bind fun a=>(HP s n k (i+1)).bind fun b=>some (a++b)
def MQ (s:State):Option (List (Int×Int)):=if s.Agents.length≤1000000 then HP s s.Agents.length s.Agents.length 0 else none
abbrev HQ (a:Int×Int):List D:= [i64 a.1,i64 a.2]
def Ty (kb ks:F5)(s:State)(h:E3):Prop:=h kb=some (.box 133 [.ptr ks 0])∧∃c0 c1 c2 c3 c4 c8 c9 c10 c11 c12,h ks=some (.box 135 [c0,c1,c2,c3,c4, .d (i64 s.Tick), .d (.list (List.map C6 s.Agents)), .d (.list (List.map I7 s.In)),c8,c9,c10,c11,c12])
theorem HR {s:State}{L:List (Int×Int)}(h:MQ s=some L)(kb ks:F5):fL prog (.fn (.func 174) [] [.ptr kb 0]) (Ty kb ks s) (L.map HQ):=by
  unfold MQ at h
  split at h
  case isFalse=>cases h
  rename_i hlen
  refine ⟨174,[],[.ptr kb 0],W,?_⟩
  intro k h0 Inv Stop hi0 hcan hy
  refine GS (fk func174 ntmps174 (fun r=>if r==6 then [18]else []) (by with_unfolding_all rfl)) (by simp) (dJ ?_)
  obtain ⟨g0,S0,i0,c0⟩:=hcan 0 h0 hi0
  have hLm:(L.map HQ).length=L.length:=lS ..
  rw [hLm]
  refine B4 (s0:=⟨T [(0, .yld k),(1, .ptr kb 0)],g0⟩) ⟨fun i=> ?_,S0.h⟩ ?_
  ·match i with
   |0=>exact .refl _
   |1=>exact .refl _
   |n+2=>exact .any _
  have c0':=c0
  obtain ⟨e1,a0,a1,a2,a3,a4,a8,a9,a10,a11,a12,e2⟩:=c0'
  refine A5 ?_
  refine Rz fun u hu=> ?_
  refine G3 (.ptr ks 0) W (P8 W e1 W) ?_
  refine G3 (.ptr ks 0) W W ?_
  refine G3 (.ptr ks 5) W W ?_
  refine G3 (.ptr ks 6) W W ?_
  refine G3 (.d (.list (List.map C6 s.Agents))) W (P8 W e2 W) ?_
  refine G3 (.d (i64 s.Agents.length)) W (D3 (f:=C6) W) ?_
  refine G3 (.d (i64 0)) W W ?_
  refine Ai ?_
  refine A7 ?_
  refine TT (α:=Nat×Nat×E3) (fun x=>⟨T [(0, .yld k),(1, .ptr kb 0),(10, .d (i64 s.Agents.length)),(11, .d (i64 (x.1:Int)))],x.2.2⟩) (fun x=>s.Agents.length - x.1)
    (fun x=>Inv x.2.1 x.2.2∧Ty kb ks s x.2.2∧x.1≤s.Agents.length∧x.2.1≤L.length∧HP s s.Agents.length (s.Agents.length - x.1) x.1=some (L.drop x.2.1)) (0,0,g0) ⟨i0,c0,wB _,wB _,h⟩ (Vw ⟨rfl,rfl,rfl,rfl,trivial⟩ fun _ _ h=>h) ?_
  rintro ⟨i,pos,hh⟩ ⟨hinv,hrq,hi,hpos,hgo⟩
  dsimp only at hinv hrq hi hpos hgo ⊢
  refine A5 ?_
  refine Rz fun u hu=> ?_
  refine G3 (.d (bo<|decide ((i:Int)< (s.Agents.length:Int)))) W W ?_
  refine Ai ?_
  refine A5 ?_
  refine RN (decide ((i:Int)< (s.Agents.length:Int))) W (fun hlt=> ?_) (fun hlt=> ?_)
  ·refine A8 ?_
   have hlt:i<s.Agents.length:=by simpa using hlt
   have hw1: ∀n:Nat,n≤1000000→IntKind.i64.wrap ((n:Int)+1)=((n+1:Nat):Int):=fun n _=>(Go.IntWalk.i64_in _ (by omega)).trans (by omega)
   obtain ⟨m,hm⟩: ∃m,s.Agents.length - i=m+1:=⟨s.Agents.length - i - 1,by omega⟩
   rw [hm,HP]at hgo
   obtain ⟨l1,hl1,hgo⟩:=bind_some hgo
   obtain ⟨l2,hl2,hgo⟩:=bind_some hgo
   have hgo:l1++l2=L.drop pos:=lD hgo
   refine A5 ?_
   refine A7 ?_
   refine A5 ?_
   refine Rz fun u hu=> ?_
   refine G3 (.d (i64 i)) W W ?_
   refine G3 (.d (i64 i)) W W ?_
   refine Ai ?_
   refine A5 ?_
   refine Rz fun u hu=> ?_
   refine G3 (.d (i64 i)) W W ?_
   refine G3 (.d (i64 ((i+1:Nat):Int))) W (by rw [← hw1 i (by omega)];rfl) ?_
   refine G3 (.d (i64 ((i+1:Nat):Int))) W W ?_
   refine Ai ?_
   refine A7 ?_
   refine TT (α:=Nat×Nat×E3) (fun x=>⟨T [(0, .yld k),(1, .ptr kb 0),(3, .d (i64 (i:Int))),(4, .d (i64 (x.1:Int))),(10, .d (i64 s.Agents.length)),(11, .d (i64 (i:Int)))],x.2.2⟩) (fun x=>s.Agents.length - x.1)
     (fun x=>Inv x.2.1 x.2.2∧Ty kb ks s x.2.2∧x.1≤s.Agents.length∧x.2.1≤L.length∧∃l,DF s i (s.Agents.length - x.1) x.1=some l∧l++l2=L.drop x.2.1) (i+1,pos,hh) ⟨hinv,hrq,hlt,hpos,l1,hl1,hgo⟩ (Vw ⟨rfl,rfl,rfl,rfl,rfl,rfl,trivial⟩ fun _ _ h=>h) ?_
   rintro ⟨j,pos,hh⟩ ⟨hinv,hrq,hj,hpos,l,hl,hgo⟩
   dsimp only at hinv hrq hj hpos hl hgo ⊢
   have hrq':=hrq
   obtain ⟨e1,a0,a1,a2,a3,a4,a8,a9,a10,a11,a12,e2⟩:=hrq'
   refine A5 ?_
   refine A5 ?_
   refine Rz fun u hu=> ?_
   refine G3 (.d (i64 j)) W W ?_
   refine G3 (.ptr ks 0) W (P8 W e1 W) ?_
   refine G3 (.ptr ks 0) W W ?_
   refine G3 (.ptr ks 5) W W ?_
   refine G3 (.ptr ks 6) W W ?_
   refine G3 (.d (.list (List.map C6 s.Agents))) W (P8 W e2 W) ?_
   refine G3 (.d (i64 s.Agents.length)) W (D3 (f:=C6) W) ?_
   refine G3 (.d (bo<|decide ((j:Int)< (s.Agents.length:Int)))) W W ?_
   refine Ai ?_
   refine RN (decide ((j:Int)< (s.Agents.length:Int))) W (fun hjl=> ?_) (fun hjl=> ?_)
   ·refine A8 ?_
    have hjl:j<s.Agents.length:=by simpa using hjl
    obtain ⟨m',hm'⟩: ∃m',s.Agents.length - j=m'+1:=⟨s.Agents.length - j - 1,by omega⟩
    rw [hm',DF]at hl
    obtain ⟨a,ha,hl⟩:=bind_some hl
    obtain ⟨b,hb,hl⟩:=bind_some hl
    obtain ⟨l',hl',hl⟩:=bind_some hl
    have hl:cond (a&&b) (((i:Int),(j:Int))::l') l'=l:=lD hl
    have hm1:s.Agents.length - (j+1)=m':=by omega
    -- what a round leaves
    have hend: ∀(p':Nat) (h':E3),Inv p' h'→Ty kb ks s h'→p'≤L.length→l'++l2=L.drop p'→∃y:Nat×Nat×E3,(Inv y.2.1 y.2.2∧Ty kb ks s y.2.2∧y.1≤s.Agents.length∧y.2.1≤L.length∧∃l,DF s i (s.Agents.length - y.1) y.1=some l∧l++l2=L.drop y.2.1)∧s.Agents.length - y.1<s.Agents.length - j∧y=(j+1,p',h'):=fun p' h' q1 q2 q3 q4=>⟨(j+1,p',h'),⟨q1,q2,hjl,q3,l',by dsimp only;rw [hm1];exact hl',q4⟩,by dsimp only;omega,rfl⟩
    refine A5 ?_
    refine A7 ?_
    refine A5 ?_
    refine Rz fun u hu=> ?_
    refine G3 (.ptr ks 0) W (P8 W e1 W) ?_
    refine G3 (.ptr ks 0) W W ?_
    refine G3 (.ptr ks 5) W W ?_
    refine G3 (.d (.agg [i64 s.Tick, .list (List.map C6 s.Agents), .list (List.map I7 s.In)])) W (B2 W e2 W W) ?_
    refine G3 (.d (i64 i)) W W ?_
    refine Xc W W (Lw s i _ ha) (.inl W) ?_
    refine G3 (.d (bo a)) W W ?_
    cases a with
    |false=>
     iterate 6 (refine RX rfl rfl ?_)
     refine G3 (.d (bo false)) W W ?_
     refine G3 (.d (bo false)) W W ?_
     iterate 5 (refine RX rfl rfl ?_)
     refine G3 (.d (bo false)) W W ?_
     refine Ai ?_
     refine Rk W<|A8<|E0 ?_
     refine Rz fun u hu=> ?_
     refine G3 (.d (i64 j)) W W ?_
     refine G3 (.d (i64 ((j+1:Nat):Int))) W (by rw [← hw1 j (by omega)];rfl) ?_
     refine G3 (.d (i64 ((j+1:Nat):Int))) W W ?_
     refine Ai ?_
     obtain ⟨y,y1,y2,rfl⟩:=hend pos hh hinv hrq hpos (by rw [← hgo,← hl];rfl)
     exact E2 ⟨_,y1,y2,Vw ⟨W,W,W,W,W,W,trivial⟩ fun _ _ h=>h⟩
    |true=>
     refine Un W ?_
     refine G3 (.ptr ks 0) W (P8 W e1 W) ?_
     refine Un W ?_
     refine G3 (.ptr ks 0) W W ?_
     refine Un W ?_
     refine G3 (.ptr ks 5) W W ?_
     refine Un W ?_
     refine G3 (.d (.agg [i64 s.Tick, .list (List.map C6 s.Agents), .list (List.map I7 s.In)])) W (B2 W e2 W W) ?_
     refine Un W ?_
     refine G3 (.d (i64 j)) W W ?_
     refine Un W ?_
     refine Xc W W (Lw s j _ hb) (.inl W) ?_
     refine G3 (.d (bo b)) W W ?_
     refine G3 (.d (bo b)) W W ?_
     cases b with
     |false=>
      iterate 5 (refine RX rfl rfl ?_)
      refine G3 (.d (bo false)) W W ?_
      refine Ai ?_
      refine Rk W<|A8<|E0 ?_
      refine Rz fun u hu=> ?_
      refine G3 (.d (i64 j)) W W ?_
      refine G3 (.d (i64 ((j+1:Nat):Int))) W (by rw [← hw1 j (by omega)];rfl) ?_
      refine G3 (.d (i64 ((j+1:Nat):Int))) W W ?_
      refine Ai ?_
      obtain ⟨y,y1,y2,rfl⟩:=hend pos hh hinv hrq hpos (by rw [← hgo,← hl];rfl)
      exact E2 ⟨_,y1,y2,Vw ⟨W,W,W,W,W,W,trivial⟩ fun _ _ h=>h⟩
     |true=>
      have hcons:((i:Int),(j:Int))::(l'++l2)=L.drop pos:=by rw [← hgo,← hl];rfl
      have hLi:(L.map HQ)[pos]? =some (HQ ((i:Int),(j:Int))):=by
        have:=congrArg (fun z=>z[0]?) hcons
        rw [lK]
        simp at this
        rw [← this];rfl
      have hLd:L.drop (pos+1)=l'++l2:=by
        have:=congrArg (fun z=>z.drop 1) hcons
        simpa using this.symm
      have hplt:pos+1≤L.length:=by
        have:=congrArg List.length hcons
        simp at this
        omega
      refine Un W ?_
      refine G3 (.yld k) W W ?_
      refine Un W ?_
      refine G3 (.d (i64 i)) W W ?_
      refine Un W ?_
      refine G3 (.d (i64 j)) W W ?_
      refine Un W ?_
      refine VH k ((HQ ((i:Int),(j:Int))).map .d) W W ?_
      refine (hy pos hh _ hLi hinv).mono ?_
      rintro v' h' (⟨rfl,hin⟩|⟨rfl,hst⟩)
      ·obtain ⟨h1,S1,i1,q1⟩:=hcan _ _ hin
       refine ⟨h1,S1,fun u4 hu4=> ?_⟩
       refine Un W ?_
       refine G3 (.d (bo false)) W W ?_
       refine G3 (.d (bo false)) W W ?_
       refine Ai ?_
       refine Rk W<|A8<|E0 ?_
       refine Rz fun u hu=> ?_
       refine G3 (.d (i64 j)) W W ?_
       refine G3 (.d (i64 ((j+1:Nat):Int))) W (by rw [← hw1 j (by omega)];rfl) ?_
       refine G3 (.d (i64 ((j+1:Nat):Int))) W W ?_
       refine Ai ?_
       obtain ⟨y,y1,y2,rfl⟩:=hend (pos+1) h1 i1 q1 hplt hLd.symm
       exact E2 ⟨_,y1,y2,Vw ⟨W,W,W,W,W,W,trivial⟩ fun _ _ h=>h⟩
      ·refine ⟨h',Sb.refl _,fun u4 hu4=> ?_⟩
       refine Un W ?_
       refine G3 (.d (bo true)) W W ?_
       refine G3 (.d (bo true)) W W ?_
       refine Ai ?_
       refine Xd W ?_
       refine B1<|F2<|F2 ?_
       exact ⟨Or.inr W,AV.tup [],W,Or.inr hst⟩
   ·refine C7 rfl ?_
    have hjn:j=s.Agents.length:=by
      have: ¬((j:Int)< (s.Agents.length:Int)):=by simpa using hjl
      omega
    subst hjn
    rw [Nat.sub_self,DF]at hl
    cases hl
    refine C5 (r':= [.b 1, .c _]) W (E0 ?_)
    refine Rz fun u hu=> ?_
    refine G3 (.d (i64 ((i+1:Nat):Int))) W (by rw [← hw1 i (by omega)];rfl) ?_
    refine G3 (.d (i64 ((i+1:Nat):Int))) W W ?_
    refine Ai ?_
    refine E2 ⟨(i+1,pos,hh),⟨hinv,hrq,hlt,hpos,?_⟩,by dsimp only;omega,Vw ⟨rfl,rfl,rfl,rfl,trivial⟩ fun _ _ h=>h⟩
    dsimp only
    rw [show s.Agents.length - (i+1)=m by omega,hl2]
    exact congrArg some hgo
  ·refine C7 rfl ?_
   have hin:i=s.Agents.length:=by
     have: ¬((i:Int)< (s.Agents.length:Int)):=by simpa using hlt
     omega
   subst hin
   rw [Nat.sub_self,HP]at hgo
   have h1:L.drop pos= []:=(lD hgo).symm
   have h2:=List.drop_eq_nil_iff.1 h1
   have h3:pos=L.length:=by omega
   subst h3
   refine C5 (r':= []) W (E2 ?_)
   exact ⟨.inl W,AV.tup [],W, .inl hinv⟩
def Bx (p1:WorldSpan)(p2:Int):Option WorldSpan:=
  some (WorldSpan.mk (D9 (p1.from_ - p2)) (D9 (p1.to - p2)))
theorem Gu(p1 p2 r)(h:Bx p1 p2=some r):PCall prog 141 [(.agg [(i64 p1.from_),(i64 p1.to)]),(i64 p2)] (.agg [(i64 r.from_),(i64 r.to)]):=by
 refine C2 (fk func141 ntmps141 m0 (by with_unfolding_all rfl)) (nl W) ?_
 unfold Bx at h
 refine B4 (s0:=⟨T [(0,(.d _)),(1,(.d _))],G []⟩) (F0 W W) ?_
 refine B0<|sm W<|sn W W<|A1<|B0<|sq W<|sl W (gq W) W (sv W<|sv W<|sq W<|sl W (gq W) W (sv W<|sv W<|sv W<|S5 W G_hit [(di<|D9 (p1.from_ - p2)),(di<|D9 (p1.to - p2))] W (A1<|B1 ?_)))
 cases h
 exact A6 (.inr W) (B6 (H5 W G_hit (nl W) W) C0) (.refl _)
def Az [Lp](p1:Map)(p2:Int):Option Int:=
  (Ke p1 p2).bind fun v1=>cond (!v1) (some 0) ((Bu p1 p2).bind fun v2=>some v2)
theorem Om(p1 p2 r)(h:Az p1 p2=some r):PCall prog 143 [(.agg (P6 p1)),(i64 p2)] (i64 r):=by
 refine C2 (fk func143 ntmps143 m0 (by with_unfolding_all rfl)) (nl W) ?_
 unfold Az at h
 refine B4 (s0:=⟨T [(0,(.d _)),(1,(.d _))],G []⟩) (F0 W W) ?_
 refine B0<|sm W<|sv W<|A1<|A5<|B0<|sd W (B2 W G_hit W W)<|sv W<|bs h fun v1 hv1 h=>A9 W W A3 (Wn _ _ _ hv1) (.inl W) (B8 (.d (bo (!v1))) W W (A1<|cc W h (fun c1 h=> ?_)<|fun c1 h=> ?_))
 refine B0<|sv W<|A1<|B1 ?_
 cases h
 exact A6 (.inr W) (B6 (B3 W) C0) (.refl _)
 refine A8<|B0<|sd W (B2 W G_hit W W)<|sv W<|bs h fun _ hv2 h=>A9 W W A3 (Nk _ _ _ hv2) (.inl W) (sv W<|A1<|B1 ?_)
 cases h
 exact A6 (.inr W) (B6 (B3 W) C0) (.refl _)
def Fs (p1:WorldSpan)(p2:WorldSpan):Option WorldSpan:=
  some (WorldSpan.mk (Ps true p1.from_ p2.from_) (Ps false p1.to p2.to))
theorem Rp(p1 p2 r)(h:Fs p1 p2=some r):PCall prog 142 [(.agg [(i64 p1.from_),(i64 p1.to)]),(.agg [(i64 p2.from_),(i64 p2.to)])] (.agg [(i64 r.from_),(i64 r.to)]):=by
 refine C2 (fk func142 ntmps142 m0 (by with_unfolding_all rfl)) (nl W) ?_
 unfold Fs at h
 refine B4 (s0:=⟨T [(0,(.d _)),(1,(.d _))],G []⟩) (F0 W W) ?_
 refine B0<|sm W<|sn W W<|sm W<|A1<|B0<|sq W<|sl W (gq W) W (sq W<|sl W (gq W) W (sv W<|sq W<|sl W (gq W) W (sq W<|sl W (gq W) W (sv W<|sv W<|S5 W G_hit [(di<|Ps true p1.from_ p2.from_),(di<|Ps false p1.to p2.to)] W (A1<|B1 ?_)))))
 cases h
 exact A6 (.inr W) (B6 (H5 W G_hit (nl W) W) C0) (.refl _)
def Cs (p1:WorldSpan):Option Bool:=
  some (decide (p1.from_>p1.to))
theorem Ov(p1 r)(h:Cs p1=some r):PCall prog 144 [(.agg [(i64 p1.from_),(i64 p1.to)])] (bo r):=by
 refine C2 (fk func144 ntmps144 m0 (by with_unfolding_all rfl)) (nl W) ?_
 unfold Cs at h
 refine B4 (s0:=⟨T [(0,(.d _))],G []⟩) (F0 W W) ?_
 refine B0<|sm W<|sv W<|A1<|B0<|sq W<|sl W G_hit W<|sq W<|sl W G_hit W<|sv W<|sv W<|A1<|B1 ?_
 cases h
 exact A6 (.inr W) (B6 (B3 W) C0) (.refl _)
def Ba [Lp](p1:Map)(p2:Agent)(v2:(List Int))(x1:((List Span)×Int)):Option (Stp ((List Span)×Int) (List Span)):=
  cond (decide (x1.2< (v2.length:Int))) ((C3 v2 x1.2).bind fun v3=>(C3 p2.Route x1.2).bind fun v4=>(Bv p2).bind fun v5=>(Bx v5 v3).bind fun v6=>(Az p1 v4).bind fun v7=>(Fs v6 (WorldSpan.mk 0 v7)).bind fun v8=>(Cs v8).bind fun v9=>cond (!v9) ((Au x1.1 [(Span.mk v4 v8.from_ v8.to)]).bind fun v10=>some (.go (v10,(D9 (x1.2+1))))) (some (.go (x1.1,(D9 (x1.2+1)))))) (some (.out x1.1))
def Gv [Lp](p1:Map)(p2:Agent):Option (List Span):=
  (Kt p2).bind fun v1=>cond (!v1) (some []) ((Ax p1 p2.Route).bind fun v2=>(loop (Ba p1 p2 v2) ([],0)).bind fun y1=>some y1)
theorem Yk(p1 p2 r)(h:Gv p1 p2=some r):PCall prog 67 [(.agg (P6 p1)),(.agg (C6 p2))] (.list (List.map Bz r)):=by
 refine C2 (fk func67 ntmps67 (fun r=>if r==10 then [1007]else []) (by with_unfolding_all rfl)) (nl W) ?_
 unfold Gv at h
 refine B4 (s0:=⟨T [(0,(.d _)),(1,(.d _))],G []⟩) (F0 W W) ?_
 refine lr<|fun u1 _=>sm W<|sm W<|sv W<|A1<|A5<|B0<|sd W (B2 W G_hit W W)<|bs h fun v1 hv1 h=>A9 W W A3 (Sg _ _ hv1) (.inl W) (B8 (.d (bo (!v1))) W W (A1<|cc W h (fun c1 h=> ?_)<|fun c1 h=> ?_))
 refine B0<|sv W<|A1<|B1 ?_
 cases h
 exact A6 (.inr W) (B6 (B3 W) C0) DLe.nil
 refine A8<|B0<|sv W<|A1<|A5<|B0<|sd W (B2 W (gq W) W W)<|sq W<|sl W G_hit W<|bs h fun v2 hv2 h=>A9 W W A3 (Ol _ _ _ hv2) (.inl W) (sd W (D3 W)<|sv W<|A1<|bs h fun y1 hy1 h=>D6 (fun s=> ∃g1:Nat,Sb ⟨T [(5,(oS y1 (48,g1)))],G [((48,g1),oB 93 3 Bz y1)]⟩ s) ?_ ?_)
 refine A7<|E1 (Ba p1 p2 v2) (fun (x1:((List Span)×Int)) (g2:Nat)=>⟨T [(2,(.ptr (2,u1) 0)),(3,(.ptr (3,u1) 0)),(5,(oS x1.1 (48,g2))),(16,(dl A4 v2)),(17,(di (v2.length:Int))),(18,(di x1.2))],G [((2,u1),some<|.box 33 (L4 p1)),((3,u1),some<|.box 45 (Q8 p2)),((48,g2),oB 93 3 Bz x1.1)]⟩) ([],0) 0 _ hy1 (D8 (Y0 W)<|sg W<|B5 G_hit (.of W)<|R6 trivial) ?_
 intro x1 g2 z1 hz1 ez1
 unfold Ba at hz1
 refine B0<|sv W<|A1<|A5<|cc W hz1 (fun c2 hz1=> ?_)<|fun c2 hz1=> ?_
 refine A8<|A5<|A7<|B0<|sv W<|bs hz1 fun _ hv3 hz1=>sd W (C4 W W hv3 W)<|sd W (C9 W hv3 W)<|sv W<|sv W<|A1<|B0<|sq W<|sl W (gq W) W (sv W<|bs hz1 fun v4 hv4 hz1=>sd W (C4 W W hv4 W)<|sd W (C9 W hv4 W)<|sv W<|A1<|A5<|E8 W<|sd W (B2 W (gq W) W W)<|bs hz1 fun _ hv5 hz1=>A9 W W A3 (Hq _ _ hv5) (.inl W) (sv W<|bs hz1 fun _ hv6 hz1=>A9 W W A3 (Gu _ _ _ hv6) (.inl W) (sd W (B2 W G_hit W W)<|sv W<|bs hz1 fun _ hv7 hz1=>A9 W W A3 (Om _ _ _ hv7) (.inl W) (sv W<|bs hz1 fun v8 hv8 hz1=>A9 W W A3 (Rp _ _ _ hv8) (.inl W) (sm W<|S5 W G_hit [(di v8.from_),(di v8.to)] W (A1<|B0<|sd W (B2 W G_hit W W)<|bs hz1 fun v9 hv9 hz1=>A9 W W A3 (Ov _ _ hv9) (.inl W) (B8 (.d (bo (!v9))) W W (A1<|cc W hz1 (fun c3 hz1=> ?_)<|fun c3 hz1=> ?_))))))))
 refine As fun u11 _=>B8 (oS x1.1 (48,g2)) W W (sv W<|sq W<|sl W G_hit W<|sq W<|sl W G_hit W<|sv W<|B8 (dl Bz [(Span.mk v4 v8.from_ v8.to)]) W W (bs hz1 fun _ hv10 hz1=>P1 Bz (48,g2) x1.1 (Span.mk v4 v8.from_ v8.to) [] _ (L3<|fun _=>W) W (gq W) hv10 (ss W<|A1<|E0<|B9<|sv W<|sv W<|A1<|E2 ?_)))
 cases hz1
 exact ⟨W,u11,(D8 ⟨.of W, .of W,(.of (T9<|U2 hv10).symm), .of W, .of W, .of W,trivial⟩<|sg W<|sg W<|N0 G_hit trivial)⟩
 refine A8<|E0<|B9<|sv W<|sv W<|A1<|E2 ?_
 cases hz1
 exact ⟨W,g2,(D8 (Y0 W)<|sg W<|sg W<|B7 (gq W) trivial)⟩
 refine C7 W ?_
 cases hz1
 obtain rfl:=ez1 _ rfl
 refine ⟨nofun,C5 W<|U1 ?_⟩
 exact ⟨g2,(D8 ⟨.of W,trivial⟩<|B7 (gq W) trivial)⟩
 rintro _ ⟨g1,q1⟩
 refine B4 q1<|B0<|B8 (oS y1 (48,g1)) W W (B8 (oS y1 (48,g1)) W W (A1<|B1 ?_))
 cases h
 exact A6 (.inr W) (B6 (B3 W)<|S9 G_hit) S8
def Ei (p1:Span)(p2:Span):Option Bool:=
  ((cond (p2.Lane_==p1.Lane_) (Fs (WorldSpan.mk p2.From p2.To) (WorldSpan.mk p1.From p1.To)) (some default))).bind fun v1=>((cond (p2.Lane_==p1.Lane_) (Cs v1) (some default))).bind fun v2=>some ((p2.Lane_==p1.Lane_)&& (!v2))
theorem Sw(p1 p2 r)(h:Ei p1 p2=some r):PCall prog 147 [(.agg (Bz p1)),(.bp (Bz p2) 0)] (bo r):=by
 refine C2 (fk func147 ntmps147 m0 (by with_unfolding_all rfl)) (nl W) ?_
 unfold Ei at h
 refine B4 (s0:=⟨T [(0,(.d _)),(1,(.d _))],G []⟩) (F0 W W) ?_
 refine B0<|sm W<|sv W<|A1<|B0<|sv W<|sv W<|sq W<|sl W G_hit W<|sv W<|sv W<|gt W (fun _=>W) ?_
 refine gt W (fun w2=>(by simp only [A2 w2];rfl)) ?_
 refine gt W (fun _=>W) ?_
 refine gt W (fun w4=>(by simp only [A2 w4];rfl)) ?_
 refine gt W (fun w5=>(by simp only [A2 w5];rfl)) ?_
 refine gp W (K3 W) (fun _=>W) (gt W (vl W G_hit W)<|gp W (K3 W) (fun _=>W) (gt W (vl W G_hit W) ?_))
 refine gt W (fun w10=>(by simp only [A2 w10];rfl)) ?_
 refine bs h fun v1 hv1 h=> ?_
 refine N4 _ (.agg [(i64 v1.from_),(i64 v1.to)]) (K3 W) (fun w11=>⟨_,[(.d (.agg [(i64 p2.From),(i64 p2.To)])),(.d (.agg [(i64 p1.From),(i64 p1.To)]))],_,_,(by simp only [A2 w11];rfl),W,A3,Rp _ _ _<|C1 w11 hv1,(.inl W)⟩) ?_
 refine bs h fun v2 hv2 h=> ?_
 refine N4 _ (bo v2) (K3 W) (fun w12=>⟨_,[(.d (.agg [(i64 v1.from_),(i64 v1.to)]))],_,_,(by simp only [A2 w12];rfl),W,A3,Ov _ _<|C1 w12 hv2,(.inl W)⟩) ?_
 refine M5 _ (.d (bo (!v2))) W (K3 W) (fun w13=>(by simp only [A2 w13];rfl)) ?_
 refine sa W W W<|sv W<|A1<|B1 ?_
 cases h
 exact A6 (.inr W) (B6 (B3 W) C0) (.refl _)
def J9 (p1:(List Span))(p2:Span)(x1:Int):Option (Stp Int (Sum Unit Int)):=
  cond (decide (x1< (p1.length:Int))) ((C3 p1 x1).bind fun v1=>(Ei v1 p2).bind fun v2=>cond v2 (some (.out (.inr x1))) (some (.go (D9 (x1+1))))) (some (.out (.inl ())))
def H4 [Lp](p1:(List Span))(p2:Span):Option Int:=
  thenS (loop (J9 p1 p2) 0) (fun _=>some (-1)) (fun r=>some r)
theorem Dg(p1 p2 r)(h:H4 p1 p2=some r):PCall prog 208 [(.list (List.map Bz p1)),(.fn (.func 147) [] [(.bp (Bz p2) 0)])] (i64 r):=by
 refine C2 (fk func208 ntmps208 m0 (by with_unfolding_all rfl)) (nl W) ?_
 unfold H4 at h
 refine B4 (s0:=⟨T [(0,(.d _)),(1,(.d _))],G []⟩) (F0 W W) ?_
 refine B0<|sv W<|A1<|A5<|B0<|sv W<|sd W (D3 W)<|sv W<|A1<|js h fun z1 hz1 h=>D6 (fun s=> ∃(y1:Unit) (g1:Unit),z1= .inl y1∧Sb ⟨T [],G []⟩ s) ?_ ?_
 refine A7<|E1 (J9 p1 p2) (fun (x1:Int) (g2:Unit)=>⟨T [(0,(dl Bz p1)),(1,(.d (.fn (.func 147) [] [(.bp (Bz p2) 0)]))),(7,(di (p1.length:Int))),(8,(di x1))],G []⟩) 0 () _ hz1 (F0 W W) ?_
 intro x1 g2 z2 hz2 ez2
 unfold J9 at hz2
 refine B0<|sv W<|A1<|A5<|cc W hz2 (fun c1 hz2=> ?_)<|fun c1 hz2=> ?_
 refine A8<|A5<|A7<|B0<|sv W<|sv W<|A1<|B0<|sv W<|sv W<|sv W<|bs hz2 fun _ hv1 hz2=>sd W (C4 W W hv1 W)<|sd W (D1 W hv1 W W)<|bs hz2 fun _ hv2 hz2=>A9 W W A3 (Sw _ _ _ hv2) (.inl W) (A1<|cc W hz2 (fun c2 hz2=> ?_)<|fun c2 hz2=> ?_)
 refine B0<|sv W<|sv W<|A1<|B1 ?_
 cases hz2
 obtain rfl:=ez2 _ rfl
 refine ⟨nofun,F2 ?_⟩
 rw [bX]at h
 cases h
 exact A6 (.inr W) (B6 (B3 W) C0) (.refl _)
 refine A8<|E0<|B9<|sv W<|sv W<|A1<|E2 ?_
 cases hz2
 exact ⟨W,(),(F0 W W)⟩
 refine C7 W ?_
 cases hz2
 obtain rfl:=ez2 _ rfl
 refine ⟨nofun,C5 W<|U1 ?_⟩
 exact ⟨_,(),W,(F0 W W)⟩
 rintro _ ⟨y1,g1,rfl,q1⟩
 rw [bW]at h
 refine B4 q1<|B0<|sv W<|A1<|B1 ?_
 cases h
 exact A6 (.inr W) (B6 (B3 W) C0) (.refl _)
def F4 [Lp](p1:(List Span))(p2:Span):Option Bool:=
  (H4 p1 p2).bind fun v1=>some (decide (v1≥0))
theorem Cg(p1 p2 r)(h:F4 p1 p2=some r):PCall prog 145 [(.list (List.map Bz p1)),(.fn (.func 147) [] [(.bp (Bz p2) 0)])] (bo r):=by
 refine C2 (fk func145 ntmps145 m0 (by with_unfolding_all rfl)) (nl W) ?_
 unfold F4 at h
 refine B4 (s0:=⟨T [(0,(.d _)),(1,(.d _))],G []⟩) (F0 W W) ?_
 refine B0<|sv W<|A1<|B0<|sv W<|sv W<|bs h fun _ hv1 h=>A9 W W A3 (Dg _ _ _ hv1) (.inl W) (sv W<|sv W<|A1<|B1 ?_)
 cases h
 exact A6 (.inr W) (B6 (B3 W) C0) (.refl _)
def X3 [Lp](p1:Span)(p2:(List Span)):Option Bool:=
  (F4 p2 p1).bind fun v1=>some v1
theorem Vc(p1 p2 r)(h:X3 p1 p2=some r):PCall prog 146 [(.agg (Bz p1)),(.bp [(.list (List.map Bz p2))] 0)] (bo r):=by
 refine C2 (fk func146 ntmps146 m0 (by with_unfolding_all rfl)) (nl W) ?_
 unfold X3 at h
 refine B4 (s0:=⟨T [(0,(.d _)),(1,(.d _))],G []⟩) (F0 W W) ?_
 refine B0<|sm W<|sv W<|A1<|B0<|sv W<|B8 (.fn _ _ _) W W (bs h fun _ hv1 h=>A9 W (rD<|E4 (Xx F9<|E4 (Aj G_hit<|rD<|rD<|rD F9) F9) F9) A3 (Cg _ _ _ hv1) (.inr W) (sv W<|A1<|B1 ?_))
 cases h
 exact A6 (.inr W) (B6 (B3 W) C0) (.refl _)
def G1 [Lp](p1:(List Span))(p2:(List Span))(x1:Int):Option (Stp Int (Sum Unit Int)):=
  cond (decide (x1< (p1.length:Int))) ((C3 p1 x1).bind fun v1=>(X3 v1 p2).bind fun v2=>cond v2 (some (.out (.inr x1))) (some (.go (D9 (x1+1))))) (some (.out (.inl ())))
def I5 [Lp](p1:(List Span))(p2:(List Span)):Option Int:=
  thenS (loop (G1 p1 p2) 0) (fun _=>some (-1)) (fun r=>some r)
theorem Ej(p1 p2 r)(h:I5 p1 p2=some r):PCall prog 208 [(.list (List.map Bz p1)),(.fn (.func 146) [] [(.bp [(.list (List.map Bz p2))] 0)])] (i64 r):=by
 refine C2 (fk func208 ntmps208 m0 (by with_unfolding_all rfl)) (nl W) ?_
 unfold I5 at h
 refine B4 (s0:=⟨T [(0,(.d _)),(1,(.d _))],G []⟩) (F0 W W) ?_
 refine B0<|sv W<|A1<|A5<|B0<|sv W<|sd W (D3 W)<|sv W<|A1<|js h fun z1 hz1 h=>D6 (fun s=> ∃(y1:Unit) (g1:Unit),z1= .inl y1∧Sb ⟨T [],G []⟩ s) ?_ ?_
 refine A7<|E1 (G1 p1 p2) (fun (x1:Int) (g2:Unit)=>⟨T [(0,(dl Bz p1)),(1,(.d (.fn (.func 146) [] [(.bp [(.list (List.map Bz p2))] 0)]))),(7,(di (p1.length:Int))),(8,(di x1))],G []⟩) 0 () _ hz1 (F0 W W) ?_
 intro x1 g2 z2 hz2 ez2
 unfold G1 at hz2
 refine B0<|sv W<|A1<|A5<|cc W hz2 (fun c1 hz2=> ?_)<|fun c1 hz2=> ?_
 refine A8<|A5<|A7<|B0<|sv W<|sv W<|A1<|B0<|sv W<|sv W<|sv W<|bs hz2 fun _ hv1 hz2=>sd W (C4 W W hv1 W)<|sd W (D1 W hv1 W W)<|bs hz2 fun _ hv2 hz2=>A9 W W A3 (Vc _ _ _ hv2) (.inl W) (A1<|cc W hz2 (fun c2 hz2=> ?_)<|fun c2 hz2=> ?_)
 refine B0<|sv W<|sv W<|A1<|B1 ?_
 cases hz2
 obtain rfl:=ez2 _ rfl
 refine ⟨nofun,F2 ?_⟩
 rw [bX]at h
 cases h
 exact A6 (.inr W) (B6 (B3 W) C0) (.refl _)
 refine A8<|E0<|B9<|sv W<|sv W<|A1<|E2 ?_
 cases hz2
 exact ⟨W,(),(F0 W W)⟩
 refine C7 W ?_
 cases hz2
 obtain rfl:=ez2 _ rfl
 refine ⟨nofun,C5 W<|U1 ?_⟩
 exact ⟨_,(),W,(F0 W W)⟩
 rintro _ ⟨y1,g1,rfl,q1⟩
 rw [bW]at h
 refine B4 q1<|B0<|sv W<|A1<|B1 ?_
 cases h
 exact A6 (.inr W) (B6 (B3 W) C0) (.refl _)
def G2 [Lp](p1:(List Span))(p2:(List Span)):Option Bool:=
  (I5 p1 p2).bind fun v1=>some (decide (v1≥0))
theorem Db(p1 p2 r)(h:G2 p1 p2=some r):PCall prog 145 [(.list (List.map Bz p1)),(.fn (.func 146) [] [(.bp [(.list (List.map Bz p2))] 0)])] (bo r):=by
 refine C2 (fk func145 ntmps145 m0 (by with_unfolding_all rfl)) (nl W) ?_
 unfold G2 at h
 refine B4 (s0:=⟨T [(0,(.d _)),(1,(.d _))],G []⟩) (F0 W W) ?_
 refine B0<|sv W<|A1<|B0<|sv W<|sv W<|bs h fun _ hv1 h=>A9 W W A3 (Ej _ _ _ hv1) (.inl W) (sv W<|sv W<|A1<|B1 ?_)
 cases h
 exact A6 (.inr W) (B6 (B3 W) C0) (.refl _)
def Bh [Lp](p1:Map)(p2:Agent)(p3:Agent):Option Bool:=
  (Gv p1 p3).bind fun v1=>(Gv p1 p2).bind fun v2=>(G2 v2 v1).bind fun v3=>some v3
theorem BS(p1 p2 p3 r)(h:Bh p1 p2 p3=some r):PCall prog 68 [(.agg (P6 p1)),(.agg (C6 p2)),(.agg (C6 p3))] (bo r):=by
 refine C2 (fk func68 ntmps68 m0 (by with_unfolding_all rfl)) (nl W) ?_
 unfold Bh at h
 refine B4 (s0:=⟨T [(0,(.d _)),(1,(.d _)),(2,(.d _))],G []⟩) (F0 W W) ?_
 refine B0<|sm W<|sn W W<|sm W<|sv W<|A1<|B0<|sd W (B2 W (gq W) W W)<|sd W (B2 W G_hit W W)<|bs h fun v1 hv1 h=>A9 W W A3 (Yk _ _ _ hv1) (.inl W) (sm W<|S5 W G_hit [(dl Bz v1)] W (A1<|B0<|sd W (B2 W (gq W) W W)<|sd W (B2 W (gq W) W W)<|bs h fun _ hv2 h=>A9 W W A3 (Yk _ _ _ hv2) (.inl W) (B8 (.fn _ _ _) W W (bs h fun _ hv3 h=>A9 W (rD<|E4 (Xx F9<|E4 (Aj G_hit<|rD F9) F9) F9) A3 (Db _ _ _ hv3) (.inr W) (sv W<|A1<|B1 ?_)))))
 cases h
 exact A6 (.inr W) (B6 (B3 W) C0) (.refl _)
end
end Go.Abs.World
