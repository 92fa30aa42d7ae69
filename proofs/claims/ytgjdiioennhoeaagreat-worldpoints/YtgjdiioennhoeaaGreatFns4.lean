/-
  The functions, part 4.
-/
import Derived.Test.YtgjdiioennhoeaaGreatFns3
set_option maxRecDepth 20000
set_option maxHeartbeats 4000000
set_option linter.unusedVariables false
namespace Go.Abs.World
noncomputable section
open Go Go.Abs Go.Proofs Tryz
attribute [local irreducible] L7 Fc Df
def Jk [Lp](p1:Map)(p2:Int)(x1:((List Int)×Int)):Option (Stp ((List Int)×Int) (List Int)):=
  cond (decide (x1.2< (p1.Lanes.length:Int))) ((C3 p1.Lanes x1.2).bind fun v1=>(Qc v1.Next p2).bind fun v2=>cond v2 ((Ah x1.1 [x1.2]).bind fun v3=>some (.go (v3,(D4 (x1.2+1))))) (some (.go (x1.1,(D4 (x1.2+1)))))) (some (.out x1.1))
def Lv [Lp](p1:Map)(p2:Int):Option (List Int):=
  (loop (Jk p1 p2) ([],0)).bind fun y1=>some y1
theorem Yn(p1 p2 r)(h:Lv p1 p2=some r):PCall prog 189 [(.agg (P0 p1)),(i64 p2)] (.list (List.map A5 r)):=by
 refine C2 (fk func189 ntmps189 (fun r=>if r==6 then [1002]else []) (by with_unfolding_all rfl)) (nl W) ?_
 unfold Lv at h
 refine B5 (s0:=⟨T [(0,(.d _)),(1,(.d _))],G []⟩) (E8 W W) ?_
 refine lr<|fun u1 _=>sm W<|sv W<|A1<|B1<|sv W<|A1<|A4<|B1<|sv W<|A1<|bs h fun y1 hy1 h=>D7 (fun s=> ∃g1:Nat,Sb ⟨T [(5,(oS y1 (25,g1)))],G [((25,g1),oB 3 1 A5 y1)]⟩ s) ?_ ?_
 refine A8<|E2 (Jk p1 p2) (fun (x1:((List Int)×Int)) (g2:Nat)=>⟨T [(1,(di p2)),(2,(.ptr (2,u1) 0)),(5,(oS x1.1 (25,g2))),(6,(di x1.2))],G [((2,u1),some<|.box 33 (K4 p1)),((25,g2),oB 3 1 A5 x1.1)]⟩) ([],0) 0 _ hy1 (D5 (W1 W)<|B4 G_hit (.of W)<|P3 trivial) ?_
 intro x1 g2 z1 hz1 ez1
 unfold Jk at hz1
 refine A4<|B1<|sv W<|sq W<|sl W G_hit W<|sd W (D6 W)<|sv W<|A1<|cc W hz1 (fun c1 hz1=> ?_)<|fun c1 hz1=> ?_
 refine A9<|A4<|A8<|B1<|sq W<|sl W G_hit W<|sv W<|bs hz1 fun _ hv1 hz1=>sd W (C4 W W hv1 W)<|sv W<|sd W (C8 W hv1 W)<|sv W<|bs hz1 fun _ hv2 hz1=>B0 W W A2 (Xs _ _ _ hv2) (.inl W) (A1<|cc W hz1 (fun c2 hz1=> ?_)<|fun c2 hz1=> ?_)
 refine Bh fun u6 _=>B8 (oS x1.1 (25,g2)) W W (sv W<|B8 (dl A5 [x1.2]) W W (bs hz1 fun _ hv3 hz1=>O0 A5 (25,g2) x1.1 x1.2 [] _ (K5<|fun _=>W) W (gq W) hv3 (ss W<|A1<|D9<|B9<|sv W<|sv W<|sv W<|A1<|E1 ?_)))
 cases hz1
 exact ⟨W,u6,(D5 ⟨.of W, .of W,(.of (S3<|R8 hv3).symm), .of W,trivial⟩<|sg W<|M0 G_hit trivial)⟩
 refine A9<|D9<|B9<|sv W<|sv W<|sv W<|A1<|E1 ?_
 cases hz1
 exact ⟨W,g2,(D5 (W1 W)<|B4 G_hit (.of W)<|B7 (gq W) trivial)⟩
 refine C7 W ?_
 cases hz1
 obtain rfl:=ez1 _ rfl
 refine ⟨nofun,C5 W<|T0 ?_⟩
 exact ⟨g2,(D5 ⟨.of W,trivial⟩<|B7 (gq W) trivial)⟩
 rintro _ ⟨g1,q1⟩
 refine B5 q1<|B1<|B8 (oS y1 (25,g1)) W W (B8 (oS y1 (25,g1)) W W (A1<|B2 ?_))
 cases h
 exact A6 (.inr W) (B6 (B3 W)<|S5 G_hit) S4
def Y0 [Lp](p1:Map)(p2:(List Int))(x1:Int):Option (Stp Int (Sum Unit Int)):=
  cond (decide (x1< (p2.length:Int))) ((C3 p2 (D4 (x1 - 1))).bind fun v6=>(C3 p1.Lanes v6).bind fun v7=>(C3 p2 x1).bind fun v8=>(Qc v7.Next v8).bind fun v9=>cond (!v9) (some (.out (.inr 13))) (some (.go (D4 (x1+1))))) (some (.out (.inl ())))
def Ab [Lp](p1:Map)(p2:(List Int)):Option Int:=
  (Kw p1).bind fun v1=>cond (v1 !=0) (some v1) (((cond (!(((p2.length:Int)==0)||(decide ((p2.length:Int)>8)))) (C3 p2 0) (some default))).bind fun v2=>((cond (!((((p2.length:Int)==0)||(decide ((p2.length:Int)>8)))||(decide (v2<0)))) (C3 p2 0) (some default))).bind fun v3=>((cond (!(((((p2.length:Int)==0)||(decide ((p2.length:Int)>8)))||(decide (v2<0)))||(decide (v3≥(p1.Lanes.length:Int))))) (C3 p2 0) (some default))).bind fun v4=>((cond (!(((((p2.length:Int)==0)||(decide ((p2.length:Int)>8)))||(decide (v2<0)))||(decide (v3≥(p1.Lanes.length:Int))))) (Lv p1 v4) (some default))).bind fun v5=>cond ((((((p2.length:Int)==0)||(decide ((p2.length:Int)>8)))||(decide (v2<0)))||(decide (v3≥(p1.Lanes.length:Int))))||(decide ((v5.length:Int)>0))) (some 13) (thenS (loop (Y0 p1 p2) 1) (fun _=>some 0) (fun r=>some r)))
theorem Gu(p1 p2 r)(h:Ab p1 p2=some r):PCall prog 102 [(.agg (P0 p1)),(.list (List.map A5 p2))] (i64 r):=by
 refine C2 (fk func102 ntmps102 m0 (by with_unfolding_all rfl)) (nl W) ?_
 unfold Ab at h
 refine B5 (s0:=⟨T [(0,(.d _)),(1,(.d _))],G []⟩) (E8 W W) ?_
 refine lr<|fun u1 _=>sm W<|sv W<|A1<|B1<|sd W (A7 W G_hit W W)<|bs h fun _ hv1 h=>B0 W W A2 (Uh _ _ hv1) (.inl W) (sv W<|A1<|A4<|B1<|sv W<|sv W<|A1<|cc W h (fun c1 h=> ?_)<|fun c1 h=> ?_)
 refine B1<|sv W<|sv W<|A1<|B2 ?_
 cases h
 exact A6 (.inr W) (B6 (B3 W) C0) (.refl _)
 refine A9<|A4<|A4<|E3 W<|sv W<|sd W (D6 W)<|sv W<|sv W<|gf W (fun _=>W)<|gf W (fun w2=>(D6<|A3 w2))<|gf W (vb W W W)<|sd W (N7 W W<|fun hc=>A3<|I7 hc)<|sv W<|gf W (fun _=>W)<|bs h fun _ hv2 h=>gf W (fun w5=>(C4 (A3 w5) W (C1 w5 hv2) W))<|gf W (fun w6=>(C8 (A3 w6) (C1 w6 hv2) W))<|gf W (vb W W W)<|sd W (N7 W W<|fun hc=>A3<|I7 hc)<|sv W<|gf W (fun _=>W)<|bs h fun _ hv3 h=>gf W (fun w9=>(C4 (A3 w9) W (C1 w9 hv3) W))<|gf W (fun w10=>(C8 (A3 w10) (C1 w10 hv3) W))<|gp W (K3 W) (fun _=>W) (gf W (vl W G_hit W)<|gf W (fun w13=>(D6<|A3 w13))<|gf W (fun w14=>(L6 (A3 w14) (A3 w14) W))<|sd W (N7 W W<|fun hc=>A3<|I7 hc)<|sv W<|gf W (fun _=>(A7 W G_hit W W))<|gf W (fun _=>W)<|bs h fun v4 hv4 h=>gf W (fun w17=>(C4 (A3 w17) W (C1 w17 hv4) W))<|gf W (fun w18=>(C8 (A3 w18) (C1 w18 hv4) W))<|bs h fun v5 hv5 h=> ?_)
 refine L9 _ (.list (List.map A5 v5)) (K3 W) (fun w19=>⟨_,[(.d (.agg (P0 p1))),(di v4)],_,_,(by simp only [A3 w19];rfl),W,A2,Yn _ _ _<|C1 w19 hv5,(.inl W)⟩) ?_
 refine gf W (fun w20=>(D6<|A3 w20))<|gf W (vb W W W)<|sd W (N7 W W<|fun hc=>A3<|I7 hc)<|A1<|cc W h (fun c2 h=> ?_)<|fun c2 h=> ?_
 refine B1<|sv W<|A1<|B2 ?_
 cases h
 exact A6 (.inr W) (B6 (B3 W) C0) (.refl _)
 refine A9<|A4<|B1<|sv W<|A1<|js h fun z1 hz1 h=>D7 (fun s=> ∃(y1:Unit) (g1:Unit),z1= .inl y1∧Sb ⟨T [],G []⟩ s) ?_ ?_
 refine A8<|E2 (Y0 p1 p2) (fun (x1:Int) (g2:Unit)=>⟨T [(1,(dl A5 p2)),(2,(.ptr (2,u1) 0)),(6,(di x1))],G [((2,u1),some<|.box 33 (K4 p1))]⟩) 1 () _ hz1 (E8 W W) ?_
 intro x1 g2 z2 hz2 ez2
 unfold Y0 at hz2
 refine A4<|B1<|sv W<|sv W<|sd W (D6 W)<|sv W<|A1<|cc W hz2 (fun c3 hz2=> ?_)<|fun c3 hz2=> ?_
 refine A9<|A4<|A8<|A4<|E3 W<|sq W<|sl W G_hit W<|sv W<|sv W<|sv W<|bs hz2 fun _ hv6 hz2=>sd W (C4 W W hv6 W)<|sd W (C8 W hv6 W)<|bs hz2 fun _ hv7 hz2=>sd W (C4 W W hv7 W)<|sv W<|sd W (C8 W hv7 W)<|sv W<|sv W<|bs hz2 fun _ hv8 hz2=>sd W (C4 W W hv8 W)<|sd W (C8 W hv8 W)<|bs hz2 fun v9 hv9 hz2=>B0 W W A2 (Xs _ _ _ hv9) (.inl W) (B8 (.d (bo (!v9))) W W (A1<|cc W hz2 (fun c4 hz2=> ?_)<|fun c4 hz2=> ?_))
 refine B1<|sv W<|A1<|B2 ?_
 cases hz2
 obtain rfl:=ez2 _ rfl
 refine ⟨nofun,E7 ?_⟩
 rw [wC]at h
 cases h
 exact A6 (.inr W) (B6 (B3 W) C0) (.refl _)
 refine A9<|D9<|B9<|sv W<|sv W<|sv W<|A1<|E1 ?_
 cases hz2
 exact ⟨W,(),(E8 W W)⟩
 refine C7 W ?_
 cases hz2
 obtain rfl:=ez2 _ rfl
 refine ⟨nofun,C5 W<|T0 ?_⟩
 exact ⟨_,(),W,(E8 W W)⟩
 rintro _ ⟨y1,g1,rfl,q1⟩
 rw [wB]at h
 refine B5 q1<|B1<|sv W<|A1<|B2 ?_
 cases h
 exact A6 (.inr W) (B6 (B3 W) C0) (.refl _)
def Lw [Lp](p1:Map)(p2:Int):Option Int:=
  (C3 p1.Lanes p2).bind fun v1=>(Dp v1.Curve_).bind fun v2=>some v2
theorem Yo(p1 p2 r)(h:Lw p1 p2=some r):PCall prog 195 [(.agg (P0 p1)),(i64 p2)] (i64 r):=by
 refine C2 (fk func195 ntmps195 m0 (by with_unfolding_all rfl)) (nl W) ?_
 unfold Lw at h
 refine B5 (s0:=⟨T [(0,(.d _)),(1,(.d _))],G []⟩) (E8 W W) ?_
 refine B1<|sm W<|sv W<|A1<|B1<|sq W<|sl W G_hit W<|sv W<|bs h fun _ hv1 h=>sd W (C4 W W hv1 W)<|sv W<|sd W (D0 W hv1 W W)<|bs h fun _ hv2 h=>B0 W W A2 (Nj _ _ hv2) (.inl W) (sv W<|A1<|B2 ?_)
 cases h
 exact A6 (.inr W) (B6 (B3 W) C0) (.refl _)
def De [Lp](p1:Map)(p2:(List Int))(x1:((List Int)×Int×Int)):Option (Stp ((List Int)×Int×Int) ((List Int)×Int)):=
  cond (decide (x1.2.2< (p2.length:Int))) ((Ah x1.1 [x1.2.1]).bind fun v1=>(C3 p2 x1.2.2).bind fun v2=>(Lw p1 v2).bind fun v3=>some (.go (v1,(D4 (x1.2.1+v3)),(D4 (x1.2.2+1))))) (some (.out (x1.1,x1.2.1)))
def Lx [Lp](p1:Map)(p2:(List Int)):Option ((List Int)×Int):=
  (loop (De p1 p2) ([],0,0)).bind fun y1=>some (y1.1,y1.2)
theorem Yp(p1 p2 r)(h:Lx p1 p2=some r):PCall prog 186 [(.agg (P0 p1)),(.list (List.map A5 p2))] (.tup [(.list (List.map A5 r.1)),(i64 r.2)]):=by
 refine C2 (fk func186 ntmps186 (fun r=>if r==6 then [1002]else []) (by with_unfolding_all rfl)) (nl W) ?_
 unfold Lx at h
 refine B5 (s0:=⟨T [(0,(.d _)),(1,(.d _))],G []⟩) (E8 W W) ?_
 refine lr<|fun u1 _=>sm W<|sv W<|sv W<|A1<|B1<|sv W<|A1<|B1<|sv W<|A1<|A4<|B1<|sv W<|A1<|bs h fun y1 hy1 h=>D7 (fun s=> ∃g1:Nat,Sb ⟨T [(6,(oS y1.1 (18,g1))),(7,(di y1.2))],G [((18,g1),oB 2 1 A5 y1.1)]⟩ s) ?_ ?_
 refine A8<|E2 (De p1 p2) (fun (x1:((List Int)×Int×Int)) (g2:Nat)=>⟨T [(1,(dl A5 p2)),(2,(.ptr (2,u1) 0)),(6,(oS x1.1 (18,g2))),(7,(di x1.2.1)),(8,(di x1.2.2))],G [((2,u1),some<|.box 33 (K4 p1)),((18,g2),oB 2 1 A5 x1.1)]⟩) ([],0,0) 0 _ hy1 (D5 (W1 W)<|B4 G_hit (.of W)<|P3 trivial) ?_
 intro x1 g2 z1 hz1 ez1
 unfold De at hz1
 refine A4<|B1<|sv W<|sv W<|sd W (D6 W)<|sv W<|A1<|cc W hz1 (fun c1 hz1=> ?_)<|fun c1 hz1=> ?_
 refine A9<|A4<|A8<|lr<|fun u6 _=>B8 (oS x1.1 (18,g2)) W W (sv W<|B8 (dl A5 [x1.2.1]) W W (bs hz1 fun _ hv1 hz1=>O0 A5 (18,g2) x1.1 x1.2.1 [] _ (K5<|fun _=>W) W (gq W) hv1 (ss W<|A1<|E3 W<|sv W<|sd W (A7 W (gq W) W W)<|sv W<|sv W<|bs hz1 fun _ hv2 hz1=>sd W (C4 W W hv2 W)<|sd W (C8 W hv2 W)<|bs hz1 fun _ hv3 hz1=>B0 W W A2 (Yo _ _ _ hv3) (.inl W) (sv W<|sv W<|A1<|D9<|B9<|sv W<|sv W<|sv W<|A1<|E1 ?_))))
 cases hz1
 exact ⟨W,u6,(D5 ⟨.of W, .of W,(.of (S3<|R8 hv1).symm), .of W, .of W,trivial⟩<|sg W<|M0 G_hit trivial)⟩
 refine C7 W ?_
 cases hz1
 obtain rfl:=ez1 _ rfl
 refine ⟨nofun,C5 W<|T0 ?_⟩
 exact ⟨g2,(D5 (W1 W)<|B7 (gq W) trivial)⟩
 rintro _ ⟨g1,q1⟩
 refine B5 q1<|B1<|B8 (oS y1.1 (18,g1)) W W (sv W<|B8 (oS y1.1 (18,g1)) W W (sv W<|A1<|B2 ?_))
 cases h
 exact A6 (.inr W) (Jc (B3 W) (B3 W) (S5 G_hit) C0) (.tup (.cons S4 A2))
def V8 [Lp](p1:Map)(p2:(List Int)):Option Int:=
  (Ab p1 p2).bind fun v1=>cond (v1 !=0) (some 0) ((Lx p1 p2).bind fun v2=>some v2.2)
theorem Kx(p1 p2 r)(h:V8 p1 p2=some r):PCall prog 97 [(.agg (P0 p1)),(.list (List.map A5 p2))] (i64 r):=by
 refine C2 (fk func97 ntmps97 m0 (by with_unfolding_all rfl)) (nl W) ?_
 unfold V8 at h
 refine B5 (s0:=⟨T [(0,(.d _)),(1,(.d _))],G []⟩) (E8 W W) ?_
 refine B1<|sm W<|sv W<|A1<|A4<|B1<|sd W (A7 W G_hit W W)<|sv W<|bs h fun _ hv1 h=>B0 W W A2 (Gu _ _ _ hv1) (.inl W) (sv W<|A1<|cc W h (fun c1 h=> ?_)<|fun c1 h=> ?_)
 refine B1<|sv W<|A1<|B2 ?_
 cases h
 exact A6 (.inr W) (B6 (B3 W) C0) (.refl _)
 refine A9<|B1<|sd W (A7 W G_hit W W)<|sv W<|bs h fun _ hv2 h=>B0 W W A2 (Yp _ _ _ hv2) (.inl W) (sv W<|sv W<|sv W<|sv W<|sv W<|A1<|B1<|sv W<|sv W<|A1<|B2 ?_)
 cases h
 exact A6 (.inr W) (B6 (B3 W) C0) (.refl _)
def Fx [Lp](p1:Map)(p2:(List Int)):Option (List Int):=
  (Ab p1 p2).bind fun v1=>cond (v1 !=0) (some []) ((Lx p1 p2).bind fun v2=>some v2.1)
theorem Sh(p1 p2 r)(h:Fx p1 p2=some r):PCall prog 96 [(.agg (P0 p1)),(.list (List.map A5 p2))] (.list (List.map A5 r)):=by
 refine C2 (fk func96 ntmps96 m0 (by with_unfolding_all rfl)) (nl W) ?_
 unfold Fx at h
 refine B5 (s0:=⟨T [(0,(.d _)),(1,(.d _))],G []⟩) (E8 W W) ?_
 refine B1<|sm W<|sv W<|A1<|A4<|B1<|sd W (A7 W G_hit W W)<|sv W<|bs h fun _ hv1 h=>B0 W W A2 (Gu _ _ _ hv1) (.inl W) (sv W<|A1<|cc W h (fun c1 h=> ?_)<|fun c1 h=> ?_)
 refine B1<|sv W<|A1<|B2 ?_
 cases h
 exact A6 (.inr W) (B6 (B3 W) C0) DLe.nil
 refine A9<|B1<|sd W (A7 W G_hit W W)<|sv W<|bs h fun _ hv2 h=>B0 W W A2 (Yp _ _ _ hv2) (.inl W) (sv W<|sv W<|sv W<|sv W<|sv W<|A1<|B1<|sv W<|sv W<|A1<|B2 ?_)
 cases h
 exact A6 (.inr W) (B6 (B3 W) C0) (.refl _)
def Gi (p2:Agent)(v1:(List Int))(x1:(Int×Int)):Option (Stp (Int×Int) Int):=
  cond (decide (x1.2< (v1.length:Int))) ((C3 v1 x1.2).bind fun v2=>cond (decide (v2≤p2.S)) (some (.go (x1.2,(D4 (x1.2+1))))) (some (.go (x1.1,(D4 (x1.2+1)))))) (some (.out x1.1))
def Ui [Lp](p1:Map)(p2:Agent):Option (Int×Int):=
  (Fx p1 p2.Route).bind fun v1=>(loop (Gi p2 v1) (0,0)).bind fun y1=>(C3 p2.Route y1).bind fun v3=>(C3 v1 y1).bind fun v4=>some (v3,(D4 (p2.S - v4)))
theorem OP(p1 p2 r)(h:Ui p1 p2=some r):PCall prog 168 [(.agg (P0 p1)),(.agg (D1 p2))] (.tup [(i64 r.1),(i64 r.2)]):=by
 refine C2 (fk func168 ntmps168 m0 (by with_unfolding_all rfl)) (nl W) ?_
 unfold Ui at h
 refine B5 (s0:=⟨T [(0,(.d _)),(1,(.d _))],G []⟩) (E8 W W) ?_
 refine lr<|fun u1 _=>sm W<|sm W<|sv W<|sv W<|A1<|B1<|sd W (A7 W (gq W) W W)<|sq W<|sl W G_hit W<|bs h fun v1 hv1 h=>B0 W W A2 (Sh _ _ _ hv1) (.inl W) (sv W<|A1<|B1<|sv W<|A1<|A4<|B1<|sv W<|A1<|bs h fun y1 hy1 h=>D7 (fun s=> ∃g1:Unit,Sb ⟨T [(3,(.ptr (3,u1) 0)),(6,(dl A5 v1)),(7,(di y1))],G [((3,u1),some<|.box 45 (S7 p2))]⟩ s) ?_ ?_)
 refine A8<|E2 (Gi p2 v1) (fun (x1:(Int×Int)) (g2:Unit)=>⟨T [(3,(.ptr (3,u1) 0)),(6,(dl A5 v1)),(7,(di x1.1)),(8,(di x1.2))],G [((3,u1),some<|.box 45 (S7 p2))]⟩) (0,0) () _ hy1 (E8 W W) ?_
 intro x1 g2 z1 hz1 ez1
 unfold Gi at hz1
 refine A4<|B1<|sv W<|sv W<|sd W (D6 W)<|sv W<|A1<|cc W hz1 (fun c1 hz1=> ?_)<|fun c1 hz1=> ?_
 refine A9<|A4<|A8<|A4<|E3 W<|sv W<|sv W<|bs hz1 fun _ hv2 hz1=>sd W (C4 W W hv2 W)<|sd W (C8 W hv2 W)<|sq W<|sl W G_hit W<|sv W<|A1<|cc W hz1 (fun c2 hz1=> ?_)<|fun c2 hz1=> ?_
 refine B9<|sv W<|sv W<|A1<|D9<|B9<|sv W<|sv W<|sv W<|A1<|E1 ?_
 cases hz1
 exact ⟨W,(),(E8 W W)⟩
 refine A9<|D9<|B9<|sv W<|sv W<|sv W<|A1<|E1 ?_
 cases hz1
 exact ⟨W,(),(E8 W W)⟩
 refine C7 W ?_
 cases hz1
 obtain rfl:=ez1 _ rfl
 refine ⟨nofun,C5 W<|T0 ?_⟩
 exact ⟨(),(E8 W W)⟩
 rintro _ ⟨g1,q1⟩
 refine B5 q1<|A4<|E3 W<|sq W<|sl W G_hit W<|sv W<|bs h fun _ hv3 h=>sd W (C4 W W hv3 W)<|sd W (C8 W hv3 W)<|sq W<|sl W G_hit W<|sv W<|sv W<|bs h fun _ hv4 h=>sd W (C4 W W hv4 W)<|sd W (C8 W hv4 W)<|sv W<|sv W<|sv W<|A1<|B2 ?_
 cases h
 exact A6 (.inr W) (Jc (B3 W) (B3 W) C0 C0) (.refl _)
def Uj [Lp](p1:Map)(p2:Agent):Option Bool:=
  (V8 p1 p2.Route).bind fun v1=>some (decide ((D4 (p2.S - p2.Len))>v1))
theorem OQ(p1 p2 r)(h:Uj p1 p2=some r):PCall prog 169 [(.agg (P0 p1)),(.agg (D1 p2))] (bo r):=by
 refine C2 (fk func169 ntmps169 m0 (by with_unfolding_all rfl)) (nl W) ?_
 unfold Uj at h
 refine B5 (s0:=⟨T [(0,(.d _)),(1,(.d _))],G []⟩) (E8 W W) ?_
 refine B1<|sm W<|sn W W<|sv W<|A1<|A4<|E3 W<|sq W<|sl W G_hit W<|sq W<|sl W G_hit W<|sv W<|sd W (A7 W (gq W) W W)<|sq W<|sl W G_hit W<|bs h fun _ hv1 h=>B0 W W A2 (Kx _ _ _ hv1) (.inl W) (sv W<|sv W<|A1<|B2 ?_)
 cases h
 exact A6 (.inr W) (B6 (B3 W) C0) (.refl _)
def Hg [Lp](p1:Map)(p2:State)(p3:Int):Option Int:=
  (C3 p2.Agents p3).bind fun v1=>(Ab p1 v1.Route).bind fun v2=>cond (v2 !=0) (some 13) (((cond (!(((((decide (v1.Len<300))||(decide (v1.Len>20000)))||(decide (v1.Begin<0)))||(decide (v1.Begin>1099511627776)))||(decide (v1.S<0)))) (V8 p1 v1.Route) (some default))).bind fun v3=>cond ((((((decide (v1.Len<300))||(decide (v1.Len>20000)))||(decide (v1.Begin<0)))||(decide (v1.Begin>1099511627776)))||(decide (v1.S<0)))||(decide (v1.S>(D4 ((D4 (v3+v1.Len))+2000))))) (some 2) ((Ui p1 v1).bind fun v4=>(C3 p1.Lanes v4.1).bind fun v5=>(Fv v5.Kind).bind fun v6=>cond ((decide (v1.V<0))||(decide (v1.V>v6.1))) (some 2) ((Uj p1 v1).bind fun v7=>cond (((!(v1.Gone==v7))||((decide (v1.Begin>p2.Tick))&& (v1.S !=0)))||((p3==0)&& (v1.Begin !=0))) (some 10) (some 0))))
theorem CL(p1 p2 p3 r)(h:Hg p1 p2 p3=some r):PCall prog 77 [(.agg (P0 p1)),(.agg (X7 p2)),(i64 p3)] (i64 r):=by
 refine C2 (fk func77 ntmps77 m0 (by with_unfolding_all rfl)) (nl W) ?_
 unfold Hg at h
 refine B5 (s0:=⟨T [(0,(.d _)),(1,(.d _)),(2,(.d _))],G []⟩) (E8 W W) ?_
 refine B1<|sm W<|sn W W<|sv W<|A1<|B1<|sq W<|sl W G_hit W<|sv W<|bs h fun v1 hv1 h=>sd W (C4 W W hv1 W)<|sd W (D0 W hv1 W W)<|sm W<|P5 W G_hit (S7 v1) W (A1<|A4<|B1<|sd W (A7 W (gq W) W W)<|sq W<|sl W G_hit W<|bs h fun _ hv2 h=>B0 W W A2 (Gu _ _ _ hv2) (.inl W) (sv W<|A1<|cc W h (fun c1 h=> ?_)<|fun c1 h=> ?_))
 refine B1<|sv W<|A1<|B2 ?_
 cases h
 exact A6 (.inr W) (B6 (B3 W) C0) (.refl _)
 refine A9<|A4<|A4<|E3 W<|sq W<|sl W G_hit W<|sv W<|sv W<|gp W (K3 W) (fun _=>W) (gf W (vl W G_hit W)<|gf W (vb W W W)<|sd W (N7 W W<|fun hc=>A3<|I7 hc)<|sv W<|gp W (K3 W) (fun _=>W) (gf W (vl W G_hit W)<|gf W (vb W W W)<|sd W (N7 W W<|fun hc=>A3<|I7 hc)<|sv W<|gp W (K3 W) (fun _=>W) (gf W (vl W G_hit W)<|gf W (vb W W W)<|sd W (N7 W W<|fun hc=>A3<|I7 hc)<|sv W<|gp W (K3 W) (fun _=>W) (gf W (vl W G_hit W)<|gf W (vb W W W)<|sd W (N7 W W<|fun hc=>A3<|I7 hc)<|sv W<|gp W (K3 W) (fun _=>W) (gf W (vl W G_hit W)<|gf W (fun _=>(A7 W (gq W) W W))<|gp W (K3 W) (fun _=>W) (gf W (vl W G_hit W)<|bs h fun v3 hv3 h=> ?_))))))
 refine L9 _ (i64 v3) (K3 W) (fun w18=>⟨_,[(.d (.agg (P0 p1))),(dl A5 v1.Route)],_,_,(by simp only [A3 w18];rfl),W,A2,Kx _ _ _<|C1 w18 hv3,(.inl W)⟩) ?_
 refine gp W (K3 W) (fun _=>W) (gf W (vl W G_hit W)<|gf W (fun w21=>(L6 (A3 w21) (A3 w21) W))<|gf W (vb W W W)<|gf W (fun w23=>(L6 (A3 w23) (A3 w23) W))<|sd W (N7 W W<|fun hc=>A3<|I7 hc)<|A1<|cc W h (fun c2 h=> ?_)<|fun c2 h=> ?_)
 refine B1<|sv W<|A1<|B2 ?_
 cases h
 exact A6 (.inr W) (B6 (B3 W) C0) (.refl _)
 refine A9<|B1<|sd W (A7 W (gq W) W W)<|sd W (A7 W G_hit W W)<|bs h fun _ hv4 h=>B0 W W A2 (OP _ _ _ hv4) (.inl W) (sv W<|sv W<|sv W<|sv W<|sv W<|A1<|B1<|sq W<|sl W (gq W) W (sv W<|bs h fun _ hv5 h=>sd W (C4 W W hv5 W)<|sv W<|sd W (C8 W hv5 W)<|bs h fun _ hv6 h=>B0 W W A2 (Ni _ _ hv6) (.inl W) (sv W<|sv W<|sv W<|sv W<|sv W<|sv W<|sv W<|A1<|A4<|B1<|sq W<|sl W G_hit W<|sv W<|sv W<|gp W (K3 W) (fun _=>W) (gf W (vl W G_hit W)<|gf W (fun _=>W)<|gf W (fun w27=>(L6 (A3 w27) (A3 w27) W))<|sd W (N7 W W<|fun hc=>A3<|I7 hc)<|A1<|cc W h (fun c3 h=> ?_)<|fun c3 h=> ?_))))
 refine B1<|sv W<|A1<|B2 ?_
 cases h
 exact A6 (.inr W) (B6 (B3 W) C0) (.refl _)
 refine A9<|A4<|A4<|E3 W<|sq W<|sl W G_hit W<|sd W (A7 W (gq W) W W)<|sd W (A7 W G_hit W W)<|bs h fun v7 hv7 h=>B0 W W A2 (OQ _ _ _ hv7) (.inl W) (B8 (.d (bo (!(v1.Gone==v7)))) W W (sv W<|gp W (K3 W) (fun _=>W) (gf W (vl W G_hit W)<|gp W (K3 W) (fun _=>W) (gf W (vl W (gq W) W)<|gf W (fun w32=>(L6 (A3 w32) (A3 w32) W))<|gf W (fun w33=>(JP<|A3 w33))<|M5 _ (.ptr _ _) W (P8 W) (fun _=>W) (gv W (P8 W) (vl W G_hit W) (gv W (P8 W) (vb W W W) (gf W (fun w37=>(AG (A3 w37) (fun hc=>A3<|Yj w37 hc) W))<|sd W (N7 W W<|fun hc=>A3<|I7 hc)<|sv W<|gf W (fun _=>W)<|gf W (vb W W W)<|gf W (fun w40=>(JP<|A3 w40))<|M5 _ (.ptr _ _) W (P8 W) (fun _=>W) (gv W (P8 W) (vl W G_hit W) (gv W (P8 W) (vb W W W) (gf W (fun w44=>(AG (A3 w44) (fun hc=>A3<|Yj w44 hc) W))<|sd W (N7 W W<|fun hc=>A3<|I7 hc)<|A1<|cc W h (fun c4 h=> ?_)<|fun c4 h=> ?_))))))))))
 refine B1<|sv W<|A1<|B2 ?_
 cases h
 exact A6 (.inr W) (B6 (B3 W) C0) (.refl _)
 refine A9<|B1<|sv W<|A1<|B2 ?_
 cases h
 exact A6 (.inr W) (B6 (B3 W) C0) (.refl _)
def Hh (p2:State)(x3:Int):Option (Stp Int (Sum Unit Int)):=
  cond (decide (x3< (p2.In.length:Int))) ((C3 p2.In x3).bind fun v7=>cond ((((decide (v7.Since<0))||(decide (v7.Since>p2.Tick)))||(decide (v7.Rank<0)))||(decide (v7.Rank>100))) (some (.out (.inr 2))) (some (.go (D4 (x3+1))))) (some (.out (.inl ())))
def Hj (p1:Map)(p2:State)(x2:Int):Option (Stp Int (Sum Unit Int)):=
  cond (decide (x2< (p2.In.length:Int))) ((C3 p2.In x2).bind fun v3=>cond ((((decide (v3.Agent_<0))||(decide (v3.Agent_≥(p2.Agents.length:Int))))||(decide (v3.Zone_<0)))||(decide (v3.Zone_≥(p1.Zones.length:Int)))) (some (.out (.inr 11))) (((cond (decide (x2>0)) (C3 p2.In (D4 (x2 - 1))) (some default))).bind fun v4=>((cond ((decide (x2>0))&& (!(decide (v3.Agent_<v4.Agent_)))) (C3 p2.In (D4 (x2 - 1))) (some default))).bind fun v5=>((cond (((decide (x2>0))&& (!(decide (v3.Agent_<v4.Agent_))))&& (v3.Agent_==v5.Agent_)) (C3 p2.In (D4 (x2 - 1))) (some default))).bind fun v6=>cond ((decide (x2>0))&& ((decide (v3.Agent_<v4.Agent_))||((v3.Agent_==v5.Agent_)&& (decide (v3.Zone_≤v6.Zone_))))) (some (.out (.inr 11))) (some (.go (D4 (x2+1)))))) (some (.out (.inl ())))
def Hl [Lp](p1:Map)(p2:State)(x1:Int):Option (Stp Int (Sum Unit Int)):=
  cond (decide (x1< (p2.Agents.length:Int))) ((Hg p1 p2 x1).bind fun v2=>cond (v2 !=0) (some (.out (.inr v2))) (some (.go (D4 (x1+1))))) (some (.out (.inl ())))
def Rn [Lp](p1:Map)(p2:State):Option Int:=
  (Kw p1).bind fun v1=>cond (v1 !=0) (some v1) (cond ((decide (p2.Tick<0))||(decide (p2.Tick>1099511627776))) (some 2) (cond ((p2.Agents.length:Int)==0) (some 6) (cond (decide ((p2.Agents.length:Int)>8)) (some 8) (thenS (loop (Hl p1 p2) 0) (fun _=>thenS (loop (Hj p1 p2) 0) (fun _=>thenS (loop (Hh p2) 0) (fun _=>some 0) (fun r=>some r)) (fun r=>some r)) (fun r=>some r)))))
theorem MM(p1 p2 r)(h:Rn p1 p2=some r):PCall prog 25 [(.agg (P0 p1)),(.agg (X7 p2))] (i64 r):=by
 refine C2 (fk func25 ntmps25 m0 (by with_unfolding_all rfl)) (nl W) ?_
 unfold Rn at h
 refine B5 (s0:=⟨T [(0,(.d _)),(1,(.d _))],G []⟩) (E8 W W) ?_
 refine lr<|fun u1 _=>sm W<|sm W<|sv W<|A1<|B1<|sd W (A7 W (gq W) W W)<|bs h fun _ hv1 h=>B0 W W A2 (Uh _ _ hv1) (.inl W) (sv W<|A1<|A4<|B1<|sv W<|sv W<|A1<|cc W h (fun c1 h=> ?_)<|fun c1 h=> ?_)
 refine B1<|sv W<|sv W<|A1<|B2 ?_
 cases h
 exact A6 (.inr W) (B6 (B3 W) C0) (.refl _)
 refine A9<|A4<|B1<|sq W<|sl W G_hit W<|sv W<|sv W<|gp W (K3 W) (fun _=>W) (gf W (vl W G_hit W)<|gf W (vb W W W)<|sd W (N7 W W<|fun hc=>A3<|I7 hc)<|A1<|cc W h (fun c2 h=> ?_)<|fun c2 h=> ?_)
 refine B1<|sv W<|A1<|B2 ?_
 cases h
 exact A6 (.inr W) (B6 (B3 W) C0) (.refl _)
 refine A9<|A4<|B1<|sq W<|sl W G_hit W<|sd W (D6 W)<|sv W<|A1<|cc W h (fun c3 h=> ?_)<|fun c3 h=> ?_
 refine B1<|sv W<|A1<|B2 ?_
 cases h
 exact A6 (.inr W) (B6 (B3 W) C0) (.refl _)
 refine A9<|A4<|B1<|sq W<|sl W G_hit W<|sd W (D6 W)<|sv W<|A1<|cc W h (fun c4 h=> ?_)<|fun c4 h=> ?_
 refine B1<|sv W<|A1<|B2 ?_
 cases h
 exact A6 (.inr W) (B6 (B3 W) C0) (.refl _)
 refine A9<|A4<|B1<|sv W<|A1<|js h fun z1 hz1 h=>D7 (fun s=> ∃(y1:Unit) (g1:Unit),z1= .inl y1∧Sb ⟨T [(2,(.ptr (2,u1) 0)),(3,(.ptr (3,u1) 0))],G [((2,u1),some<|.box 33 (K4 p1)),((3,u1),some<|.box 25 (I8 p2))]⟩ s) ?_ ?_
 refine A8<|E2 (Hl p1 p2) (fun (x1:Int) (g2:Unit)=>⟨T [(2,(.ptr (2,u1) 0)),(3,(.ptr (3,u1) 0)),(6,(di x1))],G [((2,u1),some<|.box 33 (K4 p1)),((3,u1),some<|.box 25 (I8 p2))]⟩) 0 () _ hz1 (E8 W W) ?_
 intro x1 g2 z2 hz2 ez2
 unfold Hl at hz2
 refine A4<|B1<|sv W<|sq W<|sl W (gq W) W (sd W (D6 W)<|sv W<|A1<|cc W hz2 (fun c5 hz2=> ?_)<|fun c5 hz2=> ?_)
 refine A9<|A4<|A8<|B1<|sd W (A7 W G_hit W W)<|sd W (A7 W (gq W) W W)<|sv W<|bs hz2 fun _ hv2 hz2=>B0 W W A2 (CL _ _ _ _ hv2) (.inl W) (sv W<|A1<|B1<|sv W<|sv W<|A1<|cc W hz2 (fun c6 hz2=> ?_)<|fun c6 hz2=> ?_)
 refine B1<|sv W<|sv W<|A1<|B2 ?_
 cases hz2
 obtain rfl:=ez2 _ rfl
 refine ⟨nofun,E7 ?_⟩
 rw [wC]at h
 cases h
 exact A6 (.inr W) (B6 (B3 W) C0) (.refl _)
 refine A9<|D9<|B9<|sv W<|sv W<|sv W<|A1<|E1 ?_
 cases hz2
 exact ⟨W,(),(E8 W W)⟩
 refine C7 W ?_
 cases hz2
 obtain rfl:=ez2 _ rfl
 refine ⟨nofun,C5 W<|T0 ?_⟩
 exact ⟨_,(),W,(E8 W W)⟩
 rintro _ ⟨y1,g1,rfl,q1⟩
 rw [wB]at h
 refine B5 q1<|A4<|B1<|sv W<|A1<|js h fun z3 hz3 h=>D7 (fun s=> ∃(y2:Unit) (g3:Unit),z3= .inl y2∧Sb ⟨T [(3,(.ptr (3,u1) 0))],G [((3,u1),some<|.box 25 (I8 p2))]⟩ s) ?_ ?_
 refine A8<|E2 (Hj p1 p2) (fun (x2:Int) (g4:Unit)=>⟨T [(2,(.ptr (2,u1) 0)),(3,(.ptr (3,u1) 0)),(7,(di x2))],G [((2,u1),some<|.box 33 (K4 p1)),((3,u1),some<|.box 25 (I8 p2))]⟩) 0 () _ hz3 (E8 W W) ?_
 intro x2 g4 z4 hz4 ez4
 unfold Hj at hz4
 refine A4<|B1<|sv W<|sq W<|sl W (gq W) W (sd W (D6 W)<|sv W<|A1<|cc W hz4 (fun c7 hz4=> ?_)<|fun c7 hz4=> ?_)
 refine A9<|A4<|A8<|B1<|sq W<|sl W (gq W) W (sv W<|bs hz4 fun v3 hv3 hz4=>sd W (C4 W W hv3 W)<|sd W (D0 W hv3 W W)<|sm W<|P5 W G_hit (Yl v3) W (A1<|A4<|B1<|sq W<|sl W G_hit W<|sv W<|sv W<|gp W (K3 W) (fun _=>W) (gf W (vl W G_hit W)<|gp W (K3 W) (fun _=>W) (gf W (vl W (gq W) W)<|gf W (fun w8=>(D6<|A3 w8))<|gf W (fun w9=>(L6 (A3 w9) (A3 w9) W))<|sd W (N7 W W<|fun hc=>A3<|I7 hc)<|sv W<|gp W (K3 W) (fun _=>W) (gf W (vl W G_hit W)<|gf W (vb W W W)<|sd W (N7 W W<|fun hc=>A3<|I7 hc)<|sv W<|gp W (K3 W) (fun _=>W) (gf W (vl W G_hit W)<|gp W (K3 W) (fun _=>W) (gf W (vl W (gq W) W)<|gf W (fun w17=>(D6<|A3 w17))<|gf W (fun w18=>(L6 (A3 w18) (A3 w18) W))<|sd W (N7 W W<|fun hc=>A3<|I7 hc)<|A1<|cc W hz4 (fun c8 hz4=> ?_)<|fun c8 hz4=> ?_)))))))
 refine B1<|sv W<|A1<|B2 ?_
 cases hz4
 obtain rfl:=ez4 _ rfl
 refine ⟨nofun,E7 ?_⟩
 rw [wC]at h
 cases h
 exact A6 (.inr W) (B6 (B3 W) C0) (.refl _)
 refine A9<|A4<|E3 W<|sv W<|sv W<|sv W<|gp W (K6 W) (fun _=>W) (gt W (vl W G_hit W)<|gp W (K6 W) (fun _=>W) (gt W (vl W (gq W) W)<|gt W (fun _=>W)<|gt W (vb W W W)<|bs hz4 fun _ hv4 hz4=>gt W (fun w25=>(C4 (A3 w25) (A3 w25) (C1 w25 hv4) W)) ?_))
 refine gt W (fun w26=>(by simp only [A3 w26];rfl)) ?_
 refine gt W (fun w27=>(C8 (A3 w27) (C1 w27 hv4) W))<|gt W (fun w28=>(L6 (A3 w28) (A3 w28) W))<|gt W (fun w29=>(JP<|A3 w29))<|M5 _ (.ptr _ _) W (Hy W) (fun _=>W) (gv W (Hy W) (vl W G_hit W) (M5 _ (.ptr _ _) W (Hy W) (fun _=>W) (gv W (Hy W) (vl W (gq W) W) (gv W (Hy W) (fun _=>W) (gv W (Hy W) (vb W W W) (bs hz4 fun _ hv5 hz4=>gv W (Hy W) (fun w36=>(C4 (A3 w36) (A3 w36) (C1 w36 hv5) W)) ?_))))))
 refine gv W (Hy W) (fun w37=>(by simp only [A3 w37];rfl)) ?_
 refine gv W (Hy W) (fun w38=>(C8 (A3 w38) (C1 w38 hv5) W)) (gv W (Hy W) (fun w39=>(L6 (A3 w39) (A3 w39) W)) (gv W (Hy W) (fun w40=>(JP<|A3 w40)) (M5 _ (.ptr _ _) W (P8 W) (fun _=>W) (gv W (P8 W) (vl W G_hit W) (M5 _ (.ptr _ _) W (P8 W) (fun _=>W) (gv W (P8 W) (vl W (gq W) W) (gv W (P8 W) (fun _=>W) (gv W (P8 W) (vb W W W) (bs hz4 fun _ hv6 hz4=>gv W (P8 W) (fun w47=>(C4 (A3 w47) (A3 w47) (C1 w47 hv6) W)) ?_)))))))))
 refine gv W (P8 W) (fun w48=>(by simp only [A3 w48];rfl)) ?_
 refine gv W (P8 W) (fun w49=>(C8 (A3 w49) (C1 w49 hv6) W)) (gv W (P8 W) (fun w50=>(L6 (A3 w50) (A3 w50) W)) (gv W (Hy W) (fun w51=>(AG (A3 w51) (fun hc=>A3<|Yj w51 hc) W)) (gt W (fun w52=>(N7 (A3 w52) W (fun hc=>A3<|Yj w52<|I7 hc)))<|sa W W W<|A1<|cc W hz4 (fun c9 hz4=> ?_)<|fun c9 hz4=> ?_)))
 refine B1<|sv W<|A1<|B2 ?_
 cases hz4
 obtain rfl:=ez4 _ rfl
 refine ⟨nofun,E7 ?_⟩
 rw [wC]at h
 cases h
 exact A6 (.inr W) (B6 (B3 W) C0) (.refl _)
 refine A9<|D9<|B9<|sv W<|sv W<|sv W<|A1<|E1 ?_
 cases hz4
 exact ⟨W,(),(E8 W W)⟩
 refine C7 W ?_
 cases hz4
 obtain rfl:=ez4 _ rfl
 refine ⟨nofun,C5 W<|T0 ?_⟩
 exact ⟨_,(),W,(E8 W W)⟩
 rintro _ ⟨y2,g3,rfl,q2⟩
 rw [wB]at h
 refine B5 q2<|A4<|B1<|sv W<|A1<|js h fun z5 hz5 h=>D7 (fun s=> ∃(y3:Unit) (g5:Unit),z5= .inl y3∧Sb ⟨T [],G []⟩ s) ?_ ?_
 refine A8<|E2 (Hh p2) (fun (x3:Int) (g6:Unit)=>⟨T [(3,(.ptr (3,u1) 0)),(9,(di x3))],G [((3,u1),some<|.box 25 (I8 p2))]⟩) 0 () _ hz5 (E8 W W) ?_
 intro x3 g6 z6 hz6 ez6
 unfold Hh at hz6
 refine A4<|B1<|sv W<|sq W<|sl W G_hit W<|sd W (D6 W)<|sv W<|A1<|cc W hz6 (fun c10 hz6=> ?_)<|fun c10 hz6=> ?_
 refine A9<|A4<|A8<|B1<|sq W<|sl W G_hit W<|sv W<|bs hz6 fun v7 hv7 hz6=>sd W (C4 W W hv7 W)<|sd W (D0 W hv7 W W)<|sm W<|P5 W G_hit (Yl v7) W (A1<|B1<|sq W<|sl W G_hit W<|sv W<|sv W<|gp W (K3 W) (fun _=>W) (gf W (vl W G_hit W)<|gp W (K3 W) (fun _=>W) (gf W (vl W (gq W) W)<|gf W (fun w57=>(L6 (A3 w57) (A3 w57) W))<|sd W (N7 W W<|fun hc=>A3<|I7 hc)<|sv W<|gp W (K3 W) (fun _=>W) (gf W (vl W G_hit W)<|gf W (vb W W W)<|sd W (N7 W W<|fun hc=>A3<|I7 hc)<|sv W<|gp W (K3 W) (fun _=>W) (gf W (vl W G_hit W)<|gf W (vb W W W)<|sd W (N7 W W<|fun hc=>A3<|I7 hc)<|A1<|cc W hz6 (fun c11 hz6=> ?_)<|fun c11 hz6=> ?_)))))
 refine B1<|sv W<|A1<|B2 ?_
 cases hz6
 obtain rfl:=ez6 _ rfl
 refine ⟨nofun,E7 ?_⟩
 rw [wC]at h
 cases h
 exact A6 (.inr W) (B6 (B3 W) C0) (.refl _)
 refine A9<|D9<|B9<|sv W<|sv W<|sv W<|A1<|E1 ?_
 cases hz6
 exact ⟨W,(),(E8 W W)⟩
 refine C7 W ?_
 cases hz6
 obtain rfl:=ez6 _ rfl
 refine ⟨nofun,C5 W<|T0 ?_⟩
 exact ⟨_,(),W,(E8 W W)⟩
 rintro _ ⟨y3,g5,rfl,q3⟩
 rw [wB]at h
 refine B5 q3<|B1<|sv W<|A1<|B2 ?_
 cases h
 exact A6 (.inr W) (B6 (B3 W) C0) (.refl _)
def If (p1:State)(p2:Int):Option Bool:=
  ((cond ((decide (p2≥0))&& (decide (p2< (p1.Agents.length:Int)))) (C3 p1.Agents p2) (some default))).bind fun v1=>((cond (((decide (p2≥0))&& (decide (p2< (p1.Agents.length:Int))))&& (decide (v1.Begin≤p1.Tick))) (C3 p1.Agents p2) (some default))).bind fun v2=>some ((((decide (p2≥0))&& (decide (p2< (p1.Agents.length:Int))))&& (decide (v1.Begin≤p1.Tick)))&& (!v2.Gone))
theorem Pd(p1 p2 r)(h:If p1 p2=some r):PCall prog 39 [(.agg (X7 p1)),(i64 p2)] (bo r):=by
 refine C2 (fk func39 ntmps39 m0 (by with_unfolding_all rfl)) (nl W) ?_
 unfold If at h
 refine B5 (s0:=⟨T [(0,(.d _)),(1,(.d _))],G []⟩) (E8 W W) ?_
 refine B1<|sm W<|sv W<|A1<|A4<|E3 W<|sv W<|sv W<|sv W<|gt W (fun _=>W)<|gp W (K6 W) (fun _=>W) (gt W (vl W G_hit W)<|gt W (fun w4=>(D6<|A3 w4))<|gt W (fun w5=>(L6 (A3 w5) (A3 w5) W))<|sa W W W<|sv W<|gp W (K6 W) (fun _=>W) (gt W (vl W G_hit W)<|gt W (fun _=>W)<|bs h fun _ hv1 h=>gt W (fun w9=>(C4 (A3 w9) (A3 w9) (C1 w9 hv1) W)) ?_))
 refine gt W (fun w10=>(by simp only [A3 w10];rfl)) ?_
 refine gt W (fun w11=>(C8 (A3 w11) (C1 w11 hv1) W))<|gp W (K6 W) (fun _=>W) (gt W (vl W G_hit W)<|gt W (fun w14=>(L6 (A3 w14) (A3 w14) W))<|sa W W W<|sv W<|gp W (K6 W) (fun _=>W) (gt W (vl W G_hit W)<|gt W (fun _=>W)<|bs h fun v2 hv2 h=>gt W (fun w18=>(C4 (A3 w18) (A3 w18) (C1 w18 hv2) W)) ?_))
 refine gt W (fun w19=>(by simp only [A3 w19];rfl)) ?_
 refine gt W (fun w20=>(C8 (A3 w20) (C1 w20 hv2) W)) ?_
 refine M5 _ (.d (bo (!v2.Gone))) W (K6 W) (fun w21=>(by simp only [A3 w21];rfl)) ?_
 refine sa W W W<|sv W<|A1<|B2 ?_
 cases h
 exact A6 (.inr W) (B6 (B3 W) C0) (.refl _)
def Np (p1:Agent):Option Bool:=
  some ((((decide (p1.S≥0))&& (decide (p1.S≤1099511627776)))&& (decide (p1.Len≥0)))&& (decide (p1.Len≤1099511627776)))
theorem Vz(p1 r)(h:Np p1=some r):PCall prog 133 [(.agg (D1 p1))] (bo r):=by
 refine C2 (fk func133 ntmps133 m0 (by with_unfolding_all rfl)) (nl W) ?_
 unfold Np at h
 refine B5 (s0:=⟨T [(0,(.d _))],G []⟩) (E8 W W) ?_
 refine B1<|sm W<|sv W<|A1<|B1<|sq W<|sl W G_hit W<|sv W<|sv W<|gp W (K6 W) (fun _=>W) (gt W (vl W G_hit W)<|gt W (vb W W W)<|sa W W W<|sv W<|gp W (K6 W) (fun _=>W) (gt W (vl W G_hit W)<|gt W (vb W W W)<|sa W W W<|sv W<|gp W (K6 W) (fun _=>W) (gt W (vl W G_hit W)<|gt W (vb W W W)<|sa W W W<|sv W<|A1<|B2 ?_)))
 cases h
 exact A6 (.inr W) (B6 (B3 W) C0) (.refl _)
def U9 (x5:((List Pass)×Int)):Option (Stp ((List Pass)×Int) (List Pass)):=
  ((cond (decide (x5.2>0)) (C3 x5.1 x5.2) (some default))).bind fun v9=>((cond (decide (x5.2>0)) (C3 x5.1 (D4 (x5.2 - 1))) (some default))).bind fun v10=>((cond ((decide (x5.2>0))&& (!(decide (v9.From<v10.From)))) (C3 x5.1 x5.2) (some default))).bind fun v11=>((cond ((decide (x5.2>0))&& (!(decide (v9.From<v10.From)))) (C3 x5.1 (D4 (x5.2 - 1))) (some default))).bind fun v12=>((cond (((decide (x5.2>0))&& (!(decide (v9.From<v10.From))))&& (v11.From==v12.From)) (C3 x5.1 x5.2) (some default))).bind fun v13=>((cond (((decide (x5.2>0))&& (!(decide (v9.From<v10.From))))&& (v11.From==v12.From)) (C3 x5.1 (D4 (x5.2 - 1))) (some default))).bind fun v14=>cond ((decide (x5.2>0))&& ((decide (v9.From<v10.From))||((v11.From==v12.From)&& (decide (v13.Zone_<v14.Zone_))))) ((C3 x5.1 (D4 (x5.2 - 1))).bind fun v15=>(C3 x5.1 x5.2).bind fun v16=>(C3 x5.1 x5.2).bind fun v17=>(C3 (Oh x5.1 x5.2 v15) (D4 (x5.2 - 1))).bind fun v18=>some (.go ((Oh (Oh x5.1 x5.2 v15) (D4 (x5.2 - 1)) v16),(D4 (x5.2 - 1))))) (some (.out x5.1))
def Ba [Lp](x4:((List Pass)×Int)):Option (Stp ((List Pass)×Int) (List Pass)):=
  cond (decide (x4.2< (x4.1.length:Int))) ((loop (U9) (x4.1,x4.2)).bind fun y5=>some (.go (y5,(D4 (x4.2+1))))) (some (.out x4.1))
def Bb (p1:Map)(p2:(List Int))(v1:(List Int))(x1:((List Pass)×Int))(x2:((List Pass)×Int))(x3:((List Pass)×Int)):Option (Stp ((List Pass)×Int) (List Pass)):=
  (C3 p1.Zones x2.2).bind fun v2=>cond (decide (x3.2< (v2.Parts.length:Int))) ((C3 p1.Zones x2.2).bind fun v3=>(C3 v3.Parts x3.2).bind fun v4=>(C3 p2 x1.2).bind fun v5=>cond (v4.Lane_==v5) ((C3 v1 x1.2).bind fun v6=>(C3 v1 x1.2).bind fun v7=>(Ah x3.1 [(Pass.mk x2.2 x3.2 (D4 (v6+v4.From)) (D4 (v7+v4.To)))]).bind fun v8=>some (.go (v8,(D4 (x3.2+1))))) (some (.go (x3.1,(D4 (x3.2+1)))))) (some (.out x3.1))
def Bc [Lp](p1:Map)(p2:(List Int))(v1:(List Int))(x1:((List Pass)×Int))(x2:((List Pass)×Int)):Option (Stp ((List Pass)×Int) (List Pass)):=
  cond (decide (x2.2< (p1.Zones.length:Int))) ((loop (Bb p1 p2 v1 x1 x2) (x2.1,0)).bind fun y3=>some (.go (y3,(D4 (x2.2+1))))) (some (.out x2.1))
def Z3 [Lp](p1:Map)(p2:(List Int))(v1:(List Int))(x1:((List Pass)×Int)):Option (Stp ((List Pass)×Int) (List Pass)):=
  cond (decide (x1.2< (v1.length:Int))) ((loop (Bc p1 p2 v1 x1) (x1.1,0)).bind fun y2=>some (.go (y2,(D4 (x1.2+1))))) (some (.out x1.1))
def Fy [Lp](p1:Map)(p2:(List Int)):Option (List Pass):=
  (Fx p1 p2).bind fun v1=>(loop (Z3 p1 p2 v1) ([],0)).bind fun y1=>(loop (Ba) (y1,1)).bind fun y4=>some y4
theorem JW(p1 p2 r)(h:Fy p1 p2=some r):PCall prog 176 [(.agg (P0 p1)),(.list (List.map A5 p2))] (.list (List.map Q7 r)):=by
 refine C2 (fk func176 ntmps176 (fun r=>if r==14 then [1018]else []) (by with_unfolding_all rfl)) (nl W) ?_
 unfold Fy at h
 refine B5 (s0:=⟨T [(0,(.d _)),(1,(.d _))],G []⟩) (E8 W W) ?_
 refine lr<|fun u1 _=>sm W<|sv W<|A1<|B1<|sv W<|A1<|B1<|sd W (A7 W G_hit W W)<|sv W<|bs h fun v1 hv1 h=>B0 W W A2 (Sh _ _ _ hv1) (.inl W) (sv W<|A1<|A4<|B1<|sv W<|A1<|bs h fun y1 hy1 h=>D7 (fun s=> ∃g1:Nat,Sb ⟨T [(5,(oS y1 (75,g1)))],G [((75,g1),oB 229 4 Q7 y1)]⟩ s) ?_ ?_)
 refine A8<|E2 (Z3 p1 p2 v1) (fun (x1:((List Pass)×Int)) (g2:Nat)=>⟨T [(1,(dl A5 p2)),(2,(.ptr (2,u1) 0)),(5,(oS x1.1 (75,g2))),(6,(dl A5 v1)),(7,(di x1.2))],G [((2,u1),some<|.box 33 (K4 p1)),((75,g2),oB 229 4 Q7 x1.1)]⟩) ([],0) 0 _ hy1 (D5 (W1 W)<|B4 G_hit (.of W)<|P3 trivial) ?_
 intro x1 g2 z1 hz1 ez1
 unfold Z3 at hz1
 refine A4<|B1<|sv W<|sv W<|sd W (D6 W)<|sv W<|A1<|cc W hz1 (fun c1 hz1=> ?_)<|fun c1 hz1=> ?_
 refine A9<|A4<|A8<|B1<|sv W<|A1<|bs hz1 fun y2 hy2 hz1=>D7 (fun s=> ∃g3:Nat,Sb ⟨T [(1,(dl A5 p2)),(2,(.ptr (2,u1) 0)),(5,(oS y2 (75,g3))),(6,(dl A5 v1)),(7,(di x1.2))],G [((2,u1),some<|.box 33 (K4 p1)),((75,g3),oB 229 4 Q7 y2)]⟩ s) ?_ ?_
 refine A8<|E2 (Bc p1 p2 v1 x1) (fun (x2:((List Pass)×Int)) (g4:Nat)=>⟨T [(1,(dl A5 p2)),(2,(.ptr (2,u1) 0)),(5,(oS x2.1 (75,g4))),(6,(dl A5 v1)),(7,(di x1.2)),(8,(di x2.2))],G [((2,u1),some<|.box 33 (K4 p1)),((75,g4),oB 229 4 Q7 x2.1)]⟩) (x1.1,0) g2 _ hy2 (D5 (W1 W)<|B4 G_hit (.of W)<|B7 (gq W) trivial) ?_
 intro x2 g4 z2 hz2 ez2
 unfold Bc at hz2
 refine A4<|B1<|sv W<|sq W<|sl W G_hit W<|sd W (D6 W)<|sv W<|A1<|cc W hz2 (fun c2 hz2=> ?_)<|fun c2 hz2=> ?_
 refine A9<|A4<|A8<|B1<|sv W<|A1<|bs hz2 fun y3 hy3 hz2=>D7 (fun s=> ∃g5:Nat,Sb ⟨T [(1,(dl A5 p2)),(2,(.ptr (2,u1) 0)),(5,(oS y3 (75,g5))),(6,(dl A5 v1)),(7,(di x1.2)),(8,(di x2.2))],G [((2,u1),some<|.box 33 (K4 p1)),((75,g5),oB 229 4 Q7 y3)]⟩ s) ?_ ?_
 refine A8<|E2 (Bb p1 p2 v1 x1 x2) (fun (x3:((List Pass)×Int)) (g6:Nat)=>⟨T [(1,(dl A5 p2)),(2,(.ptr (2,u1) 0)),(5,(oS x3.1 (75,g6))),(6,(dl A5 v1)),(7,(di x1.2)),(8,(di x2.2)),(9,(di x3.2))],G [((2,u1),some<|.box 33 (K4 p1)),((75,g6),oB 229 4 Q7 x3.1)]⟩) (x2.1,0) g4 _ hy3 (D5 (W1 W)<|B4 G_hit (.of W)<|B7 (gq W) trivial) ?_
 intro x3 g6 z3 hz3 ez3
 unfold Bb at hz3
 refine A4<|B1<|sv W<|sq W<|sl W G_hit W<|sv W<|bs hz3 fun _ hv2 hz3=>sd W (C4 W W hv2 W)<|sv W<|sd W (C8 W hv2 W)<|sd W (D6 W)<|sv W<|A1<|cc W hz3 (fun c3 hz3=> ?_)<|fun c3 hz3=> ?_
 refine A9<|A4<|A8<|B1<|sq W<|sl W G_hit W<|sv W<|bs hz3 fun _ hv3 hz3=>sd W (C4 W W hv3 W)<|sv W<|sd W (C8 W hv3 W)<|sv W<|bs hz3 fun v4 hv4 hz3=>sd W (C4 W W hv4 W)<|sd W (D0 W hv4 W W)<|sm W<|P5 W G_hit (CT v4) W (A1<|A4<|E3 W<|sq W<|sl W G_hit W<|sv W<|sv W<|bs hz3 fun _ hv5 hz3=>sd W (C4 W W hv5 W)<|sd W (C8 W hv5 W)<|sv W<|A1<|cc W hz3 (fun c4 hz3=> ?_)<|fun c4 hz3=> ?_)
 refine Gy W fun u12 _=>B8 (oS x3.1 (75,g6)) W W (sv W<|sv W<|sv W<|sv W<|bs hz3 fun v6 hv6 hz3=>sd W (C4 W W hv6 W)<|sd W (C8 W hv6 W)<|sq W<|sl W G_hit W<|sv W<|sv W<|sv W<|bs hz3 fun v7 hv7 hz3=>sd W (C4 W W hv7 W)<|sd W (C8 W hv7 W)<|sq W<|sl W G_hit W<|sv W<|sv W<|B8 (dl Q7 [(Pass.mk x2.2 x3.2 (D4 (v6+v4.From))<|D4 (v7+v4.To))]) W W (bs hz3 fun _ hv8 hz3=>O0 Q7 (75,g6) x3.1 (Pass.mk x2.2 x3.2 (D4 (v6+v4.From))<|D4 (v7+v4.To)) [] _ (K5<|fun _=>W) W (gq W) hv8 (ss W<|A1<|D9<|B9<|sv W<|sv W<|sv W<|A1<|E1 ?_)))
 cases hz3
 exact ⟨W,u12,(D5 ⟨.of W, .of W,(.of (S3<|R8 hv8).symm), .of W, .of W, .of W, .of W,trivial⟩<|sg W<|M0 G_hit trivial)⟩
 refine A9<|D9<|B9<|sv W<|sv W<|sv W<|A1<|E1 ?_
 cases hz3
 exact ⟨W,g6,(D5 (W1 W)<|sg W<|B7 (gq W) trivial)⟩
 refine C7 W ?_
 cases hz3
 obtain rfl:=ez3 _ rfl
 refine ⟨nofun,C5 W<|T0 ?_⟩
 exact ⟨g6,(D5 (W1 W)<|B4 G_hit (.of W)<|B7 (gq W) trivial)⟩
 rintro _ ⟨g5,q1⟩
 refine D9<|B5 q1<|B9<|sv W<|sv W<|sv W<|A1<|E1 ?_
 cases hz2
 exact ⟨W,g5,(D5 (W1 W)<|B4 G_hit (.of W)<|B7 (gq W) trivial)⟩
 refine C7 W ?_
 cases hz2
 obtain rfl:=ez2 _ rfl
 refine ⟨nofun,C5 W<|T0 ?_⟩
 exact ⟨g4,(D5 (W1 W)<|B4 G_hit (.of W)<|B7 (gq W) trivial)⟩
 rintro _ ⟨g3,q2⟩
 refine D9<|B5 q2<|B9<|sv W<|sv W<|sv W<|A1<|E1 ?_
 cases hz1
 exact ⟨W,g3,(D5 (W1 W)<|B4 G_hit (.of W)<|B7 (gq W) trivial)⟩
 refine C7 W ?_
 cases hz1
 obtain rfl:=ez1 _ rfl
 refine ⟨nofun,C5 W<|T0 ?_⟩
 exact ⟨g2,(D5 ⟨.of W,trivial⟩<|B7 (gq W) trivial)⟩
 rintro _ ⟨g1,q3⟩
 refine B5 q3<|A4<|B1<|sv W<|A1<|bs h fun y4 hy4 h=>D7 (fun s=> ∃g7:Nat,Sb ⟨T [(5,(oS y4 (75,g7)))],G [((75,g7),oB 229 4 Q7 y4)]⟩ s) ?_ ?_
 refine A8<|E2 (Ba) (fun (x4:((List Pass)×Int)) (g8:Nat)=>⟨T [(5,(oS x4.1 (75,g8))),(11,(di x4.2))],G [((75,g8),oB 229 4 Q7 x4.1)]⟩) (y1,1) g1 _ hy4 (D5 (W1 W)<|B7 G_hit trivial) ?_
 intro x4 g8 z4 hz4 ez4
 unfold Ba at hz4
 refine A4<|B1<|sv W<|B8 (oS x4.1 (75,g8)) W W (sd W (XS (f:=Q7) W G_hit)<|sv W<|A1<|cc W hz4 (fun c5 hz4=> ?_)<|fun c5 hz4=> ?_)
 refine A9<|A4<|A8<|B1<|sv W<|sv W<|A1<|bs hz4 fun y5 hy5 hz4=>D7 (fun s=> ∃g9:Nat,Sb ⟨T [(5,(oS y5 (75,g9))),(11,(di x4.2))],G [((75,g9),oB 229 4 Q7 y5)]⟩ s) ?_ ?_
 refine A8<|E2 (U9) (fun (x5:((List Pass)×Int)) (g10:Nat)=>⟨T [(5,(oS x5.1 (75,g10))),(11,(di x4.2)),(12,(di x5.2))],G [((75,g10),oB 229 4 Q7 x5.1)]⟩) (x4.1,x4.2) g8 _ hy5 (D5 (W1 W)<|B7 G_hit trivial) ?_
 intro x5 g10 z5 hz5 ez5
 unfold U9 at hz5
 refine A4<|A4<|E3 W<|sv W<|sv W<|sv W<|M5 _ (oS x5.1 (75,g10)) W (K6 W) (fun _=>W) (gt W (fun _=>W)<|bs hz5 fun _ hv9 hz5=>M5 _ (.aptr _ _ _ _) W (K6 W) (fun w3=>(Om (A3 w3) (A3 w3) G_hit (C1 w3 hv9))) ?_)
 refine M5 _ (.aptr _ _ _ _) W (K6 W) (fun w4=>(by simp only [A3 w4];rfl)) ?_
 refine gt W (fun w5=>(On (A3 w5) (Fk G_hit<|Bf<|C1 w5 hv9) (C1 w5 hv9) W))<|M5 _ (oS x5.1 (75,g10)) W (K6 W) (fun _=>W) (gt W (fun _=>W)<|gt W (vb W W W)<|bs hz5 fun _ hv10 hz5=>M5 _ (.aptr _ _ _ _) W (K6 W) (fun w9=>(Om (A3 w9) (A3 w9) G_hit (C1 w9 hv10))) ?_)
 refine M5 _ (.aptr _ _ _ _) W (K6 W) (fun w10=>(by simp only [A3 w10];rfl)) ?_
 refine gt W (fun w11=>(On (A3 w11) (Fk G_hit<|Bf<|C1 w11 hv10) (C1 w11 hv10) W))<|gt W (fun w12=>(L6 (A3 w12) (A3 w12) W))<|gt W (fun w13=>(JP<|A3 w13))<|M5 _ (oS x5.1 (75,g10)) W (Hy W) (fun _=>W) (gv W (Hy W) (fun _=>W) (bs hz5 fun _ hv11 hz5=>M5 _ (.aptr _ _ _ _) W (Hy W) (fun w16=>(Om (A3 w16) (A3 w16) G_hit (C1 w16 hv11))) ?_))
 refine M5 _ (.aptr _ _ _ _) W (Hy W) (fun w17=>(by simp only [A3 w17];rfl)) ?_
 refine gv W (Hy W) (fun w18=>(On (A3 w18) (Fk G_hit<|Bf<|C1 w18 hv11) (C1 w18 hv11) W)) (M5 _ (oS x5.1 (75,g10)) W (Hy W) (fun _=>W) (gv W (Hy W) (fun _=>W) (gv W (Hy W) (vb W W W) (bs hz5 fun _ hv12 hz5=>M5 _ (.aptr _ _ _ _) W (Hy W) (fun w22=>(Om (A3 w22) (A3 w22) G_hit (C1 w22 hv12))) ?_))))
 refine M5 _ (.aptr _ _ _ _) W (Hy W) (fun w23=>(by simp only [A3 w23];rfl)) ?_
 refine gv W (Hy W) (fun w24=>(On (A3 w24) (Fk G_hit<|Bf<|C1 w24 hv12) (C1 w24 hv12) W)) (gv W (Hy W) (fun w25=>(L6 (A3 w25) (A3 w25) W)) (gv W (Hy W) (fun w26=>(JP<|A3 w26)) (M5 _ (oS x5.1 (75,g10)) W (P8 W) (fun _=>W) (gv W (P8 W) (fun _=>W) (bs hz5 fun _ hv13 hz5=>M5 _ (.aptr _ _ _ _) W (P8 W) (fun w29=>(Om (A3 w29) (A3 w29) G_hit (C1 w29 hv13))) ?_)))))
 refine M5 _ (.aptr _ _ _ _) W (P8 W) (fun w30=>(by simp only [A3 w30];rfl)) ?_
 refine gv W (P8 W) (fun w31=>(On (A3 w31) (Fk G_hit<|Bf<|C1 w31 hv13) (C1 w31 hv13) W)) (M5 _ (oS x5.1 (75,g10)) W (P8 W) (fun _=>W) (gv W (P8 W) (fun _=>W) (gv W (P8 W) (vb W W W) (bs hz5 fun _ hv14 hz5=>M5 _ (.aptr _ _ _ _) W (P8 W) (fun w35=>(Om (A3 w35) (A3 w35) G_hit (C1 w35 hv14))) ?_))))
 refine M5 _ (.aptr _ _ _ _) W (P8 W) (fun w36=>(by simp only [A3 w36];rfl)) ?_
 refine gv W (P8 W) (fun w37=>(On (A3 w37) (Fk G_hit<|Bf<|C1 w37 hv14) (C1 w37 hv14) W)) (gv W (P8 W) (fun w38=>(L6 (A3 w38) (A3 w38) W)) (gv W (Hy W) (fun w39=>(AG (A3 w39) (fun hc=>A3<|Yj w39 hc) W)) (gt W (fun w40=>(N7 (A3 w40) W (fun hc=>A3<|Yj w40<|I7 hc)))<|sa W W W<|A1<|cc W hz5 (fun c6 hz5=> ?_)<|fun c6 hz5=> ?_)))
 refine A9<|A4<|A8<|E3 W<|B8 (oS x5.1 (75,g10)) W W (sv W<|B8 (oS x5.1 (75,g10)) W W (sv W<|sv W<|B8 (oS x5.1 (75,g10)) W W (sv W<|sv W<|bs hz5 fun v15 hv15 hz5=>B8 (.aptr _ _ _ _) W (Om W W G_hit hv15) (sd W (Rg W (Fk G_hit<|Bf hv15) hv15 W W)<|B8 (oS x5.1 (75,g10)) W W (sv W<|bs hz5 fun v16 hv16 hz5=>B8 (.aptr _ _ _ _) W (Om W W G_hit hv16) (sd W (Rg W (Fk G_hit<|Bf hv16) hv16 W W)<|bs hz5 fun _ hv17 hz5=>B8 (.aptr _ _ _ _) W (Om W W G_hit hv17) ?_))))))
 rw [S3 (Bf hv17)]
 refine Ol Q7 _ _ _ (x5.2) _ v15 (Q7 v15) W W W (Fk G_hit<|Bf hv17) hv17 (nl W) W (bs hz5 fun _ hv18 hz5=>B8 (.aptr _ _ _ _) W (Kn W W G_hit hv18) (Ol Q7 _ _ _ ((D4 (x5.2 - 1))) _ v16 (Q7 v16) W W W G_hit hv18 (nl W) W (A1<|D9<|B9<|sv W<|sv W<|sv W<|A1<|E1 ?_)))
 cases hz5
 exact ⟨W,g10,(D5 ⟨(.of (S3<|Xh<|Xh<|Bf hv17).symm), .of W, .of W,trivial⟩<|M0 G_hit trivial)⟩
 refine C7 W ?_
 cases hz5
 obtain rfl:=ez5 _ rfl
 refine ⟨nofun,C5 W<|T0 ?_⟩
 exact ⟨g10,(D5 (W1 W)<|B7 G_hit trivial)⟩
 rintro _ ⟨g9,q4⟩
 refine D9<|B5 q4<|B9<|sv W<|sv W<|sv W<|A1<|E1 ?_
 cases hz4
 exact ⟨W,g9,(D5 (W1 W)<|B7 G_hit trivial)⟩
 refine C7 W ?_
 cases hz4
 obtain rfl:=ez4 _ rfl
 refine ⟨nofun,C5 W<|T0 ?_⟩
 exact ⟨g8,(D5 ⟨.of W,trivial⟩<|B7 G_hit trivial)⟩
 rintro _ ⟨g7,q5⟩
 refine B5 q5<|B1<|B8 (oS y4 (75,g7)) W W (B8 (oS y4 (75,g7)) W W (A1<|B2 ?_))
 cases h
 exact A6 (.inr W) (B6 (B3 W)<|S5 G_hit) S4
def Eb (p2:Agent)(p3:Agent)(p4:Int)(v3:(List Pass))(x1:Int):Option (Stp Int (Sum Unit Bool)):=
  cond (decide (x1< (v3.length:Int))) ((C3 v3 x1).bind fun v4=>((cond (v4.Zone_==p4) (C3 v3 x1) (some default))).bind fun v5=>((cond ((v4.Zone_==p4)&& (decide ((D4 (p2.S - p2.Len))≤v5.To))) (C3 v3 x1) (some default))).bind fun v6=>cond (((v4.Zone_==p4)&& (decide ((D4 (p2.S - p2.Len))≤v5.To)))&& (decide (p3.S≥v6.From))) (some (.out (.inr true))) (some (.go (D4 (x1+1))))) (some (.out (.inl ())))
def Gj [Lp](p1:Map)(p2:Agent)(p3:Agent)(p4:Int):Option Bool:=
  (Np p2).bind fun v1=>((cond (!(!v1)) (Np p3) (some default))).bind fun v2=>cond ((!v1)||(!v2)) (some false) ((Fy p1 p2.Route).bind fun v3=>thenS (loop (Eb p2 p3 p4 v3) 0) (fun _=>some false) (fun r=>some r))
theorem Qd(p1 p2 p3 p4 r)(h:Gj p1 p2 p3 p4=some r):PCall prog 83 [(.agg (P0 p1)),(.agg (D1 p2)),(.agg (D1 p3)),(i64 p4)] (bo r):=by
 refine C2 (fk func83 ntmps83 m0 (by with_unfolding_all rfl)) (nl W) ?_
 unfold Gj at h
 refine B5 (s0:=⟨T [(0,(.d _)),(1,(.d _)),(2,(.d _)),(3,(.d _))],G []⟩) (E8 W W) ?_
 refine lr<|fun u1 _=>sm W<|sm W<|sn W W<|sv W<|A1<|A4<|B1<|sd W (A7 W (gq W) W W)<|bs h fun v1 hv1 h=>B0 W W A2 (Vz _ _ hv1) (.inl W) (B8 (.d (bo (!v1))) W W (sv W<|gf W (fun _=>(A7 W G_hit W W))<|bs h fun v2 hv2 h=> ?_))
 refine L9 _ (bo v2) (K3 W) (fun w2=>⟨_,[(.d (.agg (D1 p3)))],_,_,(by simp only [A3 w2];rfl),W,A2,Vz _ _<|C1 w2 hv2,(.inl W)⟩) ?_
 refine M5 _ (.d (bo (!v2))) W (K3 W) (fun w3=>(by simp only [A3 w3];rfl)) ?_
 refine sd W (N7 W W<|fun hc=>A3<|I7 hc)<|A1<|cc W h (fun c1 h=> ?_)<|fun c1 h=> ?_
 refine B1<|sv W<|A1<|B2 ?_
 cases h
 exact A6 (.inr W) (B6 (B3 W) C0) (.refl _)
 refine A9<|B1<|sd W (A7 W (gq W) W W)<|sq W<|sl W (gq W) W (bs h fun v3 hv3 h=>B0 W W A2 (JW _ _ _ hv3) (.inl W) (sv W<|A1<|A4<|B1<|sv W<|A1<|js h fun z1 hz1 h=>D7 (fun s=> ∃(y1:Unit) (g1:Unit),z1= .inl y1∧Sb ⟨T [],G []⟩ s) ?_ ?_))
 refine A8<|E2 (Eb p2 p3 p4 v3) (fun (x1:Int) (g2:Unit)=>⟨T [(3,(di p4)),(5,(.ptr (5,u1) 0)),(6,(.ptr (6,u1) 0)),(9,(dl Q7 v3)),(10,(di x1))],G [((5,u1),some<|.box 45 (S7 p2)),((6,u1),some<|.box 45 (S7 p3))]⟩) 0 () _ hz1 (E8 W W) ?_
 intro x1 g2 z2 hz2 ez2
 unfold Eb at hz2
 refine A4<|B1<|sv W<|sv W<|sd W (D6 W)<|sv W<|A1<|cc W hz2 (fun c2 hz2=> ?_)<|fun c2 hz2=> ?_
 refine A9<|A4<|A8<|A4<|E3 W<|sv W<|sv W<|bs hz2 fun _ hv4 hz2=>sd W (C4 W W hv4 W)<|sv W<|sd W (C8 W hv4 W)<|sv W<|sv W<|sv W<|gp W (K6 W) (fun _=>W) (gt W (vl W G_hit W)<|gp W (K6 W) (fun _=>W) (gt W (vl W G_hit W)<|gt W (fun w8=>(L6 (A3 w8) (A3 w8) W))<|gt W (fun _=>W)<|gt W (fun _=>W)<|bs hz2 fun _ hv5 hz2=>gt W (fun w11=>(C4 (A3 w11) (A3 w11) (C1 w11 hv5) W)) ?_))
 refine gt W (fun w12=>(by simp only [A3 w12];rfl)) ?_
 refine gt W (fun w13=>(C8 (A3 w13) (C1 w13 hv5) W))<|gt W (fun w14=>(L6 (A3 w14) (A3 w14) W))<|sa W W W<|sv W<|gp W (K6 W) (fun _=>W) (gt W (vl W (gq W) W)<|gt W (fun _=>W)<|gt W (fun _=>W)<|bs hz2 fun _ hv6 hz2=>gt W (fun w19=>(C4 (A3 w19) (A3 w19) (C1 w19 hv6) W)) ?_)
 refine gt W (fun w20=>(by simp only [A3 w20];rfl)) ?_
 refine gt W (fun w21=>(C8 (A3 w21) (C1 w21 hv6) W))<|gt W (fun w22=>(L6 (A3 w22) (A3 w22) W))<|sa W W W<|A1<|cc W hz2 (fun c3 hz2=> ?_)<|fun c3 hz2=> ?_
 refine B1<|sv W<|A1<|B2 ?_
 cases hz2
 obtain rfl:=ez2 _ rfl
 refine ⟨nofun,E7 ?_⟩
 rw [wC]at h
 cases h
 exact A6 (.inr W) (B6 (B3 W) C0) (.refl _)
 refine A9<|D9<|B9<|sv W<|sv W<|sv W<|A1<|E1 ?_
 cases hz2
 exact ⟨W,(),(E8 W W)⟩
 refine C7 W ?_
 cases hz2
 obtain rfl:=ez2 _ rfl
 refine ⟨nofun,C5 W<|T0 ?_⟩
 exact ⟨_,(),W,(E8 W W)⟩
 rintro _ ⟨y1,g1,rfl,q1⟩
 rw [wB]at h
 refine B5 q1<|B1<|sv W<|A1<|B2 ?_
 cases h
 exact A6 (.inr W) (B6 (B3 W) C0) (.refl _)
def Gk (p1:Zone)(p2:Int)(x1:Int):Option (Stp Int (Sum Unit (Part×Bool))):=
  cond (decide (x1< (p1.Parts.length:Int))) ((C3 p1.Parts x1).bind fun v1=>cond (v1.Lane_==p2) ((C3 p1.Parts x1).bind fun v2=>some (.out (.inr (v2,true)))) (some (.go (D4 (x1+1))))) (some (.out (.inl ())))
def Xt [Lp](p1:Zone)(p2:Int):Option (Part×Bool):=
  thenS (loop (Gk p1 p2) 0) (fun _=>some ((Part.mk 0 0 0 0),false)) (fun r=>some r)
theorem OS(p1 p2 r)(h:Xt p1 p2=some r):PCall prog 103 [(.agg [(.list (List.map Bt p1.Parts)),(i64 p1.Signal_)]),(i64 p2)] (.tup [(.agg (Bt r.1)),(bo r.2)]):=by
 refine C2 (fk func103 ntmps103 m0 (by with_unfolding_all rfl)) (nl W) ?_
 unfold Xt at h
 refine B5 (s0:=⟨T [(0,(.d _)),(1,(.d _))],G []⟩) (E8 W W) ?_
 refine lr<|fun u1 _=>sm W<|sm W<|sv W<|A1<|A4<|B1<|sv W<|A1<|js h fun z1 hz1 h=>D7 (fun s=> ∃(y1:Unit) (g1:Unit),z1= .inl y1∧Sb ⟨T [(4,(.ptr (4,u1) 0))],G [((4,u1),some<|.box 114 (zs 4))]⟩ s) ?_ ?_
 refine A8<|E2 (Gk p1 p2) (fun (x1:Int) (g2:Unit)=>⟨T [(1,(di p2)),(2,(.ptr (2,u1) 0)),(4,(.ptr (4,u1) 0)),(6,(di x1))],G [((2,u1),some<|.box 117 [(dl Bt p1.Parts),(di p1.Signal_)]),((4,u1),some<|.box 114 (zs 4))]⟩) 0 () _ hz1 (E8 W W) ?_
 intro x1 g2 z2 hz2 ez2
 unfold Gk at hz2
 refine A4<|B1<|sv W<|sq W<|sl W G_hit W<|sd W (D6 W)<|sv W<|A1<|cc W hz2 (fun c1 hz2=> ?_)<|fun c1 hz2=> ?_
 refine A9<|A4<|A8<|B1<|sq W<|sl W G_hit W<|sv W<|bs hz2 fun _ hv1 hz2=>sd W (C4 W W hv1 W)<|sv W<|sd W (C8 W hv1 W)<|sv W<|sv W<|A1<|cc W hz2 (fun c2 hz2=> ?_)<|fun c2 hz2=> ?_
 refine B1<|sq W<|sl W G_hit W<|sv W<|bs hz2 fun v2 hv2 hz2=>sd W (C4 W W hv2 W)<|sd W (D0 W hv2 W W)<|P5 W (gq W) (CT v2) W (sv W<|A1<|B2 ?_)
 cases hz2
 obtain rfl:=ez2 _ rfl
 refine ⟨nofun,E7 ?_⟩
 rw [wC]at h
 cases h
 exact A6 (.inr W) (Jc (G8 W G_hit (nl W) W) (B3 W) C0 C0) (.refl _)
 refine A9<|D9<|B9<|sv W<|sv W<|sv W<|A1<|E1 ?_
 cases hz2
 exact ⟨W,(),(E8 W W)⟩
 refine C7 W ?_
 cases hz2
 obtain rfl:=ez2 _ rfl
 refine ⟨nofun,C5 W<|T0 ?_⟩
 exact ⟨_,(),W,(E8 W W)⟩
 rintro _ ⟨y1,g1,rfl,q1⟩
 rw [wB]at h
 refine B5 q1<|B1<|sv W<|P5 W G_hit (zs 4) W (sv W<|A1<|B2 ?_)
 cases h
 exact A6 (.inr W) (Jc (G8 W G_hit (nl W) W) (B3 W) C0 C0) (.refl _)
def Ky [Lp](p1:Map)(p2:(List Int))(p3:Int)(x1:Int):Option (Stp Int (Sum Unit Int)):=
  cond (decide (x1< (p2.length:Int))) ((C3 p1.Zones p3).bind fun v2=>(C3 p2 x1).bind fun v3=>(Xt v2 v3).bind fun v4=>cond v4.2 (some (.out (.inr x1))) (some (.go (D4 (x1+1))))) (some (.out (.inl ())))
def Kz [Lp](p1:Map)(p2:(List Int))(p3:Int):Option Int:=
  (Ab p1 p2).bind fun v1=>cond (((v1 !=0)||(decide (p3<0)))||(decide (p3≥(p1.Zones.length:Int)))) (some (-1)) (thenS (loop (Ky p1 p2 p3) 0) (fun _=>some (-1)) (fun r=>some r))
theorem Uk(p1 p2 p3 r)(h:Kz p1 p2 p3=some r):PCall prog 44 [(.agg (P0 p1)),(.list (List.map A5 p2)),(i64 p3)] (i64 r):=by
 refine C2 (fk func44 ntmps44 m0 (by with_unfolding_all rfl)) (nl W) ?_
 unfold Kz at h
 refine B5 (s0:=⟨T [(0,(.d _)),(1,(.d _)),(2,(.d _))],G []⟩) (E8 W W) ?_
 refine lr<|fun u1 _=>sm W<|sv W<|A1<|A4<|B1<|sd W (A7 W G_hit W W)<|sv W<|bs h fun _ hv1 h=>B0 W W A2 (Gu _ _ _ hv1) (.inl W) (sv W<|sv W<|gf W (fun _=>W)<|gf W (vb W W W)<|sd W (N7 W W<|fun hc=>A3<|I7 hc)<|sv W<|gf W (fun _=>W)<|gp W (K3 W) (fun _=>W) (gf W (vl W G_hit W)<|gf W (fun w6=>(D6<|A3 w6))<|gf W (fun w7=>(L6 (A3 w7) (A3 w7) W))<|sd W (N7 W W<|fun hc=>A3<|I7 hc)<|A1<|cc W h (fun c1 h=> ?_)<|fun c1 h=> ?_))
 refine B1<|sv W<|A1<|B2 ?_
 cases h
 exact A6 (.inr W) (B6 (B3 W) C0) (.refl _)
 refine A9<|A4<|B1<|sv W<|A1<|js h fun z1 hz1 h=>D7 (fun s=> ∃(y1:Unit) (g1:Unit),z1= .inl y1∧Sb ⟨T [],G []⟩ s) ?_ ?_
 refine A8<|E2 (Ky p1 p2 p3) (fun (x1:Int) (g2:Unit)=>⟨T [(1,(dl A5 p2)),(2,(di p3)),(3,(.ptr (3,u1) 0)),(7,(di x1))],G [((3,u1),some<|.box 33 (K4 p1))]⟩) 0 () _ hz1 (E8 W W) ?_
 intro x1 g2 z2 hz2 ez2
 unfold Ky at hz2
 refine A4<|B1<|sv W<|sv W<|sd W (D6 W)<|sv W<|A1<|cc W hz2 (fun c2 hz2=> ?_)<|fun c2 hz2=> ?_
 refine A9<|A4<|A8<|A4<|E3 W<|sq W<|sl W G_hit W<|sv W<|bs hz2 fun _ hv2 hz2=>sd W (C4 W W hv2 W)<|sd W (D0 W hv2 W W)<|sv W<|sv W<|bs hz2 fun _ hv3 hz2=>sd W (C4 W W hv3 W)<|sd W (C8 W hv3 W)<|bs hz2 fun v4 hv4 hz2=>B0 W W A2 (OS _ _ _ hv4) (.inl W) (sv W<|sv W<|sv W<|sm W<|P5 W G_hit (CT v4.1) W (sv W<|A1<|B1<|sv W<|A1<|cc W hz2 (fun c3 hz2=> ?_)<|fun c3 hz2=> ?_))
 refine B1<|sv W<|sv W<|A1<|B2 ?_
 cases hz2
 obtain rfl:=ez2 _ rfl
 refine ⟨nofun,E7 ?_⟩
 rw [wC]at h
 cases h
 exact A6 (.inr W) (B6 (B3 W) C0) (.refl _)
 refine A9<|D9<|B9<|sv W<|sv W<|sv W<|A1<|E1 ?_
 cases hz2
 exact ⟨W,(),(E8 W W)⟩
 refine C7 W ?_
 cases hz2
 obtain rfl:=ez2 _ rfl
 refine ⟨nofun,C5 W<|T0 ?_⟩
 exact ⟨_,(),W,(E8 W W)⟩
 rintro _ ⟨y1,g1,rfl,q1⟩
 rw [wB]at h
 refine B5 q1<|B1<|sv W<|A1<|B2 ?_
 cases h
 exact A6 (.inr W) (B6 (B3 W) C0) (.refl _)
def Qe [Lp](p1:Map)(p2:Int):Option Bool:=
  ((cond ((decide (p2≥0))&& (decide (p2< (p1.Lanes.length:Int)))) (Kw p1) (some default))).bind fun v1=>some (((decide (p2≥0))&& (decide (p2< (p1.Lanes.length:Int))))&& (v1==0))
theorem DC(p1 p2 r)(h:Qe p1 p2=some r):PCall prog 98 [(.agg (P0 p1)),(i64 p2)] (bo r):=by
 refine C2 (fk func98 ntmps98 m0 (by with_unfolding_all rfl)) (nl W) ?_
 unfold Qe at h
 refine B5 (s0:=⟨T [(0,(.d _)),(1,(.d _))],G []⟩) (E8 W W) ?_
 refine B1<|sm W<|sv W<|A1<|B1<|sv W<|sv W<|sv W<|gt W (fun _=>W)<|gp W (K6 W) (fun _=>W) (gt W (vl W G_hit W)<|gt W (fun w4=>(D6<|A3 w4))<|gt W (fun w5=>(L6 (A3 w5) (A3 w5) W))<|sa W W W<|sv W<|gt W (fun _=>(A7 W G_hit W W))<|bs h fun v1 hv1 h=> ?_)
 refine L9 _ (i64 v1) (K6 W) (fun w7=>⟨_,[(.d (.agg (P0 p1)))],_,_,(by simp only [A3 w7];rfl),W,A2,Uh _ _<|C1 w7 hv1,(.inl W)⟩) ?_
 refine gt W (vb W W W)<|sa W W W<|sv W<|A1<|B2 ?_
 cases h
 exact A6 (.inr W) (B6 (B3 W) C0) (.refl _)
def An [Lp](p1:Signal)(p2:Int)(x2:(Int×Int)):Option (Stp (Int×Int) (Sum Unit Bool)):=
  cond (decide (x2.2< (p1.Phases.length:Int))) ((C3 p1.Phases x2.2).bind fun v5=>cond (decide (x2.1<v5.Ticks)) ((C3 p1.Phases x2.2).bind fun v6=>(Qc v6.Green p2).bind fun v7=>some (.out (.inr v7))) ((C3 p1.Phases x2.2).bind fun v8=>some (.go ((D4 (x2.1 - v8.Ticks)),(D4 (x2.2+1)))))) (some (.out (.inl ())))
def Cj (p1:Signal)(x1:(Int×Int)):Option (Stp (Int×Int) Int):=
  cond (decide (x1.2< (p1.Phases.length:Int))) ((C3 p1.Phases x1.2).bind fun v1=>some (.go ((D4 (x1.1+v1.Ticks)),(D4 (x1.2+1))))) (some (.out x1.1))
def Ro [Lp](p1:Signal)(p2:Int)(p3:Int):Option Bool:=
  (loop (Cj p1) (0,0)).bind fun y1=>(Re p1.Offset y1).bind fun v2=>(Re p3 y1).bind fun v3=>(Re (D4 (v2+v3)) y1).bind fun v4=>thenS (loop (An p1 p2) (v4,0)) (fun _=>some false) (fun r=>some r)
theorem MN(p1 p2 p3 r)(h:Ro p1 p2 p3=some r):PCall prog 187 [(.agg [(i64 p1.Offset),(.list (List.map Bm p1.Phases))]),(i64 p2),(i64 p3)] (bo r):=by
 refine C2 (fk func187 ntmps187 m0 (by with_unfolding_all rfl)) (nl W) ?_
 unfold Ro at h
 refine B5 (s0:=⟨T [(0,(.d _)),(1,(.d _)),(2,(.d _))],G []⟩) (E8 W W) ?_
 refine lr<|fun u1 _=>sm W<|sv W<|A1<|B1<|sv W<|A1<|A4<|B1<|sv W<|A1<|bs h fun y1 hy1 h=>D7 (fun s=> ∃g1:Unit,Sb ⟨T [(1,(di p2)),(2,(di p3)),(3,(.ptr (3,u1) 0)),(7,(di y1))],G [((3,u1),some<|.box 120 [(di p1.Offset),(dl Bm p1.Phases)])]⟩ s) ?_ ?_
 refine A8<|E2 (Cj p1) (fun (x1:(Int×Int)) (g2:Unit)=>⟨T [(1,(di p2)),(2,(di p3)),(3,(.ptr (3,u1) 0)),(7,(di x1.1)),(8,(di x1.2))],G [((3,u1),some<|.box 120 [(di p1.Offset),(dl Bm p1.Phases)])]⟩) (0,0) () _ hy1 (E8 W W) ?_
 intro x1 g2 z1 hz1 ez1
 unfold Cj at hz1
 refine A4<|B1<|sv W<|sq W<|sl W G_hit W<|sd W (D6 W)<|sv W<|A1<|cc W hz1 (fun c1 hz1=> ?_)<|fun c1 hz1=> ?_
 refine A9<|A4<|A8<|B9<|sv W<|sq W<|sl W G_hit W<|sv W<|bs hz1 fun _ hv1 hz1=>sd W (C4 W W hv1 W)<|sv W<|sd W (C8 W hv1 W)<|sv W<|sv W<|A1<|D9<|B9<|sv W<|sv W<|sv W<|A1<|E1 ?_
 cases hz1
 exact ⟨W,(),(E8 W W)⟩
 refine C7 W ?_
 cases hz1
 obtain rfl:=ez1 _ rfl
 refine ⟨nofun,C5 W<|T0 ?_⟩
 exact ⟨(),(E8 W W)⟩
 rintro _ ⟨g1,q1⟩
 refine B5 q1<|A4<|E3 W<|sq W<|sl W G_hit W<|sv W<|bs h fun _ hv2 h=>sd W (Vg W W hv2)<|sv W<|sv W<|bs h fun _ hv3 h=>sd W (Vg W W hv3)<|sv W<|sv W<|bs h fun v4 hv4 h=>sd W (Vg W W hv4)<|sv W<|A1<|A4<|B1<|sv W<|A1<|js h fun z2 hz2 h=>D7 (fun s=> ∃(y2:Unit) (g3:Unit),z2= .inl y2∧Sb ⟨T [],G []⟩ s) ?_ ?_
 refine A8<|E2 (An p1 p2) (fun (x2:(Int×Int)) (g4:Unit)=>⟨T [(1,(di p2)),(3,(.ptr (3,u1) 0)),(9,(di x2.1)),(10,(di x2.2))],G [((3,u1),some<|.box 120 [(di p1.Offset),(dl Bm p1.Phases)])]⟩) (v4,0) () _ hz2 (E8 W W) ?_
 intro x2 g4 z3 hz3 ez3
 unfold An at hz3
 refine A4<|B1<|sv W<|sq W<|sl W G_hit W<|sd W (D6 W)<|sv W<|A1<|cc W hz3 (fun c2 hz3=> ?_)<|fun c2 hz3=> ?_
 refine A9<|A4<|A8<|A4<|B1<|sv W<|sq W<|sl W G_hit W<|sv W<|bs hz3 fun _ hv5 hz3=>sd W (C4 W W hv5 W)<|sv W<|sd W (C8 W hv5 W)<|sv W<|A1<|cc W hz3 (fun c3 hz3=> ?_)<|fun c3 hz3=> ?_
 refine B1<|sq W<|sl W G_hit W<|sv W<|bs hz3 fun _ hv6 hz3=>sd W (C4 W W hv6 W)<|sv W<|sd W (C8 W hv6 W)<|sv W<|bs hz3 fun _ hv7 hz3=>B0 W W A2 (Xs _ _ _ hv7) (.inl W) (sv W<|A1<|B2 ?_)
 cases hz3
 obtain rfl:=ez3 _ rfl
 refine ⟨nofun,E7 ?_⟩
 rw [wC]at h
 cases h
 exact A6 (.inr W) (B6 (B3 W) C0) (.refl _)
 refine A9<|B9<|sv W<|sq W<|sl W G_hit W<|sv W<|bs hz3 fun _ hv8 hz3=>sd W (C4 W W hv8 W)<|sv W<|sd W (C8 W hv8 W)<|sv W<|sv W<|A1<|D9<|B9<|sv W<|sv W<|sv W<|A1<|E1 ?_
 cases hz3
 exact ⟨W,(),(E8 W W)⟩
 refine C7 W ?_
 cases hz3
 obtain rfl:=ez3 _ rfl
 refine ⟨nofun,C5 W<|T0 ?_⟩
 exact ⟨_,(),W,(E8 W W)⟩
 rintro _ ⟨y2,g3,rfl,q2⟩
 rw [wB]at h
 refine B5 q2<|B1<|sv W<|A1<|B2 ?_
 cases h
 exact A6 (.inr W) (B6 (B3 W) C0) (.refl _)
def Rp [Lp](p1:Map)(p2:Int)(p3:Int)(p4:Int):Option Bool:=
  (Qe p1 p3).bind fun v1=>((cond (((v1&& (decide (p2≥0)))&& (decide (p2< (p1.Signals.length:Int))))&& (decide (p4≥0))) (C3 p1.Signals p2) (some default))).bind fun v2=>((cond (((v1&& (decide (p2≥0)))&& (decide (p2< (p1.Signals.length:Int))))&& (decide (p4≥0))) (Ro v2 p3 p4) (some default))).bind fun v3=>some ((((v1&& (decide (p2≥0)))&& (decide (p2< (p1.Signals.length:Int))))&& (decide (p4≥0)))&&v3)
theorem MO(p1 p2 p3 p4 r)(h:Rp p1 p2 p3 p4=some r):PCall prog 177 [(.agg (P0 p1)),(i64 p2),(i64 p3),(i64 p4)] (bo r):=by
 refine C2 (fk func177 ntmps177 m0 (by with_unfolding_all rfl)) (nl W) ?_
 unfold Rp at h
 refine B5 (s0:=⟨T [(0,(.d _)),(1,(.d _)),(2,(.d _)),(3,(.d _))],G []⟩) (E8 W W) ?_
 refine B1<|sm W<|sv W<|A1<|B1<|sd W (A7 W G_hit W W)<|sv W<|bs h fun _ hv1 h=>B0 W W A2 (DC _ _ _ hv1) (.inl W) (sv W<|gt W (fun _=>W)<|gt W (vb W W W)<|sa W W W<|sv W<|gt W (fun _=>W)<|gp W (K6 W) (fun _=>W) (gt W (vl W G_hit W)<|gt W (fun w6=>(D6<|A3 w6))<|gt W (fun w7=>(L6 (A3 w7) (A3 w7) W))<|sa W W W<|sv W<|gt W (fun _=>W)<|gt W (vb W W W)<|sa W W W<|sv W<|gp W (K6 W) (fun _=>W) (gt W (vl W G_hit W)<|gt W (fun _=>W)<|bs h fun v2 hv2 h=>gt W (fun w13=>(C4 (A3 w13) (A3 w13) (C1 w13 hv2) W))<|gt W (fun w14=>(D0 (A3 w14) (C1 w14 hv2) W W))<|gt W (fun _=>W)<|gt W (fun _=>W)<|bs h fun v3 hv3 h=> ?_)))
 refine L9 _ (bo v3) (K6 W) (fun w17=>⟨_,[(.d (.agg [(i64 v2.Offset),(.list (List.map Bm v2.Phases))])),(di p3),(di p4)],_,_,(by simp only [A3 w17];rfl),W,A2,MN _ _ _ _<|C1 w17 hv3,(.inl W)⟩) ?_
 refine sa W W W<|sv W<|A1<|B2 ?_
 cases h
 exact A6 (.inr W) (B6 (B3 W) C0) (.refl _)
def Gl (p2:Agent)(v1:Int)(v2:Zone)(x1:Int):Option (Stp Int (Sum Unit Int)):=
  cond (decide (x1< (v2.Parts.length:Int))) ((C3 v2.Parts x1).bind fun v5=>(C3 p2.Route v1).bind fun v6=>cond (v5.Lane_==v6) ((C3 v2.Parts x1).bind fun v7=>some (.out (.inr v7.Rank))) (some (.go (D4 (x1+1))))) (some (.out (.inl ())))
def Ul [Lp](p1:Map)(p2:Agent)(p3:Int)(p4:Int):Option Int:=
  (Kz p1 p2.Route p3).bind fun v1=>cond (decide (v1<0)) (some 0) ((C3 p1.Zones p3).bind fun v2=>cond (decide (v2.Signal_>0)) ((C3 p2.Route v1).bind fun v3=>(Rp p1 (D4 (v2.Signal_ - 1)) v3 p4).bind fun v4=>cond v4 (some 2) (some 0)) (thenS (loop (Gl p2 v1 v2) 0) (fun _=>some 0) (fun r=>some r)))
theorem OT(p1 p2 p3 p4 r)(h:Ul p1 p2 p3 p4=some r):PCall prog 84 [(.agg (P0 p1)),(.agg (D1 p2)),(i64 p3),(i64 p4)] (i64 r):=by
 refine C2 (fk func84 ntmps84 m0 (by with_unfolding_all rfl)) (nl W) ?_
 unfold Ul at h
 refine B5 (s0:=⟨T [(0,(.d _)),(1,(.d _)),(2,(.d _)),(3,(.d _))],G []⟩) (E8 W W) ?_
 refine lr<|fun u1 _=>sm W<|sm W<|sv W<|A1<|B1<|sd W (A7 W (gq W) W W)<|sq W<|sl W G_hit W<|sv W<|bs h fun v1 hv1 h=>B0 W W A2 (Uk _ _ _ _ hv1) (.inl W) (sv W<|A1<|A4<|B1<|sv W<|sv W<|A1<|cc W h (fun c1 h=> ?_)<|fun c1 h=> ?_)
 refine B1<|sv W<|A1<|B2 ?_
 cases h
 exact A6 (.inr W) (B6 (B3 W) C0) (.refl _)
 refine A9<|lr<|fun u5 _=>sq W<|sl W (gq W) W (sv W<|bs h fun v2 hv2 h=>sd W (C4 W W hv2 W)<|sd W (D0 W hv2 W W)<|sm W<|P5 W G_hit [(dl Bt v2.Parts),(di v2.Signal_)] W (A1<|A4<|B1<|sq W<|sl W G_hit W<|sv W<|A1<|cc W h (fun c2 h=> ?_)<|fun c2 h=> ?_))
 refine A4<|A4<|E3 W<|sd W (A7 W (gq W) W W)<|sq W<|sl W G_hit W<|sv W<|sq W<|sl W (gq W) W (sv W<|bs h fun _ hv3 h=>sd W (C4 W W hv3 W)<|sd W (C8 W hv3 W)<|sv W<|bs h fun _ hv4 h=>B0 W W A2 (MO _ _ _ _ _ hv4) (.inl W) (A1<|cc W h (fun c3 h=> ?_)<|fun c3 h=> ?_))
 refine B1<|sv W<|A1<|B2 ?_
 cases h
 exact A6 (.inr W) (B6 (B3 W) C0) (.refl _)
 refine A9<|B1<|sv W<|A1<|B2 ?_
 cases h
 exact A6 (.inr W) (B6 (B3 W) C0) (.refl _)
 refine A9<|A4<|B1<|sv W<|A1<|js h fun z1 hz1 h=>D7 (fun s=> ∃(y1:Unit) (g1:Unit),z1= .inl y1∧Sb ⟨T [],G []⟩ s) ?_ ?_
 refine A8<|E2 (Gl p2 v1 v2) (fun (x1:Int) (g2:Unit)=>⟨T [(5,(.ptr (5,u1) 0)),(9,(di v1)),(10,(.ptr (10,u5) 0)),(11,(di x1))],G [((5,u1),some<|.box 45 (S7 p2)),((10,u5),some<|.box 117 [(dl Bt v2.Parts),(di v2.Signal_)])]⟩) 0 () _ hz1 (E8 W W) ?_
 intro x1 g2 z2 hz2 ez2
 unfold Gl at hz2
 refine A4<|B1<|sv W<|sq W<|sl W (gq W) W (sd W (D6 W)<|sv W<|A1<|cc W hz2 (fun c4 hz2=> ?_)<|fun c4 hz2=> ?_)
 refine A9<|A4<|A8<|A4<|E3 W<|sq W<|sl W (gq W) W (sv W<|bs hz2 fun _ hv5 hz2=>sd W (C4 W W hv5 W)<|sv W<|sd W (C8 W hv5 W)<|sq W<|sl W G_hit W<|sv W<|bs hz2 fun _ hv6 hz2=>sd W (C4 W W hv6 W)<|sd W (C8 W hv6 W)<|sv W<|A1<|cc W hz2 (fun c5 hz2=> ?_)<|fun c5 hz2=> ?_)
 refine B1<|sq W<|sl W (gq W) W (sv W<|bs hz2 fun _ hv7 hz2=>sd W (C4 W W hv7 W)<|sv W<|sd W (C8 W hv7 W)<|sv W<|A1<|B2 ?_)
 cases hz2
 obtain rfl:=ez2 _ rfl
 refine ⟨nofun,E7 ?_⟩
 rw [wC]at h
 cases h
 exact A6 (.inr W) (B6 (B3 W) C0) (.refl _)
 refine A9<|D9<|B9<|sv W<|sv W<|sv W<|A1<|E1 ?_
 cases hz2
 exact ⟨W,(),(E8 W W)⟩
 refine C7 W ?_
 cases hz2
 obtain rfl:=ez2 _ rfl
 refine ⟨nofun,C5 W<|T0 ?_⟩
 exact ⟨_,(),W,(E8 W W)⟩
 rintro _ ⟨y1,g1,rfl,q1⟩
 rw [wB]at h
 refine B5 q1<|B1<|sv W<|A1<|B2 ?_
 cases h
 exact A6 (.inr W) (B6 (B3 W) C0) (.refl _)
def Qf (p1:State)(x1:(Int×State)):Option (Stp (Int×State) State):=
  cond (decide (x1.1< (p1.Agents.length:Int))) ((C3 p1.Agents x1.1).bind fun v2=>(Ah ([]:List Int) v2.Route).bind fun v3=>(Ah x1.2.Agents [(Agent.mk v3 v2.S v2.V v2.Len v2.Begin v2.Obey v2.Gone)]).bind fun v4=>some (.go ((D4 (x1.1+1)),(State.mk x1.2.Tick v4 x1.2.In)))) (some (.out x1.2))
def Qv [Lp](p1:State):Option State:=
  (Ah ([]:List Stay) p1.In).bind fun v1=>(loop (Qf p1) (0,(State.mk p1.Tick [] v1))).bind fun y1=>some y1
theorem HP(p1 r)(h:Qv p1=some r):MCall prog 23 [(.d (.agg (X7 p1)))] [] (X2 [(di r.Tick),(oS r.Agents (800000,0)),(oS r.In (800001,0))]) [] [oB 45 7 D1 r.Agents,oB 127 4 J5 r.In]:=by
 refine SB (fk func23 ntmps23 (fun r=>if r==7 then [1003]else []) (by with_unfolding_all rfl)) (by generalize r.Agents=x1;generalize r.In=x2;cases x1<;>cases x2<;>rfl) (nl W) ?_
 unfold Qv at h
 refine B5 (s0:=⟨T [(0,(.d _))],G []⟩) (E8 W W) ?_
 refine lr<|fun u1 _=>sm W<|sm W<|A1<|A4<|Kf fun u2 hu2=>J4 (.ptr _ _) W W (J4 (.d _) W (N5 W (gq W) W) (J4 (.ptr _ _) W W (J4 (.d _) W (N5 W (gq W) W) (bs h fun v1 hv1 h=>cS J5 p1.In _ (K5<|fun _=>W) W hv1 (Xi hu2) ?_))))
 refine J4 (X2 [(di p1.Tick),(.d .nilS),(oS v1 (10,u2))]) W (by generalize v1=x1;cases x1<;>rfl) ?_
 refine CQ (.ptr _ _) (.box _ _) W W (Ij _ _ _ _ _ (V1 _) W W G_hit (nl W) [(di p1.Tick),(.d .nilS),(oS v1 (10,u2))] W (Vh<|rV (fun q=>⟨⟨by first|rfl|((generalize v1=l0;cases l0)<;>rfl),q⟩,⟨by first|rfl|((generalize v1=l0;cases l0)<;>rfl),q⟩⟩) ?_))
 refine A4<|B1<|sv W<|A1<|bs h fun y1 hy1 h=>D7 (fun s=> ∃g1:(Nat×Nat),Sb ⟨T [(2,(.ptr (2,u1) 0)),(3,(.ptr (3,u2) 0))],G [((2,u1),some<|.box 25 [(di 0),(.d .nilS),(.d .nilS)]),((3,u2),some<|.box 25 [(di y1.Tick),(oS y1.Agents (32,g1.1)),(oS y1.In (10,g1.2))]),((32,g1.1),oB 45 7 D1 y1.Agents),((10,g1.2),oB 127 4 J5 y1.In)]⟩ s) ?_ ?_
 refine A8<|E2 (Qf p1) (fun (x1:(Int×State)) (g2:(Nat×Nat))=>⟨T [(1,(.ptr (1,u1) 0)),(2,(.ptr (2,u1) 0)),(3,(.ptr (3,u2) 0)),(4,(di x1.1))],G [((1,u1),some<|.box 25 (I8 p1)),((2,u1),some<|.box 25 [(di 0),(.d .nilS),(.d .nilS)]),((3,u2),some<|.box 25 [(di x1.2.Tick),(oS x1.2.Agents (32,g2.1)),(oS x1.2.In (10,g2.2))]),((32,g2.1),oB 45 7 D1 x1.2.Agents),((10,g2.2),oB 127 4 J5 x1.2.In)]⟩) (0,(State.mk p1.Tick [] v1)) (0,u2) _ hy1 (D5 (W1 W)<|sg W<|sg W<|B4 G_hit (.of W)<|P3<|B7 (gq W) trivial) ?_
 intro x1 g2 z1 hz1 ez1
 unfold Qf at hz1
 refine A4<|B1<|sv W<|sq W<|sl W G_hit W<|sd W (D6 W)<|sv W<|A1<|cc W hz1 (fun c1 hz1=> ?_)<|fun c1 hz1=> ?_
 refine A9<|A4<|A8<|lr<|fun u5 _=>sq W<|sl W G_hit W<|sv W<|bs hz1 fun v2 hv2 hz1=>sd W (C4 W W hv2 W)<|sd W (D0 W hv2 W W)<|sm W<|P5 W G_hit (S7 v2) W (A1<|lr<|fun u6 hu6=>sq W<|sl W G_hit W<|bs hz1 fun v3 hv3 hz1=>PV A5 (26,u6) ([]:List Int) v2.Route _ (K5<|fun _=>W) W (Xi hu6) hv3 (Xi hu6) (sq W<|Ii _ _ _ _ _ (cR _ _) W W (gq W) (nl W) ((S7 v2).set 0 (oS v3 (26,u6))) W (A1<|rU [(26,u6)] [(1,(.ptr (1,u1) 0)),(2,(.ptr (2,u1) 0)),(3,(.ptr (3,u2) 0)),(4,(di x1.1)),(5,(.ptr (5,u5) 0)),(12,(di x1.1)),(13,(.ptr (1,u1) 1)),(14,(dl D1 p1.Agents)),(15,(di (p1.Agents.length:Int))),(16,(.d (bo<|decide (x1.1< (p1.Agents.length:Int))))),(19,(.ptr (1,u1) 1)),(20,(dl D1 p1.Agents)),(21,(di x1.1)),(22,(.d (.lp (List.map D1 p1.Agents) (x1.1).toNat 0))),(23,(.d (.agg (D1 v2)))),(24,(.ptr (5,u5) 0)),(25,(dl A5 v2.Route)),(26,(dl A5 v3)),(27,(.ptr (5,u5) 0))] [((5,u5),some<|.box 45 ((S7 v2).set 0 (dl A5 v3))),((1,u1),some<|.box 25 (I8 p1)),((2,u1),some<|.box 25 [(di 0),(.d .nilS),(.d .nilS)]),((3,u2),some<|.box 25 [(di x1.2.Tick),(oS x1.2.Agents (32,g2.1)),(oS x1.2.In (10,g2.2))]),((32,g2.1),oB 45 7 D1 x1.2.Agents),((10,g2.2),oB 127 4 J5 x1.2.In)] ⟨Ez W,Ez W,Ez W,Ez W,Ez W,Ez W,Ez W,Ez W,Ez W,Ez W,Ez W,Ez W,Ez W,Ez W,Ez W,Ez W,Ez W,(nL (S5<|UO (.head _)<|gq W) S4),Ez W,trivial⟩ (ZZ G_hit (Nc (Ko W) Xl) (.cons (nL (S5<|UO (.head _)<|gq W) S4) (.cons (Ez W) (.cons (Ez W) (.cons (Ez W) (.cons (Ez W) (.cons (Ez W) (.cons (Ez W) .nil))))))) (MB (gq W) (Nc (Ko W) Xl) (MB (gq W) (Nc (Ko W) Xl) (MB (gq W) (Nc (Ko W) Xl) (iO (gq W) (Nc (Ko W) Xl) (iO (gq W) (Nc (Ko W) Xl) trivial)))))) (Bh fun u7 _=>sq W<|B8 (oS x1.2.Agents (32,g2.1)) W (N5 W (gq W) W) (sd W (A7 W G_hit W W)<|B8 (dl D1 [(Agent.mk v3 v2.S v2.V v2.Len v2.Begin v2.Obey v2.Gone)]) W W (bs hz1 fun _ hv4 hz1=>O0 D1 (32,g2.1) x1.2.Agents (Agent.mk v3 v2.S v2.V v2.Len v2.Begin v2.Obey v2.Gone) [] _ (K5<|fun _=>W) W (gq W) hv4 (sq W<|P5 W (gq W) [(di x1.2.Tick),(.sl (32,u7)),(oS x1.2.In (10,g2.2))] W (A1<|D9<|B9<|sv W<|sv W<|sv W<|A1<|E1 ?_))))))))
 cases hz1
 exact ⟨W,(u7,g2.2),(D5 (W1 W)<|sg W<|sg W<|B4 G_hit (.box (cv<|.cons (.of (S3<|R8 hv4).symm) cw))<|M0 (gq W)<|B7 (gq W) trivial)⟩
 refine C7 W ?_
 cases hz1
 obtain rfl:=ez1 _ rfl
 refine ⟨nofun,C5 W<|T0 ?_⟩
 exact ⟨(g2.1,g2.2),(D5 (W1 W)<|sg W<|sg W<|B7 (gq W)<|B7 (gq W) trivial)⟩
 rintro _ ⟨g1,q1⟩
 refine B5 q1<|B1<|B8 (X2 [(di y1.Tick),(oS y1.Agents (32,g1.1)),(oS y1.In (10,g1.2))]) W (A7 W (gq W) W W) (Ii _ _ _ _ _ (V1 _) W W G_hit (nl W) [(di y1.Tick),(oS y1.Agents (32,g1.1)),(oS y1.In (10,g1.2))] W (A1<|B2 ?_))
 obtain rfl:=(lD h)
 exact iI (v1:=(X2 [(di y1.Tick),(oS y1.Agents (32,g1.1)),(oS y1.In (10,g1.2))])) (.inr W) (LY<|G8 W G_hit (Nat.le_of_ble_eq_true W) W) (.of W) [((32,g1.1),oB 45 7 D1 y1.Agents),((10,g1.2),oB 127 4 J5 y1.In)] (B7 (gq W)<|B7 (gq W) trivial) (ZU [(32,g1.1),(10,g1.2)] (by generalize y1.Agents=x1;generalize y1.In=x2;cases x1<;>cases x2<;>rfl) trivial ⟨(G_hit).trans oB_ren.symm,((gq W)).trans oB_ren.symm,trivial⟩ W (List.forall_mem_cons.2 ⟨fun i hi=>KL W hi,(List.forall_mem_cons.2 ⟨fun i hi=>KL W hi,(fun _ h=>nomatch h)⟩)⟩) (nI<|Ko W))
def Pe [Lp](p1:Map)(p2:Int):Option Int:=
  (Qe p1 p2).bind fun v1=>cond (!v1) (some 0) ((Lw p1 p2).bind fun v2=>some v2)
theorem JX(p1 p2 r)(h:Pe p1 p2=some r):PCall prog 126 [(.agg (P0 p1)),(i64 p2)] (i64 r):=by
 refine C2 (fk func126 ntmps126 m0 (by with_unfolding_all rfl)) (nl W) ?_
 unfold Pe at h
 refine B5 (s0:=⟨T [(0,(.d _)),(1,(.d _))],G []⟩) (E8 W W) ?_
 refine B1<|sm W<|sv W<|A1<|A4<|B1<|sd W (A7 W G_hit W W)<|sv W<|bs h fun v1 hv1 h=>B0 W W A2 (DC _ _ _ hv1) (.inl W) (B8 (.d (bo (!v1))) W W (A1<|cc W h (fun c1 h=> ?_)<|fun c1 h=> ?_))
 refine B1<|sv W<|A1<|B2 ?_
 cases h
 exact A6 (.inr W) (B6 (B3 W) C0) (.refl _)
 refine A9<|B1<|sd W (A7 W G_hit W W)<|sv W<|bs h fun _ hv2 h=>B0 W W A2 (Yo _ _ _ hv2) (.inl W) (sv W<|A1<|B2 ?_)
 cases h
 exact A6 (.inr W) (B6 (B3 W) C0) (.refl _)
def Jz [Lp](p1:Map)(p2:Agent)(v2:(List Int))(x1:((List Span)×Int)):Option (Stp ((List Span)×Int) (List Span)):=
  cond (decide (x1.2< (v2.length:Int))) ((C3 v2 x1.2).bind fun v3=>(C3 v2 x1.2).bind fun v4=>(C3 p2.Route x1.2).bind fun v5=>(Pe p1 v5).bind fun v6=>cond (decide ((Li true 0 (D4 ((D4 (p2.S - p2.Len)) - v3)))≤(Li false (D4 (p2.S - v4)) v6))) ((C3 p2.Route x1.2).bind fun v7=>(Ah x1.1 [(Span.mk v7 (Li true 0 (D4 ((D4 (p2.S - p2.Len)) - v3))) (Li false (D4 (p2.S - v4)) v6))]).bind fun v8=>some (.go (v8,(D4 (x1.2+1))))) (some (.go (x1.1,(D4 (x1.2+1)))))) (some (.out x1.1))
def Nq [Lp](p1:Map)(p2:Agent):Option (List Span):=
  (Np p2).bind fun v1=>cond (!v1) (some []) ((Fx p1 p2.Route).bind fun v2=>(loop (Jz p1 p2 v2) ([],0)).bind fun y1=>some y1)
theorem Wa(p1 p2 r)(h:Nq p1 p2=some r):PCall prog 63 [(.agg (P0 p1)),(.agg (D1 p2))] (.list (List.map N8 r)):=by
 refine C2 (fk func63 ntmps63 (fun r=>if r==10 then [1009]else []) (by with_unfolding_all rfl)) (nl W) ?_
 unfold Nq at h
 refine B5 (s0:=⟨T [(0,(.d _)),(1,(.d _))],G []⟩) (E8 W W) ?_
 refine lr<|fun u1 _=>sm W<|sm W<|sv W<|A1<|B1<|sv W<|A1<|A4<|B1<|sd W (A7 W G_hit W W)<|bs h fun v1 hv1 h=>B0 W W A2 (Vz _ _ hv1) (.inl W) (B8 (.d (bo (!v1))) W W (A1<|cc W h (fun c1 h=> ?_)<|fun c1 h=> ?_))
 refine B1<|sv W<|A1<|B2 ?_
 cases h
 exact A6 (.inr W) (B6 (B3 W) C0) DLe.nil
 refine A9<|B1<|sd W (A7 W (gq W) W W)<|sq W<|sl W G_hit W<|bs h fun v2 hv2 h=>B0 W W A2 (Sh _ _ _ hv2) (.inl W) (sv W<|A1<|A4<|B1<|sv W<|A1<|bs h fun y1 hy1 h=>D7 (fun s=> ∃g1:Nat,Sb ⟨T [(5,(oS y1 (62,g1)))],G [((62,g1),oB 93 3 N8 y1)]⟩ s) ?_ ?_)
 refine A8<|E2 (Jz p1 p2 v2) (fun (x1:((List Span)×Int)) (g2:Nat)=>⟨T [(2,(.ptr (2,u1) 0)),(3,(.ptr (3,u1) 0)),(5,(oS x1.1 (62,g2))),(6,(dl A5 v2)),(7,(di x1.2))],G [((2,u1),some<|.box 33 (K4 p1)),((3,u1),some<|.box 45 (S7 p2)),((62,g2),oB 93 3 N8 x1.1)]⟩) ([],0) 0 _ hy1 (D5 (W1 W)<|sg W<|B4 G_hit (.of W)<|P3 trivial) ?_
 intro x1 g2 z1 hz1 ez1
 unfold Jz at hz1
 refine A4<|B1<|sv W<|sv W<|sd W (D6 W)<|sv W<|A1<|cc W hz1 (fun c2 hz1=> ?_)<|fun c2 hz1=> ?_
 refine A9<|A4<|A8<|A4<|E3 W<|sq W<|sl W (gq W) W (sq W<|sl W (gq W) W (sv W<|sv W<|sv W<|bs hz1 fun v3 hv3 hz1=>sd W (C4 W W hv3 W)<|sd W (C8 W hv3 W)<|sv W<|sv W<|sq W<|sl W (gq W) W (sv W<|sv W<|bs hz1 fun v4 hv4 hz1=>sd W (C4 W W hv4 W)<|sd W (C8 W hv4 W)<|sv W<|sd W (A7 W G_hit W W)<|sq W<|sl W (gq W) W (sv W<|bs hz1 fun _ hv5 hz1=>sd W (C4 W W hv5 W)<|sd W (C8 W hv5 W)<|bs hz1 fun v6 hv6 hz1=>B0 W W A2 (JX _ _ _ hv6) (.inl W) (sv W<|sv W<|sv W<|A1<|B1<|sv W<|sv W<|sv W<|A1<|cc W hz1 (fun c3 hz1=> ?_)<|fun c3 hz1=> ?_)))))
 refine Bh fun u10 _=>B8 (oS x1.1 (62,g2)) W W (sq W<|sl W (gq W) W (sv W<|bs hz1 fun v7 hv7 hz1=>sd W (C4 W W hv7 W)<|sd W (C8 W hv7 W)<|sv W<|sv W<|sv W<|B8 (dl N8 [(Span.mk v7 (Li true 0<|D4 ((D4 (p2.S - p2.Len)) - v3))<|Li false (D4 (p2.S - v4)) v6)]) W W (bs hz1 fun _ hv8 hz1=>O0 N8 (62,g2) x1.1 (Span.mk v7 (Li true 0<|D4 ((D4 (p2.S - p2.Len)) - v3))<|Li false (D4 (p2.S - v4)) v6) [] _ (K5<|fun _=>W) W (gq W) hv8 (ss W<|A1<|D9<|B9<|sv W<|sv W<|sv W<|A1<|E1 ?_))))
 cases hz1
 exact ⟨W,u10,(D5 ⟨.of W, .of W,(.of (S3<|R8 hv8).symm), .of W, .of W,trivial⟩<|sg W<|sg W<|M0 G_hit trivial)⟩
 refine A9<|D9<|B9<|sv W<|sv W<|sv W<|A1<|E1 ?_
 cases hz1
 exact ⟨W,g2,(D5 (W1 W)<|B4 G_hit (.of W)<|sg W<|B7 (gq W) trivial)⟩
 refine C7 W ?_
 cases hz1
 obtain rfl:=ez1 _ rfl
 refine ⟨nofun,C5 W<|T0 ?_⟩
 exact ⟨g2,(D5 ⟨.of W,trivial⟩<|B7 (gq W) trivial)⟩
 rintro _ ⟨g1,q1⟩
 refine B5 q1<|B1<|B8 (oS y1 (62,g1)) W W (B8 (oS y1 (62,g1)) W W (A1<|B2 ?_))
 cases h
 exact A6 (.inr W) (B6 (B3 W)<|S5 G_hit) S4
def Co (v1:(List Span))(v2:(List Span))(x1:Int)(x2:Int):Option (Stp Int (Sum Unit Bool)):=
  cond (decide (x2< (v2.length:Int))) ((C3 v1 x1).bind fun v3=>(C3 v2 x2).bind fun v4=>((cond (v3.Lane_==v4.Lane_) (C3 v1 x1) (some default))).bind fun v5=>((cond (v3.Lane_==v4.Lane_) (C3 v2 x2) (some default))).bind fun v6=>((cond ((v3.Lane_==v4.Lane_)&& (decide (v5.From≤v6.To))) (C3 v2 x2) (some default))).bind fun v7=>((cond ((v3.Lane_==v4.Lane_)&& (decide (v5.From≤v6.To))) (C3 v1 x1) (some default))).bind fun v8=>cond (((v3.Lane_==v4.Lane_)&& (decide (v5.From≤v6.To)))&& (decide (v7.From≤v8.To))) (some (.out (.inr true))) (some (.go (D4 (x2+1))))) (some (.out (.inl ())))
def Cp [Lp](v1:(List Span))(v2:(List Span))(x1:Int):Option (Stp Int (Sum Unit Bool)):=
  cond (decide (x1< (v1.length:Int))) (thenS (loop (Co v1 v2 x1) 0) (fun _=>some (.go (D4 (x1+1)))) (fun r=>some (.out (.inr r)))) (some (.out (.inl ())))
def La [Lp](p1:Map)(p2:Agent)(p3:Agent):Option Bool:=
  (Nq p1 p2).bind fun v1=>(Nq p1 p3).bind fun v2=>thenS (loop (Cp v1 v2) 0) (fun _=>some false) (fun r=>some r)
theorem GD(p1 p2 p3 r)(h:La p1 p2 p3=some r):PCall prog 85 [(.agg (P0 p1)),(.agg (D1 p2)),(.agg (D1 p3))] (bo r):=by
 refine C2 (fk func85 ntmps85 m0 (by with_unfolding_all rfl)) (nl W) ?_
 unfold La at h
 refine B5 (s0:=⟨T [(0,(.d _)),(1,(.d _)),(2,(.d _))],G []⟩) (E8 W W) ?_
 refine B1<|sm W<|sn W W<|sm W<|sv W<|A1<|A4<|E3 W<|sd W (A7 W (gq W) W W)<|sd W (A7 W (gq W) W W)<|bs h fun v1 hv1 h=>B0 W W A2 (Wa _ _ _ hv1) (.inl W) (sd W (A7 W (gq W) W W)<|sd W (A7 W G_hit W W)<|bs h fun v2 hv2 h=>B0 W W A2 (Wa _ _ _ hv2) (.inl W) (sv W<|sv W<|A1<|A4<|B1<|sv W<|A1<|js h fun z1 hz1 h=>D7 (fun s=> ∃(y1:Unit) (g1:Unit),z1= .inl y1∧Sb ⟨T [],G []⟩ s) ?_ ?_))
 refine A8<|E2 (Cp v1 v2) (fun (x1:Int) (g2:Unit)=>⟨T [(7,(dl N8 v1)),(8,(dl N8 v2)),(9,(di x1))],G []⟩) 0 () _ hz1 (E8 W W) ?_
 intro x1 g2 z2 hz2 ez2
 unfold Cp at hz2
 refine A4<|B1<|sv W<|sv W<|sd W (D6 W)<|sv W<|A1<|cc W hz2 (fun c1 hz2=> ?_)<|fun c1 hz2=> ?_
 refine A9<|A4<|A8<|B1<|sv W<|A1<|js hz2 fun z3 hz3 hz2=>D7 (fun s=> ∃(y2:Unit) (g3:Unit),z3= .inl y2∧Sb ⟨T [(7,(dl N8 v1)),(8,(dl N8 v2)),(9,(di x1))],G []⟩ s) ?_ ?_
 refine A8<|E2 (Co v1 v2 x1) (fun (x2:Int) (g4:Unit)=>⟨T [(7,(dl N8 v1)),(8,(dl N8 v2)),(9,(di x1)),(10,(di x2))],G []⟩) 0 () _ hz3 (E8 W W) ?_
 intro x2 g4 z4 hz4 ez4
 unfold Co at hz4
 refine A4<|B1<|sv W<|sv W<|sd W (D6 W)<|sv W<|A1<|cc W hz4 (fun c2 hz4=> ?_)<|fun c2 hz4=> ?_
 refine A9<|A4<|A8<|A4<|E3 W<|sv W<|sv W<|bs hz4 fun _ hv3 hz4=>sd W (C4 W W hv3 W)<|sv W<|sd W (C8 W hv3 W)<|sv W<|sv W<|bs hz4 fun _ hv4 hz4=>sd W (C4 W W hv4 W)<|sv W<|sd W (C8 W hv4 W)<|sv W<|sv W<|gt W (fun _=>W)<|gt W (fun _=>W)<|bs hz4 fun _ hv5 hz4=>gt W (fun w3=>(C4 (A3 w3) (A3 w3) (C1 w3 hv5) W)) ?_
 refine gt W (fun w4=>(by simp only [A3 w4];rfl)) ?_
 refine gt W (fun w5=>(C8 (A3 w5) (C1 w5 hv5) W))<|gt W (fun _=>W)<|gt W (fun _=>W)<|bs hz4 fun _ hv6 hz4=>gt W (fun w8=>(C4 (A3 w8) (A3 w8) (C1 w8 hv6) W)) ?_
 refine gt W (fun w9=>(by simp only [A3 w9];rfl)) ?_
 refine gt W (fun w10=>(C8 (A3 w10) (C1 w10 hv6) W))<|gt W (fun w11=>(L6 (A3 w11) (A3 w11) W))<|sa W W W<|sv W<|gt W (fun _=>W)<|gt W (fun _=>W)<|bs hz4 fun _ hv7 hz4=>gt W (fun w14=>(C4 (A3 w14) (A3 w14) (C1 w14 hv7) W)) ?_
 refine gt W (fun w15=>(by simp only [A3 w15];rfl)) ?_
 refine gt W (fun w16=>(C8 (A3 w16) (C1 w16 hv7) W))<|gt W (fun _=>W)<|gt W (fun _=>W)<|bs hz4 fun _ hv8 hz4=>gt W (fun w19=>(C4 (A3 w19) (A3 w19) (C1 w19 hv8) W)) ?_
 refine gt W (fun w20=>(by simp only [A3 w20];rfl)) ?_
 refine gt W (fun w21=>(C8 (A3 w21) (C1 w21 hv8) W))<|gt W (fun w22=>(L6 (A3 w22) (A3 w22) W))<|sa W W W<|A1<|cc W hz4 (fun c3 hz4=> ?_)<|fun c3 hz4=> ?_
 refine B1<|sv W<|A1<|B2 ?_
 cases hz4
 obtain rfl:=ez4 _ rfl
 refine ⟨nofun,E7 ?_⟩
 rw [wC]at hz2
 cases hz2
 obtain rfl:=ez2 _ rfl
 refine ⟨nofun,E7 ?_⟩
 rw [wC]at h
 cases h
 exact A6 (.inr W) (B6 (B3 W) C0) (.refl _)
 refine A9<|D9<|B9<|sv W<|sv W<|sv W<|A1<|E1 ?_
 cases hz4
 exact ⟨W,(),(E8 W W)⟩
 refine C7 W ?_
 cases hz4
 obtain rfl:=ez4 _ rfl
 refine ⟨nofun,C5 W<|T0 ?_⟩
 exact ⟨_,(),W,(E8 W W)⟩
 rintro _ ⟨y2,g3,rfl,q1⟩
 rw [wB]at hz2
 refine D9<|B5 q1<|B9<|sv W<|sv W<|sv W<|A1<|E1 ?_
 cases hz2
 exact ⟨W,(),(E8 W W)⟩
 refine C7 W ?_
 cases hz2
 obtain rfl:=ez2 _ rfl
 refine ⟨nofun,C5 W<|T0 ?_⟩
 exact ⟨_,(),W,(E8 W W)⟩
 rintro _ ⟨y1,g1,rfl,q2⟩
 rw [wB]at h
 refine B5 q2<|B1<|sv W<|A1<|B2 ?_
 cases h
 exact A6 (.inr W) (B6 (B3 W) C0) (.refl _)
def Hm [Lp](p1:Map)(p2:State)(p3:State)(p4:Int)(p5:Int)(x1:((List Int)×Int)):Option (Stp ((List Int)×Int) (List Int)):=
  cond (decide (x1.2< (p1.Zones.length:Int))) ((C3 p2.Agents p4).bind fun v1=>(C3 p2.Agents p5).bind fun v2=>(C3 p3.Agents p4).bind fun v3=>(Gj p1 v1 v3 x1.2).bind fun v4=>((cond (!(!v4)) (C3 p3.Agents p5) (some default))).bind fun v5=>((cond (!(!v4)) (Gj p1 v2 v5 x1.2) (some default))).bind fun v6=>cond ((!v4)||(!v6)) (some (.go (x1.1,(D4 (x1.2+1))))) ((Kz p1 v1.Route x1.2).bind fun v7=>(C3 v1.Route v7).bind fun v8=>(Kz p1 v2.Route x1.2).bind fun v9=>(C3 v2.Route v9).bind fun v10=>cond (v8 !=v10) ((Ah x1.1 [x1.2]).bind fun v11=>some (.go (v11,(D4 (x1.2+1))))) (some (.go (x1.1,(D4 (x1.2+1))))))) (some (.out x1.1))
def Rr [Lp](p1:Map)(p2:State)(p3:State)(p4:Int)(p5:Int):Option (List Int):=
  (loop (Hm p1 p2 p3 p4 p5) ([],0)).bind fun y1=>some y1
theorem MP(p1 p2 p3 p4 p5 r)(h:Rr p1 p2 p3 p4 p5=some r):PCall prog 86 [(.agg (P0 p1)),(.agg (X7 p2)),(.agg (X7 p3)),(i64 p4),(i64 p5)] (.list (List.map A5 r)):=by
 refine C2 (fk func86 ntmps86 (fun r=>if r==8 then [1002]else []) (by with_unfolding_all rfl)) (nl W) ?_
 unfold Rr at h
 refine B5 (s0:=⟨T [(0,(.d _)),(1,(.d _)),(2,(.d _)),(3,(.d _)),(4,(.d _))],G []⟩) (E8 W W) ?_
 refine lr<|fun u1 _=>sm W<|sm W<|sn W W<|sv W<|A1<|B1<|sv W<|A1<|A4<|B1<|sv W<|A1<|bs h fun y1 hy1 h=>D7 (fun s=> ∃g1:Nat,Sb ⟨T [(11,(oS y1 (76,g1)))],G [((76,g1),oB 3 1 A5 y1)]⟩ s) ?_ ?_
 refine A8<|E2 (Hm p1 p2 p3 p4 p5) (fun (x1:((List Int)×Int)) (g2:Nat)=>⟨T [(3,(di p4)),(4,(di p5)),(5,(.ptr (5,u1) 0)),(6,(.ptr (6,u1) 0)),(7,(.ptr (7,u1) 0)),(11,(oS x1.1 (76,g2))),(12,(di x1.2))],G [((5,u1),some<|.box 33 (K4 p1)),((6,u1),some<|.box 25 (I8 p2)),((7,u1),some<|.box 25 (I8 p3)),((76,g2),oB 3 1 A5 x1.1)]⟩) ([],0) 0 _ hy1 (D5 (W1 W)<|sg W<|sg W<|B4 G_hit (.of W)<|P3 trivial) ?_
 intro x1 g2 z1 hz1 ez1
 unfold Hm at hz1
 refine A4<|B1<|sv W<|sq W<|sl W G_hit W<|sd W (D6 W)<|sv W<|A1<|cc W hz1 (fun c1 hz1=> ?_)<|fun c1 hz1=> ?_
 refine A9<|A4<|A8<|A4<|Kf fun _ _=>J4 (.ptr _ _) W W (J4 (.d _) W (N5 W (gq W) W) (J4 (.d _) W W (bs hz1 fun v1 hv1 hz1=>J4 (.d _) W (C4 W W hv1 W) (J4 (.d _) W (D0 W hv1 W W) (J4 (.ptr _ _) W W (J4 (.d _) W (N5 W (gq W) W) (J4 (.d _) W W (bs hz1 fun v2 hv2 hz1=>J4 (.d _) W (C4 W W hv2 W) (J4 (.d _) W (D0 W hv2 W W) (CQ (.ptr _ _) (.box _ _) W W (CQ (.ptr _ _) (.box _ _) W W (Ij _ _ _ _ _ W W W (gq W) (nl W) (S7 v1) W (Ij _ _ _ _ _ W W W (gq W) (nl W) (S7 v2) W (Vh ⟨W,?_⟩))))))))))))))
 refine A4<|A4<|E3 W<|sd W (A7 W (gq W) W W)<|sd W (A7 W (gq W) W W)<|sq W<|sl W (gq W) W (sv W<|bs hz1 fun _ hv3 hz1=>sd W (C4 W W hv3 W)<|sd W (D0 W hv3 W W)<|sv W<|bs hz1 fun v4 hv4 hz1=>B0 W W A2 (Qd _ _ _ _ _ hv4) (.inl W) (B8 (.d (bo (!v4))) W W (sv W<|gf W (fun _=>(A7 W (gq W) W W))<|gf W (fun _=>(A7 W G_hit W W))<|gp W (K3 W) (fun _=>W) (gf W (vl W (gq W) W)<|gf W (fun _=>W)<|bs hz1 fun v5 hv5 hz1=>gf W (fun w6=>(C4 (A3 w6) (A3 w6) (C1 w6 hv5) W))<|gf W (fun w7=>(D0 (A3 w7) (C1 w7 hv5) W W))<|gf W (fun _=>W)<|bs hz1 fun v6 hv6 hz1=> ?_))))
 refine L9 _ (bo v6) (K3 W) (fun w9=>⟨_,[(.d (.agg (P0 p1))),(.d (.agg (D1 v2))),(.d (.agg (D1 v5))),(di x1.2)],_,_,(by simp only [A3 w9];rfl),W,A2,Qd _ _ _ _ _<|C1 w9 hv6,(.inl W)⟩) ?_
 refine M5 _ (.d (bo (!v6))) W (K3 W) (fun w10=>(by simp only [A3 w10];rfl)) ?_
 refine sd W (N7 W W<|fun hc=>A3<|I7 hc)<|A1<|cc W hz1 (fun c2 hz1=> ?_)<|fun c2 hz1=> ?_
 refine Pu W<|B9<|sv W<|sv W<|sv W<|A1<|E1 ?_
 cases hz1
 exact ⟨W,g2,(D5 (W1 W)<|sg W<|sg W<|sg W<|B7 (gq W) trivial)⟩
 refine A9<|A4<|E3 W<|sq W<|sl W (gq W) W (sd W (A7 W (gq W) W W)<|sq W<|sl W (gq W) W (sv W<|bs hz1 fun _ hv7 hz1=>B0 W W A2 (Uk _ _ _ _ hv7) (.inl W) (bs hz1 fun _ hv8 hz1=>sd W (C4 W W hv8 W)<|sd W (C8 W hv8 W)<|sq W<|sl W G_hit W<|sd W (A7 W (gq W) W W)<|sq W<|sl W G_hit W<|sv W<|bs hz1 fun _ hv9 hz1=>B0 W W A2 (Uk _ _ _ _ hv9) (.inl W) (bs hz1 fun _ hv10 hz1=>sd W (C4 W W hv10 W)<|sd W (C8 W hv10 W)<|sv W<|A1<|cc W hz1 (fun c3 hz1=> ?_)<|fun c3 hz1=> ?_))))
 refine Bh fun u9 _=>B8 (oS x1.1 (76,g2)) W W (sv W<|B8 (dl A5 [x1.2]) W W (bs hz1 fun _ hv11 hz1=>O0 A5 (76,g2) x1.1 x1.2 [] _ (K5<|fun _=>W) W (gq W) hv11 (ss W<|A1<|D9<|B9<|sv W<|sv W<|sv W<|A1<|E1 ?_)))
 cases hz1
 exact ⟨W,u9,(D5 ⟨.of W, .of W, .of W, .of W, .of W,(.of (S3<|R8 hv11).symm), .of W,trivial⟩<|sg W<|sg W<|sg W<|M0 G_hit trivial)⟩
 refine A9<|D9<|B9<|sv W<|sv W<|sv W<|A1<|E1 ?_
 cases hz1
 exact ⟨W,g2,(D5 (W1 W)<|sg W<|sg W<|sg W<|B7 (gq W) trivial)⟩
 refine C7 W ?_
 cases hz1
 obtain rfl:=ez1 _ rfl
 refine ⟨nofun,C5 W<|T0 ?_⟩
 exact ⟨g2,(D5 ⟨.of W,trivial⟩<|B7 (gq W) trivial)⟩
 rintro _ ⟨g1,q1⟩
 refine B5 q1<|B1<|B8 (oS y1 (76,g1)) W W (B8 (oS y1 (76,g1)) W W (A1<|B2 ?_))
 cases h
 exact A6 (.inr W) (B6 (B3 W)<|S5 G_hit) S4
def Iw [Lp](p1:Map)(p2:(List Agent))(x4:(Int×State))(x5:Int):Option (Stp Int (Sum Unit (State×Int))):=
  cond (decide (x5< (p2.length:Int))) ((If x4.2 x4.1).bind fun v11=>((cond (!(!v11)) (If x4.2 x5) (some default))).bind fun v12=>cond ((!v11)||(!v12)) (some (.go (D4 (x5+1)))) ((C3 p2 x4.1).bind fun v13=>(C3 p2 x5).bind fun v14=>(La p1 v13 v14).bind fun v15=>((cond (!v15) (Rr p1 x4.2 x4.2 x4.1 x5) (some default))).bind fun v16=>cond (v15||(decide ((v16.length:Int)>0))) (some (.out (.inr ((State.mk 0 [] []),12)))) (some (.go (D4 (x5+1)))))) (some (.out (.inl ())))
def Fz [Lp](p1:Map)(p2:(List Agent))(x4:(Int×State)):Option (Stp (Int×State) (Sum State (State×Int))):=
  cond (decide (x4.1< (p2.length:Int))) (thenS (loop (Iw p1 p2 x4) (D4 (x4.1+1))) (fun _=>some (.go ((D4 (x4.1+1)),x4.2))) (fun r=>some (.out (.inr r)))) (some (.out (.inl x4.2)))
def Ix [Lp](p1:Map)(p2:(List Agent))(x2:(Int×State))(x3:(Int×State)):Option (Stp (Int×State) State):=
  ((cond (decide (x3.1< (p1.Zones.length:Int))) (If x3.2 x2.1) (some default))).bind fun v4=>cond ((decide (x3.1< (p1.Zones.length:Int)))&&v4) ((C3 p2 x2.1).bind fun v5=>(C3 p2 x2.1).bind fun v6=>(Gj p1 v5 v6 x3.1).bind fun v7=>cond v7 ((C3 p2 x2.1).bind fun v8=>(Ul p1 v8 x3.1 0).bind fun v9=>(Ah x3.2.In [(Stay.mk x2.1 x3.1 0 v9)]).bind fun v10=>some (.go ((D4 (x3.1+1)),(State.mk x3.2.Tick x3.2.Agents v10)))) (some (.go ((D4 (x3.1+1)),x3.2)))) (some (.out x3.2))
def Iy [Lp](p1:Map)(p2:(List Agent))(x2:(Int×State)):Option (Stp (Int×State) State):=
  cond (decide (x2.1< (p2.length:Int))) ((loop (Ix p1 p2 x2) (0,x2.2)).bind fun y3=>some (.go ((D4 (x2.1+1)),y3))) (some (.out x2.2))
def Ly (p2:(List Agent))(x1:Int):Option (Stp Int (Sum Unit (State×Int))):=
  cond (decide (x1< (p2.length:Int))) ((C3 p2 x1).bind fun v3=>cond v3.Gone (some (.out (.inr ((State.mk 0 [] []),10)))) (some (.go (D4 (x1+1))))) (some (.out (.inl ())))
def Qg [Lp](p1:Map)(p2:(List Agent)):Option (State×Int):=
  (Qv (State.mk 0 p2 [])).bind fun v1=>(Rn p1 v1).bind fun v2=>cond (v2 !=0) (some ((State.mk 0 [] []),v2)) (thenS (loop (Ly p2) 0) (fun _=>(loop (Iy p1 p2) (0,v1)).bind fun y2=>thenS (loop (Fz p1 p2) (0,y2)) (fun y4=>some (y4,0)) (fun r=>some r)) (fun r=>some r))
theorem Xu(p1 p2 r)(h:Qg p1 p2=some r):PCall prog 28 [(.agg (P0 p1)),(.list (List.map D1 p2))] (.tup [(.agg (X7 r.1)),(i64 r.2)]):=by
 refine C2 (fk func28 ntmps28 (fun r=>if r==1 then [1001002]else if r==17 then [1012]else []) (by with_unfolding_all rfl)) (nl W) ?_
 unfold Qg at h
 refine B5 (s0:=⟨T [(0,(.d _)),(1,(.d _))],G []⟩) (E8 W W) ?_
 refine lr<|fun u1 _=>sm W<|sm W<|sv W<|A1<|lr<|fun u2 _=>sv W<|sv W<|bs h fun v1 hv1 h=> ?_
 refine HH (v:=X2 [(di v1.Tick),(oS v1.Agents (10010020,u2)),(oS v1.In (10010021,u2))]) (us:= [(10010020,u2),(10010021,u2)]) (iM (HP _ _ hv1) [] [] _ (((10010021,u2),oB 127 4 J5 v1.In)::(((10010020,u2),oB 45 7 D1 v1.Agents)::_)) W (.cons (DLe.d<|.agg (ca W<|ca W<|.cons ⟨DLe.nil,W⟩ .nil)) .nil) W Ee trivial (fun _ h=>h) List.nodup_nil (by generalize v1.Agents=x1;generalize v1.In=x2;cases x1<;>cases x2<;>rfl) W (MA<|MA (W)) W) ?_
 refine sn W W<|Ii _ _ _ _ _ (V1 _) W W G_hit (nl W) [(di v1.Tick),(oS v1.Agents (10010020,u2)),(oS v1.In (10010021,u2))] W (A1<|B1<|sd W (A7 W (gq W) W W)<|B8 (X2 [(di v1.Tick),(oS v1.Agents (10010020,u2)),(oS v1.In (10010021,u2))]) W (A7 W G_hit W W) (bs h fun _ hv2 h=>B0 W (rD<|E5 (Mk<|rD<|E5 (S5<|gq W)<|E5 (S5<|gq W) F5) F5) (.cons (.refl _) (.cons (.agg (ca W<|.cons ⟨S4,W⟩ (.cons ⟨S4,W⟩ .nil))) .nil)) (MM _ _ _ hv2) (.inr W) (sv W<|A1<|A4<|B1<|sv W<|sv W<|A1<|cc W h (fun c1 h=> ?_)<|fun c1 h=> ?_)))
 refine B1<|sv W<|sv W<|P5 W (gq W) [(di 0),(.d .nilS),(.d .nilS)] W (sv W<|A1<|B2 ?_)
 cases h
 exact A6 (.inr W) (Jc (G8 W G_hit (nl W) W) (B3 W) C0 C0) (.tup (.cons (.agg (ca W<|.cons ⟨DLe.nil,W⟩ (.cons ⟨DLe.nil,W⟩ .nil))) A2))
 refine A9<|A4<|B1<|sv W<|A1<|js h fun z1 hz1 h=>D7 (fun s=> ∃(y1:Unit) (g1:Unit),z1= .inl y1∧Sb ⟨T [(1,(dl D1 p2)),(2,(.ptr (2,u1) 0)),(4,(.ptr (4,u1) 0)),(6,(.ptr (6,u2) 0))],G [((2,u1),some<|.box 33 (K4 p1)),((4,u1),some<|.box 25 [(di 0),(.d .nilS),(.d .nilS)]),((6,u2),some<|.box 25 [(di v1.Tick),(oS v1.Agents (10010020,u2)),(oS v1.In (10010021,u2))]),((10010020,u2),oB 45 7 D1 v1.Agents),((10010021,u2),oB 127 4 J5 v1.In)]⟩ s) ?_ ?_
 refine A8<|E2 (Ly p2) (fun (x1:Int) (g2:Unit)=>⟨T [(1,(dl D1 p2)),(2,(.ptr (2,u1) 0)),(4,(.ptr (4,u1) 0)),(6,(.ptr (6,u2) 0)),(8,(di x1))],G [((2,u1),some<|.box 33 (K4 p1)),((4,u1),some<|.box 25 [(di 0),(.d .nilS),(.d .nilS)]),((6,u2),some<|.box 25 [(di v1.Tick),(oS v1.Agents (10010020,u2)),(oS v1.In (10010021,u2))]),((10010020,u2),oB 45 7 D1 v1.Agents),((10010021,u2),oB 127 4 J5 v1.In)]⟩) 0 () _ hz1 (D5 (W1 W)<|sg W<|sg W<|B4 G_hit (.of W)<|B7 (gq W)<|B7 (gq W) trivial) ?_
 intro x1 g2 z2 hz2 ez2
 unfold Ly at hz2
 refine A4<|B1<|sv W<|sv W<|sd W (D6 W)<|sv W<|A1<|cc W hz2 (fun c2 hz2=> ?_)<|fun c2 hz2=> ?_
 refine A9<|A4<|A8<|B1<|sv W<|sv W<|bs hz2 fun _ hv3 hz2=>sd W (C4 W W hv3 W)<|sv W<|sd W (C8 W hv3 W)<|A1<|cc W hz2 (fun c3 hz2=> ?_)<|fun c3 hz2=> ?_
 refine B1<|sv W<|P5 W (gq W) [(di 0),(.d .nilS),(.d .nilS)] W (sv W<|A1<|B2 ?_)
 cases hz2
 obtain rfl:=ez2 _ rfl
 refine ⟨nofun,E7 ?_⟩
 rw [wC]at h
 cases h
 exact A6 (.inr W) (Jc (G8 W G_hit (nl W) W) (B3 W) C0 C0) (.tup (.cons (.agg (ca W<|.cons ⟨DLe.nil,W⟩ (.cons ⟨DLe.nil,W⟩ .nil))) A2))
 refine A9<|D9<|B9<|sv W<|sv W<|sv W<|A1<|E1 ?_
 cases hz2
 exact ⟨W,(),(D5 (W1 W)<|B4 G_hit (.of W)<|sg W<|sg W<|B7 (gq W)<|B7 (gq W) trivial)⟩
 refine C7 W ?_
 cases hz2
 obtain rfl:=ez2 _ rfl
 refine ⟨nofun,C5 W<|T0 ?_⟩
 exact ⟨_,(),W,(D5 (W1 W)<|B4 G_hit (.of W)<|sg W<|sg W<|B7 (gq W)<|B7 (gq W) trivial)⟩
 rintro _ ⟨y1,g1,rfl,q1⟩
 rw [wB]at h
 refine B5 q1<|A4<|B1<|sv W<|A1<|bs h fun y2 hy2 h=>D7 (fun s=> ∃g3:(Nat× ({d:Nat // d∈ [77,10010021]}×Nat)),Sb ⟨T [(1,(dl D1 p2)),(2,(.ptr (2,u1) 0)),(4,(.ptr (4,u1) 0)),(6,(.ptr (6,u2) 0))],G [((2,u1),some<|.box 33 (K4 p1)),((4,u1),some<|.box 25 [(di 0),(.d .nilS),(.d .nilS)]),((6,u2),some<|.box 25 [(di y2.Tick),(oS y2.Agents (10010020,g3.1)),(oS y2.In (g3.2.1.val,g3.2.2))]),((10010020,g3.1),oB 45 7 D1 y2.Agents),((g3.2.1.val,g3.2.2),oB 127 4 J5 y2.In)]⟩ s) ?_ ?_
 refine A8<|E2 (Iy p1 p2) (fun (x2:(Int×State)) (g4:(Nat× ({d:Nat // d∈ [77,10010021]}×Nat)))=>⟨T [(1,(dl D1 p2)),(2,(.ptr (2,u1) 0)),(4,(.ptr (4,u1) 0)),(6,(.ptr (6,u2) 0)),(9,(di x2.1))],G [((2,u1),some<|.box 33 (K4 p1)),((4,u1),some<|.box 25 [(di 0),(.d .nilS),(.d .nilS)]),((6,u2),some<|.box 25 [(di x2.2.Tick),(oS x2.2.Agents (10010020,g4.1)),(oS x2.2.In (g4.2.1.val,g4.2.2))]),((10010020,g4.1),oB 45 7 D1 x2.2.Agents),((g4.2.1.val,g4.2.2),oB 127 4 J5 x2.2.In)]⟩) (0,v1) (u2,(⟨10010021, .tail _ (.head _)⟩,u2)) _ hy2 (D5 (W1 W)<|B4 G_hit (.of W)<|sg W<|sg W<|B7 (gq W)<|B7 (gq W) trivial) ?_
 intro x2 g4 z3 hz3 ez3
 unfold Iy at hz3
 refine A4<|B1<|sv W<|sv W<|sd W (D6 W)<|sv W<|A1<|cc W hz3 (fun c4 hz3=> ?_)<|fun c4 hz3=> ?_
 refine A9<|A4<|A8<|B1<|sv W<|A1<|bs hz3 fun y3 hy3 hz3=>D7 (fun s=> ∃g5:(Nat× ({d:Nat // d∈ [77,10010021]}×Nat)),Sb ⟨T [(1,(dl D1 p2)),(2,(.ptr (2,u1) 0)),(4,(.ptr (4,u1) 0)),(6,(.ptr (6,u2) 0)),(9,(di x2.1))],G [((2,u1),some<|.box 33 (K4 p1)),((4,u1),some<|.box 25 [(di 0),(.d .nilS),(.d .nilS)]),((6,u2),some<|.box 25 [(di y3.Tick),(oS y3.Agents (10010020,g5.1)),(oS y3.In (g5.2.1.val,g5.2.2))]),((10010020,g5.1),oB 45 7 D1 y3.Agents),((g5.2.1.val,g5.2.2),oB 127 4 J5 y3.In)]⟩ s) ?_ ?_
 refine A8<|E2 (Ix p1 p2 x2) (fun (x3:(Int×State)) (g6:(Nat× ({d:Nat // d∈ [77,10010021]}×Nat)))=>⟨T [(1,(dl D1 p2)),(2,(.ptr (2,u1) 0)),(4,(.ptr (4,u1) 0)),(6,(.ptr (6,u2) 0)),(9,(di x2.1)),(10,(di x3.1))],G [((2,u1),some<|.box 33 (K4 p1)),((4,u1),some<|.box 25 [(di 0),(.d .nilS),(.d .nilS)]),((6,u2),some<|.box 25 [(di x3.2.Tick),(oS x3.2.Agents (10010020,g6.1)),(oS x3.2.In (g6.2.1.val,g6.2.2))]),((10010020,g6.1),oB 45 7 D1 x3.2.Agents),((g6.2.1.val,g6.2.2),oB 127 4 J5 x3.2.In)]⟩) (0,x2.2) (g4.1,(g4.2.1,g4.2.2)) _ hy3 (D5 (W1 W)<|B4 G_hit (.of W)<|sg W<|sg W<|B7 (gq W)<|B7 (Xk g4.2.1.property 4 W G_hit) trivial) ?_
 intro x3 g6 z4 hz4 ez4
 unfold Ix at hz4
 refine A4<|B1<|sv W<|sq W<|sl W G_hit W<|sd W (D6 W)<|sv W<|sv W<|M5 _ (X2 [(di x3.2.Tick),(oS x3.2.Agents (10010020,g6.1)),(oS x3.2.In (g6.2.1.val,g6.2.2))]) W (K6 W) (fun _=>(A7 W (gq W) W W)) (gt W (fun _=>W)<|bs hz4 fun v4 hv4 hz4=> ?_)
 refine L9 _ (bo v4) (K6 W) (fun w3=>⟨_,[(X2 [(di x3.2.Tick),(oS x3.2.Agents (10010020,g6.1)),(oS x3.2.In (g6.2.1.val,g6.2.2))]),(di x2.1)],_,_,(by simp only [A3 w3];rfl),(E5 (Mk<|rD<|E5 (S5<|gq W)<|E5 (S5<|Xk g6.2.1.property 4 W G_hit) F5)<|rD F5),(.cons (.agg (ca W<|.cons ⟨S4,W⟩ (.cons ⟨S4,W⟩ .nil))) A2),Pd _ _ _<|C1 w3 hv4,(.inr W)⟩) ?_
 refine sa W W W<|A1<|cc W hz4 (fun c5 hz4=> ?_)<|fun c5 hz4=> ?_
 refine A9<|A4<|A8<|A4<|E3 W<|sd W (A7 W G_hit W W)<|sv W<|sv W<|bs hz4 fun _ hv5 hz4=>sd W (C4 W W hv5 W)<|sd W (D0 W hv5 W W)<|sv W<|sv W<|bs hz4 fun _ hv6 hz4=>sd W (C4 W W hv6 W)<|sd W (D0 W hv6 W W)<|sv W<|bs hz4 fun _ hv7 hz4=>B0 W W A2 (Qd _ _ _ _ _ hv7) (.inl W) (A1<|cc W hz4 (fun c6 hz4=> ?_)<|fun c6 hz4=> ?_)
 refine Gy W fun u16 _=>sq W<|B8 (oS x3.2.In (g6.2.1.val,g6.2.2)) W (N5 W (gq W) W) (sv W<|sv W<|sd W (A7 W G_hit W W)<|sv W<|sv W<|bs hz4 fun _ hv8 hz4=>sd W (C4 W W hv8 W)<|sd W (D0 W hv8 W W)<|sv W<|bs hz4 fun v9 hv9 hz4=>B0 W W A2 (OT _ _ _ _ _ hv9) (.inl W) (sv W<|B8 (dl J5 [(Stay.mk x2.1 x3.1 0 v9)]) W W (bs hz4 fun _ hv10 hz4=>O0 J5 (g6.2.1.val,g6.2.2) x3.2.In (Stay.mk x2.1 x3.1 0 v9) [] _ (K5<|fun _=>W) W (C6 (CS g6.2.1.property W)<|C6 (CS g6.2.1.property W)<|C6 (CS g6.2.1.property W)<|C6 (CS g6.2.1.property W) G_hit) hv10 (sq W<|Ii _ _ _ _ _ W W W (C6 W<|C6 (EA g6.2.1.property W)<|gq W) (nl W) [(di x3.2.Tick),(oS x3.2.Agents (10010020,g6.1)),(.sl (77,u16))] W (A1<|D9<|B9<|sv W<|sv W<|sv W<|A1<|E1 ?_)))))
 cases hz4
 exact ⟨W,(g6.1,(⟨77, .head _⟩,u16)),(D5 (W1 W)<|B4 (Wm 2 W<|C6 (EA g6.2.1.property W) G_hit) (.of W) (B4 (Wm 2 W<|C6 (EA g6.2.1.property W)<|gq W) (.of W) (B4 G_hit (.box (cv<|cv<|.cons (.of (S3<|R8 hv10).symm) .nil))<|B7 (Wm 2 W<|C6 (EA g6.2.1.property W)<|gq W)<|M0 (gq W) trivial)))⟩
 refine A9<|D9<|B9<|sv W<|sv W<|sv W<|A1<|E1 ?_
 cases hz4
 exact ⟨W,(g6.1,(g6.2.1,g6.2.2)),(D5 (W1 W)<|B4 G_hit (.of W)<|sg W<|sg W<|B7 (gq W)<|B7 (Xk g6.2.1.property 4 W G_hit) trivial)⟩
 refine C7 W ?_
 cases hz4
 obtain rfl:=ez4 _ rfl
 refine ⟨nofun,C5 W<|T0 ?_⟩
 exact ⟨(g6.1,(g6.2.1,g6.2.2)),(D5 (W1 W)<|B4 G_hit (.of W)<|sg W<|sg W<|B7 (gq W)<|B7 (Xk g6.2.1.property 4 W G_hit) trivial)⟩
 rintro _ ⟨g5,q2⟩
 refine D9<|B5 q2<|B9<|sv W<|sv W<|sv W<|A1<|E1 ?_
 cases hz3
 exact ⟨W,(g5.1,(g5.2.1,g5.2.2)),(D5 (W1 W)<|B4 G_hit (.of W)<|sg W<|sg W<|B7 (gq W)<|B7 (Xk g5.2.1.property 4 W G_hit) trivial)⟩
 refine C7 W ?_
 cases hz3
 obtain rfl:=ez3 _ rfl
 refine ⟨nofun,C5 W<|T0 ?_⟩
 exact ⟨(g4.1,(g4.2.1,g4.2.2)),(D5 (W1 W)<|B4 G_hit (.of W)<|sg W<|sg W<|B7 (gq W)<|B7 (Xk g4.2.1.property 4 W G_hit) trivial)⟩
 rintro _ ⟨g3,q3⟩
 refine B5 q3<|A4<|B1<|sv W<|A1<|js h fun z5 hz5 h=>D7 (fun s=> ∃(y4:State) (g7:Unit),z5= .inl y4∧Sb ⟨T [(4,(.ptr (4,u1) 0)),(6,(.ptr (6,u2) 0))],G [((4,u1),some<|.box 25 [(di 0),(.d .nilS),(.d .nilS)]),((6,u2),some<|.box 25 (I8 y4))]⟩ s) ?_ ?_
 refine A8<|rU [(10010020,g3.1),(g3.2.1.val,g3.2.2)] [(1,(dl D1 p2)),(2,(.ptr (2,u1) 0)),(4,(.ptr (4,u1) 0)),(6,(.ptr (6,u2) 0)),(11,(di 0))] [((2,u1),some<|.box 33 (K4 p1)),((4,u1),some<|.box 25 [(di 0),(.d .nilS),(.d .nilS)]),((6,u2),some<|.box 25 (I8 y2))] ⟨Ez W,Ez W,Ez W,Ez W,Ez W,trivial⟩ (MB G_hit (Nc (Ko W)<|Nc (Ko<|EA g3.2.1.property W) Xl)<|MB (gq W) (Nc (Ko W)<|Nc (Ko<|EA g3.2.1.property W) Xl) (ZZ (gq W) (Nc (Ko W)<|Nc (Ko<|EA g3.2.1.property W) Xl) (.cons (Ez W) (.cons (nL (S5<|UO (.head _)<|gq W) S4) (.cons (nL (S5<|UO (.tail _ (.head _))<|C6 (CS g3.2.1.property W)<|C6 (CS g3.2.1.property W)<|C6 (CS g3.2.1.property W)<|C6 (CS g3.2.1.property W) G_hit) S4) .nil))) trivial)) (E2 (Fz p1 p2) (fun (x4:(Int×State)) (g8:Unit)=>⟨T [(1,(dl D1 p2)),(2,(.ptr (2,u1) 0)),(4,(.ptr (4,u1) 0)),(6,(.ptr (6,u2) 0)),(11,(di x4.1))],G [((2,u1),some<|.box 33 (K4 p1)),((4,u1),some<|.box 25 [(di 0),(.d .nilS),(.d .nilS)]),((6,u2),some<|.box 25 (I8 x4.2))]⟩) (0,y2) () _ hz5 (E8 W W) ?_)
 intro x4 g8 z6 hz6 ez6
 unfold Fz at hz6
 refine A4<|B1<|sv W<|sv W<|sd W (D6 W)<|sv W<|A1<|cc W hz6 (fun c7 hz6=> ?_)<|fun c7 hz6=> ?_
 refine A9<|A4<|A8<|B1<|sv W<|sv W<|sv W<|A1<|js hz6 fun z7 hz7 hz6=>D7 (fun s=> ∃(y5:Unit) (g9:Unit),z7= .inl y5∧Sb ⟨T [(1,(dl D1 p2)),(2,(.ptr (2,u1) 0)),(4,(.ptr (4,u1) 0)),(6,(.ptr (6,u2) 0)),(11,(di x4.1))],G [((2,u1),some<|.box 33 (K4 p1)),((4,u1),some<|.box 25 [(di 0),(.d .nilS),(.d .nilS)]),((6,u2),some<|.box 25 (I8 x4.2))]⟩ s) ?_ ?_
 refine A8<|E2 (Iw p1 p2 x4) (fun (x5:Int) (g10:Unit)=>⟨T [(1,(dl D1 p2)),(2,(.ptr (2,u1) 0)),(4,(.ptr (4,u1) 0)),(6,(.ptr (6,u2) 0)),(11,(di x4.1)),(12,(di x5))],G [((2,u1),some<|.box 33 (K4 p1)),((4,u1),some<|.box 25 [(di 0),(.d .nilS),(.d .nilS)]),((6,u2),some<|.box 25 (I8 x4.2))]⟩) (D4 (x4.1+1)) () _ hz7 (E8 W W) ?_
 intro x5 g10 z8 hz8 ez8
 unfold Iw at hz8
 refine A4<|B1<|sv W<|sv W<|sd W (D6 W)<|sv W<|A1<|cc W hz8 (fun c8 hz8=> ?_)<|fun c8 hz8=> ?_
 refine A9<|A4<|A8<|A4<|B1<|sd W (A7 W (gq W) W W)<|sv W<|bs hz8 fun v11 hv11 hz8=>B0 W W A2 (Pd _ _ _ hv11) (.inl W) (B8 (.d (bo (!v11))) W W (sv W<|gf W (fun _=>(A7 W (gq W) W W))<|gf W (fun _=>W)<|bs hz8 fun v12 hv12 hz8=> ?_))
 refine L9 _ (bo v12) (K3 W) (fun w6=>⟨_,[(.d (.agg (X7 x4.2))),(di x5)],_,_,(by simp only [A3 w6];rfl),W,A2,Pd _ _ _<|C1 w6 hv12,(.inl W)⟩) ?_
 refine M5 _ (.d (bo (!v12))) W (K3 W) (fun w7=>(by simp only [A3 w7];rfl)) ?_
 refine sd W (N7 W W<|fun hc=>A3<|I7 hc)<|A1<|cc W hz8 (fun c9 hz8=> ?_)<|fun c9 hz8=> ?_
 refine Pu W<|B9<|sv W<|sv W<|sv W<|A1<|E1 ?_
 cases hz8
 exact ⟨W,(),(E8 W W)⟩
 refine A9<|A4<|E3 W<|sd W (A7 W G_hit W W)<|sv W<|sv W<|bs hz8 fun _ hv13 hz8=>sd W (C4 W W hv13 W)<|sd W (D0 W hv13 W W)<|sv W<|sv W<|bs hz8 fun _ hv14 hz8=>sd W (C4 W W hv14 W)<|sd W (D0 W hv14 W W)<|bs hz8 fun _ hv15 hz8=>B0 W W A2 (GD _ _ _ _ hv15) (.inl W) (sv W<|gf W (fun _=>(A7 W G_hit W W))<|gf W (fun _=>(A7 W (gq W) W W))<|gf W (fun _=>(A7 W (gq W) W W))<|gf W (fun _=>W)<|gf W (fun _=>W)<|bs hz8 fun v16 hv16 hz8=> ?_)
 refine L9 _ (.list (List.map A5 v16)) (K3 W) (fun w13=>⟨_,[(.d (.agg (P0 p1))),(.d (.agg (X7 x4.2))),(.d (.agg (X7 x4.2))),(di x4.1),(di x5)],_,_,(by simp only [A3 w13];rfl),W,A2,MP _ _ _ _ _ _<|C1 w13 hv16,(.inl W)⟩) ?_
 refine gf W (fun w14=>(D6<|A3 w14))<|gf W (vb W W W)<|sd W (N7 W W<|fun hc=>A3<|I7 hc)<|A1<|cc W hz8 (fun c10 hz8=> ?_)<|fun c10 hz8=> ?_
 refine B1<|sv W<|P5 W (gq W) [(di 0),(.d .nilS),(.d .nilS)] W (sv W<|A1<|B2 ?_)
 cases hz8
 obtain rfl:=ez8 _ rfl
 refine ⟨nofun,E7 ?_⟩
 rw [wC]at hz6
 cases hz6
 obtain rfl:=ez6 _ rfl
 refine ⟨nofun,E7 ?_⟩
 rw [wC]at h
 cases h
 exact A6 (.inr W) (Jc (G8 W G_hit (nl W) W) (B3 W) C0 C0) (.tup (.cons (.agg (ca W<|.cons ⟨DLe.nil,W⟩ (.cons ⟨DLe.nil,W⟩ .nil))) A2))
 refine A9<|D9<|B9<|sv W<|sv W<|sv W<|A1<|E1 ?_
 cases hz8
 exact ⟨W,(),(E8 W W)⟩
 refine C7 W ?_
 cases hz8
 obtain rfl:=ez8 _ rfl
 refine ⟨nofun,C5 W<|T0 ?_⟩
 exact ⟨_,(),W,(E8 W W)⟩
 rintro _ ⟨y5,g9,rfl,q4⟩
 rw [wB]at hz6
 refine D9<|B5 q4<|B9<|sv W<|sv W<|sv W<|A1<|E1 ?_
 cases hz6
 exact ⟨W,(),(E8 W W)⟩
 refine C7 W ?_
 cases hz6
 obtain rfl:=ez6 _ rfl
 refine ⟨nofun,C5 W<|T0 ?_⟩
 exact ⟨_,(),W,(E8 W W)⟩
 rintro _ ⟨y4,g7,rfl,q5⟩
 rw [wB]at h
 refine B5 q5<|B1<|sd W (A7 W (gq W) W W)<|P5 W G_hit (I8 y4) W (sv W<|A1<|B2 ?_)
 cases h
 exact A6 (.inr W) (Jc (G8 W G_hit (nl W) W) (B3 W) C0 C0) (.refl _)
def Ho [Lp](p1:Map)(x1:((List Int)×Int)):Option (Stp ((List Int)×Int) (List Int)):=
  cond (decide (x1.2< (p1.Lanes.length:Int))) ((Lv p1 x1.2).bind fun v1=>cond ((v1.length:Int)==0) ((Ah x1.1 [x1.2]).bind fun v2=>some (.go (v2,(D4 (x1.2+1))))) (some (.go (x1.1,(D4 (x1.2+1)))))) (some (.out x1.1))
def Mv [Lp](p1:Map):Option (List Int):=
  (loop (Ho p1) ([],0)).bind fun y1=>some y1
theorem HQ(p1 r)(h:Mv p1=some r):PCall prog 188 [(.agg (P0 p1))] (.list (List.map A5 r)):=by
 refine C2 (fk func188 ntmps188 (fun r=>if r==6 then [1002]else []) (by with_unfolding_all rfl)) (nl W) ?_
 unfold Mv at h
 refine B5 (s0:=⟨T [(0,(.d _))],G []⟩) (E8 W W) ?_
 refine lr<|fun u1 _=>sm W<|sv W<|A1<|B1<|sv W<|A1<|A4<|B1<|sv W<|A1<|bs h fun y1 hy1 h=>D7 (fun s=> ∃g1:Nat,Sb ⟨T [(3,(oS y1 (20,g1)))],G [((20,g1),oB 3 1 A5 y1)]⟩ s) ?_ ?_
 refine A8<|E2 (Ho p1) (fun (x1:((List Int)×Int)) (g2:Nat)=>⟨T [(1,(.ptr (1,u1) 0)),(3,(oS x1.1 (20,g2))),(4,(di x1.2))],G [((1,u1),some<|.box 33 (K4 p1)),((20,g2),oB 3 1 A5 x1.1)]⟩) ([],0) 0 _ hy1 (D5 (W1 W)<|B4 G_hit (.of W)<|P3 trivial) ?_
 intro x1 g2 z1 hz1 ez1
 unfold Ho at hz1
 refine A4<|B1<|sv W<|sq W<|sl W G_hit W<|sd W (D6 W)<|sv W<|A1<|cc W hz1 (fun c1 hz1=> ?_)<|fun c1 hz1=> ?_
 refine A9<|A4<|A8<|B1<|sd W (A7 W G_hit W W)<|sv W<|bs hz1 fun _ hv1 hz1=>B0 W W A2 (Yn _ _ _ hv1) (.inl W) (sd W (D6 W)<|sv W<|A1<|cc W hz1 (fun c2 hz1=> ?_)<|fun c2 hz1=> ?_)
 refine Bh fun u6 _=>B8 (oS x1.1 (20,g2)) W W (sv W<|B8 (dl A5 [x1.2]) W W (bs hz1 fun _ hv2 hz1=>O0 A5 (20,g2) x1.1 x1.2 [] _ (K5<|fun _=>W) W (gq W) hv2 (ss W<|A1<|D9<|B9<|sv W<|sv W<|sv W<|A1<|E1 ?_)))
 cases hz1
 exact ⟨W,u6,(D5 ⟨.of W,(.of (S3<|R8 hv2).symm), .of W,trivial⟩<|sg W<|M0 G_hit trivial)⟩
 refine A9<|D9<|B9<|sv W<|sv W<|sv W<|A1<|E1 ?_
 cases hz1
 exact ⟨W,g2,(D5 (W1 W)<|B4 G_hit (.of W)<|B7 (gq W) trivial)⟩
 refine C7 W ?_
 cases hz1
 obtain rfl:=ez1 _ rfl
 refine ⟨nofun,C5 W<|T0 ?_⟩
 exact ⟨g2,(D5 ⟨.of W,trivial⟩<|B7 (gq W) trivial)⟩
 rintro _ ⟨g1,q1⟩
 refine B5 q1<|B1<|B8 (oS y1 (20,g1)) W W (B8 (oS y1 (20,g1)) W W (A1<|B2 ?_))
 cases h
 exact A6 (.inr W) (B6 (B3 W)<|S5 G_hit) S4
def Lz (p1:Map)(x1:(Int×Int× (List Int))):Option (Stp (Int×Int× (List Int)) (List Int)):=
  (C3 p1.Lanes x1.2.1).bind fun v6=>cond ((decide ((v6.Next.length:Int)>0))&& (decide ((x1.2.2.length:Int)<8))) ((C3 p1.Lanes x1.2.1).bind fun v7=>(C3 p1.Lanes x1.2.1).bind fun v8=>(Re x1.1 (v7.Next.length:Int)).bind fun v9=>(C3 v8.Next v9).bind fun v10=>(JO .i64 x1.1 (v7.Next.length:Int)).bind fun v11=>(Ah x1.2.2 [v10]).bind fun v12=>some (.go (v11,v10,v12))) (some (.out x1.2.2))
def Ka [Lp](p1:Map)(p2:Int):Option (List Int):=
  (Mv p1).bind fun v1=>cond ((v1.length:Int)==0) (some []) ((Sw p2 1048576).bind fun v2=>(Re v2 (v1.length:Int)).bind fun v3=>(C3 v1 v3).bind fun v4=>(JO .i64 v2 (v1.length:Int)).bind fun v5=>(loop (Lz p1) (v5,v4,[v4])).bind fun y1=>some y1)
theorem Xv(p1 p2 r)(h:Ka p1 p2=some r):PCall prog 100 [(.agg (P0 p1)),(i64 p2)] (.list (List.map A5 r)):=by
 refine C2 (fk func100 ntmps100 (fun r=>if r==12 then [1002]else []) (by with_unfolding_all rfl)) (nl W) ?_
 unfold Ka at h
 refine B5 (s0:=⟨T [(0,(.d _)),(1,(.d _))],G []⟩) (E8 W W) ?_
 refine lr<|fun u1 _=>sm W<|sv W<|A1<|B1<|sd W (A7 W G_hit W W)<|bs h fun _ hv1 h=>B0 W W A2 (HQ _ _ hv1) (.inl W) (sv W<|A1<|A4<|B1<|sv W<|sd W (D6 W)<|sv W<|A1<|cc W h (fun c1 h=> ?_)<|fun c1 h=> ?_)
 refine B1<|sv W<|A1<|B2 ?_
 cases h
 exact A6 (.inr W) (B6 (B3 W) C0) DLe.nil
 refine A9<|B1<|sv W<|bs h fun _ hv2 h=>B0 W W A2 (Uf _ _ _ hv2) (.inl W) (sv W<|A1<|B1<|sv W<|sv W<|sv W<|sd W (D6 W)<|bs h fun _ hv3 h=>sd W (Vg W W hv3)<|bs h fun v4 hv4 h=>sd W (C4 W W hv4 W)<|sd W (C8 W hv4 W)<|sv W<|A1<|lr<|fun u7 _=>sv W<|Pp (.sl _) (.arr 3 1 (List.map A5 ([v4]:List Int))) W W (ss W<|A1<|B1<|sv W<|sv W<|sd W (D6 W)<|bs h fun v5 hv5 h=>sd W (UF W W hv5)<|sv W<|A1<|A4<|bs h fun y1 hy1 h=>D7 (fun s=> ∃g1:({d:Nat // d∈ [24,66]}×Nat),Sb ⟨T [(7,(oS y1 (g1.1.val,g1.2)))],G [((g1.1.val,g1.2),oB 3 1 A5 y1)]⟩ s) ?_ ?_))
 refine A8<|E2 (Lz p1) (fun (x1:(Int×Int× (List Int))) (g2:({d:Nat // d∈ [24,66]}×Nat))=>⟨T [(1,(di x1.1)),(2,(.ptr (2,u1) 0)),(6,(di x1.2.1)),(7,(oS x1.2.2 (g2.1.val,g2.2)))],G [((2,u1),some<|.box 33 (K4 p1)),((g2.1.val,g2.2),oB 3 1 A5 x1.2.2)]⟩) (v5,v4,[v4]) (⟨24, .head _⟩,u7) _ hy1 (D5 ⟨.of W, .of W, .of W,(.of (S3<|List.cons_ne_nil _ _).symm),trivial⟩<|sg W<|M0 G_hit trivial) ?_
 intro x1 g2 z1 hz1 ez1
 unfold Lz at hz1
 refine A4<|B1<|sq W<|sl W G_hit W<|sv W<|bs hz1 fun _ hv6 hz1=>sd W (C4 W W hv6 W)<|sv W<|sd W (C8 W hv6 W)<|sd W (D6 W)<|sv W<|sv W<|M5 _ (oS x1.2.2 (g2.1.val,g2.2)) W (K6 W) (fun _=>W) (gt W (fun w2=>(XS (f:=A5) (A3 w2) (C6 (CS g2.1.property W) G_hit)))<|gt W (vb W W W)<|sa W W W<|A1<|cc W hz1 (fun c2 hz1=> ?_)<|fun c2 hz1=> ?_)
 refine A9<|A8<|B1<|sq W<|sl W G_hit W<|sv W<|bs hz1 fun _ hv7 hz1=>sd W (C4 W W hv7 W)<|sv W<|sd W (C8 W hv7 W)<|sd W (D6 W)<|sv W<|A1<|A4<|E3 W<|sq W<|sl W G_hit W<|sv W<|bs hz1 fun _ hv8 hz1=>sd W (C4 W W hv8 W)<|sv W<|sd W (C8 W hv8 W)<|sv W<|sv W<|bs hz1 fun _ hv9 hz1=>sd W (Vg W W hv9)<|bs hz1 fun v10 hv10 hz1=>sd W (C4 W W hv10 W)<|sd W (C8 W hv10 W)<|sv W<|A1<|B1<|sv W<|sv W<|bs hz1 fun _ hv11 hz1=>sd W (UF W W hv11)<|sv W<|A1<|Bh fun u13 _=>B8 (oS x1.2.2 (g2.1.val,g2.2)) W W (sv W<|B8 (dl A5 [v10]) W W (bs hz1 fun _ hv12 hz1=>O0 A5 (g2.1.val,g2.2) x1.2.2 v10 [] _ (K5<|fun _=>W) W (C6 (CS g2.1.property W) G_hit) hv12 (ss W<|A1<|D9<|E1 ?_)))
 cases hz1
 exact ⟨W,(⟨66, .tail _ (.head _)⟩,u13),(D5 ⟨.of W, .of W, .of W,(.of (S3<|R8 hv12).symm),trivial⟩<|B4 (C6 W<|C6 (EA g2.1.property W) G_hit) (.of W) (M0 G_hit trivial))⟩
 refine C7 W ?_
 cases hz1
 obtain rfl:=ez1 _ rfl
 refine ⟨nofun,C5 W<|T0 ?_⟩
 exact ⟨(g2.1,g2.2),(D5 ⟨.of W,trivial⟩<|B7 (C6 (CS g2.1.property W) G_hit) trivial)⟩
 rintro _ ⟨g1,q1⟩
 refine B5 q1<|B1<|B8 (oS y1 (g1.1.val,g1.2)) W W (B8 (oS y1 (g1.1.val,g1.2)) W W (A1<|B2 ?_))
 cases h
 exact A6 (.inr W) (B6 (B3 W)<|S5 G_hit) S4
def Ob (p1:Int)(p2:Int):Option Int:=
  (Re p1 p2).bind fun v1=>cond (decide (v1<0)) (some (D4 (v1+p2))) (some v1)
theorem Sy(p1 p2 r)(h:Ob p1 p2=some r):PCall prog 46 [(i64 p1),(i64 p2)] (i64 r):=by
 refine C2 (fk func46 ntmps46 m0 (by with_unfolding_all rfl)) (nl W) ?_
 unfold Ob at h
 refine B5 (s0:=⟨T [(0,(.d _)),(1,(.d _))],G []⟩) (E8 W W) ?_
 refine B1<|sv W<|A1<|B1<|sv W<|sv W<|bs h fun _ hv1 h=>sd W (Vg W W hv1)<|sv W<|A1<|A4<|B1<|sv W<|sv W<|A1<|cc W h (fun c1 h=> ?_)<|fun c1 h=> ?_
 refine B9<|sv W<|sv W<|sv W<|sv W<|A1<|B1<|sv W<|sv W<|A1<|B2 ?_
 cases h
 exact A6 (.inr W) (B6 (B3 W) C0) (.refl _)
 refine A9<|B1<|sv W<|sv W<|A1<|B2 ?_
 cases h
 exact A6 (.inr W) (B6 (B3 W) C0) (.refl _)
def Ac [Lp](p1:Map)(p2:Int)(x1:Int):Option (Stp Int (Sum Unit (List Int))):=
  cond (decide (x1<4)) ((Sw p2 1048576).bind fun v1=>(Ka p1 (D4 (v1+x1))).bind fun v2=>((cond (decide ((v2.length:Int)>0)) (C3 v2 0) (some default))).bind fun v3=>((cond (decide ((v2.length:Int)>0)) (C3 p1.Lanes v3) (some default))).bind fun v4=>cond ((decide ((v2.length:Int)>0))&& (v4.Kind==1)) (some (.out (.inr v2))) (some (.go (D4 (x1+1))))) (some (.out (.inl ())))
def Dv [Lp](p1:Map)(p2:Int):Option (List Int):=
  thenS (loop (Ac p1 p2) 0) (fun _=>(Ka p1 0).bind fun v5=>some v5) (fun r=>some r)
theorem HR(p1 p2 r)(h:Dv p1 p2=some r):PCall prog 101 [(.agg (P0 p1)),(i64 p2)] (.list (List.map A5 r)):=by
 refine C2 (fk func101 ntmps101 m0 (by with_unfolding_all rfl)) (nl W) ?_
 unfold Dv at h
 refine B5 (s0:=⟨T [(0,(.d _)),(1,(.d _))],G []⟩) (E8 W W) ?_
 refine lr<|fun u1 _=>sm W<|sv W<|A1<|A4<|B1<|sv W<|A1<|js h fun z1 hz1 h=>D7 (fun s=> ∃(y1:Unit) (g1:Unit),z1= .inl y1∧Sb ⟨T [(2,(.ptr (2,u1) 0))],G [((2,u1),some<|.box 33 (K4 p1))]⟩ s) ?_ ?_
 refine A8<|E2 (Ac p1 p2) (fun (x1:Int) (g2:Unit)=>⟨T [(1,(di p2)),(2,(.ptr (2,u1) 0)),(5,(di x1))],G [((2,u1),some<|.box 33 (K4 p1))]⟩) 0 () _ hz1 (E8 W W) ?_
 intro x1 g2 z2 hz2 ez2
 unfold Ac at hz2
 refine A4<|B1<|sv W<|sv W<|A1<|cc W hz2 (fun c1 hz2=> ?_)<|fun c1 hz2=> ?_
 refine A9<|A4<|A8<|A4<|E3 W<|sd W (A7 W G_hit W W)<|sv W<|bs hz2 fun _ hv1 hz2=>B0 W W A2 (Uf _ _ _ hv1) (.inl W) (sv W<|sv W<|bs hz2 fun _ hv2 hz2=>B0 W W A2 (Xv _ _ _ hv2) (.inl W) (sv W<|A1<|A4<|E3 W<|sv W<|sd W (D6 W)<|sv W<|sv W<|gp W (K6 W) (fun _=>W) (gt W (vl W G_hit W)<|gt W (fun _=>W)<|bs hz2 fun _ hv3 hz2=>gt W (fun w4=>(C4 (A3 w4) W (C1 w4 hv3) W))<|gt W (fun w5=>(C8 (A3 w5) (C1 w5 hv3) W))<|bs hz2 fun _ hv4 hz2=>gt W (fun w6=>(C4 (A3 w6) (A3 w6) (C1 w6 hv4) W)) ?_)))
 refine gt W (fun w7=>(by simp only [A3 w7];rfl)) ?_
 refine gt W (fun w8=>(C8 (A3 w8) (C1 w8 hv4) W))<|gt W (vb W W W)<|sa W W W<|A1<|cc W hz2 (fun c2 hz2=> ?_)<|fun c2 hz2=> ?_
 refine B1<|sv W<|sv W<|A1<|B2 ?_
 cases hz2
 obtain rfl:=ez2 _ rfl
 refine ⟨nofun,E7 ?_⟩
 rw [wC]at h
 cases h
 exact A6 (.inr W) (B6 (B3 W) C0) (.refl _)
 refine A9<|D9<|B9<|sv W<|sv W<|sv W<|A1<|E1 ?_
 cases hz2
 exact ⟨W,(),(E8 W W)⟩
 refine C7 W ?_
 cases hz2
 obtain rfl:=ez2 _ rfl
 refine ⟨nofun,C5 W<|T0 ?_⟩
 exact ⟨_,(),W,(E8 W W)⟩
 rintro _ ⟨y1,g1,rfl,q1⟩
 rw [wB]at h
 refine B5 q1<|B1<|sd W (A7 W G_hit W W)<|bs h fun _ hv5 h=>B0 W W A2 (Xv _ _ _ hv5) (.inl W) (sv W<|A1<|B2 ?_)
 cases h
 exact A6 (.inr W) (B6 (B3 W) C0) (.refl _)
def Tk [Lp](p1:Map)(p2:KitActor)(p3:Bool):Option Agent:=
  (Ka p1 p2.R).bind fun v1=>(Ob p2.Len 4700).bind fun v2=>(cond p3 ((Dv p1 p2.R).bind fun v3=>some (v3,false)) (some (v1,(!p2.Disobeys)))).bind fun y1=>(C3 y1.1 0).bind fun v4=>(C3 p1.Lanes v4).bind fun v5=>(Fv v5.Kind).bind fun v6=>(Ob p2.V (D4 (v6.1+1))).bind fun v7=>(cond (decide (v6.1<1000)) (some 300) (some (D4 (300+v2)))).bind fun y2=>(V8 p1 y1.1).bind fun v8=>(Ob p2.S (D4 (v8+1))).bind fun v9=>((cond (!p3) (Sw p2.Begin 4) (some default))).bind fun v10=>cond ((!p3)&& (v10==3)) ((Sw p2.Begin 40).bind fun v11=>some (Agent.mk y1.1 0 v7 y2 v11 y1.2 false)) (some (Agent.mk y1.1 v9 v7 y2 0 y1.2 false))
theorem GF(p1 p2 p3 r)(h:Tk p1 p2 p3=some r):PCall prog 42 [(.agg (P0 p1)),(.agg (Pw p2)),(bo p3)] (.agg (D1 r)):=by
 refine C2 (fk func42 ntmps42 m0 (by with_unfolding_all rfl)) (nl W) ?_
 unfold Tk at h
 refine B5 (s0:=⟨T [(0,(.d _)),(1,(.d _)),(2,(.d _))],G []⟩) (E8 W W) ?_
 refine lr<|fun u1 _=>sm W<|sm W<|sn W W<|A1<|A4<|Gy W fun u2 _=>sd W (A7 W (gq W) W W)<|sq W<|sl W (gq W) W (bs h fun v1 hv1 h=>B0 W W A2 (Xv _ _ _ hv1) (.inl W) (sq W<|sl W (gq W) W (bs h fun v2 hv2 h=>B0 W W A2 (Sy _ _ _ hv2) (.inl W) (sv W<|sq W<|sl W (gq W) W (B8 (.d (bo (!p2.Disobeys))) W W (sv W<|sm W<|P5 W G_hit ([(dl A5 v1)]++ ((zs 4).set 2 (di<|D4 (300+v2)))++ [(.d (bo (!p2.Disobeys))),(.d (bo false))]) W (A1<|A4<|B1<|sv W<|A1<|bs h fun y1 hy1 h=>D7 (fun s=> ∃g1:Unit,Sb ⟨T [(2,(.d (bo p3))),(3,(.ptr (3,u1) 0)),(4,(.ptr (4,u1) 0)),(6,(.ptr (6,u1) 0)),(7,(.ptr (7,u2) 0))],G [((3,u1),some<|.box 33 (K4 p1)),((4,u1),some<|.box 73 (PX p2)),((6,u1),some<|.box 45 ([(.d .nilS)]++ (zs 4)++ [(.d (bo false)),(.d (bo false))])),((7,u2),some<|.box 45 ([(dl A5 y1.1)]++ ((zs 4).set 2 (di<|D4 (300+v2)))++ [(.d (bo y1.2)),(.d (bo false))]))]⟩ s) ?_ ?_)))))))
 refine cc W hy1 (fun c1 hy1=> ?_)<|fun c1 hy1=> ?_
 refine B9<|sd W (A7 W (gq W) W W)<|sq W<|sl W (gq W) W (bs hy1 fun v3 hv3 hy1=>B0 W W A2 (HR _ _ _ hv3) (.inl W) (sq W<|P5 W G_hit ([(dl A5 v3)]++ ((zs 4).set 2 (di<|D4 (300+v2)))++ [(.d (bo (!p2.Disobeys))),(.d (bo false))]) W (sq W<|P5 W G_hit ([(dl A5 v3)]++ ((zs 4).set 2 (di<|D4 (300+v2)))++ [(.d (bo false)),(.d (bo false))]) W (A1 ?_))))
 cases hy1
 exact T0 ⟨(),(E8 W W)⟩
 refine A9 ?_
 cases hy1
 exact T0 ⟨(),(E8 W W)⟩
 rintro _ ⟨g1,q1⟩
 refine B5 q1<|A4<|E3 W<|sq W<|sl W G_hit W<|sq W<|sl W (gq W) W (bs h fun _ hv4 h=>sd W (C4 W W hv4 W)<|sd W (C8 W hv4 W)<|bs h fun _ hv5 h=>sd W (C4 W W hv5 W)<|sv W<|sd W (C8 W hv5 W)<|bs h fun _ hv6 h=>B0 W W A2 (Ni _ _ hv6) (.inl W) (sv W<|sv W<|sv W<|sv W<|sv W<|sv W<|sv W<|A1<|B1<|sq W<|sl W (gq W) W (sv W<|sv W<|bs h fun v7 hv7 h=>B0 W W A2 (Sy _ _ _ hv7) (.inl W) (sq W<|P5 W (gq W) [(dl A5 y1.1),(di 0),(di v7),(di<|D4 (300+v2)),(di 0),(.d (bo y1.2)),(.d (bo false))] W (A1<|A4<|B1<|sv W<|sv W<|A1<|bs h fun y2 hy2 h=>D7 (fun s=> ∃g2:Unit,Sb ⟨T [(2,(.d (bo p3))),(3,(.ptr (3,u1) 0)),(4,(.ptr (4,u1) 0)),(6,(.ptr (6,u1) 0)),(7,(.ptr (7,u2) 0))],G [((3,u1),some<|.box 33 (K4 p1)),((4,u1),some<|.box 73 (PX p2)),((6,u1),some<|.box 45 ([(.d .nilS)]++ (zs 4)++ [(.d (bo false)),(.d (bo false))])),((7,u2),some<|.box 45 [(dl A5 y1.1),(di 0),(di v7),(di y2),(di 0),(.d (bo y1.2)),(.d (bo false))])]⟩ s) ?_ ?_)))))
 refine cc W hy2 (fun c2 hy2=> ?_)<|fun c2 hy2=> ?_
 refine B9<|sq W<|P5 W G_hit [(dl A5 y1.1),(di 0),(di v7),(di 300),(di 0),(.d (bo y1.2)),(.d (bo false))] W (A1 ?_)
 cases hy2
 exact T0 ⟨(),(E8 W W)⟩
 refine A9 ?_
 cases hy2
 exact T0 ⟨(),(E8 W W)⟩
 rintro _ ⟨g2,q2⟩
 refine B5 q2<|A4<|E3 W<|sq W<|sl W (gq W) W (sd W (A7 W G_hit W W)<|sq W<|sl W (gq W) W (bs h fun _ hv8 h=>B0 W W A2 (Kx _ _ _ hv8) (.inl W) (sv W<|bs h fun v9 hv9 h=>B0 W W A2 (Sy _ _ _ hv9) (.inl W) (sq W<|P5 W (gq W) [(dl A5 y1.1),(di v9),(di v7),(di y2),(di 0),(.d (bo y1.2)),(.d (bo false))] W (A1<|A4<|B1<|sv W<|B8 (.d (bo (!p3))) W W (sv W<|gp W (K6 W) (fun _=>W) (gt W (vl W (gq W) W)<|bs h fun v10 hv10 h=> ?_)))))))
 refine L9 _ (i64 v10) (K6 W) (fun w3=>⟨_,[(di p2.Begin),(di 4)],_,_,(by simp only [A3 w3];rfl),W,A2,Uf _ _ _<|C1 w3 hv10,(.inl W)⟩) ?_
 refine gt W (vb W W W)<|sa W W W<|A1<|cc W h (fun c3 h=> ?_)<|fun c3 h=> ?_
 refine B9<|sq W<|sl W (gq W) W (bs h fun v11 hv11 h=>B0 W W A2 (Uf _ _ _ hv11) (.inl W) (sq W<|P5 W G_hit [(dl A5 y1.1),(di v9),(di v7),(di y2),(di v11),(.d (bo y1.2)),(.d (bo false))] W (sq W<|P5 W G_hit [(dl A5 y1.1),(di 0),(di v7),(di y2),(di v11),(.d (bo y1.2)),(.d (bo false))] W (A1<|B1<|sd W (A7 W G_hit W W)<|P5 W (gq W) [(dl A5 y1.1),(di 0),(di v7),(di y2),(di v11),(.d (bo y1.2)),(.d (bo false))] W (A1<|B2 ?_)))))
 cases h
 exact A6 (.inr W) (B6 (G8 W G_hit (nl W) W) C0) (.refl _)
 refine A9<|B1<|sd W (A7 W G_hit W W)<|P5 W (gq W) [(dl A5 y1.1),(di v9),(di v7),(di y2),(di 0),(.d (bo y1.2)),(.d (bo false))] W (A1<|B2 ?_)
 cases h
 exact A6 (.inr W) (B6 (G8 W G_hit (nl W) W) C0) (.refl _)
def Ga [Lp](p1:Map)(p2:(List KitActor))(x1:((List Agent)×Int×State)):Option (Stp ((List Agent)×Int×State) ((List Agent)×State)):=
  cond ((decide (x1.2.1< (p2.length:Int)))&& (decide ((x1.1.length:Int)<8))) ((Ah ([]:List Agent) x1.1).bind fun v2=>(C3 p2 x1.2.1).bind fun v3=>(Tk p1 v3 ((x1.1.length:Int)==0)).bind fun v4=>(Ah v2 [v4]).bind fun v5=>(Qg p1 v5).bind fun v6=>cond (v6.2==0) (some (.go (v6.1.Agents,(D4 (x1.2.1+1)),v6.1))) (some (.go (x1.1,(D4 (x1.2.1+1)),x1.2.2)))) (some (.out (x1.1,x1.2.2)))
def Tl [Lp](p1:Map)(p2:(List KitActor)):Option State:=
  (Qg p1 []).bind fun v1=>(loop (Ga p1 p2) ([],0,v1.1)).bind fun y1=>cond ((y1.1.length:Int)==0) ((Tk p1 (KitActor.mk 0 1048576 0 0 0 false) true).bind fun v7=>(Qg p1 [(Agent.mk v7.Route (D4 (v7.Len+1)) 0 v7.Len v7.Begin v7.Obey v7.Gone)]).bind fun v8=>some v8.1) (some y1.2)
theorem SJ(p1 p2 r)(h:Tl p1 p2=some r):PCall prog 34 [(.agg (P0 p1)),(.list (List.map Pw p2))] (.agg (X7 r)):=by
 refine C2 (fk func34 ntmps34 (fun r=>if r==6 then [1006015,1013]else if r==12 then [1002]else []) (by with_unfolding_all rfl)) (nl W) ?_
 unfold Tl at h
 refine B5 (s0:=⟨T [(0,(.d _)),(1,(.d _))],G []⟩) (E8 W W) ?_
 refine lr<|fun u1 _=>sm W<|sm W<|A1<|B1<|sv W<|A1<|lr<|fun u3 _=>sd W (A7 W (gq W) W W)<|bs h fun v1 hv1 h=>B0 W W (.cons (.refl _) (.cons DLe.nil .nil)) (Xu _ _ _ hv1) (.inl W) (sv W<|sv W<|sv W<|sm W<|P5 W G_hit (I8 v1.1) W (sv W<|A1<|A4<|B1<|sv W<|A1<|bs h fun y1 hy1 h=>D7 (fun s=> ∃g1:Unit,Sb ⟨T [(2,(.ptr (2,u1) 0)),(4,(.ptr (4,u1) 0)),(5,(dl D1 y1.1)),(6,(.ptr (6,u3) 0))],G [((2,u1),some<|.box 33 (K4 p1)),((4,u1),some<|.box 25 [(di 0),(.d .nilS),(.d .nilS)]),((6,u3),some<|.box 25 (I8 y1.2))]⟩ s) ?_ ?_))
 refine A8<|E2 (Ga p1 p2) (fun (x1:((List Agent)×Int×State)) (g2:Unit)=>⟨T [(1,(dl Pw p2)),(2,(.ptr (2,u1) 0)),(4,(.ptr (4,u1) 0)),(5,(dl D1 x1.1)),(6,(.ptr (6,u3) 0)),(8,(di x1.2.1))],G [((2,u1),some<|.box 33 (K4 p1)),((4,u1),some<|.box 25 [(di 0),(.d .nilS),(.d .nilS)]),((6,u3),some<|.box 25 (I8 x1.2.2))]⟩) ([],0,v1.1) () _ hy1 (D5 ⟨.of W, .of W, .of W,(DLe.d DLe.nil), .of W, .of W,trivial⟩<|sg W<|sg W<|B4 G_hit (.of W) trivial) ?_
 intro x1 g2 z1 hz1 ez1
 unfold Ga at hz1
 refine A4<|B1<|sv W<|sv W<|sd W (D6 W)<|sv W<|sv W<|gt W (fun _=>W)<|gt W (fun w2=>(D6<|A3 w2))<|gt W (vb W W W)<|sa W W W<|A1<|cc W hz1 (fun c1 hz1=> ?_)<|fun c1 hz1=> ?_
 refine A9<|A4<|A8<|A4<|Kf fun u6 _=>J4 (.d _) W (A7 W G_hit W W) (CQ (.sl _) (.arr 45 7 (List.map D1 ([]:List Agent))) W W (J4 (.d _) W W (bs hz1 fun _ hv2 hz1=>UG D1 _ _ _ _ (K5<|fun _=>W) W G_hit hv2 (J4 (.d _) W (A7 W (gq W) W W) (J4 (.d _) W W (J4 (.d _) W W (bs hz1 fun _ hv3 hz1=>J4 (.d _) W (C4 W W hv3 W) (J4 (.d _) W (D0 W hv3 W W) (J4 (.d _) W W (J4 (.d _) W (D6 W) (J4 (.d _) W W (bs hz1 fun v4 hv4 hz1=>hQ W W A2 (GF _ _ _ _ hv4) (.inl W) (J4 (dl D1 [v4]) W W (bs hz1 fun _ hv5 hz1=>UG D1 _ _ _ _ (K5<|fun _=>W) W G_hit hv5 (bs hz1 fun v6 hv6 hz1=>cN (v:= .d (.tup [(.agg (X7 v6.1)),(i64 v6.2)])) (us:= [(43,u6)]) (nH [(43,u6)] (((43,u6),none)::_) W (rD<|E5 (PR G_hit) F5) A2 (Xu _ _ _ hv6) (R9 Zd<|R9 FQ Pv) W) (J4 (.d _) W W (J4 (.d _) W W (J4 (.d _) W W (CQ (.ptr _ _) (.box _ _) W W (Ij _ _ _ _ _ W W W G_hit (nl W) (I8 v6.1) W (J4 (.d _) W W (Vh ⟨W,?_⟩))))))))))))))))))))))
 refine B1<|sv W<|sv W<|A1<|cc W hz1 (fun c2 hz1=> ?_)<|fun c2 hz1=> ?_
 refine Kf fun _ _=>J4 (.d _) W (A7 W G_hit W W) (J4 (.ptr _ _) W W (J4 (.d _) W (N5 W G_hit W) (Ij _ _ _ _ _ W W W (gq W) (nl W) (I8 v6.1) W (J4 (.d _) W W (Vh ⟨W,?_⟩)))))
 refine D9<|B9<|sv W<|sv W<|sv W<|A1<|E1 ?_
 cases hz1
 exact ⟨W,(),(E8 W W)⟩
 refine A9<|D9<|B9<|sv W<|sv W<|sv W<|A1<|E1 ?_
 cases hz1
 exact ⟨W,(),(E8 W W)⟩
 refine C7 W ?_
 cases hz1
 obtain rfl:=ez1 _ rfl
 refine ⟨nofun,C5 W<|T0 ?_⟩
 exact ⟨(),(E8 W W)⟩
 rintro _ ⟨g1,q1⟩
 refine B5 q1<|A4<|B1<|sv W<|sd W (D6 W)<|sv W<|A1<|cc W h (fun c3 h=> ?_)<|fun c3 h=> ?_
 refine B1<|sd W (A7 W G_hit W W)<|sv W<|bs h fun v7 hv7 h=>B0 W W A2 (GF _ _ _ _ hv7) (.inl W) (sm W<|P5 W G_hit (S7 v7) W (A1<|B1<|sq W<|sl W G_hit W<|sv W<|sq W<|P5 W G_hit ((S7 v7).set 1 (di<|D4 (v7.Len+1))) W (sq W<|P5 W G_hit (((S7 v7).set 1 (di<|D4 (v7.Len+1))).set 2 (di 0)) W (A1<|B9<|sd W (A7 W (gq W) W W)<|sd W (A7 W G_hit W W)<|B8 (dl D1 [(Agent.mk v7.Route (D4 (v7.Len+1)) 0 v7.Len v7.Begin v7.Obey v7.Gone)]) W W (bs h fun v8 hv8 h=>B0 W W A2 (Xu _ _ _ hv8) (.inl W) (sv W<|sv W<|sv W<|P5 W (gq W) (I8 v8.1) W (A1<|B1<|sd W (A7 W G_hit W W)<|P5 W (gq W) (I8 v8.1) W (A1<|B2 ?_))))))))
 cases h
 exact A6 (.inr W) (B6 (G8 W G_hit (nl W) W) C0) (.refl _)
 refine A9<|B1<|sd W (A7 W (gq W) W W)<|P5 W (gq W) (I8 y1.2) W (A1<|B2 ?_)
 cases h
 exact A6 (.inr W) (B6 (G8 W G_hit (nl W) W) C0) (.refl _)
def Qh [Lp](p1:Map)(p2:State)(p3:Int):Option Bool:=
  ((cond ((decide (p3≥0))&& (decide (p3≤16777216))) (Cd p1 p2) (some default))).bind fun v1=>some (((decide (p3≥0))&& (decide (p3≤16777216)))&& (v1==0))
theorem DD(p1 p2 p3 r)(h:Qh p1 p2 p3=some r):PCall prog 122 [(.agg (P0 p1)),(.agg (X7 p2)),(i64 p3)] (bo r):=by
 refine C2 (fk func122 ntmps122 m0 (by with_unfolding_all rfl)) (nl W) ?_
 unfold Qh at h
 refine B5 (s0:=⟨T [(0,(.d _)),(1,(.d _)),(2,(.d _))],G []⟩) (E8 W W) ?_
 refine B1<|sm W<|sn W W<|sv W<|A1<|B1<|sv W<|sv W<|sv W<|gt W (fun _=>W)<|gt W (vb W W W)<|sa W W W<|sv W<|gt W (fun _=>(A7 W (gq W) W W))<|gt W (fun _=>(A7 W G_hit W W))<|bs h fun v1 hv1 h=> ?_
 refine L9 _ (i64 v1) (K6 W) (fun w5=>⟨_,[(.d (.agg (P0 p1))),(.d (.agg (X7 p2)))],_,_,(by simp only [A3 w5];rfl),W,A2,Ot _ _ _<|C1 w5 hv1,(.inl W)⟩) ?_
 refine gt W (vb W W W)<|sa W W W<|sv W<|A1<|B2 ?_
 cases h
 exact A6 (.inr W) (B6 (B3 W) C0) (.refl _)
def Em (p3:Int)(v1:RoadsWay)(x1:Int):Option (Stp Int Int):=
  (C3 v1.starts x1).bind fun v3=>cond (decide (v3>p3)) (some (.go (D4 (x1 - 1)))) (some (.out x1))
def Oc [Lp](p1:Map)(p2:(List Int))(p3:Int):Option (Int×Int×Bool):=
  (Z2 p1 p2).bind fun v1=>((cond (!((v1.lanes.length:Int)==0)) (Bu p3 0 v1.length) (some default))).bind fun v2=>cond (((v1.lanes.length:Int)==0)||(!v2)) (some (0,0,false)) ((loop (Em p3 v1) (D4 ((v1.lanes.length:Int) - 1))).bind fun y1=>(C3 v1.lanes y1).bind fun v4=>(C3 v1.starts y1).bind fun v5=>some (v4,(D4 (p3 - v5)),true))
theorem MQ(p1 p2 p3 r)(h:Oc p1 p2 p3=some r):PCall prog 231 [(.agg (P0 p1)),(.list (List.map A5 p2)),(i64 p3)] (.tup [(i64 r.1),(i64 r.2.1),(bo r.2.2)]):=by
 refine C2 (fk func231 ntmps231 m0 (by with_unfolding_all rfl)) (nl W) ?_
 unfold Oc at h
 refine B5 (s0:=⟨T [(0,(.d _)),(1,(.d _)),(2,(.d _))],G []⟩) (E8 W W) ?_
 refine B1<|sm W<|sv W<|sv W<|sv W<|A1<|lr<|fun u2 _=>sd W (A7 W G_hit W W)<|sv W<|bs h fun v1 hv1 h=>B0 W W A2 (Jf _ _ _ hv1) (.inl W) (sm W<|P5 W G_hit (Jp v1) W (A1<|A4<|B1<|sq W<|sl W G_hit W<|sd W (D6 W)<|sv W<|sv W<|gf W (fun _=>W)<|gp W (K3 W) (fun _=>W) (gf W (vl W G_hit W)<|bs h fun v2 hv2 h=> ?_)))
 refine L9 _ (bo v2) (K3 W) (fun w4=>⟨_,[(di p3),(di 0),(di v1.length)],_,_,(by simp only [A3 w4];rfl),W,A2,Cv _ _ _ _<|C1 w4 hv2,(.inl W)⟩) ?_
 refine M5 _ (.d (bo (!v2))) W (K3 W) (fun w5=>(by simp only [A3 w5];rfl)) ?_
 refine sd W (N7 W W<|fun hc=>A3<|I7 hc)<|A1<|cc W h (fun c1 h=> ?_)<|fun c1 h=> ?_
 refine B1<|sv W<|sv W<|sv W<|A1<|B2 ?_
 cases h
 exact A6 (.inr W) (Yi (B3 W) (B3 W) (B3 W) C0 C0 C0) (.refl _)
 refine A9<|B1<|sq W<|sl W G_hit W<|sd W (D6 W)<|sv W<|sv W<|A1<|A4<|bs h fun y1 hy1 h=>D7 (fun s=> ∃g1:Unit,Sb ⟨T [(2,(di p3)),(9,(.ptr (9,u2) 0)),(10,(di y1))],G [((9,u2),some<|.box 260 (Jp v1))]⟩ s) ?_ ?_
 refine A8<|E2 (Em p3 v1) (fun (x1:Int) (g2:Unit)=>⟨T [(2,(di p3)),(9,(.ptr (9,u2) 0)),(10,(di x1))],G [((9,u2),some<|.box 260 (Jp v1))]⟩) (D4 ((v1.lanes.length:Int) - 1)) () _ hy1 (E8 W W) ?_
 intro x1 g2 z1 hz1 ez1
 unfold Em at hz1
 refine A4<|B1<|sq W<|sl W G_hit W<|sv W<|bs hz1 fun _ hv3 hz1=>sd W (C4 W W hv3 W)<|sd W (C8 W hv3 W)<|sv W<|sv W<|A1<|cc W hz1 (fun c2 hz1=> ?_)<|fun c2 hz1=> ?_
 refine A9<|A8<|B9<|sv W<|sv W<|sv W<|A1<|D9<|E1 ?_
 cases hz1
 exact ⟨W,(),(E8 W W)⟩
 refine C7 W ?_
 cases hz1
 obtain rfl:=ez1 _ rfl
 refine ⟨nofun,C5 W<|T0 ?_⟩
 exact ⟨(),(E8 W W)⟩
 rintro _ ⟨g1,q1⟩
 refine B5 q1<|A4<|E3 W<|sq W<|sl W G_hit W<|sv W<|bs h fun _ hv4 h=>sd W (C4 W W hv4 W)<|sd W (C8 W hv4 W)<|sv W<|sq W<|sl W G_hit W<|sv W<|bs h fun _ hv5 h=>sd W (C4 W W hv5 W)<|sd W (C8 W hv5 W)<|sv W<|sv W<|sv W<|sv W<|A1<|B2 ?_
 cases h
 exact A6 (.inr W) (Yi (B3 W) (B3 W) (B3 W) C0 C0 C0) (.refl _)
def Y9 (p2:Int)(x1:(Int×CurvePiece))(a1:(Int×CurvePiece)):Option (Stp (Int×CurvePiece) (Int×CurvePiece)):=
  cond ((a1.1==0)||(decide (a1.2.start≤p2))) (some (.go (a1.1,a1.2))) (some (.go (x1.1,x1.2)))
def Qi [Lp](p1:Curve)(p2:Int):Option (Int×CurvePiece×Int):=
  ((Qr p1.Pts).bind fun v1=>loopL (Y9 p2) (fun (x1:(Int×CurvePiece))=>(x1.1,x1.2)) v1 (0,(CurvePiece.mk (Spot.mk 0 0) (CurveVector.mk 0 0) 0 0))).bind fun y1=>some (y1.1,y1.2,(Li true 0 (Li false (D4 (p2 - y1.2.start)) y1.2.l)))
theorem OU(p1 p2 r)(h:Qi p1 p2=some r):PCall prog 199 [(.agg [(.list (List.map V0 p1.Pts))]),(i64 p2)] (.tup [(i64 r.1),(.agg (AL r.2.1)),(i64 r.2.2)]):=by
 refine C2 (fk func199 ntmps199 m0 (by with_unfolding_all rfl)) (nl W) ?_
 unfold Qi at h
 refine B5 (s0:=⟨T [(0,(.d _)),(1,(.d _))],G []⟩) (E8 W W) ?_
 refine lr<|fun u1 _=>sm W<|sm W<|sv W<|sm W<|sv W<|A1<|lr<|fun u2 _=>sm W<|A1<|lr<|fun u3 _=>sm W<|A1<|A4<|B1<|sd W (A7 W (gq W) W W)<|B0 W W A2 (IV p1) (.inl W) (A1<|bs h fun y1 hy1 h=>D7 (fun s=> ∃g1:Unit,Sb ⟨T [(3,(.ptr (3,u1) 0)),(5,(.ptr (5,u1) 0)),(7,(.ptr (7,u2) 0)),(8,(.ptr (8,u3) 0))],G [((3,u1),some<|.box 2 [(di p2)]),((5,u1),some<|.box 255 (zs 6)),((7,u2),some<|.box 3 [(di y1.1)]),((8,u3),some<|.box 255 (Hz y1.2))]⟩ s) ?_ ?_)
 refine A8<|bs hy1 fun v1 hv1 hy1=>B5 (s0:=⟨T [(3,(.ptr _ _)),(5,(.ptr _ _)),(7,(.ptr _ _)),(8,(.ptr _ _)),(12,(.d _))],G [((3,u1),some<|.box 2 _),((5,u1),some<|.box 255 _),((7,u2),some<|.box 3 _),((8,u3),some<|.box 255 _)]⟩) (E8 W W) ?_
 refine UE (.fn (.func 260) [] [(.bp [(.list (List.map V0 p1.Pts))] 0)]) MD v1 (Y9 p2) (fun (x1:(Int×CurvePiece))=>(x1.1,x1.2)) (fun (x1:(Int×CurvePiece)) (g2:Unit)=> [((3,u1),some<|.box 2 [(di p2)]),((5,u1),some<|.box 255 (zs 6)),((7,u2),some<|.box 3 [(di x1.1)]),((8,u3),some<|.box 255 (Hz x1.2))]) (0,(CurvePiece.mk (Spot.mk 0 0) (CurveVector.mk 0 0) 0 0)) () _ W (IW hv1) (fun _=>W) hy1 (E8 W W) nofun ?_ ?_
 intro u6 hu6 hku6
 refine ⟨fun x1 g2=>(C6 W<|C6 W<|C6 W<|C6 W W),?_⟩
 intro r1 x1 g2 a1 z1 hrr1 hz1 ez1
 unfold Y9 at hz1
 show Df _ _ _ _ _ _ ⟨T [(14,(.d (.agg (AL a1.2)))),(13,(di a1.1)),(3,(.ptr (3,u1) 0)),(5,(.ptr (5,u1) 0)),(7,(.ptr (7,u2) 0)),(8,(.ptr (8,u3) 0)),(12,(.d (.fn (.func 260) [] [(.bp [(.list (List.map V0 p1.Pts))] 0)])))],G [((1000000,u6),some (.obj (T [(3,(.ptr (3,u1) 0)),(5,(.ptr (5,u1) 0)),(7,(.ptr (7,u2) 0)),(8,(.ptr (8,u3) 0)),(12,(.d (.fn (.func 260) [] [(.bp [(.list (List.map V0 p1.Pts))] 0)])))]) r1)),((3,u1),some (.box 2 [(di p2)])),((5,u1),some (.box 255 (zs 6))),((7,u2),some (.box 3 [(di x1.1)])),((8,u3),some (.box 255 (Hz x1.2)))]⟩
 refine B1<|sv W<|A1<|B9<|sm W<|P5 W G_hit (Hz a1.2) W (A1<|T0<|RW (gq W) ?_)
 refine A8<|B1<|sv W<|sv W<|sv W<|gp W (K3 W) (fun _=>W) (gf W (vl W (gq W) W)<|gf W (fun _=>(N5 W (gq W) W))<|gf W (fun w4=>(L6 (A3 w4) (A3 w4) W))<|sd W (N7 W W<|fun hc=>A3<|I7 hc)<|A1<|cc W hz1 (fun c1 hz1=> ?_)<|fun c1 hz1=> ?_)
 refine Kf fun _ _=>J4 (.d _) W W (J4 (.d _) W (A7 W (gq W) W W) (Ij _ _ _ _ _ W W W (gq W) (nl W) [(di a1.1)] W (Ij _ _ _ _ _ W W W (gq W) (nl W) (Hz a1.2) W (Vh ⟨W,?_⟩))))
 refine D9<|E1 ?_
 cases hz1
 exact RX (gq W) () (sg W<|sg W<|sg W<|B4 G_hit (.of W) trivial)
 refine A9<|D9<|E1 ?_
 cases hz1
 exact RX G_hit ()<|sg W<|sg W<|sg W<|sg W trivial
 rintro x1 g2 _ rfl qx1
 refine D9<|T0 ?_
 exact ⟨(),(Sb.after qx1<|E8 W W)⟩
 rintro _ ⟨g1,q1⟩
 refine B5 q1<|A4<|Kf fun _ _=>J4 (.d _) W (N5 W (gq W) W) (J4 (.d _) W (A7 W (gq W) W W) (J4 (.d _) W (N5 W G_hit W) (J4 (.ptr _ _) W W (J4 (.d _) W (N5 W (gq W) W) (J4 (.d _) W W (J4 (.ptr _ _) W W (J4 (.d _) W (N5 W (gq W) W) (J4 (.d _) W W (J4 (.d _) W W (J4 (.d _) W W (Ij _ _ _ _ _ W W W (gq W) (nl W) (Hz y1.2) W (J4 (.d _) W W (Vh ⟨W,?_⟩)))))))))))))
 refine B2 ?_
 cases h
 exact A6 (.inr W) (Yi (B3 W) (G8 W G_hit (nl W) W) (B3 W) C0 C0 C0) (.refl _)
def Gb (p1:Int)(p2:Int):Option Int:=
  (JO .i64 p1 p2).bind fun v1=>(Re p1 p2).bind fun v2=>cond (decide (v2<0)) (some (D4 (v1 - 1))) (some v1)
theorem BA(p1 p2 r)(h:Gb p1 p2=some r):PCall prog 200 [(i64 p1),(i64 p2)] (i64 r):=by
 refine C2 (fk func200 ntmps200 m0 (by with_unfolding_all rfl)) (nl W) ?_
 unfold Gb at h
 refine B5 (s0:=⟨T [(0,(.d _)),(1,(.d _))],G []⟩) (E8 W W) ?_
 refine B1<|sv W<|A1<|B1<|sv W<|sv W<|bs h fun _ hv1 h=>sd W (UF W W hv1)<|sv W<|A1<|A4<|B1<|sv W<|sv W<|bs h fun _ hv2 h=>sd W (Vg W W hv2)<|sv W<|A1<|cc W h (fun c1 h=> ?_)<|fun c1 h=> ?_
 refine B9<|sv W<|sv W<|sv W<|A1<|B1<|sv W<|sv W<|A1<|B2 ?_
 cases h
 exact A6 (.inr W) (B6 (B3 W) C0) (.refl _)
 refine A9<|B1<|sv W<|sv W<|A1<|B2 ?_
 cases h
 exact A6 (.inr W) (B6 (B3 W) C0) (.refl _)
def Jl [Lp](p1:Curve)(p2:Int):Option Spot:=
  (Dq p1).bind fun v1=>cond (v1 !=0) (some (Spot.mk 0 0)) ((Qi p1 (Li true 0 p2)).bind fun v2=>(Gb (D4 (v2.2.1.v.x*v2.2.2)) v2.2.1.l).bind fun v3=>(Gb (D4 (v2.2.1.v.y*v2.2.2)) v2.2.1.l).bind fun v4=>some (Spot.mk (D4 (v2.2.1.p.X+v3)) (D4 (v2.2.1.p.Y+v4))))
theorem Vl(p1 p2 r)(h:Jl p1 p2=some r):PCall prog 130 [(.agg [(.list (List.map V0 p1.Pts))]),(i64 p2)] (.agg [(i64 r.X),(i64 r.Y)]):=by
 refine C2 (fk func130 ntmps130 m0 (by with_unfolding_all rfl)) (nl W) ?_
 unfold Jl at h
 refine B5 (s0:=⟨T [(0,(.d _)),(1,(.d _))],G []⟩) (E8 W W) ?_
 refine B1<|sm W<|sn W W<|A1<|A4<|B1<|sd W (A7 W (gq W) W W)<|bs h fun _ hv1 h=>B0 W W A2 (Tx _ _ hv1) (.inl W) (sv W<|A1<|cc W h (fun c1 h=> ?_)<|fun c1 h=> ?_)
 refine B1<|sv W<|P5 W G_hit [(di 0),(di 0)] W (A1<|B2 ?_)
 cases h
 exact A6 (.inr W) (B6 (G8 W G_hit (nl W) W) C0) (.refl _)
 refine A9<|B1<|sd W (A7 W (gq W) W W)<|sv W<|sv W<|bs h fun v2 hv2 h=>B0 W W A2 (OU _ _ _ hv2) (.inl W) (sv W<|sv W<|sv W<|sv W<|sm W<|sv W<|P5 W G_hit (Hz v2.2.1) W (sv W<|A1<|A4<|E3 W<|sq W<|sq W<|sl W G_hit W<|sq W<|sp W W<|sl W G_hit W<|sv W<|sv W<|sq W<|sl W G_hit W<|bs h fun v3 hv3 h=>B0 W W A2 (BA _ _ _ hv3) (.inl W) (sv W<|sq W<|sp W W<|sl W G_hit W<|sq W<|sp W W<|sl W G_hit W<|sv W<|sv W<|sq W<|sl W G_hit W<|bs h fun v4 hv4 h=>B0 W W A2 (BA _ _ _ hv4) (.inl W) (sv W<|sv W<|P5 W (gq W) [(di<|D4 (v2.2.1.p.X+v3)),(di<|D4 (v2.2.1.p.Y+v4))] W (A1<|B2 ?_)))))
 cases h
 exact A6 (.inr W) (B6 (G8 W G_hit (nl W) W) C0) (.refl _)
def Rs [Lp](p1:Map)(p2:(List Int))(p3:Int):Option Spot:=
  (T8 p1 p2).bind fun v1=>(Oc p1 p2 (Li true 0 (Li false p3 v1))).bind fun v2=>(C3 p1.Lanes v2.1).bind fun v3=>(Jl v3.Curve_ v2.2.1).bind fun v4=>some v4
theorem BB(p1 p2 p3 r)(h:Rs p1 p2 p3=some r):PCall prog 193 [(.agg (P0 p1)),(.list (List.map A5 p2)),(i64 p3)] (.agg [(i64 r.X),(i64 r.Y)]):=by
 refine C2 (fk func193 ntmps193 m0 (by with_unfolding_all rfl)) (nl W) ?_
 unfold Rs at h
 refine B5 (s0:=⟨T [(0,(.d _)),(1,(.d _)),(2,(.d _))],G []⟩) (E8 W W) ?_
 refine B1<|sm W<|sn W W<|A1<|A4<|E3 W<|sd W (A7 W (gq W) W W)<|sv W<|sv W<|sd W (A7 W (gq W) W W)<|sv W<|bs h fun _ hv1 h=>B0 W W A2 (Kq _ _ _ hv1) (.inl W) (sv W<|sv W<|bs h fun _ hv2 h=>B0 W W A2 (MQ _ _ _ _ hv2) (.inl W) (sv W<|sv W<|sv W<|sv W<|sv W<|sv W<|sv W<|A1<|B1<|sq W<|sl W (gq W) W (sv W<|bs h fun _ hv3 h=>sd W (C4 W W hv3 W)<|sv W<|sd W (D0 W hv3 W W)<|sv W<|bs h fun v4 hv4 h=>B0 W W A2 (Vl _ _ _ hv4) (.inl W) (P5 W G_hit [(di v4.X),(di v4.Y)] W (A1<|B2 ?_)))))
 cases h
 exact A6 (.inr W) (B6 (G8 W G_hit (nl W) W) C0) (.refl _)
def Rt [Lp](p1:Spot)(p2:Spot):Option Int:=
  (Cw [p1,p2]).bind fun v1=>cond (!v1) (some 0) ((Im p1 p2).bind fun v2=>(Z7 v2 v2).bind fun v3=>some v3)
theorem MR(p1 p2 r)(h:Rt p1 p2=some r):PCall prog 256 [(.agg [(i64 p1.X),(i64 p1.Y)]),(.agg [(i64 p2.X),(i64 p2.Y)])] (i64 r):=by
 refine C2 (fk func256 ntmps256 (fun r=>if r==1 then [1002]else []) (by with_unfolding_all rfl)) (nl W) ?_
 unfold Rt at h
 refine B5 (s0:=⟨T [(0,(.d _)),(1,(.d _))],G []⟩) (E8 W W) ?_
 refine B1<|sm W<|sn W W<|sv W<|A1<|A4<|B1<|sd W (A7 W (gq W) W W)<|sd W (A7 W G_hit W W)<|B8 (dl V0 [p1,p2]) W W (bs h fun v1 hv1 h=>B0 W W A2 (Mm _ _ hv1) (.inl W) (B8 (.d (bo (!v1))) W W (A1<|cc W h (fun c1 h=> ?_)<|fun c1 h=> ?_)))
 refine B1<|sv W<|A1<|B2 ?_
 cases h
 exact A6 (.inr W) (B6 (B3 W) C0) (.refl _)
 refine A9<|B1<|sd W (A7 W (gq W) W W)<|sd W (A7 W G_hit W W)<|bs h fun v2 hv2 h=>B0 W W A2 (Mn _ _ _ hv2) (.inl W) (sm W<|P5 W G_hit [(di v2.x),(di v2.y)] W (A1<|B1<|sd W (A7 W G_hit W W)<|sd W (A7 W G_hit W W)<|bs h fun _ hv3 h=>B0 W W A2 (Gr _ _ _ hv3) (.inl W) (sv W<|A1<|B2 ?_)))
 cases h
 exact A6 (.inr W) (B6 (B3 W) C0) (.refl _)
def Qj [Lp](p1:Spot)(p2:Spot)(p3:Int):Option Bool:=
  (Cw [p1,p2]).bind fun v1=>((cond ((v1&& (decide (p3≥0)))&& (decide (p3≤33554432))) (Rt p1 p2) (some default))).bind fun v2=>some (((v1&& (decide (p3≥0)))&& (decide (p3≤33554432)))&& (decide (v2≤(D4 (p3*p3)))))
theorem DE(p1 p2 p3 r)(h:Qj p1 p2 p3=some r):PCall prog 232 [(.agg [(i64 p1.X),(i64 p1.Y)]),(.agg [(i64 p2.X),(i64 p2.Y)]),(i64 p3)] (bo r):=by
 refine C2 (fk func232 ntmps232 (fun r=>if r==1 then [1002]else []) (by with_unfolding_all rfl)) (nl W) ?_
 unfold Qj at h
 refine B5 (s0:=⟨T [(0,(.d _)),(1,(.d _)),(2,(.d _))],G []⟩) (E8 W W) ?_
 refine B1<|sm W<|sn W W<|sv W<|A1<|B1<|sd W (A7 W (gq W) W W)<|sd W (A7 W G_hit W W)<|B8 (dl V0 [p1,p2]) W W (bs h fun _ hv1 h=>B0 W W A2 (Mm _ _ hv1) (.inl W) (sv W<|gt W (fun _=>W)<|gt W (vb W W W)<|sa W W W<|sv W<|gt W (fun _=>W)<|gt W (vb W W W)<|sa W W W<|sv W<|gt W (fun _=>(A7 W (gq W) W W))<|gt W (fun _=>(A7 W G_hit W W))<|bs h fun v2 hv2 h=> ?_))
 refine L9 _ (i64 v2) (K6 W) (fun w7=>⟨_,[(.d (.agg [(i64 p1.X),(i64 p1.Y)])),(.d (.agg [(i64 p2.X),(i64 p2.Y)]))],_,_,(by simp only [A3 w7];rfl),W,A2,MR _ _ _<|C1 w7 hv2,(.inl W)⟩) ?_
 refine gt W (fun _=>W)<|gt W (fun _=>W)<|gt W (fun w10=>(L6 (A3 w10) (A3 w10) W))<|gt W (fun w11=>(L6 (A3 w11) (A3 w11) W))<|sa W W W<|sv W<|A1<|B2 ?_
 cases h
 exact A6 (.inr W) (B6 (B3 W) C0) (.refl _)
def Od (p1:(List Span))(p2:Span)(x1:Int):Option (Stp Int (Sum Unit (WorldSpan×Bool))):=
  cond (decide (x1< (p1.length:Int))) ((C3 p1 x1).bind fun v1=>cond (v1.Lane_==p2.Lane_) ((Cg (WorldSpan.mk v1.From v1.To) (WorldSpan.mk p2.From p2.To)).bind fun v2=>(Aa v2).bind fun v3=>some (.out (.inr (v2,(!v3))))) (some (.go (D4 (x1+1))))) (some (.out (.inl ())))
def Ru [Lp](p1:(List Span))(p2:Span):Option (WorldSpan×Bool):=
  thenS (loop (Od p1 p2) 0) (fun _=>some ((WorldSpan.mk 0 0),false)) (fun r=>some r)
theorem BC(p1 p2 r)(h:Ru p1 p2=some r):PCall prog 129 [(.list (List.map N8 p1)),(.agg (N8 p2))] (.tup [(.agg [(i64 r.1.from_),(i64 r.1.to)]),(bo r.2)]):=by
 refine C2 (fk func129 ntmps129 m0 (by with_unfolding_all rfl)) (nl W) ?_
 unfold Ru at h
 refine B5 (s0:=⟨T [(0,(.d _)),(1,(.d _))],G []⟩) (E8 W W) ?_
 refine lr<|fun u1 _=>sm W<|sm W<|sv W<|A1<|A4<|B1<|sv W<|sd W (D6 W)<|sv W<|A1<|js h fun z1 hz1 h=>D7 (fun s=> ∃(y1:Unit) (g1:Unit),z1= .inl y1∧Sb ⟨T [(4,(.ptr (4,u1) 0))],G [((4,u1),some<|.box 191 [(di 0),(di 0)])]⟩ s) ?_ ?_
 refine A8<|E2 (Od p1 p2) (fun (x1:Int) (g2:Unit)=>⟨T [(3,(.ptr (3,u1) 0)),(4,(.ptr (4,u1) 0)),(9,(dl N8 p1)),(10,(di (p1.length:Int))),(11,(di x1))],G [((3,u1),some<|.box 93 (CU p2)),((4,u1),some<|.box 191 [(di 0),(di 0)])]⟩) 0 () _ hz1 (E8 W W) ?_
 intro x1 g2 z2 hz2 ez2
 unfold Od at hz2
 refine B1<|sv W<|A1<|A4<|cc W hz2 (fun c1 hz2=> ?_)<|fun c1 hz2=> ?_
 refine A9<|A4<|A8<|B1<|bs hz2 fun v1 hv1 hz2=>sd W (C4 W W hv1 W)<|sd W (D0 W hv1 W W)<|sm W<|P5 W G_hit (CU v1) W (A1<|B1<|sq W<|sl W G_hit W<|sq W<|sl W (gq W) W (sv W<|A1<|cc W hz2 (fun c2 hz2=> ?_)<|fun c2 hz2=> ?_))
 refine B1<|sq W<|sl W G_hit W<|sq W<|sl W G_hit W<|sv W<|sq W<|sl W (gq W) W (sq W<|sl W (gq W) W (sv W<|bs hz2 fun v2 hv2 hz2=>B0 W W A2 (Ow _ _ _ hv2) (.inl W) (sm W<|P5 W G_hit [(di v2.from_),(di v2.to)] W (A1<|A4<|E3 W<|sd W (A7 W G_hit W W)<|sd W (A7 W G_hit W W)<|bs hz2 fun v3 hv3 hz2=>B0 W W A2 (Mh _ _ hv3) (.inl W) (B8 (.d (bo (!v3))) W W (P5 W (gq W) [(di v2.from_),(di v2.to)] W (sv W<|A1<|B2 ?_)))))))
 cases hz2
 obtain rfl:=ez2 _ rfl
 refine ⟨nofun,E7 ?_⟩
 rw [wC]at h
 cases h
 exact A6 (.inr W) (Jc (G8 W G_hit (nl W) W) (B3 W) C0 C0) (.refl _)
 refine A9<|D9<|B9<|sv W<|sv W<|A1<|E1 ?_
 cases hz2
 exact ⟨W,(),(E8 W W)⟩
 refine C7 W ?_
 cases hz2
 obtain rfl:=ez2 _ rfl
 refine ⟨nofun,C5 W<|T0 ?_⟩
 exact ⟨_,(),W,(E8 W W)⟩
 rintro _ ⟨y1,g1,rfl,q1⟩
 rw [wB]at h
 refine B5 q1<|B1<|sv W<|P5 W G_hit [(di 0),(di 0)] W (sv W<|A1<|B2 ?_)
 cases h
 exact A6 (.inr W) (Jc (G8 W G_hit (nl W) W) (B3 W) C0 C0) (.refl _)
def En (p1:CurveVector)(p2:CurveVector):Option Int:=
  some (D4 ((D4 (p1.x*p2.y)) - (D4 (p1.y*p2.x))))
theorem Zg(p1 p2 r)(h:En p1 p2=some r):PCall prog 269 [(.agg [(i64 p1.x),(i64 p1.y)]),(.agg [(i64 p2.x),(i64 p2.y)])] (i64 r):=by
 refine C2 (fk func269 ntmps269 m0 (by with_unfolding_all rfl)) (nl W) ?_
 unfold En at h
 refine B5 (s0:=⟨T [(0,(.d _)),(1,(.d _))],G []⟩) (E8 W W) ?_
 refine B1<|sm W<|sn W W<|sv W<|A1<|B1<|sq W<|sl W (gq W) W (sq W<|sl W G_hit W<|sv W<|sq W<|sl W (gq W) W (sq W<|sl W G_hit W<|sv W<|sv W<|sv W<|A1<|B2 ?_))
 cases h
 exact A6 (.inr W) (B6 (B3 W) C0) (.refl _)
def Xw (p1:Int):Option Int:=
  cond (decide (p1>0)) (some 1) (cond (decide (p1<0)) (some (-1)) (some 0))
theorem OV(p1 r)(h:Xw p1=some r):PCall prog 268 [(i64 p1)] (i64 r):=by
 refine C2 (fk func268 ntmps268 m0 (by with_unfolding_all rfl)) (nl W) ?_
 unfold Xw at h
 refine B5 (s0:=⟨T [(0,(.d _))],G []⟩) (E8 W W) ?_
 refine B1<|sv W<|A1<|A4<|A8<|B1<|sv W<|sv W<|sv W<|A1<|cc W h (fun c1 h=> ?_)<|fun c1 h=> ?_
 refine B1<|sv W<|A1<|B2 ?_
 cases h
 exact A6 (.inr W) (B6 (B3 W) C0) (.refl _)
 refine B1<|sv W<|sv W<|sv W<|A1<|cc W h (fun c2 h=> ?_)<|fun c2 h=> ?_
 refine B1<|sv W<|A1<|B2 ?_
 cases h
 exact A6 (.inr W) (B6 (B3 W) C0) (.refl _)
 refine A9<|D9<|B1<|sv W<|A1<|B2 ?_
 cases h
 exact A6 (.inr W) (B6 (B3 W) C0) (.refl _)
def Lb [Lp](p1:Spot)(p2:Spot)(p3:Spot):Option Int:=
  (Cw [p1,p2,p3]).bind fun v1=>cond (!v1) (some 0) ((Im p1 p2).bind fun v2=>(Im p1 p3).bind fun v3=>(En v2 v3).bind fun v4=>(Xw v4).bind fun v5=>some v5)
theorem Qw(p1 p2 p3 r)(h:Lb p1 p2 p3=some r):PCall prog 257 [(.agg [(i64 p1.X),(i64 p1.Y)]),(.agg [(i64 p2.X),(i64 p2.Y)]),(.agg [(i64 p3.X),(i64 p3.Y)])] (i64 r):=by
 refine C2 (fk func257 ntmps257 (fun r=>if r==1 then [1003]else []) (by with_unfolding_all rfl)) (nl W) ?_
 unfold Lb at h
 refine B5 (s0:=⟨T [(0,(.d _)),(1,(.d _)),(2,(.d _))],G []⟩) (E8 W W) ?_
 refine B1<|sm W<|sn W W<|sm W<|sv W<|A1<|A4<|B1<|sd W (A7 W (gq W) W W)<|sd W (A7 W (gq W) W W)<|sd W (A7 W G_hit W W)<|B8 (dl V0 [p1,p2,p3]) W W (bs h fun v1 hv1 h=>B0 W W A2 (Mm _ _ hv1) (.inl W) (B8 (.d (bo (!v1))) W W (A1<|cc W h (fun c1 h=> ?_)<|fun c1 h=> ?_)))
 refine B1<|sv W<|A1<|B2 ?_
 cases h
 exact A6 (.inr W) (B6 (B3 W) C0) (.refl _)
 refine A9<|A4<|E3 W<|sd W (A7 W (gq W) W W)<|sd W (A7 W (gq W) W W)<|bs h fun _ hv2 h=>B0 W W A2 (Mn _ _ _ hv2) (.inl W) (sd W (A7 W (gq W) W W)<|sd W (A7 W G_hit W W)<|bs h fun _ hv3 h=>B0 W W A2 (Mn _ _ _ hv3) (.inl W) (bs h fun _ hv4 h=>B0 W W A2 (Zg _ _ _ hv4) (.inl W) (bs h fun _ hv5 h=>B0 W W A2 (OV _ _ hv5) (.inl W) (sv W<|A1<|B2 ?_))))
 cases h
 exact A6 (.inr W) (B6 (B3 W) C0) (.refl _)
def Dw (p1:Spot)(p2:Spot)(p3:Spot):Option Bool:=
  some ((((decide ((Li false p1.X p2.X)≤p3.X))&& (decide (p3.X≤(Li true p1.X p2.X))))&& (decide ((Li false p1.Y p2.Y)≤p3.Y)))&& (decide (p3.Y≤(Li true p1.Y p2.Y))))
theorem Ma(p1 p2 p3 r)(h:Dw p1 p2 p3=some r):PCall prog 258 [(.agg [(i64 p1.X),(i64 p1.Y)]),(.agg [(i64 p2.X),(i64 p2.Y)]),(.agg [(i64 p3.X),(i64 p3.Y)])] (bo r):=by
 refine C2 (fk func258 ntmps258 m0 (by with_unfolding_all rfl)) (nl W) ?_
 unfold Dw at h
 refine B5 (s0:=⟨T [(0,(.d _)),(1,(.d _)),(2,(.d _))],G []⟩) (E8 W W) ?_
 refine B1<|sm W<|sn W W<|sm W<|sv W<|A1<|B1<|sq W<|sl W (gq W) W (sq W<|sl W (gq W) W (sv W<|sq W<|sl W G_hit W<|sv W<|sv W<|gp W (K6 W) (fun _=>W) (gt W (vl W G_hit W)<|gp W (K6 W) (fun _=>W) (gt W (vl W (gq W) W)<|gp W (K6 W) (fun _=>W) (gt W (vl W (gq W) W) ?_)))))
 refine gt W (fun w7=>(by simp only [A3 w7];rfl)) ?_
 refine gt W (fun w8=>(L6 (A3 w8) (A3 w8) W))<|sa W W W<|sv W<|gp W (K6 W) (fun _=>W) (gt W (vl W (gq W) W)<|gp W (K6 W) (fun _=>W) (gt W (vl W (gq W) W) ?_))
 refine gt W (fun w13=>(by simp only [A3 w13];rfl)) ?_
 refine gp W (K6 W) (fun _=>W) (gt W (vl W G_hit W)<|gt W (fun w16=>(L6 (A3 w16) (A3 w16) W))<|sa W W W<|sv W<|gp W (K6 W) (fun _=>W) (gt W (vl W G_hit W)<|gp W (K6 W) (fun _=>W) (gt W (vl W (gq W) W)<|gp W (K6 W) (fun _=>W) (gt W (vl W (gq W) W) ?_))))
 refine gt W (fun w23=>(by simp only [A3 w23];rfl)) ?_
 refine gt W (fun w24=>(L6 (A3 w24) (A3 w24) W))<|sa W W W<|sv W<|A1<|B2 ?_
 cases h
 exact A6 (.inr W) (B6 (B3 W) C0) (.refl _)
end
end Go.Abs.World
