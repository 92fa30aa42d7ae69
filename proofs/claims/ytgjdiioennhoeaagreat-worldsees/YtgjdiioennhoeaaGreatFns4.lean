/-
  The functions, part 4.
-/
import Derived.Test.YtgjdiioennhoeaaGreatFns3
set_option maxRecDepth 20000
set_option maxHeartbeats 4000000
set_option linter.unusedVariables false
namespace Go.Abs.World
noncomputable section
open Go Go.Abs Go.Proofs Tryz
attribute [local irreducible] L4 Em Cv
def Is [Lp](p1:Map)(p2:Int)(x1:((List Int)×Int)):Option (Stp ((List Int)×Int) (List Int)):=
  cond (decide (x1.2< (p1.Lanes.length:Int))) ((C3 p1.Lanes x1.2).bind fun v1=>(Pj v1.Next p2).bind fun v2=>cond v2 ((Am x1.1 [x1.2]).bind fun v3=>some (.go (v3,(D8 (x1.2+1))))) (some (.go (x1.1,(D8 (x1.2+1)))))) (some (.out x1.1))
def Kw [Lp](p1:Map)(p2:Int):Option (List Int):=
  (loop (Is p1 p2) ([],0)).bind fun y1=>some y1
theorem Xl(p1 p2 r)(h:Kw p1 p2=some r):PCall prog 189 [(.agg (P1 p1)),(i64 p2)] (.list (List.map A5 r)):=by
 refine C2 (fk func189 ntmps189 (fun r=>if r==6 then [1002]else []) (by with_unfolding_all rfl)) (nl W) ?_
 unfold Kw at h
 refine B4 (s0:=⟨T [(0,(.d _)),(1,(.d _))],G []⟩) (E6 W W) ?_
 refine lr<|fun u1 _=>sm W<|sv W<|A1<|B1<|sv W<|A1<|A4<|B1<|sv W<|A1<|bs h fun y1 hy1 h=>D4 (fun s=> ∃g1:Nat,Sb ⟨T [(5,(oS y1 (25,g1)))],G [((25,g1),oB 3 1 A5 y1)]⟩ s) ?_ ?_
 refine A8<|E2 (Is p1 p2) (fun (x1:((List Int)×Int)) (g2:Nat)=>⟨T [(1,(di p2)),(2,(.ptr (2,u1) 0)),(5,(oS x1.1 (25,g2))),(6,(di x1.2))],G [((2,u1),some<|.box 33 (K8 p1)),((25,g2),oB 3 1 A5 x1.1)]⟩) ([],0) 0 _ hy1 (D5 (X3 W)<|B5 G_hit (.of W)<|P4 trivial) ?_
 intro x1 g2 z1 hz1 ez1
 unfold Is at hz1
 refine A4<|B1<|sv W<|sq W<|sl W G_hit W<|sd W (D6 W)<|sv W<|A1<|cc W hz1 (fun c1 hz1=> ?_)<|fun c1 hz1=> ?_
 refine A9<|A4<|A8<|B1<|sq W<|sl W G_hit W<|sv W<|bs hz1 fun _ hv1 hz1=>sd W (C4 W W hv1 W)<|sv W<|sd W (C7 W hv1 W)<|sv W<|bs hz1 fun _ hv2 hz1=>B0 W W A3 (Wr _ _ _ hv2) (.inl W) (A1<|cc W hz1 (fun c2 hz1=> ?_)<|fun c2 hz1=> ?_)
 refine Ba fun u6 _=>B8 (oS x1.1 (25,g2)) W W (sv W<|B8 (dl A5 [x1.2]) W W (bs hz1 fun _ hv3 hz1=>N8 A5 (25,g2) x1.1 x1.2 [] _ (K1<|fun _=>W) W (gq W) hv3 (ss W<|A1<|D9<|C0<|sv W<|sv W<|sv W<|A1<|E1 ?_)))
 cases hz1
 exact ⟨W,u6,(D5 ⟨.of W, .of W,(.of (S6<|T0 hv3).symm), .of W,trivial⟩<|sg W<|M6 G_hit trivial)⟩
 refine A9<|D9<|C0<|sv W<|sv W<|sv W<|A1<|E1 ?_
 cases hz1
 exact ⟨W,g2,(D5 (X3 W)<|B5 G_hit (.of W)<|B7 (gq W) trivial)⟩
 refine C6 W ?_
 cases hz1
 obtain rfl:=ez1 _ rfl
 refine ⟨nofun,C5 W<|T3 ?_⟩
 exact ⟨g2,(D5 ⟨.of W,trivial⟩<|B7 (gq W) trivial)⟩
 rintro _ ⟨g1,q1⟩
 refine B4 q1<|B1<|B8 (oS y1 (25,g1)) W W (B8 (oS y1 (25,g1)) W W (A1<|B2 ?_))
 cases h
 exact A6 (.inr W) (B6 (B3 W)<|R9 G_hit) R8
def X0 [Lp](p1:Map)(p2:(List Int))(x1:Int):Option (Stp Int (Sum Unit Int)):=
  cond (decide (x1< (p2.length:Int))) ((C3 p2 (D8 (x1 - 1))).bind fun v6=>(C3 p1.Lanes v6).bind fun v7=>(C3 p2 x1).bind fun v8=>(Pj v7.Next v8).bind fun v9=>cond (!v9) (some (.out (.inr 13))) (some (.go (D8 (x1+1))))) (some (.out (.inl ())))
def Z7 [Lp](p1:Map)(p2:(List Int)):Option Int:=
  (Kb p1).bind fun v1=>cond (v1 !=0) (some v1) (((cond (!(((p2.length:Int)==0)||(decide ((p2.length:Int)>8)))) (C3 p2 0) (some default))).bind fun v2=>((cond (!((((p2.length:Int)==0)||(decide ((p2.length:Int)>8)))||(decide (v2<0)))) (C3 p2 0) (some default))).bind fun v3=>((cond (!(((((p2.length:Int)==0)||(decide ((p2.length:Int)>8)))||(decide (v2<0)))||(decide (v3≥(p1.Lanes.length:Int))))) (C3 p2 0) (some default))).bind fun v4=>((cond (!(((((p2.length:Int)==0)||(decide ((p2.length:Int)>8)))||(decide (v2<0)))||(decide (v3≥(p1.Lanes.length:Int))))) (Kw p1 v4) (some default))).bind fun v5=>cond ((((((p2.length:Int)==0)||(decide ((p2.length:Int)>8)))||(decide (v2<0)))||(decide (v3≥(p1.Lanes.length:Int))))||(decide ((v5.length:Int)>0))) (some 13) (thenS (loop (X0 p1 p2) 1) (fun _=>some 0) (fun r=>some r)))
theorem Gh(p1 p2 r)(h:Z7 p1 p2=some r):PCall prog 102 [(.agg (P1 p1)),(.list (List.map A5 p2))] (i64 r):=by
 refine C2 (fk func102 ntmps102 m0 (by with_unfolding_all rfl)) (nl W) ?_
 unfold Z7 at h
 refine B4 (s0:=⟨T [(0,(.d _)),(1,(.d _))],G []⟩) (E6 W W) ?_
 refine lr<|fun u1 _=>sm W<|sv W<|A1<|B1<|sd W (A7 W G_hit W W)<|bs h fun _ hv1 h=>B0 W W A3 (Ti _ _ hv1) (.inl W) (sv W<|A1<|A4<|B1<|sv W<|sv W<|A1<|cc W h (fun c1 h=> ?_)<|fun c1 h=> ?_)
 refine B1<|sv W<|sv W<|A1<|B2 ?_
 cases h
 exact A6 (.inr W) (B6 (B3 W) C1) (.refl _)
 refine A9<|A4<|A4<|E0 W<|sv W<|sd W (D6 W)<|sv W<|sv W<|gf W (fun _=>W)<|gf W (fun w2=>(D6<|A2 w2))<|gf W (vb W W W)<|sd W (N9 W W<|fun hc=>A2<|J2 hc)<|sv W<|gf W (fun _=>W)<|bs h fun _ hv2 h=>gf W (fun w5=>(C4 (A2 w5) W (B9 w5 hv2) W))<|gf W (fun w6=>(C7 (A2 w6) (B9 w6 hv2) W))<|gf W (vb W W W)<|sd W (N9 W W<|fun hc=>A2<|J2 hc)<|sv W<|gf W (fun _=>W)<|bs h fun _ hv3 h=>gf W (fun w9=>(C4 (A2 w9) W (B9 w9 hv3) W))<|gf W (fun w10=>(C7 (A2 w10) (B9 w10 hv3) W))<|gp W (K6 W) (fun _=>W) (gf W (vl W G_hit W)<|gf W (fun w13=>(D6<|A2 w13))<|gf W (fun w14=>(L6 (A2 w14) (A2 w14) W))<|sd W (N9 W W<|fun hc=>A2<|J2 hc)<|sv W<|gf W (fun _=>(A7 W G_hit W W))<|gf W (fun _=>W)<|bs h fun v4 hv4 h=>gf W (fun w17=>(C4 (A2 w17) W (B9 w17 hv4) W))<|gf W (fun w18=>(C7 (A2 w18) (B9 w18 hv4) W))<|bs h fun v5 hv5 h=> ?_)
 refine M2 _ (.list (List.map A5 v5)) (K6 W) (fun w19=>⟨_,[(.d (.agg (P1 p1))),(di v4)],_,_,(by simp only [A2 w19];rfl),W,A3,Xl _ _ _<|B9 w19 hv5,(.inl W)⟩) ?_
 refine gf W (fun w20=>(D6<|A2 w20))<|gf W (vb W W W)<|sd W (N9 W W<|fun hc=>A2<|J2 hc)<|A1<|cc W h (fun c2 h=> ?_)<|fun c2 h=> ?_
 refine B1<|sv W<|A1<|B2 ?_
 cases h
 exact A6 (.inr W) (B6 (B3 W) C1) (.refl _)
 refine A9<|A4<|B1<|sv W<|A1<|js h fun z1 hz1 h=>D4 (fun s=> ∃(y1:Unit) (g1:Unit),z1= .inl y1∧Sb ⟨T [],G []⟩ s) ?_ ?_
 refine A8<|E2 (X0 p1 p2) (fun (x1:Int) (g2:Unit)=>⟨T [(1,(dl A5 p2)),(2,(.ptr (2,u1) 0)),(6,(di x1))],G [((2,u1),some<|.box 33 (K8 p1))]⟩) 1 () _ hz1 (E6 W W) ?_
 intro x1 g2 z2 hz2 ez2
 unfold X0 at hz2
 refine A4<|B1<|sv W<|sv W<|sd W (D6 W)<|sv W<|A1<|cc W hz2 (fun c3 hz2=> ?_)<|fun c3 hz2=> ?_
 refine A9<|A4<|A8<|A4<|E0 W<|sq W<|sl W G_hit W<|sv W<|sv W<|sv W<|bs hz2 fun _ hv6 hz2=>sd W (C4 W W hv6 W)<|sd W (C7 W hv6 W)<|bs hz2 fun _ hv7 hz2=>sd W (C4 W W hv7 W)<|sv W<|sd W (C7 W hv7 W)<|sv W<|sv W<|bs hz2 fun _ hv8 hz2=>sd W (C4 W W hv8 W)<|sd W (C7 W hv8 W)<|bs hz2 fun v9 hv9 hz2=>B0 W W A3 (Wr _ _ _ hv9) (.inl W) (B8 (.d (bo (!v9))) W W (A1<|cc W hz2 (fun c4 hz2=> ?_)<|fun c4 hz2=> ?_))
 refine B1<|sv W<|A1<|B2 ?_
 cases hz2
 obtain rfl:=ez2 _ rfl
 refine ⟨nofun,F1 ?_⟩
 rw [wA]at h
 cases h
 exact A6 (.inr W) (B6 (B3 W) C1) (.refl _)
 refine A9<|D9<|C0<|sv W<|sv W<|sv W<|A1<|E1 ?_
 cases hz2
 exact ⟨W,(),(E6 W W)⟩
 refine C6 W ?_
 cases hz2
 obtain rfl:=ez2 _ rfl
 refine ⟨nofun,C5 W<|T3 ?_⟩
 exact ⟨_,(),W,(E6 W W)⟩
 rintro _ ⟨y1,g1,rfl,q1⟩
 rw [bZ]at h
 refine B4 q1<|B1<|sv W<|A1<|B2 ?_
 cases h
 exact A6 (.inr W) (B6 (B3 W) C1) (.refl _)
def Kx [Lp](p1:Map)(p2:Int):Option Int:=
  (C3 p1.Lanes p2).bind fun v1=>(De v1.Curve_).bind fun v2=>some v2
theorem Xm(p1 p2 r)(h:Kx p1 p2=some r):PCall prog 195 [(.agg (P1 p1)),(i64 p2)] (i64 r):=by
 refine C2 (fk func195 ntmps195 m0 (by with_unfolding_all rfl)) (nl W) ?_
 unfold Kx at h
 refine B4 (s0:=⟨T [(0,(.d _)),(1,(.d _))],G []⟩) (E6 W W) ?_
 refine B1<|sm W<|sv W<|A1<|B1<|sq W<|sl W G_hit W<|sv W<|bs h fun _ hv1 h=>sd W (C4 W W hv1 W)<|sv W<|sd W (D1 W hv1 W W)<|bs h fun _ hv2 h=>B0 W W A3 (Rf _ _ hv2) (.inl W) (sv W<|A1<|B2 ?_)
 cases h
 exact A6 (.inr W) (B6 (B3 W) C1) (.refl _)
def Cu [Lp](p1:Map)(p2:(List Int))(x1:((List Int)×Int×Int)):Option (Stp ((List Int)×Int×Int) ((List Int)×Int)):=
  cond (decide (x1.2.2< (p2.length:Int))) ((Am x1.1 [x1.2.1]).bind fun v1=>(C3 p2 x1.2.2).bind fun v2=>(Kx p1 v2).bind fun v3=>some (.go (v1,(D8 (x1.2.1+v3)),(D8 (x1.2.2+1))))) (some (.out (x1.1,x1.2.1)))
def Ky [Lp](p1:Map)(p2:(List Int)):Option ((List Int)×Int):=
  (loop (Cu p1 p2) ([],0,0)).bind fun y1=>some (y1.1,y1.2)
theorem Xn(p1 p2 r)(h:Ky p1 p2=some r):PCall prog 186 [(.agg (P1 p1)),(.list (List.map A5 p2))] (.tup [(.list (List.map A5 r.1)),(i64 r.2)]):=by
 refine C2 (fk func186 ntmps186 (fun r=>if r==6 then [1002]else []) (by with_unfolding_all rfl)) (nl W) ?_
 unfold Ky at h
 refine B4 (s0:=⟨T [(0,(.d _)),(1,(.d _))],G []⟩) (E6 W W) ?_
 refine lr<|fun u1 _=>sm W<|sv W<|sv W<|A1<|B1<|sv W<|A1<|B1<|sv W<|A1<|A4<|B1<|sv W<|A1<|bs h fun y1 hy1 h=>D4 (fun s=> ∃g1:Nat,Sb ⟨T [(6,(oS y1.1 (18,g1))),(7,(di y1.2))],G [((18,g1),oB 2 1 A5 y1.1)]⟩ s) ?_ ?_
 refine A8<|E2 (Cu p1 p2) (fun (x1:((List Int)×Int×Int)) (g2:Nat)=>⟨T [(1,(dl A5 p2)),(2,(.ptr (2,u1) 0)),(6,(oS x1.1 (18,g2))),(7,(di x1.2.1)),(8,(di x1.2.2))],G [((2,u1),some<|.box 33 (K8 p1)),((18,g2),oB 2 1 A5 x1.1)]⟩) ([],0,0) 0 _ hy1 (D5 (X3 W)<|B5 G_hit (.of W)<|P4 trivial) ?_
 intro x1 g2 z1 hz1 ez1
 unfold Cu at hz1
 refine A4<|B1<|sv W<|sv W<|sd W (D6 W)<|sv W<|A1<|cc W hz1 (fun c1 hz1=> ?_)<|fun c1 hz1=> ?_
 refine A9<|A4<|A8<|lr<|fun u6 _=>B8 (oS x1.1 (18,g2)) W W (sv W<|B8 (dl A5 [x1.2.1]) W W (bs hz1 fun _ hv1 hz1=>N8 A5 (18,g2) x1.1 x1.2.1 [] _ (K1<|fun _=>W) W (gq W) hv1 (ss W<|A1<|E0 W<|sv W<|sd W (A7 W (gq W) W W)<|sv W<|sv W<|bs hz1 fun _ hv2 hz1=>sd W (C4 W W hv2 W)<|sd W (C7 W hv2 W)<|bs hz1 fun _ hv3 hz1=>B0 W W A3 (Xm _ _ _ hv3) (.inl W) (sv W<|sv W<|A1<|D9<|C0<|sv W<|sv W<|sv W<|A1<|E1 ?_))))
 cases hz1
 exact ⟨W,u6,(D5 ⟨.of W, .of W,(.of (S6<|T0 hv1).symm), .of W, .of W,trivial⟩<|sg W<|M6 G_hit trivial)⟩
 refine C6 W ?_
 cases hz1
 obtain rfl:=ez1 _ rfl
 refine ⟨nofun,C5 W<|T3 ?_⟩
 exact ⟨g2,(D5 (X3 W)<|B7 (gq W) trivial)⟩
 rintro _ ⟨g1,q1⟩
 refine B4 q1<|B1<|B8 (oS y1.1 (18,g1)) W W (sv W<|B8 (oS y1.1 (18,g1)) W W (sv W<|A1<|B2 ?_))
 cases h
 exact A6 (.inr W) (Lh (B3 W) (B3 W) (R9 G_hit) C1) (.tup (.cons R8 A3))
def V1 [Lp](p1:Map)(p2:(List Int)):Option Int:=
  (Z7 p1 p2).bind fun v1=>cond (v1 !=0) (some 0) ((Ky p1 p2).bind fun v2=>some v2.2)
theorem Kc(p1 p2 r)(h:V1 p1 p2=some r):PCall prog 97 [(.agg (P1 p1)),(.list (List.map A5 p2))] (i64 r):=by
 refine C2 (fk func97 ntmps97 m0 (by with_unfolding_all rfl)) (nl W) ?_
 unfold V1 at h
 refine B4 (s0:=⟨T [(0,(.d _)),(1,(.d _))],G []⟩) (E6 W W) ?_
 refine B1<|sm W<|sv W<|A1<|A4<|B1<|sd W (A7 W G_hit W W)<|sv W<|bs h fun _ hv1 h=>B0 W W A3 (Gh _ _ _ hv1) (.inl W) (sv W<|A1<|cc W h (fun c1 h=> ?_)<|fun c1 h=> ?_)
 refine B1<|sv W<|A1<|B2 ?_
 cases h
 exact A6 (.inr W) (B6 (B3 W) C1) (.refl _)
 refine A9<|B1<|sd W (A7 W G_hit W W)<|sv W<|bs h fun _ hv2 h=>B0 W W A3 (Xn _ _ _ hv2) (.inl W) (sv W<|sv W<|sv W<|sv W<|sv W<|A1<|B1<|sv W<|sv W<|A1<|B2 ?_)
 cases h
 exact A6 (.inr W) (B6 (B3 W) C1) (.refl _)
def Fi [Lp](p1:Map)(p2:(List Int)):Option (List Int):=
  (Z7 p1 p2).bind fun v1=>cond (v1 !=0) (some []) ((Ky p1 p2).bind fun v2=>some v2.1)
theorem Rg(p1 p2 r)(h:Fi p1 p2=some r):PCall prog 96 [(.agg (P1 p1)),(.list (List.map A5 p2))] (.list (List.map A5 r)):=by
 refine C2 (fk func96 ntmps96 m0 (by with_unfolding_all rfl)) (nl W) ?_
 unfold Fi at h
 refine B4 (s0:=⟨T [(0,(.d _)),(1,(.d _))],G []⟩) (E6 W W) ?_
 refine B1<|sm W<|sv W<|A1<|A4<|B1<|sd W (A7 W G_hit W W)<|sv W<|bs h fun _ hv1 h=>B0 W W A3 (Gh _ _ _ hv1) (.inl W) (sv W<|A1<|cc W h (fun c1 h=> ?_)<|fun c1 h=> ?_)
 refine B1<|sv W<|A1<|B2 ?_
 cases h
 exact A6 (.inr W) (B6 (B3 W) C1) DLe.nil
 refine A9<|B1<|sd W (A7 W G_hit W W)<|sv W<|bs h fun _ hv2 h=>B0 W W A3 (Xn _ _ _ hv2) (.inl W) (sv W<|sv W<|sv W<|sv W<|sv W<|A1<|B1<|sv W<|sv W<|A1<|B2 ?_)
 cases h
 exact A6 (.inr W) (B6 (B3 W) C1) (.refl _)
def Fv (p2:Agent)(v1:(List Int))(x1:(Int×Int)):Option (Stp (Int×Int) Int):=
  cond (decide (x1.2< (v1.length:Int))) ((C3 v1 x1.2).bind fun v2=>cond (decide (v2≤p2.S)) (some (.go (x1.2,(D8 (x1.2+1))))) (some (.go (x1.1,(D8 (x1.2+1)))))) (some (.out x1.1))
def Tj [Lp](p1:Map)(p2:Agent):Option (Int×Int):=
  (Fi p1 p2.Route).bind fun v1=>(loop (Fv p2 v1) (0,0)).bind fun y1=>(C3 p2.Route y1).bind fun v3=>(C3 v1 y1).bind fun v4=>some (v3,(D8 (p2.S - v4)))
theorem NH(p1 p2 r)(h:Tj p1 p2=some r):PCall prog 168 [(.agg (P1 p1)),(.agg (C8 p2))] (.tup [(i64 r.1),(i64 r.2)]):=by
 refine C2 (fk func168 ntmps168 m0 (by with_unfolding_all rfl)) (nl W) ?_
 unfold Tj at h
 refine B4 (s0:=⟨T [(0,(.d _)),(1,(.d _))],G []⟩) (E6 W W) ?_
 refine lr<|fun u1 _=>sm W<|sm W<|sv W<|sv W<|A1<|B1<|sd W (A7 W (gq W) W W)<|sq W<|sl W G_hit W<|bs h fun v1 hv1 h=>B0 W W A3 (Rg _ _ _ hv1) (.inl W) (sv W<|A1<|B1<|sv W<|A1<|A4<|B1<|sv W<|A1<|bs h fun y1 hy1 h=>D4 (fun s=> ∃g1:Unit,Sb ⟨T [(3,(.ptr (3,u1) 0)),(6,(dl A5 v1)),(7,(di y1))],G [((3,u1),some<|.box 45 (T4 p2))]⟩ s) ?_ ?_)
 refine A8<|E2 (Fv p2 v1) (fun (x1:(Int×Int)) (g2:Unit)=>⟨T [(3,(.ptr (3,u1) 0)),(6,(dl A5 v1)),(7,(di x1.1)),(8,(di x1.2))],G [((3,u1),some<|.box 45 (T4 p2))]⟩) (0,0) () _ hy1 (E6 W W) ?_
 intro x1 g2 z1 hz1 ez1
 unfold Fv at hz1
 refine A4<|B1<|sv W<|sv W<|sd W (D6 W)<|sv W<|A1<|cc W hz1 (fun c1 hz1=> ?_)<|fun c1 hz1=> ?_
 refine A9<|A4<|A8<|A4<|E0 W<|sv W<|sv W<|bs hz1 fun _ hv2 hz1=>sd W (C4 W W hv2 W)<|sd W (C7 W hv2 W)<|sq W<|sl W G_hit W<|sv W<|A1<|cc W hz1 (fun c2 hz1=> ?_)<|fun c2 hz1=> ?_
 refine C0<|sv W<|sv W<|A1<|D9<|C0<|sv W<|sv W<|sv W<|A1<|E1 ?_
 cases hz1
 exact ⟨W,(),(E6 W W)⟩
 refine A9<|D9<|C0<|sv W<|sv W<|sv W<|A1<|E1 ?_
 cases hz1
 exact ⟨W,(),(E6 W W)⟩
 refine C6 W ?_
 cases hz1
 obtain rfl:=ez1 _ rfl
 refine ⟨nofun,C5 W<|T3 ?_⟩
 exact ⟨(),(E6 W W)⟩
 rintro _ ⟨g1,q1⟩
 refine B4 q1<|A4<|E0 W<|sq W<|sl W G_hit W<|sv W<|bs h fun _ hv3 h=>sd W (C4 W W hv3 W)<|sd W (C7 W hv3 W)<|sq W<|sl W G_hit W<|sv W<|sv W<|bs h fun _ hv4 h=>sd W (C4 W W hv4 W)<|sd W (C7 W hv4 W)<|sv W<|sv W<|sv W<|A1<|B2 ?_
 cases h
 exact A6 (.inr W) (Lh (B3 W) (B3 W) C1 C1) (.refl _)
def Tk [Lp](p1:Map)(p2:Agent):Option Bool:=
  (V1 p1 p2.Route).bind fun v1=>some (decide ((D8 (p2.S - p2.Len))>v1))
theorem NI(p1 p2 r)(h:Tk p1 p2=some r):PCall prog 169 [(.agg (P1 p1)),(.agg (C8 p2))] (bo r):=by
 refine C2 (fk func169 ntmps169 m0 (by with_unfolding_all rfl)) (nl W) ?_
 unfold Tk at h
 refine B4 (s0:=⟨T [(0,(.d _)),(1,(.d _))],G []⟩) (E6 W W) ?_
 refine B1<|sm W<|sn W W<|sv W<|A1<|A4<|E0 W<|sq W<|sl W G_hit W<|sq W<|sl W G_hit W<|sv W<|sd W (A7 W (gq W) W W)<|sq W<|sl W G_hit W<|bs h fun _ hv1 h=>B0 W W A3 (Kc _ _ _ hv1) (.inl W) (sv W<|sv W<|A1<|B2 ?_)
 cases h
 exact A6 (.inr W) (B6 (B3 W) C1) (.refl _)
def Gr [Lp](p1:Map)(p2:State)(p3:Int):Option Int:=
  (C3 p2.Agents p3).bind fun v1=>(Z7 p1 v1.Route).bind fun v2=>cond (v2 !=0) (some 13) (((cond (!(((((decide (v1.Len<300))||(decide (v1.Len>20000)))||(decide (v1.Begin<0)))||(decide (v1.Begin>1099511627776)))||(decide (v1.S<0)))) (V1 p1 v1.Route) (some default))).bind fun v3=>cond ((((((decide (v1.Len<300))||(decide (v1.Len>20000)))||(decide (v1.Begin<0)))||(decide (v1.Begin>1099511627776)))||(decide (v1.S<0)))||(decide (v1.S>(D8 ((D8 (v3+v1.Len))+2000))))) (some 2) ((Tj p1 v1).bind fun v4=>(C3 p1.Lanes v4.1).bind fun v5=>(Fg v5.Kind).bind fun v6=>cond ((decide (v1.V<0))||(decide (v1.V>v6.1))) (some 2) ((Tk p1 v1).bind fun v7=>cond (((!(v1.Gone==v7))||((decide (v1.Begin>p2.Tick))&& (v1.S !=0)))||((p3==0)&& (v1.Begin !=0))) (some 10) (some 0))))
theorem BK(p1 p2 p3 r)(h:Gr p1 p2 p3=some r):PCall prog 77 [(.agg (P1 p1)),(.agg (Y8 p2)),(i64 p3)] (i64 r):=by
 refine C2 (fk func77 ntmps77 m0 (by with_unfolding_all rfl)) (nl W) ?_
 unfold Gr at h
 refine B4 (s0:=⟨T [(0,(.d _)),(1,(.d _)),(2,(.d _))],G []⟩) (E6 W W) ?_
 refine B1<|sm W<|sn W W<|sv W<|A1<|B1<|sq W<|sl W G_hit W<|sv W<|bs h fun v1 hv1 h=>sd W (C4 W W hv1 W)<|sd W (D1 W hv1 W W)<|sm W<|R4 W G_hit (T4 v1) W (A1<|A4<|B1<|sd W (A7 W (gq W) W W)<|sq W<|sl W G_hit W<|bs h fun _ hv2 h=>B0 W W A3 (Gh _ _ _ hv2) (.inl W) (sv W<|A1<|cc W h (fun c1 h=> ?_)<|fun c1 h=> ?_))
 refine B1<|sv W<|A1<|B2 ?_
 cases h
 exact A6 (.inr W) (B6 (B3 W) C1) (.refl _)
 refine A9<|A4<|A4<|E0 W<|sq W<|sl W G_hit W<|sv W<|sv W<|gp W (K6 W) (fun _=>W) (gf W (vl W G_hit W)<|gf W (vb W W W)<|sd W (N9 W W<|fun hc=>A2<|J2 hc)<|sv W<|gp W (K6 W) (fun _=>W) (gf W (vl W G_hit W)<|gf W (vb W W W)<|sd W (N9 W W<|fun hc=>A2<|J2 hc)<|sv W<|gp W (K6 W) (fun _=>W) (gf W (vl W G_hit W)<|gf W (vb W W W)<|sd W (N9 W W<|fun hc=>A2<|J2 hc)<|sv W<|gp W (K6 W) (fun _=>W) (gf W (vl W G_hit W)<|gf W (vb W W W)<|sd W (N9 W W<|fun hc=>A2<|J2 hc)<|sv W<|gp W (K6 W) (fun _=>W) (gf W (vl W G_hit W)<|gf W (fun _=>(A7 W (gq W) W W))<|gp W (K6 W) (fun _=>W) (gf W (vl W G_hit W)<|bs h fun v3 hv3 h=> ?_))))))
 refine M2 _ (i64 v3) (K6 W) (fun w18=>⟨_,[(.d (.agg (P1 p1))),(dl A5 v1.Route)],_,_,(by simp only [A2 w18];rfl),W,A3,Kc _ _ _<|B9 w18 hv3,(.inl W)⟩) ?_
 refine gp W (K6 W) (fun _=>W) (gf W (vl W G_hit W)<|gf W (fun w21=>(L6 (A2 w21) (A2 w21) W))<|gf W (vb W W W)<|gf W (fun w23=>(L6 (A2 w23) (A2 w23) W))<|sd W (N9 W W<|fun hc=>A2<|J2 hc)<|A1<|cc W h (fun c2 h=> ?_)<|fun c2 h=> ?_)
 refine B1<|sv W<|A1<|B2 ?_
 cases h
 exact A6 (.inr W) (B6 (B3 W) C1) (.refl _)
 refine A9<|B1<|sd W (A7 W (gq W) W W)<|sd W (A7 W G_hit W W)<|bs h fun _ hv4 h=>B0 W W A3 (NH _ _ _ hv4) (.inl W) (sv W<|sv W<|sv W<|sv W<|sv W<|A1<|B1<|sq W<|sl W (gq W) W (sv W<|bs h fun _ hv5 h=>sd W (C4 W W hv5 W)<|sv W<|sd W (C7 W hv5 W)<|bs h fun _ hv6 h=>B0 W W A3 (Mm _ _ hv6) (.inl W) (sv W<|sv W<|sv W<|sv W<|sv W<|sv W<|sv W<|A1<|A4<|B1<|sq W<|sl W G_hit W<|sv W<|sv W<|gp W (K6 W) (fun _=>W) (gf W (vl W G_hit W)<|gf W (fun _=>W)<|gf W (fun w27=>(L6 (A2 w27) (A2 w27) W))<|sd W (N9 W W<|fun hc=>A2<|J2 hc)<|A1<|cc W h (fun c3 h=> ?_)<|fun c3 h=> ?_))))
 refine B1<|sv W<|A1<|B2 ?_
 cases h
 exact A6 (.inr W) (B6 (B3 W) C1) (.refl _)
 refine A9<|A4<|A4<|E0 W<|sq W<|sl W G_hit W<|sd W (A7 W (gq W) W W)<|sd W (A7 W G_hit W W)<|bs h fun v7 hv7 h=>B0 W W A3 (NI _ _ _ hv7) (.inl W) (B8 (.d (bo (!(v1.Gone==v7)))) W W (sv W<|gp W (K6 W) (fun _=>W) (gf W (vl W G_hit W)<|gp W (K6 W) (fun _=>W) (gf W (vl W (gq W) W)<|gf W (fun w32=>(L6 (A2 w32) (A2 w32) W))<|gf W (fun w33=>(EO<|A2 w33))<|M3 _ (.ptr _ _) W (L7 W) (fun _=>W) (gv W (L7 W) (vl W G_hit W) (gv W (L7 W) (vb W W W) (gf W (fun w37=>(Vm (A2 w37) (fun hc=>A2<|Ul w37 hc) W))<|sd W (N9 W W<|fun hc=>A2<|J2 hc)<|sv W<|gf W (fun _=>W)<|gf W (vb W W W)<|gf W (fun w40=>(EO<|A2 w40))<|M3 _ (.ptr _ _) W (L7 W) (fun _=>W) (gv W (L7 W) (vl W G_hit W) (gv W (L7 W) (vb W W W) (gf W (fun w44=>(Vm (A2 w44) (fun hc=>A2<|Ul w44 hc) W))<|sd W (N9 W W<|fun hc=>A2<|J2 hc)<|A1<|cc W h (fun c4 h=> ?_)<|fun c4 h=> ?_))))))))))
 refine B1<|sv W<|A1<|B2 ?_
 cases h
 exact A6 (.inr W) (B6 (B3 W) C1) (.refl _)
 refine A9<|B1<|sv W<|A1<|B2 ?_
 cases h
 exact A6 (.inr W) (B6 (B3 W) C1) (.refl _)
def Gs (p2:State)(x3:Int):Option (Stp Int (Sum Unit Int)):=
  cond (decide (x3< (p2.In.length:Int))) ((C3 p2.In x3).bind fun v7=>cond ((((decide (v7.Since<0))||(decide (v7.Since>p2.Tick)))||(decide (v7.Rank<0)))||(decide (v7.Rank>100))) (some (.out (.inr 2))) (some (.go (D8 (x3+1))))) (some (.out (.inl ())))
def Gu (p1:Map)(p2:State)(x2:Int):Option (Stp Int (Sum Unit Int)):=
  cond (decide (x2< (p2.In.length:Int))) ((C3 p2.In x2).bind fun v3=>cond ((((decide (v3.Agent_<0))||(decide (v3.Agent_≥(p2.Agents.length:Int))))||(decide (v3.Zone_<0)))||(decide (v3.Zone_≥(p1.Zones.length:Int)))) (some (.out (.inr 11))) (((cond (decide (x2>0)) (C3 p2.In (D8 (x2 - 1))) (some default))).bind fun v4=>((cond ((decide (x2>0))&& (!(decide (v3.Agent_<v4.Agent_)))) (C3 p2.In (D8 (x2 - 1))) (some default))).bind fun v5=>((cond (((decide (x2>0))&& (!(decide (v3.Agent_<v4.Agent_))))&& (v3.Agent_==v5.Agent_)) (C3 p2.In (D8 (x2 - 1))) (some default))).bind fun v6=>cond ((decide (x2>0))&& ((decide (v3.Agent_<v4.Agent_))||((v3.Agent_==v5.Agent_)&& (decide (v3.Zone_≤v6.Zone_))))) (some (.out (.inr 11))) (some (.go (D8 (x2+1)))))) (some (.out (.inl ())))
def Gv [Lp](p1:Map)(p2:State)(x1:Int):Option (Stp Int (Sum Unit Int)):=
  cond (decide (x1< (p2.Agents.length:Int))) ((Gr p1 p2 x1).bind fun v2=>cond (v2 !=0) (some (.out (.inr v2))) (some (.go (D8 (x1+1))))) (some (.out (.inl ())))
def Qr [Lp](p1:Map)(p2:State):Option Int:=
  (Kb p1).bind fun v1=>cond (v1 !=0) (some v1) (cond ((decide (p2.Tick<0))||(decide (p2.Tick>1099511627776))) (some 2) (cond ((p2.Agents.length:Int)==0) (some 6) (cond (decide ((p2.Agents.length:Int)>8)) (some 8) (thenS (loop (Gv p1 p2) 0) (fun _=>thenS (loop (Gu p1 p2) 0) (fun _=>thenS (loop (Gs p2) 0) (fun _=>some 0) (fun r=>some r)) (fun r=>some r)) (fun r=>some r)))))
theorem LG(p1 p2 r)(h:Qr p1 p2=some r):PCall prog 25 [(.agg (P1 p1)),(.agg (Y8 p2))] (i64 r):=by
 refine C2 (fk func25 ntmps25 m0 (by with_unfolding_all rfl)) (nl W) ?_
 unfold Qr at h
 refine B4 (s0:=⟨T [(0,(.d _)),(1,(.d _))],G []⟩) (E6 W W) ?_
 refine lr<|fun u1 _=>sm W<|sm W<|sv W<|A1<|B1<|sd W (A7 W (gq W) W W)<|bs h fun _ hv1 h=>B0 W W A3 (Ti _ _ hv1) (.inl W) (sv W<|A1<|A4<|B1<|sv W<|sv W<|A1<|cc W h (fun c1 h=> ?_)<|fun c1 h=> ?_)
 refine B1<|sv W<|sv W<|A1<|B2 ?_
 cases h
 exact A6 (.inr W) (B6 (B3 W) C1) (.refl _)
 refine A9<|A4<|B1<|sq W<|sl W G_hit W<|sv W<|sv W<|gp W (K6 W) (fun _=>W) (gf W (vl W G_hit W)<|gf W (vb W W W)<|sd W (N9 W W<|fun hc=>A2<|J2 hc)<|A1<|cc W h (fun c2 h=> ?_)<|fun c2 h=> ?_)
 refine B1<|sv W<|A1<|B2 ?_
 cases h
 exact A6 (.inr W) (B6 (B3 W) C1) (.refl _)
 refine A9<|A4<|B1<|sq W<|sl W G_hit W<|sd W (D6 W)<|sv W<|A1<|cc W h (fun c3 h=> ?_)<|fun c3 h=> ?_
 refine B1<|sv W<|A1<|B2 ?_
 cases h
 exact A6 (.inr W) (B6 (B3 W) C1) (.refl _)
 refine A9<|A4<|B1<|sq W<|sl W G_hit W<|sd W (D6 W)<|sv W<|A1<|cc W h (fun c4 h=> ?_)<|fun c4 h=> ?_
 refine B1<|sv W<|A1<|B2 ?_
 cases h
 exact A6 (.inr W) (B6 (B3 W) C1) (.refl _)
 refine A9<|A4<|B1<|sv W<|A1<|js h fun z1 hz1 h=>D4 (fun s=> ∃(y1:Unit) (g1:Unit),z1= .inl y1∧Sb ⟨T [(2,(.ptr (2,u1) 0)),(3,(.ptr (3,u1) 0))],G [((2,u1),some<|.box 33 (K8 p1)),((3,u1),some<|.box 25 (K4 p2))]⟩ s) ?_ ?_
 refine A8<|E2 (Gv p1 p2) (fun (x1:Int) (g2:Unit)=>⟨T [(2,(.ptr (2,u1) 0)),(3,(.ptr (3,u1) 0)),(6,(di x1))],G [((2,u1),some<|.box 33 (K8 p1)),((3,u1),some<|.box 25 (K4 p2))]⟩) 0 () _ hz1 (E6 W W) ?_
 intro x1 g2 z2 hz2 ez2
 unfold Gv at hz2
 refine A4<|B1<|sv W<|sq W<|sl W (gq W) W (sd W (D6 W)<|sv W<|A1<|cc W hz2 (fun c5 hz2=> ?_)<|fun c5 hz2=> ?_)
 refine A9<|A4<|A8<|B1<|sd W (A7 W G_hit W W)<|sd W (A7 W (gq W) W W)<|sv W<|bs hz2 fun _ hv2 hz2=>B0 W W A3 (BK _ _ _ _ hv2) (.inl W) (sv W<|A1<|B1<|sv W<|sv W<|A1<|cc W hz2 (fun c6 hz2=> ?_)<|fun c6 hz2=> ?_)
 refine B1<|sv W<|sv W<|A1<|B2 ?_
 cases hz2
 obtain rfl:=ez2 _ rfl
 refine ⟨nofun,F1 ?_⟩
 rw [wA]at h
 cases h
 exact A6 (.inr W) (B6 (B3 W) C1) (.refl _)
 refine A9<|D9<|C0<|sv W<|sv W<|sv W<|A1<|E1 ?_
 cases hz2
 exact ⟨W,(),(E6 W W)⟩
 refine C6 W ?_
 cases hz2
 obtain rfl:=ez2 _ rfl
 refine ⟨nofun,C5 W<|T3 ?_⟩
 exact ⟨_,(),W,(E6 W W)⟩
 rintro _ ⟨y1,g1,rfl,q1⟩
 rw [bZ]at h
 refine B4 q1<|A4<|B1<|sv W<|A1<|js h fun z3 hz3 h=>D4 (fun s=> ∃(y2:Unit) (g3:Unit),z3= .inl y2∧Sb ⟨T [(3,(.ptr (3,u1) 0))],G [((3,u1),some<|.box 25 (K4 p2))]⟩ s) ?_ ?_
 refine A8<|E2 (Gu p1 p2) (fun (x2:Int) (g4:Unit)=>⟨T [(2,(.ptr (2,u1) 0)),(3,(.ptr (3,u1) 0)),(7,(di x2))],G [((2,u1),some<|.box 33 (K8 p1)),((3,u1),some<|.box 25 (K4 p2))]⟩) 0 () _ hz3 (E6 W W) ?_
 intro x2 g4 z4 hz4 ez4
 unfold Gu at hz4
 refine A4<|B1<|sv W<|sq W<|sl W (gq W) W (sd W (D6 W)<|sv W<|A1<|cc W hz4 (fun c7 hz4=> ?_)<|fun c7 hz4=> ?_)
 refine A9<|A4<|A8<|B1<|sq W<|sl W (gq W) W (sv W<|bs hz4 fun v3 hv3 hz4=>sd W (C4 W W hv3 W)<|sd W (D1 W hv3 W W)<|sm W<|R4 W G_hit (Xj v3) W (A1<|A4<|B1<|sq W<|sl W G_hit W<|sv W<|sv W<|gp W (K6 W) (fun _=>W) (gf W (vl W G_hit W)<|gp W (K6 W) (fun _=>W) (gf W (vl W (gq W) W)<|gf W (fun w8=>(D6<|A2 w8))<|gf W (fun w9=>(L6 (A2 w9) (A2 w9) W))<|sd W (N9 W W<|fun hc=>A2<|J2 hc)<|sv W<|gp W (K6 W) (fun _=>W) (gf W (vl W G_hit W)<|gf W (vb W W W)<|sd W (N9 W W<|fun hc=>A2<|J2 hc)<|sv W<|gp W (K6 W) (fun _=>W) (gf W (vl W G_hit W)<|gp W (K6 W) (fun _=>W) (gf W (vl W (gq W) W)<|gf W (fun w17=>(D6<|A2 w17))<|gf W (fun w18=>(L6 (A2 w18) (A2 w18) W))<|sd W (N9 W W<|fun hc=>A2<|J2 hc)<|A1<|cc W hz4 (fun c8 hz4=> ?_)<|fun c8 hz4=> ?_)))))))
 refine B1<|sv W<|A1<|B2 ?_
 cases hz4
 obtain rfl:=ez4 _ rfl
 refine ⟨nofun,F1 ?_⟩
 rw [wA]at h
 cases h
 exact A6 (.inr W) (B6 (B3 W) C1) (.refl _)
 refine A9<|A4<|E0 W<|sv W<|sv W<|sv W<|gp W (K2 W) (fun _=>W) (gt W (vl W G_hit W)<|gp W (K2 W) (fun _=>W) (gt W (vl W (gq W) W)<|gt W (fun _=>W)<|gt W (vb W W W)<|bs hz4 fun _ hv4 hz4=>gt W (fun w25=>(C4 (A2 w25) (A2 w25) (B9 w25 hv4) W)) ?_))
 refine gt W (fun w26=>(by simp only [A2 w26];rfl)) ?_
 refine gt W (fun w27=>(C7 (A2 w27) (B9 w27 hv4) W))<|gt W (fun w28=>(L6 (A2 w28) (A2 w28) W))<|gt W (fun w29=>(EO<|A2 w29))<|M3 _ (.ptr _ _) W (Hf W) (fun _=>W) (gv W (Hf W) (vl W G_hit W) (M3 _ (.ptr _ _) W (Hf W) (fun _=>W) (gv W (Hf W) (vl W (gq W) W) (gv W (Hf W) (fun _=>W) (gv W (Hf W) (vb W W W) (bs hz4 fun _ hv5 hz4=>gv W (Hf W) (fun w36=>(C4 (A2 w36) (A2 w36) (B9 w36 hv5) W)) ?_))))))
 refine gv W (Hf W) (fun w37=>(by simp only [A2 w37];rfl)) ?_
 refine gv W (Hf W) (fun w38=>(C7 (A2 w38) (B9 w38 hv5) W)) (gv W (Hf W) (fun w39=>(L6 (A2 w39) (A2 w39) W)) (gv W (Hf W) (fun w40=>(EO<|A2 w40)) (M3 _ (.ptr _ _) W (L7 W) (fun _=>W) (gv W (L7 W) (vl W G_hit W) (M3 _ (.ptr _ _) W (L7 W) (fun _=>W) (gv W (L7 W) (vl W (gq W) W) (gv W (L7 W) (fun _=>W) (gv W (L7 W) (vb W W W) (bs hz4 fun _ hv6 hz4=>gv W (L7 W) (fun w47=>(C4 (A2 w47) (A2 w47) (B9 w47 hv6) W)) ?_)))))))))
 refine gv W (L7 W) (fun w48=>(by simp only [A2 w48];rfl)) ?_
 refine gv W (L7 W) (fun w49=>(C7 (A2 w49) (B9 w49 hv6) W)) (gv W (L7 W) (fun w50=>(L6 (A2 w50) (A2 w50) W)) (gv W (Hf W) (fun w51=>(Vm (A2 w51) (fun hc=>A2<|Ul w51 hc) W)) (gt W (fun w52=>(N9 (A2 w52) W (fun hc=>A2<|Ul w52<|J2 hc)))<|sa W W W<|A1<|cc W hz4 (fun c9 hz4=> ?_)<|fun c9 hz4=> ?_)))
 refine B1<|sv W<|A1<|B2 ?_
 cases hz4
 obtain rfl:=ez4 _ rfl
 refine ⟨nofun,F1 ?_⟩
 rw [wA]at h
 cases h
 exact A6 (.inr W) (B6 (B3 W) C1) (.refl _)
 refine A9<|D9<|C0<|sv W<|sv W<|sv W<|A1<|E1 ?_
 cases hz4
 exact ⟨W,(),(E6 W W)⟩
 refine C6 W ?_
 cases hz4
 obtain rfl:=ez4 _ rfl
 refine ⟨nofun,C5 W<|T3 ?_⟩
 exact ⟨_,(),W,(E6 W W)⟩
 rintro _ ⟨y2,g3,rfl,q2⟩
 rw [bZ]at h
 refine B4 q2<|A4<|B1<|sv W<|A1<|js h fun z5 hz5 h=>D4 (fun s=> ∃(y3:Unit) (g5:Unit),z5= .inl y3∧Sb ⟨T [],G []⟩ s) ?_ ?_
 refine A8<|E2 (Gs p2) (fun (x3:Int) (g6:Unit)=>⟨T [(3,(.ptr (3,u1) 0)),(9,(di x3))],G [((3,u1),some<|.box 25 (K4 p2))]⟩) 0 () _ hz5 (E6 W W) ?_
 intro x3 g6 z6 hz6 ez6
 unfold Gs at hz6
 refine A4<|B1<|sv W<|sq W<|sl W G_hit W<|sd W (D6 W)<|sv W<|A1<|cc W hz6 (fun c10 hz6=> ?_)<|fun c10 hz6=> ?_
 refine A9<|A4<|A8<|B1<|sq W<|sl W G_hit W<|sv W<|bs hz6 fun v7 hv7 hz6=>sd W (C4 W W hv7 W)<|sd W (D1 W hv7 W W)<|sm W<|R4 W G_hit (Xj v7) W (A1<|B1<|sq W<|sl W G_hit W<|sv W<|sv W<|gp W (K6 W) (fun _=>W) (gf W (vl W G_hit W)<|gp W (K6 W) (fun _=>W) (gf W (vl W (gq W) W)<|gf W (fun w57=>(L6 (A2 w57) (A2 w57) W))<|sd W (N9 W W<|fun hc=>A2<|J2 hc)<|sv W<|gp W (K6 W) (fun _=>W) (gf W (vl W G_hit W)<|gf W (vb W W W)<|sd W (N9 W W<|fun hc=>A2<|J2 hc)<|sv W<|gp W (K6 W) (fun _=>W) (gf W (vl W G_hit W)<|gf W (vb W W W)<|sd W (N9 W W<|fun hc=>A2<|J2 hc)<|A1<|cc W hz6 (fun c11 hz6=> ?_)<|fun c11 hz6=> ?_)))))
 refine B1<|sv W<|A1<|B2 ?_
 cases hz6
 obtain rfl:=ez6 _ rfl
 refine ⟨nofun,F1 ?_⟩
 rw [wA]at h
 cases h
 exact A6 (.inr W) (B6 (B3 W) C1) (.refl _)
 refine A9<|D9<|C0<|sv W<|sv W<|sv W<|A1<|E1 ?_
 cases hz6
 exact ⟨W,(),(E6 W W)⟩
 refine C6 W ?_
 cases hz6
 obtain rfl:=ez6 _ rfl
 refine ⟨nofun,C5 W<|T3 ?_⟩
 exact ⟨_,(),W,(E6 W W)⟩
 rintro _ ⟨y3,g5,rfl,q3⟩
 rw [bZ]at h
 refine B4 q3<|B1<|sv W<|A1<|B2 ?_
 cases h
 exact A6 (.inr W) (B6 (B3 W) C1) (.refl _)
def Kd (p1:State)(p2:Int):Option Bool:=
  ((cond ((decide (p2≥0))&& (decide (p2< (p1.Agents.length:Int)))) (C3 p1.Agents p2) (some default))).bind fun v1=>((cond (((decide (p2≥0))&& (decide (p2< (p1.Agents.length:Int))))&& (decide (v1.Begin≤p1.Tick))) (C3 p1.Agents p2) (some default))).bind fun v2=>some ((((decide (p2≥0))&& (decide (p2< (p1.Agents.length:Int))))&& (decide (v1.Begin≤p1.Tick)))&& (!v2.Gone))
theorem Tl(p1 p2 r)(h:Kd p1 p2=some r):PCall prog 39 [(.agg (Y8 p1)),(i64 p2)] (bo r):=by
 refine C2 (fk func39 ntmps39 m0 (by with_unfolding_all rfl)) (nl W) ?_
 unfold Kd at h
 refine B4 (s0:=⟨T [(0,(.d _)),(1,(.d _))],G []⟩) (E6 W W) ?_
 refine B1<|sm W<|sv W<|A1<|A4<|E0 W<|sv W<|sv W<|sv W<|gt W (fun _=>W)<|gp W (K2 W) (fun _=>W) (gt W (vl W G_hit W)<|gt W (fun w4=>(D6<|A2 w4))<|gt W (fun w5=>(L6 (A2 w5) (A2 w5) W))<|sa W W W<|sv W<|gp W (K2 W) (fun _=>W) (gt W (vl W G_hit W)<|gt W (fun _=>W)<|bs h fun _ hv1 h=>gt W (fun w9=>(C4 (A2 w9) (A2 w9) (B9 w9 hv1) W)) ?_))
 refine gt W (fun w10=>(by simp only [A2 w10];rfl)) ?_
 refine gt W (fun w11=>(C7 (A2 w11) (B9 w11 hv1) W))<|gp W (K2 W) (fun _=>W) (gt W (vl W G_hit W)<|gt W (fun w14=>(L6 (A2 w14) (A2 w14) W))<|sa W W W<|sv W<|gp W (K2 W) (fun _=>W) (gt W (vl W G_hit W)<|gt W (fun _=>W)<|bs h fun v2 hv2 h=>gt W (fun w18=>(C4 (A2 w18) (A2 w18) (B9 w18 hv2) W)) ?_))
 refine gt W (fun w19=>(by simp only [A2 w19];rfl)) ?_
 refine gt W (fun w20=>(C7 (A2 w20) (B9 w20 hv2) W)) ?_
 refine M3 _ (.d (bo (!v2.Gone))) W (K2 W) (fun w21=>(by simp only [A2 w21];rfl)) ?_
 refine sa W W W<|sv W<|A1<|B2 ?_
 cases h
 exact A6 (.inr W) (B6 (B3 W) C1) (.refl _)
def Mt (p1:Agent):Option Bool:=
  some ((((decide (p1.S≥0))&& (decide (p1.S≤1099511627776)))&& (decide (p1.Len≥0)))&& (decide (p1.Len≤1099511627776)))
theorem Vb(p1 r)(h:Mt p1=some r):PCall prog 133 [(.agg (C8 p1))] (bo r):=by
 refine C2 (fk func133 ntmps133 m0 (by with_unfolding_all rfl)) (nl W) ?_
 unfold Mt at h
 refine B4 (s0:=⟨T [(0,(.d _))],G []⟩) (E6 W W) ?_
 refine B1<|sm W<|sv W<|A1<|B1<|sq W<|sl W G_hit W<|sv W<|sv W<|gp W (K2 W) (fun _=>W) (gt W (vl W G_hit W)<|gt W (vb W W W)<|sa W W W<|sv W<|gp W (K2 W) (fun _=>W) (gt W (vl W G_hit W)<|gt W (vb W W W)<|sa W W W<|sv W<|gp W (K2 W) (fun _=>W) (gt W (vl W G_hit W)<|gt W (vb W W W)<|sa W W W<|sv W<|A1<|B2 ?_)))
 cases h
 exact A6 (.inr W) (B6 (B3 W) C1) (.refl _)
def U4 (x5:((List Pass)×Int)):Option (Stp ((List Pass)×Int) (List Pass)):=
  ((cond (decide (x5.2>0)) (C3 x5.1 x5.2) (some default))).bind fun v9=>((cond (decide (x5.2>0)) (C3 x5.1 (D8 (x5.2 - 1))) (some default))).bind fun v10=>((cond ((decide (x5.2>0))&& (!(decide (v9.From<v10.From)))) (C3 x5.1 x5.2) (some default))).bind fun v11=>((cond ((decide (x5.2>0))&& (!(decide (v9.From<v10.From)))) (C3 x5.1 (D8 (x5.2 - 1))) (some default))).bind fun v12=>((cond (((decide (x5.2>0))&& (!(decide (v9.From<v10.From))))&& (v11.From==v12.From)) (C3 x5.1 x5.2) (some default))).bind fun v13=>((cond (((decide (x5.2>0))&& (!(decide (v9.From<v10.From))))&& (v11.From==v12.From)) (C3 x5.1 (D8 (x5.2 - 1))) (some default))).bind fun v14=>cond ((decide (x5.2>0))&& ((decide (v9.From<v10.From))||((v11.From==v12.From)&& (decide (v13.Zone_<v14.Zone_))))) ((C3 x5.1 (D8 (x5.2 - 1))).bind fun v15=>(C3 x5.1 x5.2).bind fun v16=>(C3 x5.1 x5.2).bind fun v17=>(C3 (Nk x5.1 x5.2 v15) (D8 (x5.2 - 1))).bind fun v18=>some (.go ((Nk (Nk x5.1 x5.2 v15) (D8 (x5.2 - 1)) v16),(D8 (x5.2 - 1))))) (some (.out x5.1))
def Au [Lp](x4:((List Pass)×Int)):Option (Stp ((List Pass)×Int) (List Pass)):=
  cond (decide (x4.2< (x4.1.length:Int))) ((loop (U4) (x4.1,x4.2)).bind fun y5=>some (.go (y5,(D8 (x4.2+1))))) (some (.out x4.1))
def Av (p1:Map)(p2:(List Int))(v1:(List Int))(x1:((List Pass)×Int))(x2:((List Pass)×Int))(x3:((List Pass)×Int)):Option (Stp ((List Pass)×Int) (List Pass)):=
  (C3 p1.Zones x2.2).bind fun v2=>cond (decide (x3.2< (v2.Parts.length:Int))) ((C3 p1.Zones x2.2).bind fun v3=>(C3 v3.Parts x3.2).bind fun v4=>(C3 p2 x1.2).bind fun v5=>cond (v4.Lane_==v5) ((C3 v1 x1.2).bind fun v6=>(C3 v1 x1.2).bind fun v7=>(Am x3.1 [(Pass.mk x2.2 x3.2 (D8 (v6+v4.From)) (D8 (v7+v4.To)))]).bind fun v8=>some (.go (v8,(D8 (x3.2+1))))) (some (.go (x3.1,(D8 (x3.2+1)))))) (some (.out x3.1))
def Aw [Lp](p1:Map)(p2:(List Int))(v1:(List Int))(x1:((List Pass)×Int))(x2:((List Pass)×Int)):Option (Stp ((List Pass)×Int) (List Pass)):=
  cond (decide (x2.2< (p1.Zones.length:Int))) ((loop (Av p1 p2 v1 x1 x2) (x2.1,0)).bind fun y3=>some (.go (y3,(D8 (x2.2+1))))) (some (.out x2.1))
def Y7 [Lp](p1:Map)(p2:(List Int))(v1:(List Int))(x1:((List Pass)×Int)):Option (Stp ((List Pass)×Int) (List Pass)):=
  cond (decide (x1.2< (v1.length:Int))) ((loop (Aw p1 p2 v1 x1) (x1.1,0)).bind fun y2=>some (.go (y2,(D8 (x1.2+1))))) (some (.out x1.1))
def Fj [Lp](p1:Map)(p2:(List Int)):Option (List Pass):=
  (Fi p1 p2).bind fun v1=>(loop (Y7 p1 p2 v1) ([],0)).bind fun y1=>(loop (Au) (y1,1)).bind fun y4=>some y4
theorem IQ(p1 p2 r)(h:Fj p1 p2=some r):PCall prog 176 [(.agg (P1 p1)),(.list (List.map A5 p2))] (.list (List.map Q5 r)):=by
 refine C2 (fk func176 ntmps176 (fun r=>if r==14 then [1018]else []) (by with_unfolding_all rfl)) (nl W) ?_
 unfold Fj at h
 refine B4 (s0:=⟨T [(0,(.d _)),(1,(.d _))],G []⟩) (E6 W W) ?_
 refine lr<|fun u1 _=>sm W<|sv W<|A1<|B1<|sv W<|A1<|B1<|sd W (A7 W G_hit W W)<|sv W<|bs h fun v1 hv1 h=>B0 W W A3 (Rg _ _ _ hv1) (.inl W) (sv W<|A1<|A4<|B1<|sv W<|A1<|bs h fun y1 hy1 h=>D4 (fun s=> ∃g1:Nat,Sb ⟨T [(5,(oS y1 (75,g1)))],G [((75,g1),oB 229 4 Q5 y1)]⟩ s) ?_ ?_)
 refine A8<|E2 (Y7 p1 p2 v1) (fun (x1:((List Pass)×Int)) (g2:Nat)=>⟨T [(1,(dl A5 p2)),(2,(.ptr (2,u1) 0)),(5,(oS x1.1 (75,g2))),(6,(dl A5 v1)),(7,(di x1.2))],G [((2,u1),some<|.box 33 (K8 p1)),((75,g2),oB 229 4 Q5 x1.1)]⟩) ([],0) 0 _ hy1 (D5 (X3 W)<|B5 G_hit (.of W)<|P4 trivial) ?_
 intro x1 g2 z1 hz1 ez1
 unfold Y7 at hz1
 refine A4<|B1<|sv W<|sv W<|sd W (D6 W)<|sv W<|A1<|cc W hz1 (fun c1 hz1=> ?_)<|fun c1 hz1=> ?_
 refine A9<|A4<|A8<|B1<|sv W<|A1<|bs hz1 fun y2 hy2 hz1=>D4 (fun s=> ∃g3:Nat,Sb ⟨T [(1,(dl A5 p2)),(2,(.ptr (2,u1) 0)),(5,(oS y2 (75,g3))),(6,(dl A5 v1)),(7,(di x1.2))],G [((2,u1),some<|.box 33 (K8 p1)),((75,g3),oB 229 4 Q5 y2)]⟩ s) ?_ ?_
 refine A8<|E2 (Aw p1 p2 v1 x1) (fun (x2:((List Pass)×Int)) (g4:Nat)=>⟨T [(1,(dl A5 p2)),(2,(.ptr (2,u1) 0)),(5,(oS x2.1 (75,g4))),(6,(dl A5 v1)),(7,(di x1.2)),(8,(di x2.2))],G [((2,u1),some<|.box 33 (K8 p1)),((75,g4),oB 229 4 Q5 x2.1)]⟩) (x1.1,0) g2 _ hy2 (D5 (X3 W)<|B5 G_hit (.of W)<|B7 (gq W) trivial) ?_
 intro x2 g4 z2 hz2 ez2
 unfold Aw at hz2
 refine A4<|B1<|sv W<|sq W<|sl W G_hit W<|sd W (D6 W)<|sv W<|A1<|cc W hz2 (fun c2 hz2=> ?_)<|fun c2 hz2=> ?_
 refine A9<|A4<|A8<|B1<|sv W<|A1<|bs hz2 fun y3 hy3 hz2=>D4 (fun s=> ∃g5:Nat,Sb ⟨T [(1,(dl A5 p2)),(2,(.ptr (2,u1) 0)),(5,(oS y3 (75,g5))),(6,(dl A5 v1)),(7,(di x1.2)),(8,(di x2.2))],G [((2,u1),some<|.box 33 (K8 p1)),((75,g5),oB 229 4 Q5 y3)]⟩ s) ?_ ?_
 refine A8<|E2 (Av p1 p2 v1 x1 x2) (fun (x3:((List Pass)×Int)) (g6:Nat)=>⟨T [(1,(dl A5 p2)),(2,(.ptr (2,u1) 0)),(5,(oS x3.1 (75,g6))),(6,(dl A5 v1)),(7,(di x1.2)),(8,(di x2.2)),(9,(di x3.2))],G [((2,u1),some<|.box 33 (K8 p1)),((75,g6),oB 229 4 Q5 x3.1)]⟩) (x2.1,0) g4 _ hy3 (D5 (X3 W)<|B5 G_hit (.of W)<|B7 (gq W) trivial) ?_
 intro x3 g6 z3 hz3 ez3
 unfold Av at hz3
 refine A4<|B1<|sv W<|sq W<|sl W G_hit W<|sv W<|bs hz3 fun _ hv2 hz3=>sd W (C4 W W hv2 W)<|sv W<|sd W (C7 W hv2 W)<|sd W (D6 W)<|sv W<|A1<|cc W hz3 (fun c3 hz3=> ?_)<|fun c3 hz3=> ?_
 refine A9<|A4<|A8<|B1<|sq W<|sl W G_hit W<|sv W<|bs hz3 fun _ hv3 hz3=>sd W (C4 W W hv3 W)<|sv W<|sd W (C7 W hv3 W)<|sv W<|bs hz3 fun v4 hv4 hz3=>sd W (C4 W W hv4 W)<|sd W (D1 W hv4 W W)<|sm W<|R4 W G_hit (BS v4) W (A1<|A4<|E0 W<|sq W<|sl W G_hit W<|sv W<|sv W<|bs hz3 fun _ hv5 hz3=>sd W (C4 W W hv5 W)<|sd W (C7 W hv5 W)<|sv W<|A1<|cc W hz3 (fun c4 hz3=> ?_)<|fun c4 hz3=> ?_)
 refine Jr W fun u12 _=>B8 (oS x3.1 (75,g6)) W W (sv W<|sv W<|sv W<|sv W<|bs hz3 fun v6 hv6 hz3=>sd W (C4 W W hv6 W)<|sd W (C7 W hv6 W)<|sq W<|sl W G_hit W<|sv W<|sv W<|sv W<|bs hz3 fun v7 hv7 hz3=>sd W (C4 W W hv7 W)<|sd W (C7 W hv7 W)<|sq W<|sl W G_hit W<|sv W<|sv W<|B8 (dl Q5 [(Pass.mk x2.2 x3.2 (D8 (v6+v4.From))<|D8 (v7+v4.To))]) W W (bs hz3 fun _ hv8 hz3=>N8 Q5 (75,g6) x3.1 (Pass.mk x2.2 x3.2 (D8 (v6+v4.From))<|D8 (v7+v4.To)) [] _ (K1<|fun _=>W) W (gq W) hv8 (ss W<|A1<|D9<|C0<|sv W<|sv W<|sv W<|A1<|E1 ?_)))
 cases hz3
 exact ⟨W,u12,(D5 ⟨.of W, .of W,(.of (S6<|T0 hv8).symm), .of W, .of W, .of W, .of W,trivial⟩<|sg W<|M6 G_hit trivial)⟩
 refine A9<|D9<|C0<|sv W<|sv W<|sv W<|A1<|E1 ?_
 cases hz3
 exact ⟨W,g6,(D5 (X3 W)<|sg W<|B7 (gq W) trivial)⟩
 refine C6 W ?_
 cases hz3
 obtain rfl:=ez3 _ rfl
 refine ⟨nofun,C5 W<|T3 ?_⟩
 exact ⟨g6,(D5 (X3 W)<|B5 G_hit (.of W)<|B7 (gq W) trivial)⟩
 rintro _ ⟨g5,q1⟩
 refine D9<|B4 q1<|C0<|sv W<|sv W<|sv W<|A1<|E1 ?_
 cases hz2
 exact ⟨W,g5,(D5 (X3 W)<|B5 G_hit (.of W)<|B7 (gq W) trivial)⟩
 refine C6 W ?_
 cases hz2
 obtain rfl:=ez2 _ rfl
 refine ⟨nofun,C5 W<|T3 ?_⟩
 exact ⟨g4,(D5 (X3 W)<|B5 G_hit (.of W)<|B7 (gq W) trivial)⟩
 rintro _ ⟨g3,q2⟩
 refine D9<|B4 q2<|C0<|sv W<|sv W<|sv W<|A1<|E1 ?_
 cases hz1
 exact ⟨W,g3,(D5 (X3 W)<|B5 G_hit (.of W)<|B7 (gq W) trivial)⟩
 refine C6 W ?_
 cases hz1
 obtain rfl:=ez1 _ rfl
 refine ⟨nofun,C5 W<|T3 ?_⟩
 exact ⟨g2,(D5 ⟨.of W,trivial⟩<|B7 (gq W) trivial)⟩
 rintro _ ⟨g1,q3⟩
 refine B4 q3<|A4<|B1<|sv W<|A1<|bs h fun y4 hy4 h=>D4 (fun s=> ∃g7:Nat,Sb ⟨T [(5,(oS y4 (75,g7)))],G [((75,g7),oB 229 4 Q5 y4)]⟩ s) ?_ ?_
 refine A8<|E2 (Au) (fun (x4:((List Pass)×Int)) (g8:Nat)=>⟨T [(5,(oS x4.1 (75,g8))),(11,(di x4.2))],G [((75,g8),oB 229 4 Q5 x4.1)]⟩) (y1,1) g1 _ hy4 (D5 (X3 W)<|B7 G_hit trivial) ?_
 intro x4 g8 z4 hz4 ez4
 unfold Au at hz4
 refine A4<|B1<|sv W<|B8 (oS x4.1 (75,g8)) W W (sd W (WF (f:=Q5) W G_hit)<|sv W<|A1<|cc W hz4 (fun c5 hz4=> ?_)<|fun c5 hz4=> ?_)
 refine A9<|A4<|A8<|B1<|sv W<|sv W<|A1<|bs hz4 fun y5 hy5 hz4=>D4 (fun s=> ∃g9:Nat,Sb ⟨T [(5,(oS y5 (75,g9))),(11,(di x4.2))],G [((75,g9),oB 229 4 Q5 y5)]⟩ s) ?_ ?_
 refine A8<|E2 (U4) (fun (x5:((List Pass)×Int)) (g10:Nat)=>⟨T [(5,(oS x5.1 (75,g10))),(11,(di x4.2)),(12,(di x5.2))],G [((75,g10),oB 229 4 Q5 x5.1)]⟩) (x4.1,x4.2) g8 _ hy5 (D5 (X3 W)<|B7 G_hit trivial) ?_
 intro x5 g10 z5 hz5 ez5
 unfold U4 at hz5
 refine A4<|A4<|E0 W<|sv W<|sv W<|sv W<|M3 _ (oS x5.1 (75,g10)) W (K2 W) (fun _=>W) (gt W (fun _=>W)<|bs hz5 fun _ hv9 hz5=>M3 _ (.aptr _ _ _ _) W (K2 W) (fun w3=>(Nr (A2 w3) (A2 w3) G_hit (B9 w3 hv9))) ?_)
 refine M3 _ (.aptr _ _ _ _) W (K2 W) (fun w4=>(by simp only [A2 w4];rfl)) ?_
 refine gt W (fun w5=>(Ns (A2 w5) (Eu G_hit<|Az<|B9 w5 hv9) (B9 w5 hv9) W))<|M3 _ (oS x5.1 (75,g10)) W (K2 W) (fun _=>W) (gt W (fun _=>W)<|gt W (vb W W W)<|bs hz5 fun _ hv10 hz5=>M3 _ (.aptr _ _ _ _) W (K2 W) (fun w9=>(Nr (A2 w9) (A2 w9) G_hit (B9 w9 hv10))) ?_)
 refine M3 _ (.aptr _ _ _ _) W (K2 W) (fun w10=>(by simp only [A2 w10];rfl)) ?_
 refine gt W (fun w11=>(Ns (A2 w11) (Eu G_hit<|Az<|B9 w11 hv10) (B9 w11 hv10) W))<|gt W (fun w12=>(L6 (A2 w12) (A2 w12) W))<|gt W (fun w13=>(EO<|A2 w13))<|M3 _ (oS x5.1 (75,g10)) W (Hf W) (fun _=>W) (gv W (Hf W) (fun _=>W) (bs hz5 fun _ hv11 hz5=>M3 _ (.aptr _ _ _ _) W (Hf W) (fun w16=>(Nr (A2 w16) (A2 w16) G_hit (B9 w16 hv11))) ?_))
 refine M3 _ (.aptr _ _ _ _) W (Hf W) (fun w17=>(by simp only [A2 w17];rfl)) ?_
 refine gv W (Hf W) (fun w18=>(Ns (A2 w18) (Eu G_hit<|Az<|B9 w18 hv11) (B9 w18 hv11) W)) (M3 _ (oS x5.1 (75,g10)) W (Hf W) (fun _=>W) (gv W (Hf W) (fun _=>W) (gv W (Hf W) (vb W W W) (bs hz5 fun _ hv12 hz5=>M3 _ (.aptr _ _ _ _) W (Hf W) (fun w22=>(Nr (A2 w22) (A2 w22) G_hit (B9 w22 hv12))) ?_))))
 refine M3 _ (.aptr _ _ _ _) W (Hf W) (fun w23=>(by simp only [A2 w23];rfl)) ?_
 refine gv W (Hf W) (fun w24=>(Ns (A2 w24) (Eu G_hit<|Az<|B9 w24 hv12) (B9 w24 hv12) W)) (gv W (Hf W) (fun w25=>(L6 (A2 w25) (A2 w25) W)) (gv W (Hf W) (fun w26=>(EO<|A2 w26)) (M3 _ (oS x5.1 (75,g10)) W (L7 W) (fun _=>W) (gv W (L7 W) (fun _=>W) (bs hz5 fun _ hv13 hz5=>M3 _ (.aptr _ _ _ _) W (L7 W) (fun w29=>(Nr (A2 w29) (A2 w29) G_hit (B9 w29 hv13))) ?_)))))
 refine M3 _ (.aptr _ _ _ _) W (L7 W) (fun w30=>(by simp only [A2 w30];rfl)) ?_
 refine gv W (L7 W) (fun w31=>(Ns (A2 w31) (Eu G_hit<|Az<|B9 w31 hv13) (B9 w31 hv13) W)) (M3 _ (oS x5.1 (75,g10)) W (L7 W) (fun _=>W) (gv W (L7 W) (fun _=>W) (gv W (L7 W) (vb W W W) (bs hz5 fun _ hv14 hz5=>M3 _ (.aptr _ _ _ _) W (L7 W) (fun w35=>(Nr (A2 w35) (A2 w35) G_hit (B9 w35 hv14))) ?_))))
 refine M3 _ (.aptr _ _ _ _) W (L7 W) (fun w36=>(by simp only [A2 w36];rfl)) ?_
 refine gv W (L7 W) (fun w37=>(Ns (A2 w37) (Eu G_hit<|Az<|B9 w37 hv14) (B9 w37 hv14) W)) (gv W (L7 W) (fun w38=>(L6 (A2 w38) (A2 w38) W)) (gv W (Hf W) (fun w39=>(Vm (A2 w39) (fun hc=>A2<|Ul w39 hc) W)) (gt W (fun w40=>(N9 (A2 w40) W (fun hc=>A2<|Ul w40<|J2 hc)))<|sa W W W<|A1<|cc W hz5 (fun c6 hz5=> ?_)<|fun c6 hz5=> ?_)))
 refine A9<|A4<|A8<|E0 W<|B8 (oS x5.1 (75,g10)) W W (sv W<|B8 (oS x5.1 (75,g10)) W W (sv W<|sv W<|B8 (oS x5.1 (75,g10)) W W (sv W<|sv W<|bs hz5 fun v15 hv15 hz5=>B8 (.aptr _ _ _ _) W (Nr W W G_hit hv15) (sd W (Qk W (Eu G_hit<|Az hv15) hv15 W W)<|B8 (oS x5.1 (75,g10)) W W (sv W<|bs hz5 fun v16 hv16 hz5=>B8 (.aptr _ _ _ _) W (Nr W W G_hit hv16) (sd W (Qk W (Eu G_hit<|Az hv16) hv16 W W)<|bs hz5 fun _ hv17 hz5=>B8 (.aptr _ _ _ _) W (Nr W W G_hit hv17) ?_))))))
 rw [S6 (Az hv17)]
 refine Np Q5 _ _ _ (x5.2) _ v15 (Q5 v15) W W W (Eu G_hit<|Az hv17) hv17 (nl W) W (bs hz5 fun _ hv18 hz5=>B8 (.aptr _ _ _ _) W (Js W W G_hit hv18) (Np Q5 _ _ _ ((D8 (x5.2 - 1))) _ v16 (Q5 v16) W W W G_hit hv18 (nl W) W (A1<|D9<|C0<|sv W<|sv W<|sv W<|A1<|E1 ?_)))
 cases hz5
 exact ⟨W,g10,(D5 ⟨(.of (S6<|Wf<|Wf<|Az hv17).symm), .of W, .of W,trivial⟩<|M6 G_hit trivial)⟩
 refine C6 W ?_
 cases hz5
 obtain rfl:=ez5 _ rfl
 refine ⟨nofun,C5 W<|T3 ?_⟩
 exact ⟨g10,(D5 (X3 W)<|B7 G_hit trivial)⟩
 rintro _ ⟨g9,q4⟩
 refine D9<|B4 q4<|C0<|sv W<|sv W<|sv W<|A1<|E1 ?_
 cases hz4
 exact ⟨W,g9,(D5 (X3 W)<|B7 G_hit trivial)⟩
 refine C6 W ?_
 cases hz4
 obtain rfl:=ez4 _ rfl
 refine ⟨nofun,C5 W<|T3 ?_⟩
 exact ⟨g8,(D5 ⟨.of W,trivial⟩<|B7 G_hit trivial)⟩
 rintro _ ⟨g7,q5⟩
 refine B4 q5<|B1<|B8 (oS y4 (75,g7)) W W (B8 (oS y4 (75,g7)) W W (A1<|B2 ?_))
 cases h
 exact A6 (.inr W) (B6 (B3 W)<|R9 G_hit) R8
def Dp (p2:Agent)(p3:Agent)(p4:Int)(v3:(List Pass))(x1:Int):Option (Stp Int (Sum Unit Bool)):=
  cond (decide (x1< (v3.length:Int))) ((C3 v3 x1).bind fun v4=>((cond (v4.Zone_==p4) (C3 v3 x1) (some default))).bind fun v5=>((cond ((v4.Zone_==p4)&& (decide ((D8 (p2.S - p2.Len))≤v5.To))) (C3 v3 x1) (some default))).bind fun v6=>cond (((v4.Zone_==p4)&& (decide ((D8 (p2.S - p2.Len))≤v5.To)))&& (decide (p3.S≥v6.From))) (some (.out (.inr true))) (some (.go (D8 (x1+1))))) (some (.out (.inl ())))
def Fw [Lp](p1:Map)(p2:Agent)(p3:Agent)(p4:Int):Option Bool:=
  (Mt p2).bind fun v1=>((cond (!(!v1)) (Mt p3) (some default))).bind fun v2=>cond ((!v1)||(!v2)) (some false) ((Fj p1 p2.Route).bind fun v3=>thenS (loop (Dp p2 p3 p4 v3) 0) (fun _=>some false) (fun r=>some r))
theorem Pk(p1 p2 p3 p4 r)(h:Fw p1 p2 p3 p4=some r):PCall prog 83 [(.agg (P1 p1)),(.agg (C8 p2)),(.agg (C8 p3)),(i64 p4)] (bo r):=by
 refine C2 (fk func83 ntmps83 m0 (by with_unfolding_all rfl)) (nl W) ?_
 unfold Fw at h
 refine B4 (s0:=⟨T [(0,(.d _)),(1,(.d _)),(2,(.d _)),(3,(.d _))],G []⟩) (E6 W W) ?_
 refine lr<|fun u1 _=>sm W<|sm W<|sn W W<|sv W<|A1<|A4<|B1<|sd W (A7 W (gq W) W W)<|bs h fun v1 hv1 h=>B0 W W A3 (Vb _ _ hv1) (.inl W) (B8 (.d (bo (!v1))) W W (sv W<|gf W (fun _=>(A7 W G_hit W W))<|bs h fun v2 hv2 h=> ?_))
 refine M2 _ (bo v2) (K6 W) (fun w2=>⟨_,[(.d (.agg (C8 p3)))],_,_,(by simp only [A2 w2];rfl),W,A3,Vb _ _<|B9 w2 hv2,(.inl W)⟩) ?_
 refine M3 _ (.d (bo (!v2))) W (K6 W) (fun w3=>(by simp only [A2 w3];rfl)) ?_
 refine sd W (N9 W W<|fun hc=>A2<|J2 hc)<|A1<|cc W h (fun c1 h=> ?_)<|fun c1 h=> ?_
 refine B1<|sv W<|A1<|B2 ?_
 cases h
 exact A6 (.inr W) (B6 (B3 W) C1) (.refl _)
 refine A9<|B1<|sd W (A7 W (gq W) W W)<|sq W<|sl W (gq W) W (bs h fun v3 hv3 h=>B0 W W A3 (IQ _ _ _ hv3) (.inl W) (sv W<|A1<|A4<|B1<|sv W<|A1<|js h fun z1 hz1 h=>D4 (fun s=> ∃(y1:Unit) (g1:Unit),z1= .inl y1∧Sb ⟨T [],G []⟩ s) ?_ ?_))
 refine A8<|E2 (Dp p2 p3 p4 v3) (fun (x1:Int) (g2:Unit)=>⟨T [(3,(di p4)),(5,(.ptr (5,u1) 0)),(6,(.ptr (6,u1) 0)),(9,(dl Q5 v3)),(10,(di x1))],G [((5,u1),some<|.box 45 (T4 p2)),((6,u1),some<|.box 45 (T4 p3))]⟩) 0 () _ hz1 (E6 W W) ?_
 intro x1 g2 z2 hz2 ez2
 unfold Dp at hz2
 refine A4<|B1<|sv W<|sv W<|sd W (D6 W)<|sv W<|A1<|cc W hz2 (fun c2 hz2=> ?_)<|fun c2 hz2=> ?_
 refine A9<|A4<|A8<|A4<|E0 W<|sv W<|sv W<|bs hz2 fun _ hv4 hz2=>sd W (C4 W W hv4 W)<|sv W<|sd W (C7 W hv4 W)<|sv W<|sv W<|sv W<|gp W (K2 W) (fun _=>W) (gt W (vl W G_hit W)<|gp W (K2 W) (fun _=>W) (gt W (vl W G_hit W)<|gt W (fun w8=>(L6 (A2 w8) (A2 w8) W))<|gt W (fun _=>W)<|gt W (fun _=>W)<|bs hz2 fun _ hv5 hz2=>gt W (fun w11=>(C4 (A2 w11) (A2 w11) (B9 w11 hv5) W)) ?_))
 refine gt W (fun w12=>(by simp only [A2 w12];rfl)) ?_
 refine gt W (fun w13=>(C7 (A2 w13) (B9 w13 hv5) W))<|gt W (fun w14=>(L6 (A2 w14) (A2 w14) W))<|sa W W W<|sv W<|gp W (K2 W) (fun _=>W) (gt W (vl W (gq W) W)<|gt W (fun _=>W)<|gt W (fun _=>W)<|bs hz2 fun _ hv6 hz2=>gt W (fun w19=>(C4 (A2 w19) (A2 w19) (B9 w19 hv6) W)) ?_)
 refine gt W (fun w20=>(by simp only [A2 w20];rfl)) ?_
 refine gt W (fun w21=>(C7 (A2 w21) (B9 w21 hv6) W))<|gt W (fun w22=>(L6 (A2 w22) (A2 w22) W))<|sa W W W<|A1<|cc W hz2 (fun c3 hz2=> ?_)<|fun c3 hz2=> ?_
 refine B1<|sv W<|A1<|B2 ?_
 cases hz2
 obtain rfl:=ez2 _ rfl
 refine ⟨nofun,F1 ?_⟩
 rw [wA]at h
 cases h
 exact A6 (.inr W) (B6 (B3 W) C1) (.refl _)
 refine A9<|D9<|C0<|sv W<|sv W<|sv W<|A1<|E1 ?_
 cases hz2
 exact ⟨W,(),(E6 W W)⟩
 refine C6 W ?_
 cases hz2
 obtain rfl:=ez2 _ rfl
 refine ⟨nofun,C5 W<|T3 ?_⟩
 exact ⟨_,(),W,(E6 W W)⟩
 rintro _ ⟨y1,g1,rfl,q1⟩
 rw [bZ]at h
 refine B4 q1<|B1<|sv W<|A1<|B2 ?_
 cases h
 exact A6 (.inr W) (B6 (B3 W) C1) (.refl _)
def Fx (p1:Zone)(p2:Int)(x1:Int):Option (Stp Int (Sum Unit (Part×Bool))):=
  cond (decide (x1< (p1.Parts.length:Int))) ((C3 p1.Parts x1).bind fun v1=>cond (v1.Lane_==p2) ((C3 p1.Parts x1).bind fun v2=>some (.out (.inr (v2,true)))) (some (.go (D8 (x1+1))))) (some (.out (.inl ())))
def Ws [Lp](p1:Zone)(p2:Int):Option (Part×Bool):=
  thenS (loop (Fx p1 p2) 0) (fun _=>some ((Part.mk 0 0 0 0),false)) (fun r=>some r)
theorem NJ(p1 p2 r)(h:Ws p1 p2=some r):PCall prog 103 [(.agg [(.list (List.map Bl p1.Parts)),(i64 p1.Signal_)]),(i64 p2)] (.tup [(.agg (Bl r.1)),(bo r.2)]):=by
 refine C2 (fk func103 ntmps103 m0 (by with_unfolding_all rfl)) (nl W) ?_
 unfold Ws at h
 refine B4 (s0:=⟨T [(0,(.d _)),(1,(.d _))],G []⟩) (E6 W W) ?_
 refine lr<|fun u1 _=>sm W<|sm W<|sv W<|A1<|A4<|B1<|sv W<|A1<|js h fun z1 hz1 h=>D4 (fun s=> ∃(y1:Unit) (g1:Unit),z1= .inl y1∧Sb ⟨T [(4,(.ptr (4,u1) 0))],G [((4,u1),some<|.box 114 (zs 4))]⟩ s) ?_ ?_
 refine A8<|E2 (Fx p1 p2) (fun (x1:Int) (g2:Unit)=>⟨T [(1,(di p2)),(2,(.ptr (2,u1) 0)),(4,(.ptr (4,u1) 0)),(6,(di x1))],G [((2,u1),some<|.box 117 [(dl Bl p1.Parts),(di p1.Signal_)]),((4,u1),some<|.box 114 (zs 4))]⟩) 0 () _ hz1 (E6 W W) ?_
 intro x1 g2 z2 hz2 ez2
 unfold Fx at hz2
 refine A4<|B1<|sv W<|sq W<|sl W G_hit W<|sd W (D6 W)<|sv W<|A1<|cc W hz2 (fun c1 hz2=> ?_)<|fun c1 hz2=> ?_
 refine A9<|A4<|A8<|B1<|sq W<|sl W G_hit W<|sv W<|bs hz2 fun _ hv1 hz2=>sd W (C4 W W hv1 W)<|sv W<|sd W (C7 W hv1 W)<|sv W<|sv W<|A1<|cc W hz2 (fun c2 hz2=> ?_)<|fun c2 hz2=> ?_
 refine B1<|sq W<|sl W G_hit W<|sv W<|bs hz2 fun v2 hv2 hz2=>sd W (C4 W W hv2 W)<|sd W (D1 W hv2 W W)<|R4 W (gq W) (BS v2) W (sv W<|A1<|B2 ?_)
 cases hz2
 obtain rfl:=ez2 _ rfl
 refine ⟨nofun,F1 ?_⟩
 rw [wA]at h
 cases h
 exact A6 (.inr W) (Lh (H6 W G_hit (nl W) W) (B3 W) C1 C1) (.refl _)
 refine A9<|D9<|C0<|sv W<|sv W<|sv W<|A1<|E1 ?_
 cases hz2
 exact ⟨W,(),(E6 W W)⟩
 refine C6 W ?_
 cases hz2
 obtain rfl:=ez2 _ rfl
 refine ⟨nofun,C5 W<|T3 ?_⟩
 exact ⟨_,(),W,(E6 W W)⟩
 rintro _ ⟨y1,g1,rfl,q1⟩
 rw [bZ]at h
 refine B4 q1<|B1<|sv W<|R4 W G_hit (zs 4) W (sv W<|A1<|B2 ?_)
 cases h
 exact A6 (.inr W) (Lh (H6 W G_hit (nl W) W) (B3 W) C1 C1) (.refl _)
def Ke [Lp](p1:Map)(p2:(List Int))(p3:Int)(x1:Int):Option (Stp Int (Sum Unit Int)):=
  cond (decide (x1< (p2.length:Int))) ((C3 p1.Zones p3).bind fun v2=>(C3 p2 x1).bind fun v3=>(Ws v2 v3).bind fun v4=>cond v4.2 (some (.out (.inr x1))) (some (.go (D8 (x1+1))))) (some (.out (.inl ())))
def Kf [Lp](p1:Map)(p2:(List Int))(p3:Int):Option Int:=
  (Z7 p1 p2).bind fun v1=>cond (((v1 !=0)||(decide (p3<0)))||(decide (p3≥(p1.Zones.length:Int)))) (some (-1)) (thenS (loop (Ke p1 p2 p3) 0) (fun _=>some (-1)) (fun r=>some r))
theorem Tm(p1 p2 p3 r)(h:Kf p1 p2 p3=some r):PCall prog 44 [(.agg (P1 p1)),(.list (List.map A5 p2)),(i64 p3)] (i64 r):=by
 refine C2 (fk func44 ntmps44 m0 (by with_unfolding_all rfl)) (nl W) ?_
 unfold Kf at h
 refine B4 (s0:=⟨T [(0,(.d _)),(1,(.d _)),(2,(.d _))],G []⟩) (E6 W W) ?_
 refine lr<|fun u1 _=>sm W<|sv W<|A1<|A4<|B1<|sd W (A7 W G_hit W W)<|sv W<|bs h fun _ hv1 h=>B0 W W A3 (Gh _ _ _ hv1) (.inl W) (sv W<|sv W<|gf W (fun _=>W)<|gf W (vb W W W)<|sd W (N9 W W<|fun hc=>A2<|J2 hc)<|sv W<|gf W (fun _=>W)<|gp W (K6 W) (fun _=>W) (gf W (vl W G_hit W)<|gf W (fun w6=>(D6<|A2 w6))<|gf W (fun w7=>(L6 (A2 w7) (A2 w7) W))<|sd W (N9 W W<|fun hc=>A2<|J2 hc)<|A1<|cc W h (fun c1 h=> ?_)<|fun c1 h=> ?_))
 refine B1<|sv W<|A1<|B2 ?_
 cases h
 exact A6 (.inr W) (B6 (B3 W) C1) (.refl _)
 refine A9<|A4<|B1<|sv W<|A1<|js h fun z1 hz1 h=>D4 (fun s=> ∃(y1:Unit) (g1:Unit),z1= .inl y1∧Sb ⟨T [],G []⟩ s) ?_ ?_
 refine A8<|E2 (Ke p1 p2 p3) (fun (x1:Int) (g2:Unit)=>⟨T [(1,(dl A5 p2)),(2,(di p3)),(3,(.ptr (3,u1) 0)),(7,(di x1))],G [((3,u1),some<|.box 33 (K8 p1))]⟩) 0 () _ hz1 (E6 W W) ?_
 intro x1 g2 z2 hz2 ez2
 unfold Ke at hz2
 refine A4<|B1<|sv W<|sv W<|sd W (D6 W)<|sv W<|A1<|cc W hz2 (fun c2 hz2=> ?_)<|fun c2 hz2=> ?_
 refine A9<|A4<|A8<|A4<|E0 W<|sq W<|sl W G_hit W<|sv W<|bs hz2 fun _ hv2 hz2=>sd W (C4 W W hv2 W)<|sd W (D1 W hv2 W W)<|sv W<|sv W<|bs hz2 fun _ hv3 hz2=>sd W (C4 W W hv3 W)<|sd W (C7 W hv3 W)<|bs hz2 fun v4 hv4 hz2=>B0 W W A3 (NJ _ _ _ hv4) (.inl W) (sv W<|sv W<|sv W<|sm W<|R4 W G_hit (BS v4.1) W (sv W<|A1<|B1<|sv W<|A1<|cc W hz2 (fun c3 hz2=> ?_)<|fun c3 hz2=> ?_))
 refine B1<|sv W<|sv W<|A1<|B2 ?_
 cases hz2
 obtain rfl:=ez2 _ rfl
 refine ⟨nofun,F1 ?_⟩
 rw [wA]at h
 cases h
 exact A6 (.inr W) (B6 (B3 W) C1) (.refl _)
 refine A9<|D9<|C0<|sv W<|sv W<|sv W<|A1<|E1 ?_
 cases hz2
 exact ⟨W,(),(E6 W W)⟩
 refine C6 W ?_
 cases hz2
 obtain rfl:=ez2 _ rfl
 refine ⟨nofun,C5 W<|T3 ?_⟩
 exact ⟨_,(),W,(E6 W W)⟩
 rintro _ ⟨y1,g1,rfl,q1⟩
 rw [bZ]at h
 refine B4 q1<|B1<|sv W<|A1<|B2 ?_
 cases h
 exact A6 (.inr W) (B6 (B3 W) C1) (.refl _)
def Pl [Lp](p1:Map)(p2:Int):Option Bool:=
  ((cond ((decide (p2≥0))&& (decide (p2< (p1.Lanes.length:Int)))) (Kb p1) (some default))).bind fun v1=>some (((decide (p2≥0))&& (decide (p2< (p1.Lanes.length:Int))))&& (v1==0))
theorem CA(p1 p2 r)(h:Pl p1 p2=some r):PCall prog 98 [(.agg (P1 p1)),(i64 p2)] (bo r):=by
 refine C2 (fk func98 ntmps98 m0 (by with_unfolding_all rfl)) (nl W) ?_
 unfold Pl at h
 refine B4 (s0:=⟨T [(0,(.d _)),(1,(.d _))],G []⟩) (E6 W W) ?_
 refine B1<|sm W<|sv W<|A1<|B1<|sv W<|sv W<|sv W<|gt W (fun _=>W)<|gp W (K2 W) (fun _=>W) (gt W (vl W G_hit W)<|gt W (fun w4=>(D6<|A2 w4))<|gt W (fun w5=>(L6 (A2 w5) (A2 w5) W))<|sa W W W<|sv W<|gt W (fun _=>(A7 W G_hit W W))<|bs h fun v1 hv1 h=> ?_)
 refine M2 _ (i64 v1) (K2 W) (fun w7=>⟨_,[(.d (.agg (P1 p1)))],_,_,(by simp only [A2 w7];rfl),W,A3,Ti _ _<|B9 w7 hv1,(.inl W)⟩) ?_
 refine gt W (vb W W W)<|sa W W W<|sv W<|A1<|B2 ?_
 cases h
 exact A6 (.inr W) (B6 (B3 W) C1) (.refl _)
def Aj [Lp](p1:Signal)(p2:Int)(x2:(Int×Int)):Option (Stp (Int×Int) (Sum Unit Bool)):=
  cond (decide (x2.2< (p1.Phases.length:Int))) ((C3 p1.Phases x2.2).bind fun v5=>cond (decide (x2.1<v5.Ticks)) ((C3 p1.Phases x2.2).bind fun v6=>(Pj v6.Green p2).bind fun v7=>some (.out (.inr v7))) ((C3 p1.Phases x2.2).bind fun v8=>some (.go ((D8 (x2.1 - v8.Ticks)),(D8 (x2.2+1)))))) (some (.out (.inl ())))
def Ca (p1:Signal)(x1:(Int×Int)):Option (Stp (Int×Int) Int):=
  cond (decide (x1.2< (p1.Phases.length:Int))) ((C3 p1.Phases x1.2).bind fun v1=>some (.go ((D8 (x1.1+v1.Ticks)),(D8 (x1.2+1))))) (some (.out x1.1))
def Qs [Lp](p1:Signal)(p2:Int)(p3:Int):Option Bool:=
  (loop (Ca p1) (0,0)).bind fun y1=>(Su p1.Offset y1).bind fun v2=>(Su p3 y1).bind fun v3=>(Su (D8 (v2+v3)) y1).bind fun v4=>thenS (loop (Aj p1 p2) (v4,0)) (fun _=>some false) (fun r=>some r)
theorem LH(p1 p2 p3 r)(h:Qs p1 p2 p3=some r):PCall prog 187 [(.agg [(i64 p1.Offset),(.list (List.map Bd p1.Phases))]),(i64 p2),(i64 p3)] (bo r):=by
 refine C2 (fk func187 ntmps187 m0 (by with_unfolding_all rfl)) (nl W) ?_
 unfold Qs at h
 refine B4 (s0:=⟨T [(0,(.d _)),(1,(.d _)),(2,(.d _))],G []⟩) (E6 W W) ?_
 refine lr<|fun u1 _=>sm W<|sv W<|A1<|B1<|sv W<|A1<|A4<|B1<|sv W<|A1<|bs h fun y1 hy1 h=>D4 (fun s=> ∃g1:Unit,Sb ⟨T [(1,(di p2)),(2,(di p3)),(3,(.ptr (3,u1) 0)),(7,(di y1))],G [((3,u1),some<|.box 120 [(di p1.Offset),(dl Bd p1.Phases)])]⟩ s) ?_ ?_
 refine A8<|E2 (Ca p1) (fun (x1:(Int×Int)) (g2:Unit)=>⟨T [(1,(di p2)),(2,(di p3)),(3,(.ptr (3,u1) 0)),(7,(di x1.1)),(8,(di x1.2))],G [((3,u1),some<|.box 120 [(di p1.Offset),(dl Bd p1.Phases)])]⟩) (0,0) () _ hy1 (E6 W W) ?_
 intro x1 g2 z1 hz1 ez1
 unfold Ca at hz1
 refine A4<|B1<|sv W<|sq W<|sl W G_hit W<|sd W (D6 W)<|sv W<|A1<|cc W hz1 (fun c1 hz1=> ?_)<|fun c1 hz1=> ?_
 refine A9<|A4<|A8<|C0<|sv W<|sq W<|sl W G_hit W<|sv W<|bs hz1 fun _ hv1 hz1=>sd W (C4 W W hv1 W)<|sv W<|sd W (C7 W hv1 W)<|sv W<|sv W<|A1<|D9<|C0<|sv W<|sv W<|sv W<|A1<|E1 ?_
 cases hz1
 exact ⟨W,(),(E6 W W)⟩
 refine C6 W ?_
 cases hz1
 obtain rfl:=ez1 _ rfl
 refine ⟨nofun,C5 W<|T3 ?_⟩
 exact ⟨(),(E6 W W)⟩
 rintro _ ⟨g1,q1⟩
 refine B4 q1<|A4<|E0 W<|sq W<|sl W G_hit W<|sv W<|bs h fun _ hv2 h=>sd W (Ze W W hv2)<|sv W<|sv W<|bs h fun _ hv3 h=>sd W (Ze W W hv3)<|sv W<|sv W<|bs h fun v4 hv4 h=>sd W (Ze W W hv4)<|sv W<|A1<|A4<|B1<|sv W<|A1<|js h fun z2 hz2 h=>D4 (fun s=> ∃(y2:Unit) (g3:Unit),z2= .inl y2∧Sb ⟨T [],G []⟩ s) ?_ ?_
 refine A8<|E2 (Aj p1 p2) (fun (x2:(Int×Int)) (g4:Unit)=>⟨T [(1,(di p2)),(3,(.ptr (3,u1) 0)),(9,(di x2.1)),(10,(di x2.2))],G [((3,u1),some<|.box 120 [(di p1.Offset),(dl Bd p1.Phases)])]⟩) (v4,0) () _ hz2 (E6 W W) ?_
 intro x2 g4 z3 hz3 ez3
 unfold Aj at hz3
 refine A4<|B1<|sv W<|sq W<|sl W G_hit W<|sd W (D6 W)<|sv W<|A1<|cc W hz3 (fun c2 hz3=> ?_)<|fun c2 hz3=> ?_
 refine A9<|A4<|A8<|A4<|B1<|sv W<|sq W<|sl W G_hit W<|sv W<|bs hz3 fun _ hv5 hz3=>sd W (C4 W W hv5 W)<|sv W<|sd W (C7 W hv5 W)<|sv W<|A1<|cc W hz3 (fun c3 hz3=> ?_)<|fun c3 hz3=> ?_
 refine B1<|sq W<|sl W G_hit W<|sv W<|bs hz3 fun _ hv6 hz3=>sd W (C4 W W hv6 W)<|sv W<|sd W (C7 W hv6 W)<|sv W<|bs hz3 fun _ hv7 hz3=>B0 W W A3 (Wr _ _ _ hv7) (.inl W) (sv W<|A1<|B2 ?_)
 cases hz3
 obtain rfl:=ez3 _ rfl
 refine ⟨nofun,F1 ?_⟩
 rw [wA]at h
 cases h
 exact A6 (.inr W) (B6 (B3 W) C1) (.refl _)
 refine A9<|C0<|sv W<|sq W<|sl W G_hit W<|sv W<|bs hz3 fun _ hv8 hz3=>sd W (C4 W W hv8 W)<|sv W<|sd W (C7 W hv8 W)<|sv W<|sv W<|A1<|D9<|C0<|sv W<|sv W<|sv W<|A1<|E1 ?_
 cases hz3
 exact ⟨W,(),(E6 W W)⟩
 refine C6 W ?_
 cases hz3
 obtain rfl:=ez3 _ rfl
 refine ⟨nofun,C5 W<|T3 ?_⟩
 exact ⟨_,(),W,(E6 W W)⟩
 rintro _ ⟨y2,g3,rfl,q2⟩
 rw [bZ]at h
 refine B4 q2<|B1<|sv W<|A1<|B2 ?_
 cases h
 exact A6 (.inr W) (B6 (B3 W) C1) (.refl _)
def Qt [Lp](p1:Map)(p2:Int)(p3:Int)(p4:Int):Option Bool:=
  (Pl p1 p3).bind fun v1=>((cond (((v1&& (decide (p2≥0)))&& (decide (p2< (p1.Signals.length:Int))))&& (decide (p4≥0))) (C3 p1.Signals p2) (some default))).bind fun v2=>((cond (((v1&& (decide (p2≥0)))&& (decide (p2< (p1.Signals.length:Int))))&& (decide (p4≥0))) (Qs v2 p3 p4) (some default))).bind fun v3=>some ((((v1&& (decide (p2≥0)))&& (decide (p2< (p1.Signals.length:Int))))&& (decide (p4≥0)))&&v3)
theorem LI(p1 p2 p3 p4 r)(h:Qt p1 p2 p3 p4=some r):PCall prog 177 [(.agg (P1 p1)),(i64 p2),(i64 p3),(i64 p4)] (bo r):=by
 refine C2 (fk func177 ntmps177 m0 (by with_unfolding_all rfl)) (nl W) ?_
 unfold Qt at h
 refine B4 (s0:=⟨T [(0,(.d _)),(1,(.d _)),(2,(.d _)),(3,(.d _))],G []⟩) (E6 W W) ?_
 refine B1<|sm W<|sv W<|A1<|B1<|sd W (A7 W G_hit W W)<|sv W<|bs h fun _ hv1 h=>B0 W W A3 (CA _ _ _ hv1) (.inl W) (sv W<|gt W (fun _=>W)<|gt W (vb W W W)<|sa W W W<|sv W<|gt W (fun _=>W)<|gp W (K2 W) (fun _=>W) (gt W (vl W G_hit W)<|gt W (fun w6=>(D6<|A2 w6))<|gt W (fun w7=>(L6 (A2 w7) (A2 w7) W))<|sa W W W<|sv W<|gt W (fun _=>W)<|gt W (vb W W W)<|sa W W W<|sv W<|gp W (K2 W) (fun _=>W) (gt W (vl W G_hit W)<|gt W (fun _=>W)<|bs h fun v2 hv2 h=>gt W (fun w13=>(C4 (A2 w13) (A2 w13) (B9 w13 hv2) W))<|gt W (fun w14=>(D1 (A2 w14) (B9 w14 hv2) W W))<|gt W (fun _=>W)<|gt W (fun _=>W)<|bs h fun v3 hv3 h=> ?_)))
 refine M2 _ (bo v3) (K2 W) (fun w17=>⟨_,[(.d (.agg [(i64 v2.Offset),(.list (List.map Bd v2.Phases))])),(di p3),(di p4)],_,_,(by simp only [A2 w17];rfl),W,A3,LH _ _ _ _<|B9 w17 hv3,(.inl W)⟩) ?_
 refine sa W W W<|sv W<|A1<|B2 ?_
 cases h
 exact A6 (.inr W) (B6 (B3 W) C1) (.refl _)
def Fy (p2:Agent)(v1:Int)(v2:Zone)(x1:Int):Option (Stp Int (Sum Unit Int)):=
  cond (decide (x1< (v2.Parts.length:Int))) ((C3 v2.Parts x1).bind fun v5=>(C3 p2.Route v1).bind fun v6=>cond (v5.Lane_==v6) ((C3 v2.Parts x1).bind fun v7=>some (.out (.inr v7.Rank))) (some (.go (D8 (x1+1))))) (some (.out (.inl ())))
def Tn [Lp](p1:Map)(p2:Agent)(p3:Int)(p4:Int):Option Int:=
  (Kf p1 p2.Route p3).bind fun v1=>cond (decide (v1<0)) (some 0) ((C3 p1.Zones p3).bind fun v2=>cond (decide (v2.Signal_>0)) ((C3 p2.Route v1).bind fun v3=>(Qt p1 (D8 (v2.Signal_ - 1)) v3 p4).bind fun v4=>cond v4 (some 2) (some 0)) (thenS (loop (Fy p2 v1 v2) 0) (fun _=>some 0) (fun r=>some r)))
theorem NK(p1 p2 p3 p4 r)(h:Tn p1 p2 p3 p4=some r):PCall prog 84 [(.agg (P1 p1)),(.agg (C8 p2)),(i64 p3),(i64 p4)] (i64 r):=by
 refine C2 (fk func84 ntmps84 m0 (by with_unfolding_all rfl)) (nl W) ?_
 unfold Tn at h
 refine B4 (s0:=⟨T [(0,(.d _)),(1,(.d _)),(2,(.d _)),(3,(.d _))],G []⟩) (E6 W W) ?_
 refine lr<|fun u1 _=>sm W<|sm W<|sv W<|A1<|B1<|sd W (A7 W (gq W) W W)<|sq W<|sl W G_hit W<|sv W<|bs h fun v1 hv1 h=>B0 W W A3 (Tm _ _ _ _ hv1) (.inl W) (sv W<|A1<|A4<|B1<|sv W<|sv W<|A1<|cc W h (fun c1 h=> ?_)<|fun c1 h=> ?_)
 refine B1<|sv W<|A1<|B2 ?_
 cases h
 exact A6 (.inr W) (B6 (B3 W) C1) (.refl _)
 refine A9<|lr<|fun u5 _=>sq W<|sl W (gq W) W (sv W<|bs h fun v2 hv2 h=>sd W (C4 W W hv2 W)<|sd W (D1 W hv2 W W)<|sm W<|R4 W G_hit [(dl Bl v2.Parts),(di v2.Signal_)] W (A1<|A4<|B1<|sq W<|sl W G_hit W<|sv W<|A1<|cc W h (fun c2 h=> ?_)<|fun c2 h=> ?_))
 refine A4<|A4<|E0 W<|sd W (A7 W (gq W) W W)<|sq W<|sl W G_hit W<|sv W<|sq W<|sl W (gq W) W (sv W<|bs h fun _ hv3 h=>sd W (C4 W W hv3 W)<|sd W (C7 W hv3 W)<|sv W<|bs h fun _ hv4 h=>B0 W W A3 (LI _ _ _ _ _ hv4) (.inl W) (A1<|cc W h (fun c3 h=> ?_)<|fun c3 h=> ?_))
 refine B1<|sv W<|A1<|B2 ?_
 cases h
 exact A6 (.inr W) (B6 (B3 W) C1) (.refl _)
 refine A9<|B1<|sv W<|A1<|B2 ?_
 cases h
 exact A6 (.inr W) (B6 (B3 W) C1) (.refl _)
 refine A9<|A4<|B1<|sv W<|A1<|js h fun z1 hz1 h=>D4 (fun s=> ∃(y1:Unit) (g1:Unit),z1= .inl y1∧Sb ⟨T [],G []⟩ s) ?_ ?_
 refine A8<|E2 (Fy p2 v1 v2) (fun (x1:Int) (g2:Unit)=>⟨T [(5,(.ptr (5,u1) 0)),(9,(di v1)),(10,(.ptr (10,u5) 0)),(11,(di x1))],G [((5,u1),some<|.box 45 (T4 p2)),((10,u5),some<|.box 117 [(dl Bl v2.Parts),(di v2.Signal_)])]⟩) 0 () _ hz1 (E6 W W) ?_
 intro x1 g2 z2 hz2 ez2
 unfold Fy at hz2
 refine A4<|B1<|sv W<|sq W<|sl W (gq W) W (sd W (D6 W)<|sv W<|A1<|cc W hz2 (fun c4 hz2=> ?_)<|fun c4 hz2=> ?_)
 refine A9<|A4<|A8<|A4<|E0 W<|sq W<|sl W (gq W) W (sv W<|bs hz2 fun _ hv5 hz2=>sd W (C4 W W hv5 W)<|sv W<|sd W (C7 W hv5 W)<|sq W<|sl W G_hit W<|sv W<|bs hz2 fun _ hv6 hz2=>sd W (C4 W W hv6 W)<|sd W (C7 W hv6 W)<|sv W<|A1<|cc W hz2 (fun c5 hz2=> ?_)<|fun c5 hz2=> ?_)
 refine B1<|sq W<|sl W (gq W) W (sv W<|bs hz2 fun _ hv7 hz2=>sd W (C4 W W hv7 W)<|sv W<|sd W (C7 W hv7 W)<|sv W<|A1<|B2 ?_)
 cases hz2
 obtain rfl:=ez2 _ rfl
 refine ⟨nofun,F1 ?_⟩
 rw [wA]at h
 cases h
 exact A6 (.inr W) (B6 (B3 W) C1) (.refl _)
 refine A9<|D9<|C0<|sv W<|sv W<|sv W<|A1<|E1 ?_
 cases hz2
 exact ⟨W,(),(E6 W W)⟩
 refine C6 W ?_
 cases hz2
 obtain rfl:=ez2 _ rfl
 refine ⟨nofun,C5 W<|T3 ?_⟩
 exact ⟨_,(),W,(E6 W W)⟩
 rintro _ ⟨y1,g1,rfl,q1⟩
 rw [bZ]at h
 refine B4 q1<|B1<|sv W<|A1<|B2 ?_
 cases h
 exact A6 (.inr W) (B6 (B3 W) C1) (.refl _)
def Pm (p1:State)(x1:(Int×State)):Option (Stp (Int×State) State):=
  cond (decide (x1.1< (p1.Agents.length:Int))) ((C3 p1.Agents x1.1).bind fun v2=>(Am ([]:List Int) v2.Route).bind fun v3=>(Am x1.2.Agents [(Agent.mk v3 v2.S v2.V v2.Len v2.Begin v2.Obey v2.Gone)]).bind fun v4=>some (.go ((D8 (x1.1+1)),(State.mk x1.2.Tick v4 x1.2.In)))) (some (.out x1.2))
def Qb [Lp](p1:State):Option State:=
  (Am ([]:List Stay) p1.In).bind fun v1=>(loop (Pm p1) (0,(State.mk p1.Tick [] v1))).bind fun y1=>some y1
theorem GK(p1 r)(h:Qb p1=some r):MCall prog 23 [(.d (.agg (Y8 p1)))] [] (W6 [(di r.Tick),(oS r.Agents (800000,0)),(oS r.In (800001,0))]) [] [oB 45 7 C8 r.Agents,oB 127 4 I9 r.In]:=by
 refine QQ (fk func23 ntmps23 (fun r=>if r==7 then [1003]else []) (by with_unfolding_all rfl)) (by generalize r.Agents=x1;generalize r.In=x2;cases x1<;>cases x2<;>rfl) (nl W) ?_
 unfold Qb at h
 refine B4 (s0:=⟨T [(0,(.d _))],G []⟩) (E6 W W) ?_
 refine lr<|fun u1 _=>sm W<|sm W<|A1<|A4<|Pw fun u2 hu2=>N1 (.ptr _ _) W W (N1 (.d _) W (O4 W (gq W) W) (N1 (.ptr _ _) W W (N1 (.d _) W (O4 W (gq W) W) (bs h fun v1 hv1 h=>aA I9 p1.In _ (K1<|fun _=>W) W hv1 (Wg hu2) ?_))))
 refine N1 (W6 [(di p1.Tick),(.d .nilS),(oS v1 (10,u2))]) W (by generalize v1=x1;cases x1<;>rfl) ?_
 refine KM (.ptr _ _) (.box _ _) W W (Px _ _ _ _ _ (W2 _) W W G_hit (nl W) [(di p1.Tick),(.d .nilS),(oS v1 (10,u2))] W (BP<|pR (fun q=>⟨⟨by first|rfl|((generalize v1=l0;cases l0)<;>rfl),q⟩,⟨by first|rfl|((generalize v1=l0;cases l0)<;>rfl),q⟩⟩) ?_))
 refine A4<|B1<|sv W<|A1<|bs h fun y1 hy1 h=>D4 (fun s=> ∃g1:(Nat×Nat),Sb ⟨T [(2,(.ptr (2,u1) 0)),(3,(.ptr (3,u2) 0))],G [((2,u1),some<|.box 25 [(di 0),(.d .nilS),(.d .nilS)]),((3,u2),some<|.box 25 [(di y1.Tick),(oS y1.Agents (32,g1.1)),(oS y1.In (10,g1.2))]),((32,g1.1),oB 45 7 C8 y1.Agents),((10,g1.2),oB 127 4 I9 y1.In)]⟩ s) ?_ ?_
 refine A8<|E2 (Pm p1) (fun (x1:(Int×State)) (g2:(Nat×Nat))=>⟨T [(1,(.ptr (1,u1) 0)),(2,(.ptr (2,u1) 0)),(3,(.ptr (3,u2) 0)),(4,(di x1.1))],G [((1,u1),some<|.box 25 (K4 p1)),((2,u1),some<|.box 25 [(di 0),(.d .nilS),(.d .nilS)]),((3,u2),some<|.box 25 [(di x1.2.Tick),(oS x1.2.Agents (32,g2.1)),(oS x1.2.In (10,g2.2))]),((32,g2.1),oB 45 7 C8 x1.2.Agents),((10,g2.2),oB 127 4 I9 x1.2.In)]⟩) (0,(State.mk p1.Tick [] v1)) (0,u2) _ hy1 (D5 (X3 W)<|sg W<|sg W<|B5 G_hit (.of W)<|P4<|B7 (gq W) trivial) ?_
 intro x1 g2 z1 hz1 ez1
 unfold Pm at hz1
 refine A4<|B1<|sv W<|sq W<|sl W G_hit W<|sd W (D6 W)<|sv W<|A1<|cc W hz1 (fun c1 hz1=> ?_)<|fun c1 hz1=> ?_
 refine A9<|A4<|A8<|lr<|fun u5 _=>sq W<|sl W G_hit W<|sv W<|bs hz1 fun v2 hv2 hz1=>sd W (C4 W W hv2 W)<|sd W (D1 W hv2 W W)<|sm W<|R4 W G_hit (T4 v2) W (A1<|lr<|fun u6 hu6=>sq W<|sl W G_hit W<|bs hz1 fun v3 hv3 hz1=>ON A5 (26,u6) ([]:List Int) v2.Route _ (K1<|fun _=>W) W (Wg hu6) hv3 (Wg hu6) (sq W<|Jm _ _ _ _ _ (ZZ _ _) W W (gq W) (nl W) ((T4 v2).set 0 (oS v3 (26,u6))) W (A1<|pQ [(26,u6)] [(1,(.ptr (1,u1) 0)),(2,(.ptr (2,u1) 0)),(3,(.ptr (3,u2) 0)),(4,(di x1.1)),(5,(.ptr (5,u5) 0)),(12,(di x1.1)),(13,(.ptr (1,u1) 1)),(14,(dl C8 p1.Agents)),(15,(di (p1.Agents.length:Int))),(16,(.d (bo<|decide (x1.1< (p1.Agents.length:Int))))),(19,(.ptr (1,u1) 1)),(20,(dl C8 p1.Agents)),(21,(di x1.1)),(22,(.d (.lp (List.map C8 p1.Agents) (x1.1).toNat 0))),(23,(.d (.agg (C8 v2)))),(24,(.ptr (5,u5) 0)),(25,(dl A5 v2.Route)),(26,(dl A5 v3)),(27,(.ptr (5,u5) 0))] [((5,u5),some<|.box 45 ((T4 v2).set 0 (dl A5 v3))),((1,u1),some<|.box 25 (K4 p1)),((2,u1),some<|.box 25 [(di 0),(.d .nilS),(.d .nilS)]),((3,u2),some<|.box 25 [(di x1.2.Tick),(oS x1.2.Agents (32,g2.1)),(oS x1.2.In (10,g2.2))]),((32,g2.1),oB 45 7 C8 x1.2.Agents),((10,g2.2),oB 127 4 I9 x1.2.In)] ⟨Ej W,Ej W,Ej W,Ej W,Ej W,Ej W,Ej W,Ej W,Ej W,Ej W,Ej W,Ej W,Ej W,Ej W,Ej W,Ej W,Ej W,(kG (R9<|TD (.head _)<|gq W) R8),Ej W,trivial⟩ (YK G_hit (Mh (Nx W) Wj) (.cons (kG (R9<|TD (.head _)<|gq W) R8) (.cons (Ej W) (.cons (Ej W) (.cons (Ej W) (.cons (Ej W) (.cons (Ej W) (.cons (Ej W) .nil))))))) (KU (gq W) (Mh (Nx W) Wj) (KU (gq W) (Mh (Nx W) Wj) (KU (gq W) (Mh (Nx W) Wj) (fP (gq W) (Mh (Nx W) Wj) (fP (gq W) (Mh (Nx W) Wj) trivial)))))) (Ba fun u7 _=>sq W<|B8 (oS x1.2.Agents (32,g2.1)) W (O4 W (gq W) W) (sd W (A7 W G_hit W W)<|B8 (dl C8 [(Agent.mk v3 v2.S v2.V v2.Len v2.Begin v2.Obey v2.Gone)]) W W (bs hz1 fun _ hv4 hz1=>N8 C8 (32,g2.1) x1.2.Agents (Agent.mk v3 v2.S v2.V v2.Len v2.Begin v2.Obey v2.Gone) [] _ (K1<|fun _=>W) W (gq W) hv4 (sq W<|R4 W (gq W) [(di x1.2.Tick),(.sl (32,u7)),(oS x1.2.In (10,g2.2))] W (A1<|D9<|C0<|sv W<|sv W<|sv W<|A1<|E1 ?_))))))))
 cases hz1
 exact ⟨W,(u7,g2.2),(D5 (X3 W)<|sg W<|sg W<|B5 G_hit (.box (cv<|.cons (.of (S6<|T0 hv4).symm) cw))<|M6 (gq W)<|B7 (gq W) trivial)⟩
 refine C6 W ?_
 cases hz1
 obtain rfl:=ez1 _ rfl
 refine ⟨nofun,C5 W<|T3 ?_⟩
 exact ⟨(g2.1,g2.2),(D5 (X3 W)<|sg W<|sg W<|B7 (gq W)<|B7 (gq W) trivial)⟩
 rintro _ ⟨g1,q1⟩
 refine B4 q1<|B1<|B8 (W6 [(di y1.Tick),(oS y1.Agents (32,g1.1)),(oS y1.In (10,g1.2))]) W (A7 W (gq W) W W) (Jm _ _ _ _ _ (W2 _) W W G_hit (nl W) [(di y1.Tick),(oS y1.Agents (32,g1.1)),(oS y1.In (10,g1.2))] W (A1<|B2 ?_))
 obtain rfl:=(lD h)
 exact fK (v1:=(W6 [(di y1.Tick),(oS y1.Agents (32,g1.1)),(oS y1.In (10,g1.2))])) (.inr W) (KR<|H6 W G_hit (Nat.le_of_ble_eq_true W) W) (.of W) [((32,g1.1),oB 45 7 C8 y1.Agents),((10,g1.2),oB 127 4 I9 y1.In)] (B7 (gq W)<|B7 (gq W) trivial) (YF [(32,g1.1),(10,g1.2)] (by generalize y1.Agents=x1;generalize y1.In=x2;cases x1<;>cases x2<;>rfl) trivial ⟨(G_hit).trans oB_ren.symm,((gq W)).trans oB_ren.symm,trivial⟩ W (List.forall_mem_cons.2 ⟨fun i hi=>JE W hi,(List.forall_mem_cons.2 ⟨fun i hi=>JE W hi,(fun _ h=>nomatch h)⟩)⟩) (pA<|Nx W))
def Oj [Lp](p1:Map)(p2:Int):Option Int:=
  (Pl p1 p2).bind fun v1=>cond (!v1) (some 0) ((Kx p1 p2).bind fun v2=>some v2)
theorem IR(p1 p2 r)(h:Oj p1 p2=some r):PCall prog 126 [(.agg (P1 p1)),(i64 p2)] (i64 r):=by
 refine C2 (fk func126 ntmps126 m0 (by with_unfolding_all rfl)) (nl W) ?_
 unfold Oj at h
 refine B4 (s0:=⟨T [(0,(.d _)),(1,(.d _))],G []⟩) (E6 W W) ?_
 refine B1<|sm W<|sv W<|A1<|A4<|B1<|sd W (A7 W G_hit W W)<|sv W<|bs h fun v1 hv1 h=>B0 W W A3 (CA _ _ _ hv1) (.inl W) (B8 (.d (bo (!v1))) W W (A1<|cc W h (fun c1 h=> ?_)<|fun c1 h=> ?_))
 refine B1<|sv W<|A1<|B2 ?_
 cases h
 exact A6 (.inr W) (B6 (B3 W) C1) (.refl _)
 refine A9<|B1<|sd W (A7 W G_hit W W)<|sv W<|bs h fun _ hv2 h=>B0 W W A3 (Xm _ _ _ hv2) (.inl W) (sv W<|A1<|B2 ?_)
 cases h
 exact A6 (.inr W) (B6 (B3 W) C1) (.refl _)
def Jh [Lp](p1:Map)(p2:Agent)(v2:(List Int))(x1:((List Span)×Int)):Option (Stp ((List Span)×Int) (List Span)):=
  cond (decide (x1.2< (v2.length:Int))) ((C3 v2 x1.2).bind fun v3=>(C3 v2 x1.2).bind fun v4=>(C3 p2.Route x1.2).bind fun v5=>(Oj p1 v5).bind fun v6=>cond (decide ((Ov true 0 (D8 ((D8 (p2.S - p2.Len)) - v3)))≤(Ov false (D8 (p2.S - v4)) v6))) ((C3 p2.Route x1.2).bind fun v7=>(Am x1.1 [(Span.mk v7 (Ov true 0 (D8 ((D8 (p2.S - p2.Len)) - v3))) (Ov false (D8 (p2.S - v4)) v6))]).bind fun v8=>some (.go (v8,(D8 (x1.2+1))))) (some (.go (x1.1,(D8 (x1.2+1)))))) (some (.out x1.1))
def Pn [Lp](p1:Map)(p2:Agent):Option (List Span):=
  (Mt p2).bind fun v1=>cond (!v1) (some []) ((Fi p1 p2.Route).bind fun v2=>(loop (Jh p1 p2 v2) ([],0)).bind fun y1=>some y1)
theorem CB(p1 p2 r)(h:Pn p1 p2=some r):PCall prog 63 [(.agg (P1 p1)),(.agg (C8 p2))] (.list (List.map Q7 r)):=by
 refine C2 (fk func63 ntmps63 (fun r=>if r==10 then [1009]else []) (by with_unfolding_all rfl)) (nl W) ?_
 unfold Pn at h
 refine B4 (s0:=⟨T [(0,(.d _)),(1,(.d _))],G []⟩) (E6 W W) ?_
 refine lr<|fun u1 _=>sm W<|sm W<|sv W<|A1<|B1<|sv W<|A1<|A4<|B1<|sd W (A7 W G_hit W W)<|bs h fun v1 hv1 h=>B0 W W A3 (Vb _ _ hv1) (.inl W) (B8 (.d (bo (!v1))) W W (A1<|cc W h (fun c1 h=> ?_)<|fun c1 h=> ?_))
 refine B1<|sv W<|A1<|B2 ?_
 cases h
 exact A6 (.inr W) (B6 (B3 W) C1) DLe.nil
 refine A9<|B1<|sd W (A7 W (gq W) W W)<|sq W<|sl W G_hit W<|bs h fun v2 hv2 h=>B0 W W A3 (Rg _ _ _ hv2) (.inl W) (sv W<|A1<|A4<|B1<|sv W<|A1<|bs h fun y1 hy1 h=>D4 (fun s=> ∃g1:Nat,Sb ⟨T [(5,(oS y1 (62,g1)))],G [((62,g1),oB 93 3 Q7 y1)]⟩ s) ?_ ?_)
 refine A8<|E2 (Jh p1 p2 v2) (fun (x1:((List Span)×Int)) (g2:Nat)=>⟨T [(2,(.ptr (2,u1) 0)),(3,(.ptr (3,u1) 0)),(5,(oS x1.1 (62,g2))),(6,(dl A5 v2)),(7,(di x1.2))],G [((2,u1),some<|.box 33 (K8 p1)),((3,u1),some<|.box 45 (T4 p2)),((62,g2),oB 93 3 Q7 x1.1)]⟩) ([],0) 0 _ hy1 (D5 (X3 W)<|sg W<|B5 G_hit (.of W)<|P4 trivial) ?_
 intro x1 g2 z1 hz1 ez1
 unfold Jh at hz1
 refine A4<|B1<|sv W<|sv W<|sd W (D6 W)<|sv W<|A1<|cc W hz1 (fun c2 hz1=> ?_)<|fun c2 hz1=> ?_
 refine A9<|A4<|A8<|A4<|E0 W<|sq W<|sl W (gq W) W (sq W<|sl W (gq W) W (sv W<|sv W<|sv W<|bs hz1 fun v3 hv3 hz1=>sd W (C4 W W hv3 W)<|sd W (C7 W hv3 W)<|sv W<|sv W<|sq W<|sl W (gq W) W (sv W<|sv W<|bs hz1 fun v4 hv4 hz1=>sd W (C4 W W hv4 W)<|sd W (C7 W hv4 W)<|sv W<|sd W (A7 W G_hit W W)<|sq W<|sl W (gq W) W (sv W<|bs hz1 fun _ hv5 hz1=>sd W (C4 W W hv5 W)<|sd W (C7 W hv5 W)<|bs hz1 fun v6 hv6 hz1=>B0 W W A3 (IR _ _ _ hv6) (.inl W) (sv W<|sv W<|sv W<|A1<|B1<|sv W<|sv W<|sv W<|A1<|cc W hz1 (fun c3 hz1=> ?_)<|fun c3 hz1=> ?_)))))
 refine Ba fun u10 _=>B8 (oS x1.1 (62,g2)) W W (sq W<|sl W (gq W) W (sv W<|bs hz1 fun v7 hv7 hz1=>sd W (C4 W W hv7 W)<|sd W (C7 W hv7 W)<|sv W<|sv W<|sv W<|B8 (dl Q7 [(Span.mk v7 (Ov true 0<|D8 ((D8 (p2.S - p2.Len)) - v3))<|Ov false (D8 (p2.S - v4)) v6)]) W W (bs hz1 fun _ hv8 hz1=>N8 Q7 (62,g2) x1.1 (Span.mk v7 (Ov true 0<|D8 ((D8 (p2.S - p2.Len)) - v3))<|Ov false (D8 (p2.S - v4)) v6) [] _ (K1<|fun _=>W) W (gq W) hv8 (ss W<|A1<|D9<|C0<|sv W<|sv W<|sv W<|A1<|E1 ?_))))
 cases hz1
 exact ⟨W,u10,(D5 ⟨.of W, .of W,(.of (S6<|T0 hv8).symm), .of W, .of W,trivial⟩<|sg W<|sg W<|M6 G_hit trivial)⟩
 refine A9<|D9<|C0<|sv W<|sv W<|sv W<|A1<|E1 ?_
 cases hz1
 exact ⟨W,g2,(D5 (X3 W)<|B5 G_hit (.of W)<|sg W<|B7 (gq W) trivial)⟩
 refine C6 W ?_
 cases hz1
 obtain rfl:=ez1 _ rfl
 refine ⟨nofun,C5 W<|T3 ?_⟩
 exact ⟨g2,(D5 ⟨.of W,trivial⟩<|B7 (gq W) trivial)⟩
 rintro _ ⟨g1,q1⟩
 refine B4 q1<|B1<|B8 (oS y1 (62,g1)) W W (B8 (oS y1 (62,g1)) W W (A1<|B2 ?_))
 cases h
 exact A6 (.inr W) (B6 (B3 W)<|R9 G_hit) R8
def Ce (v1:(List Span))(v2:(List Span))(x1:Int)(x2:Int):Option (Stp Int (Sum Unit Bool)):=
  cond (decide (x2< (v2.length:Int))) ((C3 v1 x1).bind fun v3=>(C3 v2 x2).bind fun v4=>((cond (v3.Lane_==v4.Lane_) (C3 v1 x1) (some default))).bind fun v5=>((cond (v3.Lane_==v4.Lane_) (C3 v2 x2) (some default))).bind fun v6=>((cond ((v3.Lane_==v4.Lane_)&& (decide (v5.From≤v6.To))) (C3 v2 x2) (some default))).bind fun v7=>((cond ((v3.Lane_==v4.Lane_)&& (decide (v5.From≤v6.To))) (C3 v1 x1) (some default))).bind fun v8=>cond (((v3.Lane_==v4.Lane_)&& (decide (v5.From≤v6.To)))&& (decide (v7.From≤v8.To))) (some (.out (.inr true))) (some (.go (D8 (x2+1))))) (some (.out (.inl ())))
def Cf [Lp](v1:(List Span))(v2:(List Span))(x1:Int):Option (Stp Int (Sum Unit Bool)):=
  cond (decide (x1< (v1.length:Int))) (thenS (loop (Ce v1 v2 x1) 0) (fun _=>some (.go (D8 (x1+1)))) (fun r=>some (.out (.inr r)))) (some (.out (.inl ())))
def Kg [Lp](p1:Map)(p2:Agent)(p3:Agent):Option Bool:=
  (Pn p1 p2).bind fun v1=>(Pn p1 p3).bind fun v2=>thenS (loop (Cf v1 v2) 0) (fun _=>some false) (fun r=>some r)
theorem FD(p1 p2 p3 r)(h:Kg p1 p2 p3=some r):PCall prog 85 [(.agg (P1 p1)),(.agg (C8 p2)),(.agg (C8 p3))] (bo r):=by
 refine C2 (fk func85 ntmps85 m0 (by with_unfolding_all rfl)) (nl W) ?_
 unfold Kg at h
 refine B4 (s0:=⟨T [(0,(.d _)),(1,(.d _)),(2,(.d _))],G []⟩) (E6 W W) ?_
 refine B1<|sm W<|sn W W<|sm W<|sv W<|A1<|A4<|E0 W<|sd W (A7 W (gq W) W W)<|sd W (A7 W (gq W) W W)<|bs h fun v1 hv1 h=>B0 W W A3 (CB _ _ _ hv1) (.inl W) (sd W (A7 W (gq W) W W)<|sd W (A7 W G_hit W W)<|bs h fun v2 hv2 h=>B0 W W A3 (CB _ _ _ hv2) (.inl W) (sv W<|sv W<|A1<|A4<|B1<|sv W<|A1<|js h fun z1 hz1 h=>D4 (fun s=> ∃(y1:Unit) (g1:Unit),z1= .inl y1∧Sb ⟨T [],G []⟩ s) ?_ ?_))
 refine A8<|E2 (Cf v1 v2) (fun (x1:Int) (g2:Unit)=>⟨T [(7,(dl Q7 v1)),(8,(dl Q7 v2)),(9,(di x1))],G []⟩) 0 () _ hz1 (E6 W W) ?_
 intro x1 g2 z2 hz2 ez2
 unfold Cf at hz2
 refine A4<|B1<|sv W<|sv W<|sd W (D6 W)<|sv W<|A1<|cc W hz2 (fun c1 hz2=> ?_)<|fun c1 hz2=> ?_
 refine A9<|A4<|A8<|B1<|sv W<|A1<|js hz2 fun z3 hz3 hz2=>D4 (fun s=> ∃(y2:Unit) (g3:Unit),z3= .inl y2∧Sb ⟨T [(7,(dl Q7 v1)),(8,(dl Q7 v2)),(9,(di x1))],G []⟩ s) ?_ ?_
 refine A8<|E2 (Ce v1 v2 x1) (fun (x2:Int) (g4:Unit)=>⟨T [(7,(dl Q7 v1)),(8,(dl Q7 v2)),(9,(di x1)),(10,(di x2))],G []⟩) 0 () _ hz3 (E6 W W) ?_
 intro x2 g4 z4 hz4 ez4
 unfold Ce at hz4
 refine A4<|B1<|sv W<|sv W<|sd W (D6 W)<|sv W<|A1<|cc W hz4 (fun c2 hz4=> ?_)<|fun c2 hz4=> ?_
 refine A9<|A4<|A8<|A4<|E0 W<|sv W<|sv W<|bs hz4 fun _ hv3 hz4=>sd W (C4 W W hv3 W)<|sv W<|sd W (C7 W hv3 W)<|sv W<|sv W<|bs hz4 fun _ hv4 hz4=>sd W (C4 W W hv4 W)<|sv W<|sd W (C7 W hv4 W)<|sv W<|sv W<|gt W (fun _=>W)<|gt W (fun _=>W)<|bs hz4 fun _ hv5 hz4=>gt W (fun w3=>(C4 (A2 w3) (A2 w3) (B9 w3 hv5) W)) ?_
 refine gt W (fun w4=>(by simp only [A2 w4];rfl)) ?_
 refine gt W (fun w5=>(C7 (A2 w5) (B9 w5 hv5) W))<|gt W (fun _=>W)<|gt W (fun _=>W)<|bs hz4 fun _ hv6 hz4=>gt W (fun w8=>(C4 (A2 w8) (A2 w8) (B9 w8 hv6) W)) ?_
 refine gt W (fun w9=>(by simp only [A2 w9];rfl)) ?_
 refine gt W (fun w10=>(C7 (A2 w10) (B9 w10 hv6) W))<|gt W (fun w11=>(L6 (A2 w11) (A2 w11) W))<|sa W W W<|sv W<|gt W (fun _=>W)<|gt W (fun _=>W)<|bs hz4 fun _ hv7 hz4=>gt W (fun w14=>(C4 (A2 w14) (A2 w14) (B9 w14 hv7) W)) ?_
 refine gt W (fun w15=>(by simp only [A2 w15];rfl)) ?_
 refine gt W (fun w16=>(C7 (A2 w16) (B9 w16 hv7) W))<|gt W (fun _=>W)<|gt W (fun _=>W)<|bs hz4 fun _ hv8 hz4=>gt W (fun w19=>(C4 (A2 w19) (A2 w19) (B9 w19 hv8) W)) ?_
 refine gt W (fun w20=>(by simp only [A2 w20];rfl)) ?_
 refine gt W (fun w21=>(C7 (A2 w21) (B9 w21 hv8) W))<|gt W (fun w22=>(L6 (A2 w22) (A2 w22) W))<|sa W W W<|A1<|cc W hz4 (fun c3 hz4=> ?_)<|fun c3 hz4=> ?_
 refine B1<|sv W<|A1<|B2 ?_
 cases hz4
 obtain rfl:=ez4 _ rfl
 refine ⟨nofun,F1 ?_⟩
 rw [wA]at hz2
 cases hz2
 obtain rfl:=ez2 _ rfl
 refine ⟨nofun,F1 ?_⟩
 rw [wA]at h
 cases h
 exact A6 (.inr W) (B6 (B3 W) C1) (.refl _)
 refine A9<|D9<|C0<|sv W<|sv W<|sv W<|A1<|E1 ?_
 cases hz4
 exact ⟨W,(),(E6 W W)⟩
 refine C6 W ?_
 cases hz4
 obtain rfl:=ez4 _ rfl
 refine ⟨nofun,C5 W<|T3 ?_⟩
 exact ⟨_,(),W,(E6 W W)⟩
 rintro _ ⟨y2,g3,rfl,q1⟩
 rw [bZ]at hz2
 refine D9<|B4 q1<|C0<|sv W<|sv W<|sv W<|A1<|E1 ?_
 cases hz2
 exact ⟨W,(),(E6 W W)⟩
 refine C6 W ?_
 cases hz2
 obtain rfl:=ez2 _ rfl
 refine ⟨nofun,C5 W<|T3 ?_⟩
 exact ⟨_,(),W,(E6 W W)⟩
 rintro _ ⟨y1,g1,rfl,q2⟩
 rw [bZ]at h
 refine B4 q2<|B1<|sv W<|A1<|B2 ?_
 cases h
 exact A6 (.inr W) (B6 (B3 W) C1) (.refl _)
def Gw [Lp](p1:Map)(p2:State)(p3:State)(p4:Int)(p5:Int)(x1:((List Int)×Int)):Option (Stp ((List Int)×Int) (List Int)):=
  cond (decide (x1.2< (p1.Zones.length:Int))) ((C3 p2.Agents p4).bind fun v1=>(C3 p2.Agents p5).bind fun v2=>(C3 p3.Agents p4).bind fun v3=>(Fw p1 v1 v3 x1.2).bind fun v4=>((cond (!(!v4)) (C3 p3.Agents p5) (some default))).bind fun v5=>((cond (!(!v4)) (Fw p1 v2 v5 x1.2) (some default))).bind fun v6=>cond ((!v4)||(!v6)) (some (.go (x1.1,(D8 (x1.2+1))))) ((Kf p1 v1.Route x1.2).bind fun v7=>(C3 v1.Route v7).bind fun v8=>(Kf p1 v2.Route x1.2).bind fun v9=>(C3 v2.Route v9).bind fun v10=>cond (v8 !=v10) ((Am x1.1 [x1.2]).bind fun v11=>some (.go (v11,(D8 (x1.2+1))))) (some (.go (x1.1,(D8 (x1.2+1))))))) (some (.out x1.1))
def Qu [Lp](p1:Map)(p2:State)(p3:State)(p4:Int)(p5:Int):Option (List Int):=
  (loop (Gw p1 p2 p3 p4 p5) ([],0)).bind fun y1=>some y1
theorem LJ(p1 p2 p3 p4 p5 r)(h:Qu p1 p2 p3 p4 p5=some r):PCall prog 86 [(.agg (P1 p1)),(.agg (Y8 p2)),(.agg (Y8 p3)),(i64 p4),(i64 p5)] (.list (List.map A5 r)):=by
 refine C2 (fk func86 ntmps86 (fun r=>if r==8 then [1002]else []) (by with_unfolding_all rfl)) (nl W) ?_
 unfold Qu at h
 refine B4 (s0:=⟨T [(0,(.d _)),(1,(.d _)),(2,(.d _)),(3,(.d _)),(4,(.d _))],G []⟩) (E6 W W) ?_
 refine lr<|fun u1 _=>sm W<|sm W<|sn W W<|sv W<|A1<|B1<|sv W<|A1<|A4<|B1<|sv W<|A1<|bs h fun y1 hy1 h=>D4 (fun s=> ∃g1:Nat,Sb ⟨T [(11,(oS y1 (76,g1)))],G [((76,g1),oB 3 1 A5 y1)]⟩ s) ?_ ?_
 refine A8<|E2 (Gw p1 p2 p3 p4 p5) (fun (x1:((List Int)×Int)) (g2:Nat)=>⟨T [(3,(di p4)),(4,(di p5)),(5,(.ptr (5,u1) 0)),(6,(.ptr (6,u1) 0)),(7,(.ptr (7,u1) 0)),(11,(oS x1.1 (76,g2))),(12,(di x1.2))],G [((5,u1),some<|.box 33 (K8 p1)),((6,u1),some<|.box 25 (K4 p2)),((7,u1),some<|.box 25 (K4 p3)),((76,g2),oB 3 1 A5 x1.1)]⟩) ([],0) 0 _ hy1 (D5 (X3 W)<|sg W<|sg W<|B5 G_hit (.of W)<|P4 trivial) ?_
 intro x1 g2 z1 hz1 ez1
 unfold Gw at hz1
 refine A4<|B1<|sv W<|sq W<|sl W G_hit W<|sd W (D6 W)<|sv W<|A1<|cc W hz1 (fun c1 hz1=> ?_)<|fun c1 hz1=> ?_
 refine A9<|A4<|A8<|A4<|Pw fun _ _=>N1 (.ptr _ _) W W (N1 (.d _) W (O4 W (gq W) W) (N1 (.d _) W W (bs hz1 fun v1 hv1 hz1=>N1 (.d _) W (C4 W W hv1 W) (N1 (.d _) W (D1 W hv1 W W) (N1 (.ptr _ _) W W (N1 (.d _) W (O4 W (gq W) W) (N1 (.d _) W W (bs hz1 fun v2 hv2 hz1=>N1 (.d _) W (C4 W W hv2 W) (N1 (.d _) W (D1 W hv2 W W) (KM (.ptr _ _) (.box _ _) W W (KM (.ptr _ _) (.box _ _) W W (Px _ _ _ _ _ W W W (gq W) (nl W) (T4 v1) W (Px _ _ _ _ _ W W W (gq W) (nl W) (T4 v2) W (BP ⟨W,?_⟩))))))))))))))
 refine A4<|A4<|E0 W<|sd W (A7 W (gq W) W W)<|sd W (A7 W (gq W) W W)<|sq W<|sl W (gq W) W (sv W<|bs hz1 fun _ hv3 hz1=>sd W (C4 W W hv3 W)<|sd W (D1 W hv3 W W)<|sv W<|bs hz1 fun v4 hv4 hz1=>B0 W W A3 (Pk _ _ _ _ _ hv4) (.inl W) (B8 (.d (bo (!v4))) W W (sv W<|gf W (fun _=>(A7 W (gq W) W W))<|gf W (fun _=>(A7 W G_hit W W))<|gp W (K6 W) (fun _=>W) (gf W (vl W (gq W) W)<|gf W (fun _=>W)<|bs hz1 fun v5 hv5 hz1=>gf W (fun w6=>(C4 (A2 w6) (A2 w6) (B9 w6 hv5) W))<|gf W (fun w7=>(D1 (A2 w7) (B9 w7 hv5) W W))<|gf W (fun _=>W)<|bs hz1 fun v6 hv6 hz1=> ?_))))
 refine M2 _ (bo v6) (K6 W) (fun w9=>⟨_,[(.d (.agg (P1 p1))),(.d (.agg (C8 v2))),(.d (.agg (C8 v5))),(di x1.2)],_,_,(by simp only [A2 w9];rfl),W,A3,Pk _ _ _ _ _<|B9 w9 hv6,(.inl W)⟩) ?_
 refine M3 _ (.d (bo (!v6))) W (K6 W) (fun w10=>(by simp only [A2 w10];rfl)) ?_
 refine sd W (N9 W W<|fun hc=>A2<|J2 hc)<|A1<|cc W hz1 (fun c2 hz1=> ?_)<|fun c2 hz1=> ?_
 refine Sr W<|C0<|sv W<|sv W<|sv W<|A1<|E1 ?_
 cases hz1
 exact ⟨W,g2,(D5 (X3 W)<|sg W<|sg W<|sg W<|B7 (gq W) trivial)⟩
 refine A9<|A4<|E0 W<|sq W<|sl W (gq W) W (sd W (A7 W (gq W) W W)<|sq W<|sl W (gq W) W (sv W<|bs hz1 fun _ hv7 hz1=>B0 W W A3 (Tm _ _ _ _ hv7) (.inl W) (bs hz1 fun _ hv8 hz1=>sd W (C4 W W hv8 W)<|sd W (C7 W hv8 W)<|sq W<|sl W G_hit W<|sd W (A7 W (gq W) W W)<|sq W<|sl W G_hit W<|sv W<|bs hz1 fun _ hv9 hz1=>B0 W W A3 (Tm _ _ _ _ hv9) (.inl W) (bs hz1 fun _ hv10 hz1=>sd W (C4 W W hv10 W)<|sd W (C7 W hv10 W)<|sv W<|A1<|cc W hz1 (fun c3 hz1=> ?_)<|fun c3 hz1=> ?_))))
 refine Ba fun u9 _=>B8 (oS x1.1 (76,g2)) W W (sv W<|B8 (dl A5 [x1.2]) W W (bs hz1 fun _ hv11 hz1=>N8 A5 (76,g2) x1.1 x1.2 [] _ (K1<|fun _=>W) W (gq W) hv11 (ss W<|A1<|D9<|C0<|sv W<|sv W<|sv W<|A1<|E1 ?_)))
 cases hz1
 exact ⟨W,u9,(D5 ⟨.of W, .of W, .of W, .of W, .of W,(.of (S6<|T0 hv11).symm), .of W,trivial⟩<|sg W<|sg W<|sg W<|M6 G_hit trivial)⟩
 refine A9<|D9<|C0<|sv W<|sv W<|sv W<|A1<|E1 ?_
 cases hz1
 exact ⟨W,g2,(D5 (X3 W)<|sg W<|sg W<|sg W<|B7 (gq W) trivial)⟩
 refine C6 W ?_
 cases hz1
 obtain rfl:=ez1 _ rfl
 refine ⟨nofun,C5 W<|T3 ?_⟩
 exact ⟨g2,(D5 ⟨.of W,trivial⟩<|B7 (gq W) trivial)⟩
 rintro _ ⟨g1,q1⟩
 refine B4 q1<|B1<|B8 (oS y1 (76,g1)) W W (B8 (oS y1 (76,g1)) W W (A1<|B2 ?_))
 cases h
 exact A6 (.inr W) (B6 (B3 W)<|R9 G_hit) R8
def Ib [Lp](p1:Map)(p2:(List Agent))(x4:(Int×State))(x5:Int):Option (Stp Int (Sum Unit (State×Int))):=
  cond (decide (x5< (p2.length:Int))) ((Kd x4.2 x4.1).bind fun v11=>((cond (!(!v11)) (Kd x4.2 x5) (some default))).bind fun v12=>cond ((!v11)||(!v12)) (some (.go (D8 (x5+1)))) ((C3 p2 x4.1).bind fun v13=>(C3 p2 x5).bind fun v14=>(Kg p1 v13 v14).bind fun v15=>((cond (!v15) (Qu p1 x4.2 x4.2 x4.1 x5) (some default))).bind fun v16=>cond (v15||(decide ((v16.length:Int)>0))) (some (.out (.inr ((State.mk 0 [] []),12)))) (some (.go (D8 (x5+1)))))) (some (.out (.inl ())))
def Fk [Lp](p1:Map)(p2:(List Agent))(x4:(Int×State)):Option (Stp (Int×State) (Sum State (State×Int))):=
  cond (decide (x4.1< (p2.length:Int))) (thenS (loop (Ib p1 p2 x4) (D8 (x4.1+1))) (fun _=>some (.go ((D8 (x4.1+1)),x4.2))) (fun r=>some (.out (.inr r)))) (some (.out (.inl x4.2)))
def Ic [Lp](p1:Map)(p2:(List Agent))(x2:(Int×State))(x3:(Int×State)):Option (Stp (Int×State) State):=
  ((cond (decide (x3.1< (p1.Zones.length:Int))) (Kd x3.2 x2.1) (some default))).bind fun v4=>cond ((decide (x3.1< (p1.Zones.length:Int)))&&v4) ((C3 p2 x2.1).bind fun v5=>(C3 p2 x2.1).bind fun v6=>(Fw p1 v5 v6 x3.1).bind fun v7=>cond v7 ((C3 p2 x2.1).bind fun v8=>(Tn p1 v8 x3.1 0).bind fun v9=>(Am x3.2.In [(Stay.mk x2.1 x3.1 0 v9)]).bind fun v10=>some (.go ((D8 (x3.1+1)),(State.mk x3.2.Tick x3.2.Agents v10)))) (some (.go ((D8 (x3.1+1)),x3.2)))) (some (.out x3.2))
def Ie [Lp](p1:Map)(p2:(List Agent))(x2:(Int×State)):Option (Stp (Int×State) State):=
  cond (decide (x2.1< (p2.length:Int))) ((loop (Ic p1 p2 x2) (0,x2.2)).bind fun y3=>some (.go ((D8 (x2.1+1)),y3))) (some (.out x2.2))
def Kz (p2:(List Agent))(x1:Int):Option (Stp Int (Sum Unit (State×Int))):=
  cond (decide (x1< (p2.length:Int))) ((C3 p2 x1).bind fun v3=>cond v3.Gone (some (.out (.inr ((State.mk 0 [] []),10)))) (some (.go (D8 (x1+1))))) (some (.out (.inl ())))
def Po [Lp](p1:Map)(p2:(List Agent)):Option (State×Int):=
  (Qb (State.mk 0 p2 [])).bind fun v1=>(Qr p1 v1).bind fun v2=>cond (v2 !=0) (some ((State.mk 0 [] []),v2)) (thenS (loop (Kz p2) 0) (fun _=>(loop (Ie p1 p2) (0,v1)).bind fun y2=>thenS (loop (Fk p1 p2) (0,y2)) (fun y4=>some (y4,0)) (fun r=>some r)) (fun r=>some r))
theorem Wt(p1 p2 r)(h:Po p1 p2=some r):PCall prog 28 [(.agg (P1 p1)),(.list (List.map C8 p2))] (.tup [(.agg (Y8 r.1)),(i64 r.2)]):=by
 refine C2 (fk func28 ntmps28 (fun r=>if r==1 then [1001002]else if r==17 then [1012]else []) (by with_unfolding_all rfl)) (nl W) ?_
 unfold Po at h
 refine B4 (s0:=⟨T [(0,(.d _)),(1,(.d _))],G []⟩) (E6 W W) ?_
 refine lr<|fun u1 _=>sm W<|sm W<|sv W<|A1<|lr<|fun u2 _=>sv W<|sv W<|bs h fun v1 hv1 h=> ?_
 refine GB (v:=W6 [(di v1.Tick),(oS v1.Agents (10010020,u2)),(oS v1.In (10010021,u2))]) (us:= [(10010020,u2),(10010021,u2)]) (fN (GK _ _ hv1) [] [] _ (((10010021,u2),oB 127 4 I9 v1.In)::(((10010020,u2),oB 45 7 C8 v1.Agents)::_)) W (.cons (DLe.d<|.agg (ca W<|ca W<|.cons ⟨DLe.nil,W⟩ .nil)) .nil) W Ik trivial (fun _ h=>h) List.nodup_nil (by generalize v1.Agents=x1;generalize v1.In=x2;cases x1<;>cases x2<;>rfl) W (KT<|KT (W)) W) ?_
 refine sn W W<|Jm _ _ _ _ _ (W2 _) W W G_hit (nl W) [(di v1.Tick),(oS v1.Agents (10010020,u2)),(oS v1.In (10010021,u2))] W (A1<|B1<|sd W (A7 W (gq W) W W)<|B8 (W6 [(di v1.Tick),(oS v1.Agents (10010020,u2)),(oS v1.In (10010021,u2))]) W (A7 W G_hit W W) (bs h fun _ hv2 h=>B0 W (rD<|E4 (Nq<|rD<|E4 (R9<|gq W)<|E4 (R9<|gq W) F6) F6) (.cons (.refl _) (.cons (.agg (ca W<|.cons ⟨R8,W⟩ (.cons ⟨R8,W⟩ .nil))) .nil)) (LG _ _ _ hv2) (.inr W) (sv W<|A1<|A4<|B1<|sv W<|sv W<|A1<|cc W h (fun c1 h=> ?_)<|fun c1 h=> ?_)))
 refine B1<|sv W<|sv W<|R4 W (gq W) [(di 0),(.d .nilS),(.d .nilS)] W (sv W<|A1<|B2 ?_)
 cases h
 exact A6 (.inr W) (Lh (H6 W G_hit (nl W) W) (B3 W) C1 C1) (.tup (.cons (.agg (ca W<|.cons ⟨DLe.nil,W⟩ (.cons ⟨DLe.nil,W⟩ .nil))) A3))
 refine A9<|A4<|B1<|sv W<|A1<|js h fun z1 hz1 h=>D4 (fun s=> ∃(y1:Unit) (g1:Unit),z1= .inl y1∧Sb ⟨T [(1,(dl C8 p2)),(2,(.ptr (2,u1) 0)),(4,(.ptr (4,u1) 0)),(6,(.ptr (6,u2) 0))],G [((2,u1),some<|.box 33 (K8 p1)),((4,u1),some<|.box 25 [(di 0),(.d .nilS),(.d .nilS)]),((6,u2),some<|.box 25 [(di v1.Tick),(oS v1.Agents (10010020,u2)),(oS v1.In (10010021,u2))]),((10010020,u2),oB 45 7 C8 v1.Agents),((10010021,u2),oB 127 4 I9 v1.In)]⟩ s) ?_ ?_
 refine A8<|E2 (Kz p2) (fun (x1:Int) (g2:Unit)=>⟨T [(1,(dl C8 p2)),(2,(.ptr (2,u1) 0)),(4,(.ptr (4,u1) 0)),(6,(.ptr (6,u2) 0)),(8,(di x1))],G [((2,u1),some<|.box 33 (K8 p1)),((4,u1),some<|.box 25 [(di 0),(.d .nilS),(.d .nilS)]),((6,u2),some<|.box 25 [(di v1.Tick),(oS v1.Agents (10010020,u2)),(oS v1.In (10010021,u2))]),((10010020,u2),oB 45 7 C8 v1.Agents),((10010021,u2),oB 127 4 I9 v1.In)]⟩) 0 () _ hz1 (D5 (X3 W)<|sg W<|sg W<|B5 G_hit (.of W)<|B7 (gq W)<|B7 (gq W) trivial) ?_
 intro x1 g2 z2 hz2 ez2
 unfold Kz at hz2
 refine A4<|B1<|sv W<|sv W<|sd W (D6 W)<|sv W<|A1<|cc W hz2 (fun c2 hz2=> ?_)<|fun c2 hz2=> ?_
 refine A9<|A4<|A8<|B1<|sv W<|sv W<|bs hz2 fun _ hv3 hz2=>sd W (C4 W W hv3 W)<|sv W<|sd W (C7 W hv3 W)<|A1<|cc W hz2 (fun c3 hz2=> ?_)<|fun c3 hz2=> ?_
 refine B1<|sv W<|R4 W (gq W) [(di 0),(.d .nilS),(.d .nilS)] W (sv W<|A1<|B2 ?_)
 cases hz2
 obtain rfl:=ez2 _ rfl
 refine ⟨nofun,F1 ?_⟩
 rw [wA]at h
 cases h
 exact A6 (.inr W) (Lh (H6 W G_hit (nl W) W) (B3 W) C1 C1) (.tup (.cons (.agg (ca W<|.cons ⟨DLe.nil,W⟩ (.cons ⟨DLe.nil,W⟩ .nil))) A3))
 refine A9<|D9<|C0<|sv W<|sv W<|sv W<|A1<|E1 ?_
 cases hz2
 exact ⟨W,(),(D5 (X3 W)<|B5 G_hit (.of W)<|sg W<|sg W<|B7 (gq W)<|B7 (gq W) trivial)⟩
 refine C6 W ?_
 cases hz2
 obtain rfl:=ez2 _ rfl
 refine ⟨nofun,C5 W<|T3 ?_⟩
 exact ⟨_,(),W,(D5 (X3 W)<|B5 G_hit (.of W)<|sg W<|sg W<|B7 (gq W)<|B7 (gq W) trivial)⟩
 rintro _ ⟨y1,g1,rfl,q1⟩
 rw [bZ]at h
 refine B4 q1<|A4<|B1<|sv W<|A1<|bs h fun y2 hy2 h=>D4 (fun s=> ∃g3:(Nat× ({d:Nat // d∈ [77,10010021]}×Nat)),Sb ⟨T [(1,(dl C8 p2)),(2,(.ptr (2,u1) 0)),(4,(.ptr (4,u1) 0)),(6,(.ptr (6,u2) 0))],G [((2,u1),some<|.box 33 (K8 p1)),((4,u1),some<|.box 25 [(di 0),(.d .nilS),(.d .nilS)]),((6,u2),some<|.box 25 [(di y2.Tick),(oS y2.Agents (10010020,g3.1)),(oS y2.In (g3.2.1.val,g3.2.2))]),((10010020,g3.1),oB 45 7 C8 y2.Agents),((g3.2.1.val,g3.2.2),oB 127 4 I9 y2.In)]⟩ s) ?_ ?_
 refine A8<|E2 (Ie p1 p2) (fun (x2:(Int×State)) (g4:(Nat× ({d:Nat // d∈ [77,10010021]}×Nat)))=>⟨T [(1,(dl C8 p2)),(2,(.ptr (2,u1) 0)),(4,(.ptr (4,u1) 0)),(6,(.ptr (6,u2) 0)),(9,(di x2.1))],G [((2,u1),some<|.box 33 (K8 p1)),((4,u1),some<|.box 25 [(di 0),(.d .nilS),(.d .nilS)]),((6,u2),some<|.box 25 [(di x2.2.Tick),(oS x2.2.Agents (10010020,g4.1)),(oS x2.2.In (g4.2.1.val,g4.2.2))]),((10010020,g4.1),oB 45 7 C8 x2.2.Agents),((g4.2.1.val,g4.2.2),oB 127 4 I9 x2.2.In)]⟩) (0,v1) (u2,(⟨10010021, .tail _ (.head _)⟩,u2)) _ hy2 (D5 (X3 W)<|B5 G_hit (.of W)<|sg W<|sg W<|B7 (gq W)<|B7 (gq W) trivial) ?_
 intro x2 g4 z3 hz3 ez3
 unfold Ie at hz3
 refine A4<|B1<|sv W<|sv W<|sd W (D6 W)<|sv W<|A1<|cc W hz3 (fun c4 hz3=> ?_)<|fun c4 hz3=> ?_
 refine A9<|A4<|A8<|B1<|sv W<|A1<|bs hz3 fun y3 hy3 hz3=>D4 (fun s=> ∃g5:(Nat× ({d:Nat // d∈ [77,10010021]}×Nat)),Sb ⟨T [(1,(dl C8 p2)),(2,(.ptr (2,u1) 0)),(4,(.ptr (4,u1) 0)),(6,(.ptr (6,u2) 0)),(9,(di x2.1))],G [((2,u1),some<|.box 33 (K8 p1)),((4,u1),some<|.box 25 [(di 0),(.d .nilS),(.d .nilS)]),((6,u2),some<|.box 25 [(di y3.Tick),(oS y3.Agents (10010020,g5.1)),(oS y3.In (g5.2.1.val,g5.2.2))]),((10010020,g5.1),oB 45 7 C8 y3.Agents),((g5.2.1.val,g5.2.2),oB 127 4 I9 y3.In)]⟩ s) ?_ ?_
 refine A8<|E2 (Ic p1 p2 x2) (fun (x3:(Int×State)) (g6:(Nat× ({d:Nat // d∈ [77,10010021]}×Nat)))=>⟨T [(1,(dl C8 p2)),(2,(.ptr (2,u1) 0)),(4,(.ptr (4,u1) 0)),(6,(.ptr (6,u2) 0)),(9,(di x2.1)),(10,(di x3.1))],G [((2,u1),some<|.box 33 (K8 p1)),((4,u1),some<|.box 25 [(di 0),(.d .nilS),(.d .nilS)]),((6,u2),some<|.box 25 [(di x3.2.Tick),(oS x3.2.Agents (10010020,g6.1)),(oS x3.2.In (g6.2.1.val,g6.2.2))]),((10010020,g6.1),oB 45 7 C8 x3.2.Agents),((g6.2.1.val,g6.2.2),oB 127 4 I9 x3.2.In)]⟩) (0,x2.2) (g4.1,(g4.2.1,g4.2.2)) _ hy3 (D5 (X3 W)<|B5 G_hit (.of W)<|sg W<|sg W<|B7 (gq W)<|B7 (Wi g4.2.1.property 4 W G_hit) trivial) ?_
 intro x3 g6 z4 hz4 ez4
 unfold Ic at hz4
 refine A4<|B1<|sv W<|sq W<|sl W G_hit W<|sd W (D6 W)<|sv W<|sv W<|M3 _ (W6 [(di x3.2.Tick),(oS x3.2.Agents (10010020,g6.1)),(oS x3.2.In (g6.2.1.val,g6.2.2))]) W (K2 W) (fun _=>(A7 W (gq W) W W)) (gt W (fun _=>W)<|bs hz4 fun v4 hv4 hz4=> ?_)
 refine M2 _ (bo v4) (K2 W) (fun w3=>⟨_,[(W6 [(di x3.2.Tick),(oS x3.2.Agents (10010020,g6.1)),(oS x3.2.In (g6.2.1.val,g6.2.2))]),(di x2.1)],_,_,(by simp only [A2 w3];rfl),(E4 (Nq<|rD<|E4 (R9<|gq W)<|E4 (R9<|Wi g6.2.1.property 4 W G_hit) F6)<|rD F6),(.cons (.agg (ca W<|.cons ⟨R8,W⟩ (.cons ⟨R8,W⟩ .nil))) A3),Tl _ _ _<|B9 w3 hv4,(.inr W)⟩) ?_
 refine sa W W W<|A1<|cc W hz4 (fun c5 hz4=> ?_)<|fun c5 hz4=> ?_
 refine A9<|A4<|A8<|A4<|E0 W<|sd W (A7 W G_hit W W)<|sv W<|sv W<|bs hz4 fun _ hv5 hz4=>sd W (C4 W W hv5 W)<|sd W (D1 W hv5 W W)<|sv W<|sv W<|bs hz4 fun _ hv6 hz4=>sd W (C4 W W hv6 W)<|sd W (D1 W hv6 W W)<|sv W<|bs hz4 fun _ hv7 hz4=>B0 W W A3 (Pk _ _ _ _ _ hv7) (.inl W) (A1<|cc W hz4 (fun c6 hz4=> ?_)<|fun c6 hz4=> ?_)
 refine Jr W fun u16 _=>sq W<|B8 (oS x3.2.In (g6.2.1.val,g6.2.2)) W (O4 W (gq W) W) (sv W<|sv W<|sd W (A7 W G_hit W W)<|sv W<|sv W<|bs hz4 fun _ hv8 hz4=>sd W (C4 W W hv8 W)<|sd W (D1 W hv8 W W)<|sv W<|bs hz4 fun v9 hv9 hz4=>B0 W W A3 (NK _ _ _ _ _ hv9) (.inl W) (sv W<|B8 (dl I9 [(Stay.mk x2.1 x3.1 0 v9)]) W W (bs hz4 fun _ hv10 hz4=>N8 I9 (g6.2.1.val,g6.2.2) x3.2.In (Stay.mk x2.1 x3.1 0 v9) [] _ (K1<|fun _=>W) W (F2 (BR g6.2.1.property W)<|F2 (BR g6.2.1.property W)<|F2 (BR g6.2.1.property W)<|F2 (BR g6.2.1.property W) G_hit) hv10 (sq W<|Jm _ _ _ _ _ W W W (F2 W<|F2 (CZ g6.2.1.property W)<|gq W) (nl W) [(di x3.2.Tick),(oS x3.2.Agents (10010020,g6.1)),(.sl (77,u16))] W (A1<|D9<|C0<|sv W<|sv W<|sv W<|A1<|E1 ?_)))))
 cases hz4
 exact ⟨W,(g6.1,(⟨77, .head _⟩,u16)),(D5 (X3 W)<|B5 (Vo 2 W<|F2 (CZ g6.2.1.property W) G_hit) (.of W) (B5 (Vo 2 W<|F2 (CZ g6.2.1.property W)<|gq W) (.of W) (B5 G_hit (.box (cv<|cv<|.cons (.of (S6<|T0 hv10).symm) .nil))<|B7 (Vo 2 W<|F2 (CZ g6.2.1.property W)<|gq W)<|M6 (gq W) trivial)))⟩
 refine A9<|D9<|C0<|sv W<|sv W<|sv W<|A1<|E1 ?_
 cases hz4
 exact ⟨W,(g6.1,(g6.2.1,g6.2.2)),(D5 (X3 W)<|B5 G_hit (.of W)<|sg W<|sg W<|B7 (gq W)<|B7 (Wi g6.2.1.property 4 W G_hit) trivial)⟩
 refine C6 W ?_
 cases hz4
 obtain rfl:=ez4 _ rfl
 refine ⟨nofun,C5 W<|T3 ?_⟩
 exact ⟨(g6.1,(g6.2.1,g6.2.2)),(D5 (X3 W)<|B5 G_hit (.of W)<|sg W<|sg W<|B7 (gq W)<|B7 (Wi g6.2.1.property 4 W G_hit) trivial)⟩
 rintro _ ⟨g5,q2⟩
 refine D9<|B4 q2<|C0<|sv W<|sv W<|sv W<|A1<|E1 ?_
 cases hz3
 exact ⟨W,(g5.1,(g5.2.1,g5.2.2)),(D5 (X3 W)<|B5 G_hit (.of W)<|sg W<|sg W<|B7 (gq W)<|B7 (Wi g5.2.1.property 4 W G_hit) trivial)⟩
 refine C6 W ?_
 cases hz3
 obtain rfl:=ez3 _ rfl
 refine ⟨nofun,C5 W<|T3 ?_⟩
 exact ⟨(g4.1,(g4.2.1,g4.2.2)),(D5 (X3 W)<|B5 G_hit (.of W)<|sg W<|sg W<|B7 (gq W)<|B7 (Wi g4.2.1.property 4 W G_hit) trivial)⟩
 rintro _ ⟨g3,q3⟩
 refine B4 q3<|A4<|B1<|sv W<|A1<|js h fun z5 hz5 h=>D4 (fun s=> ∃(y4:State) (g7:Unit),z5= .inl y4∧Sb ⟨T [(4,(.ptr (4,u1) 0)),(6,(.ptr (6,u2) 0))],G [((4,u1),some<|.box 25 [(di 0),(.d .nilS),(.d .nilS)]),((6,u2),some<|.box 25 (K4 y4))]⟩ s) ?_ ?_
 refine A8<|pQ [(10010020,g3.1),(g3.2.1.val,g3.2.2)] [(1,(dl C8 p2)),(2,(.ptr (2,u1) 0)),(4,(.ptr (4,u1) 0)),(6,(.ptr (6,u2) 0)),(11,(di 0))] [((2,u1),some<|.box 33 (K8 p1)),((4,u1),some<|.box 25 [(di 0),(.d .nilS),(.d .nilS)]),((6,u2),some<|.box 25 (K4 y2))] ⟨Ej W,Ej W,Ej W,Ej W,Ej W,trivial⟩ (KU G_hit (Mh (Nx W)<|Mh (Nx<|CZ g3.2.1.property W) Wj)<|KU (gq W) (Mh (Nx W)<|Mh (Nx<|CZ g3.2.1.property W) Wj) (YK (gq W) (Mh (Nx W)<|Mh (Nx<|CZ g3.2.1.property W) Wj) (.cons (Ej W) (.cons (kG (R9<|TD (.head _)<|gq W) R8) (.cons (kG (R9<|TD (.tail _ (.head _))<|F2 (BR g3.2.1.property W)<|F2 (BR g3.2.1.property W)<|F2 (BR g3.2.1.property W)<|F2 (BR g3.2.1.property W) G_hit) R8) .nil))) trivial)) (E2 (Fk p1 p2) (fun (x4:(Int×State)) (g8:Unit)=>⟨T [(1,(dl C8 p2)),(2,(.ptr (2,u1) 0)),(4,(.ptr (4,u1) 0)),(6,(.ptr (6,u2) 0)),(11,(di x4.1))],G [((2,u1),some<|.box 33 (K8 p1)),((4,u1),some<|.box 25 [(di 0),(.d .nilS),(.d .nilS)]),((6,u2),some<|.box 25 (K4 x4.2))]⟩) (0,y2) () _ hz5 (E6 W W) ?_)
 intro x4 g8 z6 hz6 ez6
 unfold Fk at hz6
 refine A4<|B1<|sv W<|sv W<|sd W (D6 W)<|sv W<|A1<|cc W hz6 (fun c7 hz6=> ?_)<|fun c7 hz6=> ?_
 refine A9<|A4<|A8<|B1<|sv W<|sv W<|sv W<|A1<|js hz6 fun z7 hz7 hz6=>D4 (fun s=> ∃(y5:Unit) (g9:Unit),z7= .inl y5∧Sb ⟨T [(1,(dl C8 p2)),(2,(.ptr (2,u1) 0)),(4,(.ptr (4,u1) 0)),(6,(.ptr (6,u2) 0)),(11,(di x4.1))],G [((2,u1),some<|.box 33 (K8 p1)),((4,u1),some<|.box 25 [(di 0),(.d .nilS),(.d .nilS)]),((6,u2),some<|.box 25 (K4 x4.2))]⟩ s) ?_ ?_
 refine A8<|E2 (Ib p1 p2 x4) (fun (x5:Int) (g10:Unit)=>⟨T [(1,(dl C8 p2)),(2,(.ptr (2,u1) 0)),(4,(.ptr (4,u1) 0)),(6,(.ptr (6,u2) 0)),(11,(di x4.1)),(12,(di x5))],G [((2,u1),some<|.box 33 (K8 p1)),((4,u1),some<|.box 25 [(di 0),(.d .nilS),(.d .nilS)]),((6,u2),some<|.box 25 (K4 x4.2))]⟩) (D8 (x4.1+1)) () _ hz7 (E6 W W) ?_
 intro x5 g10 z8 hz8 ez8
 unfold Ib at hz8
 refine A4<|B1<|sv W<|sv W<|sd W (D6 W)<|sv W<|A1<|cc W hz8 (fun c8 hz8=> ?_)<|fun c8 hz8=> ?_
 refine A9<|A4<|A8<|A4<|B1<|sd W (A7 W (gq W) W W)<|sv W<|bs hz8 fun v11 hv11 hz8=>B0 W W A3 (Tl _ _ _ hv11) (.inl W) (B8 (.d (bo (!v11))) W W (sv W<|gf W (fun _=>(A7 W (gq W) W W))<|gf W (fun _=>W)<|bs hz8 fun v12 hv12 hz8=> ?_))
 refine M2 _ (bo v12) (K6 W) (fun w6=>⟨_,[(.d (.agg (Y8 x4.2))),(di x5)],_,_,(by simp only [A2 w6];rfl),W,A3,Tl _ _ _<|B9 w6 hv12,(.inl W)⟩) ?_
 refine M3 _ (.d (bo (!v12))) W (K6 W) (fun w7=>(by simp only [A2 w7];rfl)) ?_
 refine sd W (N9 W W<|fun hc=>A2<|J2 hc)<|A1<|cc W hz8 (fun c9 hz8=> ?_)<|fun c9 hz8=> ?_
 refine Sr W<|C0<|sv W<|sv W<|sv W<|A1<|E1 ?_
 cases hz8
 exact ⟨W,(),(E6 W W)⟩
 refine A9<|A4<|E0 W<|sd W (A7 W G_hit W W)<|sv W<|sv W<|bs hz8 fun _ hv13 hz8=>sd W (C4 W W hv13 W)<|sd W (D1 W hv13 W W)<|sv W<|sv W<|bs hz8 fun _ hv14 hz8=>sd W (C4 W W hv14 W)<|sd W (D1 W hv14 W W)<|bs hz8 fun _ hv15 hz8=>B0 W W A3 (FD _ _ _ _ hv15) (.inl W) (sv W<|gf W (fun _=>(A7 W G_hit W W))<|gf W (fun _=>(A7 W (gq W) W W))<|gf W (fun _=>(A7 W (gq W) W W))<|gf W (fun _=>W)<|gf W (fun _=>W)<|bs hz8 fun v16 hv16 hz8=> ?_)
 refine M2 _ (.list (List.map A5 v16)) (K6 W) (fun w13=>⟨_,[(.d (.agg (P1 p1))),(.d (.agg (Y8 x4.2))),(.d (.agg (Y8 x4.2))),(di x4.1),(di x5)],_,_,(by simp only [A2 w13];rfl),W,A3,LJ _ _ _ _ _ _<|B9 w13 hv16,(.inl W)⟩) ?_
 refine gf W (fun w14=>(D6<|A2 w14))<|gf W (vb W W W)<|sd W (N9 W W<|fun hc=>A2<|J2 hc)<|A1<|cc W hz8 (fun c10 hz8=> ?_)<|fun c10 hz8=> ?_
 refine B1<|sv W<|R4 W (gq W) [(di 0),(.d .nilS),(.d .nilS)] W (sv W<|A1<|B2 ?_)
 cases hz8
 obtain rfl:=ez8 _ rfl
 refine ⟨nofun,F1 ?_⟩
 rw [wA]at hz6
 cases hz6
 obtain rfl:=ez6 _ rfl
 refine ⟨nofun,F1 ?_⟩
 rw [wA]at h
 cases h
 exact A6 (.inr W) (Lh (H6 W G_hit (nl W) W) (B3 W) C1 C1) (.tup (.cons (.agg (ca W<|.cons ⟨DLe.nil,W⟩ (.cons ⟨DLe.nil,W⟩ .nil))) A3))
 refine A9<|D9<|C0<|sv W<|sv W<|sv W<|A1<|E1 ?_
 cases hz8
 exact ⟨W,(),(E6 W W)⟩
 refine C6 W ?_
 cases hz8
 obtain rfl:=ez8 _ rfl
 refine ⟨nofun,C5 W<|T3 ?_⟩
 exact ⟨_,(),W,(E6 W W)⟩
 rintro _ ⟨y5,g9,rfl,q4⟩
 rw [bZ]at hz6
 refine D9<|B4 q4<|C0<|sv W<|sv W<|sv W<|A1<|E1 ?_
 cases hz6
 exact ⟨W,(),(E6 W W)⟩
 refine C6 W ?_
 cases hz6
 obtain rfl:=ez6 _ rfl
 refine ⟨nofun,C5 W<|T3 ?_⟩
 exact ⟨_,(),W,(E6 W W)⟩
 rintro _ ⟨y4,g7,rfl,q5⟩
 rw [bZ]at h
 refine B4 q5<|B1<|sd W (A7 W (gq W) W W)<|R4 W G_hit (K4 y4) W (sv W<|A1<|B2 ?_)
 cases h
 exact A6 (.inr W) (Lh (H6 W G_hit (nl W) W) (B3 W) C1 C1) (.refl _)
def Gx [Lp](p1:Map)(x1:((List Int)×Int)):Option (Stp ((List Int)×Int) (List Int)):=
  cond (decide (x1.2< (p1.Lanes.length:Int))) ((Kw p1 x1.2).bind fun v1=>cond ((v1.length:Int)==0) ((Am x1.1 [x1.2]).bind fun v2=>some (.go (v2,(D8 (x1.2+1))))) (some (.go (x1.1,(D8 (x1.2+1)))))) (some (.out x1.1))
def Mb [Lp](p1:Map):Option (List Int):=
  (loop (Gx p1) ([],0)).bind fun y1=>some y1
theorem GL(p1 r)(h:Mb p1=some r):PCall prog 188 [(.agg (P1 p1))] (.list (List.map A5 r)):=by
 refine C2 (fk func188 ntmps188 (fun r=>if r==6 then [1002]else []) (by with_unfolding_all rfl)) (nl W) ?_
 unfold Mb at h
 refine B4 (s0:=⟨T [(0,(.d _))],G []⟩) (E6 W W) ?_
 refine lr<|fun u1 _=>sm W<|sv W<|A1<|B1<|sv W<|A1<|A4<|B1<|sv W<|A1<|bs h fun y1 hy1 h=>D4 (fun s=> ∃g1:Nat,Sb ⟨T [(3,(oS y1 (20,g1)))],G [((20,g1),oB 3 1 A5 y1)]⟩ s) ?_ ?_
 refine A8<|E2 (Gx p1) (fun (x1:((List Int)×Int)) (g2:Nat)=>⟨T [(1,(.ptr (1,u1) 0)),(3,(oS x1.1 (20,g2))),(4,(di x1.2))],G [((1,u1),some<|.box 33 (K8 p1)),((20,g2),oB 3 1 A5 x1.1)]⟩) ([],0) 0 _ hy1 (D5 (X3 W)<|B5 G_hit (.of W)<|P4 trivial) ?_
 intro x1 g2 z1 hz1 ez1
 unfold Gx at hz1
 refine A4<|B1<|sv W<|sq W<|sl W G_hit W<|sd W (D6 W)<|sv W<|A1<|cc W hz1 (fun c1 hz1=> ?_)<|fun c1 hz1=> ?_
 refine A9<|A4<|A8<|B1<|sd W (A7 W G_hit W W)<|sv W<|bs hz1 fun _ hv1 hz1=>B0 W W A3 (Xl _ _ _ hv1) (.inl W) (sd W (D6 W)<|sv W<|A1<|cc W hz1 (fun c2 hz1=> ?_)<|fun c2 hz1=> ?_)
 refine Ba fun u6 _=>B8 (oS x1.1 (20,g2)) W W (sv W<|B8 (dl A5 [x1.2]) W W (bs hz1 fun _ hv2 hz1=>N8 A5 (20,g2) x1.1 x1.2 [] _ (K1<|fun _=>W) W (gq W) hv2 (ss W<|A1<|D9<|C0<|sv W<|sv W<|sv W<|A1<|E1 ?_)))
 cases hz1
 exact ⟨W,u6,(D5 ⟨.of W,(.of (S6<|T0 hv2).symm), .of W,trivial⟩<|sg W<|M6 G_hit trivial)⟩
 refine A9<|D9<|C0<|sv W<|sv W<|sv W<|A1<|E1 ?_
 cases hz1
 exact ⟨W,g2,(D5 (X3 W)<|B5 G_hit (.of W)<|B7 (gq W) trivial)⟩
 refine C6 W ?_
 cases hz1
 obtain rfl:=ez1 _ rfl
 refine ⟨nofun,C5 W<|T3 ?_⟩
 exact ⟨g2,(D5 ⟨.of W,trivial⟩<|B7 (gq W) trivial)⟩
 rintro _ ⟨g1,q1⟩
 refine B4 q1<|B1<|B8 (oS y1 (20,g1)) W W (B8 (oS y1 (20,g1)) W W (A1<|B2 ?_))
 cases h
 exact A6 (.inr W) (B6 (B3 W)<|R9 G_hit) R8
def La (p1:Map)(x1:(Int×Int× (List Int))):Option (Stp (Int×Int× (List Int)) (List Int)):=
  (C3 p1.Lanes x1.2.1).bind fun v6=>cond ((decide ((v6.Next.length:Int)>0))&& (decide ((x1.2.2.length:Int)<8))) ((C3 p1.Lanes x1.2.1).bind fun v7=>(C3 p1.Lanes x1.2.1).bind fun v8=>(Su x1.1 (v7.Next.length:Int)).bind fun v9=>(C3 v8.Next v9).bind fun v10=>(II .i64 x1.1 (v7.Next.length:Int)).bind fun v11=>(Am x1.2.2 [v10]).bind fun v12=>some (.go (v11,v10,v12))) (some (.out x1.2.2))
def Ji [Lp](p1:Map)(p2:Int):Option (List Int):=
  (Mb p1).bind fun v1=>cond ((v1.length:Int)==0) (some []) ((Ru p2 1048576).bind fun v2=>(Su v2 (v1.length:Int)).bind fun v3=>(C3 v1 v3).bind fun v4=>(II .i64 v2 (v1.length:Int)).bind fun v5=>(loop (La p1) (v5,v4,[v4])).bind fun y1=>some y1)
theorem Wu(p1 p2 r)(h:Ji p1 p2=some r):PCall prog 100 [(.agg (P1 p1)),(i64 p2)] (.list (List.map A5 r)):=by
 refine C2 (fk func100 ntmps100 (fun r=>if r==12 then [1002]else []) (by with_unfolding_all rfl)) (nl W) ?_
 unfold Ji at h
 refine B4 (s0:=⟨T [(0,(.d _)),(1,(.d _))],G []⟩) (E6 W W) ?_
 refine lr<|fun u1 _=>sm W<|sv W<|A1<|B1<|sd W (A7 W G_hit W W)<|bs h fun _ hv1 h=>B0 W W A3 (GL _ _ hv1) (.inl W) (sv W<|A1<|A4<|B1<|sv W<|sd W (D6 W)<|sv W<|A1<|cc W h (fun c1 h=> ?_)<|fun c1 h=> ?_)
 refine B1<|sv W<|A1<|B2 ?_
 cases h
 exact A6 (.inr W) (B6 (B3 W) C1) DLe.nil
 refine A9<|B1<|sv W<|bs h fun _ hv2 h=>B0 W W A3 (Tf _ _ _ hv2) (.inl W) (sv W<|A1<|B1<|sv W<|sv W<|sv W<|sd W (D6 W)<|bs h fun _ hv3 h=>sd W (Ze W W hv3)<|bs h fun v4 hv4 h=>sd W (C4 W W hv4 W)<|sd W (C7 W hv4 W)<|sv W<|A1<|lr<|fun u7 _=>sv W<|Oy (.sl _) (.arr 3 1 (List.map A5 ([v4]:List Int))) W W (ss W<|A1<|B1<|sv W<|sv W<|sd W (D6 W)<|bs h fun v5 hv5 h=>sd W (YA W W hv5)<|sv W<|A1<|A4<|bs h fun y1 hy1 h=>D4 (fun s=> ∃g1:({d:Nat // d∈ [24,66]}×Nat),Sb ⟨T [(7,(oS y1 (g1.1.val,g1.2)))],G [((g1.1.val,g1.2),oB 3 1 A5 y1)]⟩ s) ?_ ?_))
 refine A8<|E2 (La p1) (fun (x1:(Int×Int× (List Int))) (g2:({d:Nat // d∈ [24,66]}×Nat))=>⟨T [(1,(di x1.1)),(2,(.ptr (2,u1) 0)),(6,(di x1.2.1)),(7,(oS x1.2.2 (g2.1.val,g2.2)))],G [((2,u1),some<|.box 33 (K8 p1)),((g2.1.val,g2.2),oB 3 1 A5 x1.2.2)]⟩) (v5,v4,[v4]) (⟨24, .head _⟩,u7) _ hy1 (D5 ⟨.of W, .of W, .of W,(.of (S6<|List.cons_ne_nil _ _).symm),trivial⟩<|sg W<|M6 G_hit trivial) ?_
 intro x1 g2 z1 hz1 ez1
 unfold La at hz1
 refine A4<|B1<|sq W<|sl W G_hit W<|sv W<|bs hz1 fun _ hv6 hz1=>sd W (C4 W W hv6 W)<|sv W<|sd W (C7 W hv6 W)<|sd W (D6 W)<|sv W<|sv W<|M3 _ (oS x1.2.2 (g2.1.val,g2.2)) W (K2 W) (fun _=>W) (gt W (fun w2=>(WF (f:=A5) (A2 w2) (F2 (BR g2.1.property W) G_hit)))<|gt W (vb W W W)<|sa W W W<|A1<|cc W hz1 (fun c2 hz1=> ?_)<|fun c2 hz1=> ?_)
 refine A9<|A8<|B1<|sq W<|sl W G_hit W<|sv W<|bs hz1 fun _ hv7 hz1=>sd W (C4 W W hv7 W)<|sv W<|sd W (C7 W hv7 W)<|sd W (D6 W)<|sv W<|A1<|A4<|E0 W<|sq W<|sl W G_hit W<|sv W<|bs hz1 fun _ hv8 hz1=>sd W (C4 W W hv8 W)<|sv W<|sd W (C7 W hv8 W)<|sv W<|sv W<|bs hz1 fun _ hv9 hz1=>sd W (Ze W W hv9)<|bs hz1 fun v10 hv10 hz1=>sd W (C4 W W hv10 W)<|sd W (C7 W hv10 W)<|sv W<|A1<|B1<|sv W<|sv W<|bs hz1 fun _ hv11 hz1=>sd W (YA W W hv11)<|sv W<|A1<|Ba fun u13 _=>B8 (oS x1.2.2 (g2.1.val,g2.2)) W W (sv W<|B8 (dl A5 [v10]) W W (bs hz1 fun _ hv12 hz1=>N8 A5 (g2.1.val,g2.2) x1.2.2 v10 [] _ (K1<|fun _=>W) W (F2 (BR g2.1.property W) G_hit) hv12 (ss W<|A1<|D9<|E1 ?_)))
 cases hz1
 exact ⟨W,(⟨66, .tail _ (.head _)⟩,u13),(D5 ⟨.of W, .of W, .of W,(.of (S6<|T0 hv12).symm),trivial⟩<|B5 (F2 W<|F2 (CZ g2.1.property W) G_hit) (.of W) (M6 G_hit trivial))⟩
 refine C6 W ?_
 cases hz1
 obtain rfl:=ez1 _ rfl
 refine ⟨nofun,C5 W<|T3 ?_⟩
 exact ⟨(g2.1,g2.2),(D5 ⟨.of W,trivial⟩<|B7 (F2 (BR g2.1.property W) G_hit) trivial)⟩
 rintro _ ⟨g1,q1⟩
 refine B4 q1<|B1<|B8 (oS y1 (g1.1.val,g1.2)) W W (B8 (oS y1 (g1.1.val,g1.2)) W W (A1<|B2 ?_))
 cases h
 exact A6 (.inr W) (B6 (B3 W)<|R9 G_hit) R8
def Lb (p1:Int)(p2:Int):Option Int:=
  (Su p1 p2).bind fun v1=>cond (decide (v1<0)) (some (D8 (v1+p2))) (some v1)
theorem Ok(p1 p2 r)(h:Lb p1 p2=some r):PCall prog 46 [(i64 p1),(i64 p2)] (i64 r):=by
 refine C2 (fk func46 ntmps46 m0 (by with_unfolding_all rfl)) (nl W) ?_
 unfold Lb at h
 refine B4 (s0:=⟨T [(0,(.d _)),(1,(.d _))],G []⟩) (E6 W W) ?_
 refine B1<|sv W<|A1<|B1<|sv W<|sv W<|bs h fun _ hv1 h=>sd W (Ze W W hv1)<|sv W<|A1<|A4<|B1<|sv W<|sv W<|A1<|cc W h (fun c1 h=> ?_)<|fun c1 h=> ?_
 refine C0<|sv W<|sv W<|sv W<|sv W<|A1<|B1<|sv W<|sv W<|A1<|B2 ?_
 cases h
 exact A6 (.inr W) (B6 (B3 W) C1) (.refl _)
 refine A9<|B1<|sv W<|sv W<|A1<|B2 ?_
 cases h
 exact A6 (.inr W) (B6 (B3 W) C1) (.refl _)
def Z8 [Lp](p1:Map)(p2:Int)(x1:Int):Option (Stp Int (Sum Unit (List Int))):=
  cond (decide (x1<4)) ((Ru p2 1048576).bind fun v1=>(Ji p1 (D8 (v1+x1))).bind fun v2=>((cond (decide ((v2.length:Int)>0)) (C3 v2 0) (some default))).bind fun v3=>((cond (decide ((v2.length:Int)>0)) (C3 p1.Lanes v3) (some default))).bind fun v4=>cond ((decide ((v2.length:Int)>0))&& (v4.Kind==1)) (some (.out (.inr v2))) (some (.go (D8 (x1+1))))) (some (.out (.inl ())))
def Dj [Lp](p1:Map)(p2:Int):Option (List Int):=
  thenS (loop (Z8 p1 p2) 0) (fun _=>(Ji p1 0).bind fun v5=>some v5) (fun r=>some r)
theorem GM(p1 p2 r)(h:Dj p1 p2=some r):PCall prog 101 [(.agg (P1 p1)),(i64 p2)] (.list (List.map A5 r)):=by
 refine C2 (fk func101 ntmps101 m0 (by with_unfolding_all rfl)) (nl W) ?_
 unfold Dj at h
 refine B4 (s0:=⟨T [(0,(.d _)),(1,(.d _))],G []⟩) (E6 W W) ?_
 refine lr<|fun u1 _=>sm W<|sv W<|A1<|A4<|B1<|sv W<|A1<|js h fun z1 hz1 h=>D4 (fun s=> ∃(y1:Unit) (g1:Unit),z1= .inl y1∧Sb ⟨T [(2,(.ptr (2,u1) 0))],G [((2,u1),some<|.box 33 (K8 p1))]⟩ s) ?_ ?_
 refine A8<|E2 (Z8 p1 p2) (fun (x1:Int) (g2:Unit)=>⟨T [(1,(di p2)),(2,(.ptr (2,u1) 0)),(5,(di x1))],G [((2,u1),some<|.box 33 (K8 p1))]⟩) 0 () _ hz1 (E6 W W) ?_
 intro x1 g2 z2 hz2 ez2
 unfold Z8 at hz2
 refine A4<|B1<|sv W<|sv W<|A1<|cc W hz2 (fun c1 hz2=> ?_)<|fun c1 hz2=> ?_
 refine A9<|A4<|A8<|A4<|E0 W<|sd W (A7 W G_hit W W)<|sv W<|bs hz2 fun _ hv1 hz2=>B0 W W A3 (Tf _ _ _ hv1) (.inl W) (sv W<|sv W<|bs hz2 fun _ hv2 hz2=>B0 W W A3 (Wu _ _ _ hv2) (.inl W) (sv W<|A1<|A4<|E0 W<|sv W<|sd W (D6 W)<|sv W<|sv W<|gp W (K2 W) (fun _=>W) (gt W (vl W G_hit W)<|gt W (fun _=>W)<|bs hz2 fun _ hv3 hz2=>gt W (fun w4=>(C4 (A2 w4) W (B9 w4 hv3) W))<|gt W (fun w5=>(C7 (A2 w5) (B9 w5 hv3) W))<|bs hz2 fun _ hv4 hz2=>gt W (fun w6=>(C4 (A2 w6) (A2 w6) (B9 w6 hv4) W)) ?_)))
 refine gt W (fun w7=>(by simp only [A2 w7];rfl)) ?_
 refine gt W (fun w8=>(C7 (A2 w8) (B9 w8 hv4) W))<|gt W (vb W W W)<|sa W W W<|A1<|cc W hz2 (fun c2 hz2=> ?_)<|fun c2 hz2=> ?_
 refine B1<|sv W<|sv W<|A1<|B2 ?_
 cases hz2
 obtain rfl:=ez2 _ rfl
 refine ⟨nofun,F1 ?_⟩
 rw [wA]at h
 cases h
 exact A6 (.inr W) (B6 (B3 W) C1) (.refl _)
 refine A9<|D9<|C0<|sv W<|sv W<|sv W<|A1<|E1 ?_
 cases hz2
 exact ⟨W,(),(E6 W W)⟩
 refine C6 W ?_
 cases hz2
 obtain rfl:=ez2 _ rfl
 refine ⟨nofun,C5 W<|T3 ?_⟩
 exact ⟨_,(),W,(E6 W W)⟩
 rintro _ ⟨y1,g1,rfl,q1⟩
 rw [bZ]at h
 refine B4 q1<|B1<|sd W (A7 W G_hit W W)<|bs h fun _ hv5 h=>B0 W W A3 (Wu _ _ _ hv5) (.inl W) (sv W<|A1<|B2 ?_)
 cases h
 exact A6 (.inr W) (B6 (B3 W) C1) (.refl _)
def Sh [Lp](p1:Map)(p2:KitActor)(p3:Bool):Option Agent:=
  (Ji p1 p2.R).bind fun v1=>(Lb p2.Len 4700).bind fun v2=>(cond p3 ((Dj p1 p2.R).bind fun v3=>some (v3,false)) (some (v1,(!p2.Disobeys)))).bind fun y1=>(C3 y1.1 0).bind fun v4=>(C3 p1.Lanes v4).bind fun v5=>(Fg v5.Kind).bind fun v6=>(Lb p2.V (D8 (v6.1+1))).bind fun v7=>(cond (decide (v6.1<1000)) (some 300) (some (D8 (300+v2)))).bind fun y2=>(V1 p1 y1.1).bind fun v8=>(Lb p2.S (D8 (v8+1))).bind fun v9=>((cond (!p3) (Ru p2.Begin 4) (some default))).bind fun v10=>cond ((!p3)&& (v10==3)) ((Ru p2.Begin 40).bind fun v11=>some (Agent.mk y1.1 0 v7 y2 v11 y1.2 false)) (some (Agent.mk y1.1 v9 v7 y2 0 y1.2 false))
theorem FE(p1 p2 p3 r)(h:Sh p1 p2 p3=some r):PCall prog 42 [(.agg (P1 p1)),(.agg (Pd p2)),(bo p3)] (.agg (C8 r)):=by
 refine C2 (fk func42 ntmps42 m0 (by with_unfolding_all rfl)) (nl W) ?_
 unfold Sh at h
 refine B4 (s0:=⟨T [(0,(.d _)),(1,(.d _)),(2,(.d _))],G []⟩) (E6 W W) ?_
 refine lr<|fun u1 _=>sm W<|sm W<|sn W W<|A1<|A4<|Jr W fun u2 _=>sd W (A7 W (gq W) W W)<|sq W<|sl W (gq W) W (bs h fun v1 hv1 h=>B0 W W A3 (Wu _ _ _ hv1) (.inl W) (sq W<|sl W (gq W) W (bs h fun v2 hv2 h=>B0 W W A3 (Ok _ _ _ hv2) (.inl W) (sv W<|sq W<|sl W (gq W) W (B8 (.d (bo (!p2.Disobeys))) W W (sv W<|sm W<|R4 W G_hit ([(dl A5 v1)]++ ((zs 4).set 2 (di<|D8 (300+v2)))++ [(.d (bo (!p2.Disobeys))),(.d (bo false))]) W (A1<|A4<|B1<|sv W<|A1<|bs h fun y1 hy1 h=>D4 (fun s=> ∃g1:Unit,Sb ⟨T [(2,(.d (bo p3))),(3,(.ptr (3,u1) 0)),(4,(.ptr (4,u1) 0)),(6,(.ptr (6,u1) 0)),(7,(.ptr (7,u2) 0))],G [((3,u1),some<|.box 33 (K8 p1)),((4,u1),some<|.box 73 (OP p2)),((6,u1),some<|.box 45 ([(.d .nilS)]++ (zs 4)++ [(.d (bo false)),(.d (bo false))])),((7,u2),some<|.box 45 ([(dl A5 y1.1)]++ ((zs 4).set 2 (di<|D8 (300+v2)))++ [(.d (bo y1.2)),(.d (bo false))]))]⟩ s) ?_ ?_)))))))
 refine cc W hy1 (fun c1 hy1=> ?_)<|fun c1 hy1=> ?_
 refine C0<|sd W (A7 W (gq W) W W)<|sq W<|sl W (gq W) W (bs hy1 fun v3 hv3 hy1=>B0 W W A3 (GM _ _ _ hv3) (.inl W) (sq W<|R4 W G_hit ([(dl A5 v3)]++ ((zs 4).set 2 (di<|D8 (300+v2)))++ [(.d (bo (!p2.Disobeys))),(.d (bo false))]) W (sq W<|R4 W G_hit ([(dl A5 v3)]++ ((zs 4).set 2 (di<|D8 (300+v2)))++ [(.d (bo false)),(.d (bo false))]) W (A1 ?_))))
 cases hy1
 exact T3 ⟨(),(E6 W W)⟩
 refine A9 ?_
 cases hy1
 exact T3 ⟨(),(E6 W W)⟩
 rintro _ ⟨g1,q1⟩
 refine B4 q1<|A4<|E0 W<|sq W<|sl W G_hit W<|sq W<|sl W (gq W) W (bs h fun _ hv4 h=>sd W (C4 W W hv4 W)<|sd W (C7 W hv4 W)<|bs h fun _ hv5 h=>sd W (C4 W W hv5 W)<|sv W<|sd W (C7 W hv5 W)<|bs h fun _ hv6 h=>B0 W W A3 (Mm _ _ hv6) (.inl W) (sv W<|sv W<|sv W<|sv W<|sv W<|sv W<|sv W<|A1<|B1<|sq W<|sl W (gq W) W (sv W<|sv W<|bs h fun v7 hv7 h=>B0 W W A3 (Ok _ _ _ hv7) (.inl W) (sq W<|R4 W (gq W) [(dl A5 y1.1),(di 0),(di v7),(di<|D8 (300+v2)),(di 0),(.d (bo y1.2)),(.d (bo false))] W (A1<|A4<|B1<|sv W<|sv W<|A1<|bs h fun y2 hy2 h=>D4 (fun s=> ∃g2:Unit,Sb ⟨T [(2,(.d (bo p3))),(3,(.ptr (3,u1) 0)),(4,(.ptr (4,u1) 0)),(6,(.ptr (6,u1) 0)),(7,(.ptr (7,u2) 0))],G [((3,u1),some<|.box 33 (K8 p1)),((4,u1),some<|.box 73 (OP p2)),((6,u1),some<|.box 45 ([(.d .nilS)]++ (zs 4)++ [(.d (bo false)),(.d (bo false))])),((7,u2),some<|.box 45 [(dl A5 y1.1),(di 0),(di v7),(di y2),(di 0),(.d (bo y1.2)),(.d (bo false))])]⟩ s) ?_ ?_)))))
 refine cc W hy2 (fun c2 hy2=> ?_)<|fun c2 hy2=> ?_
 refine C0<|sq W<|R4 W G_hit [(dl A5 y1.1),(di 0),(di v7),(di 300),(di 0),(.d (bo y1.2)),(.d (bo false))] W (A1 ?_)
 cases hy2
 exact T3 ⟨(),(E6 W W)⟩
 refine A9 ?_
 cases hy2
 exact T3 ⟨(),(E6 W W)⟩
 rintro _ ⟨g2,q2⟩
 refine B4 q2<|A4<|E0 W<|sq W<|sl W (gq W) W (sd W (A7 W G_hit W W)<|sq W<|sl W (gq W) W (bs h fun _ hv8 h=>B0 W W A3 (Kc _ _ _ hv8) (.inl W) (sv W<|bs h fun v9 hv9 h=>B0 W W A3 (Ok _ _ _ hv9) (.inl W) (sq W<|R4 W (gq W) [(dl A5 y1.1),(di v9),(di v7),(di y2),(di 0),(.d (bo y1.2)),(.d (bo false))] W (A1<|A4<|B1<|sv W<|B8 (.d (bo (!p3))) W W (sv W<|gp W (K2 W) (fun _=>W) (gt W (vl W (gq W) W)<|bs h fun v10 hv10 h=> ?_)))))))
 refine M2 _ (i64 v10) (K2 W) (fun w3=>⟨_,[(di p2.Begin),(di 4)],_,_,(by simp only [A2 w3];rfl),W,A3,Tf _ _ _<|B9 w3 hv10,(.inl W)⟩) ?_
 refine gt W (vb W W W)<|sa W W W<|A1<|cc W h (fun c3 h=> ?_)<|fun c3 h=> ?_
 refine C0<|sq W<|sl W (gq W) W (bs h fun v11 hv11 h=>B0 W W A3 (Tf _ _ _ hv11) (.inl W) (sq W<|R4 W G_hit [(dl A5 y1.1),(di v9),(di v7),(di y2),(di v11),(.d (bo y1.2)),(.d (bo false))] W (sq W<|R4 W G_hit [(dl A5 y1.1),(di 0),(di v7),(di y2),(di v11),(.d (bo y1.2)),(.d (bo false))] W (A1<|B1<|sd W (A7 W G_hit W W)<|R4 W (gq W) [(dl A5 y1.1),(di 0),(di v7),(di y2),(di v11),(.d (bo y1.2)),(.d (bo false))] W (A1<|B2 ?_)))))
 cases h
 exact A6 (.inr W) (B6 (H6 W G_hit (nl W) W) C1) (.refl _)
 refine A9<|B1<|sd W (A7 W G_hit W W)<|R4 W (gq W) [(dl A5 y1.1),(di v9),(di v7),(di y2),(di 0),(.d (bo y1.2)),(.d (bo false))] W (A1<|B2 ?_)
 cases h
 exact A6 (.inr W) (B6 (H6 W G_hit (nl W) W) C1) (.refl _)
def Fl [Lp](p1:Map)(p2:(List KitActor))(x1:((List Agent)×Int×State)):Option (Stp ((List Agent)×Int×State) ((List Agent)×State)):=
  cond ((decide (x1.2.1< (p2.length:Int)))&& (decide ((x1.1.length:Int)<8))) ((Am ([]:List Agent) x1.1).bind fun v2=>(C3 p2 x1.2.1).bind fun v3=>(Sh p1 v3 ((x1.1.length:Int)==0)).bind fun v4=>(Am v2 [v4]).bind fun v5=>(Po p1 v5).bind fun v6=>cond (v6.2==0) (some (.go (v6.1.Agents,(D8 (x1.2.1+1)),v6.1))) (some (.go (x1.1,(D8 (x1.2.1+1)),x1.2.2)))) (some (.out (x1.1,x1.2.2)))
def Si [Lp](p1:Map)(p2:(List KitActor)):Option State:=
  (Po p1 []).bind fun v1=>(loop (Fl p1 p2) ([],0,v1.1)).bind fun y1=>cond ((y1.1.length:Int)==0) ((Sh p1 (KitActor.mk 0 1048576 0 0 0 false) true).bind fun v7=>(Po p1 [(Agent.mk v7.Route (D8 (v7.Len+1)) 0 v7.Len v7.Begin v7.Obey v7.Gone)]).bind fun v8=>some v8.1) (some y1.2)
theorem QX(p1 p2 r)(h:Si p1 p2=some r):PCall prog 34 [(.agg (P1 p1)),(.list (List.map Pd p2))] (.agg (Y8 r)):=by
 refine C2 (fk func34 ntmps34 (fun r=>if r==6 then [1006015,1013]else if r==12 then [1002]else []) (by with_unfolding_all rfl)) (nl W) ?_
 unfold Si at h
 refine B4 (s0:=⟨T [(0,(.d _)),(1,(.d _))],G []⟩) (E6 W W) ?_
 refine lr<|fun u1 _=>sm W<|sm W<|A1<|B1<|sv W<|A1<|lr<|fun u3 _=>sd W (A7 W (gq W) W W)<|bs h fun v1 hv1 h=>B0 W W (.cons (.refl _) (.cons DLe.nil .nil)) (Wt _ _ _ hv1) (.inl W) (sv W<|sv W<|sv W<|sm W<|R4 W G_hit (K4 v1.1) W (sv W<|A1<|A4<|B1<|sv W<|A1<|bs h fun y1 hy1 h=>D4 (fun s=> ∃g1:Unit,Sb ⟨T [(2,(.ptr (2,u1) 0)),(4,(.ptr (4,u1) 0)),(5,(dl C8 y1.1)),(6,(.ptr (6,u3) 0))],G [((2,u1),some<|.box 33 (K8 p1)),((4,u1),some<|.box 25 [(di 0),(.d .nilS),(.d .nilS)]),((6,u3),some<|.box 25 (K4 y1.2))]⟩ s) ?_ ?_))
 refine A8<|E2 (Fl p1 p2) (fun (x1:((List Agent)×Int×State)) (g2:Unit)=>⟨T [(1,(dl Pd p2)),(2,(.ptr (2,u1) 0)),(4,(.ptr (4,u1) 0)),(5,(dl C8 x1.1)),(6,(.ptr (6,u3) 0)),(8,(di x1.2.1))],G [((2,u1),some<|.box 33 (K8 p1)),((4,u1),some<|.box 25 [(di 0),(.d .nilS),(.d .nilS)]),((6,u3),some<|.box 25 (K4 x1.2.2))]⟩) ([],0,v1.1) () _ hy1 (D5 ⟨.of W, .of W, .of W,(DLe.d DLe.nil), .of W, .of W,trivial⟩<|sg W<|sg W<|B5 G_hit (.of W) trivial) ?_
 intro x1 g2 z1 hz1 ez1
 unfold Fl at hz1
 refine A4<|B1<|sv W<|sv W<|sd W (D6 W)<|sv W<|sv W<|gt W (fun _=>W)<|gt W (fun w2=>(D6<|A2 w2))<|gt W (vb W W W)<|sa W W W<|A1<|cc W hz1 (fun c1 hz1=> ?_)<|fun c1 hz1=> ?_
 refine A9<|A4<|A8<|A4<|Pw fun u6 _=>N1 (.d _) W (A7 W G_hit W W) (KM (.sl _) (.arr 45 7 (List.map C8 ([]:List Agent))) W W (N1 (.d _) W W (bs hz1 fun _ hv2 hz1=>SW C8 _ _ _ _ (K1<|fun _=>W) W G_hit hv2 (N1 (.d _) W (A7 W (gq W) W W) (N1 (.d _) W W (N1 (.d _) W W (bs hz1 fun _ hv3 hz1=>N1 (.d _) W (C4 W W hv3 W) (N1 (.d _) W (D1 W hv3 W W) (N1 (.d _) W W (N1 (.d _) W (D6 W) (N1 (.d _) W W (bs hz1 fun v4 hv4 hz1=>nU W W A3 (FE _ _ _ _ hv4) (.inl W) (N1 (dl C8 [v4]) W W (bs hz1 fun _ hv5 hz1=>SW C8 _ _ _ _ (K1<|fun _=>W) W G_hit hv5 (bs hz1 fun v6 hv6 hz1=>oC (v:= .d (.tup [(.agg (Y8 v6.1)),(i64 v6.2)])) (us:= [(43,u6)]) (kD [(43,u6)] (((43,u6),none)::_) W (rD<|E4 (OI G_hit) F6) A3 (Wt _ _ _ hv6) (Y5 CW<|Y5 ER Ur) W) (N1 (.d _) W W (N1 (.d _) W W (N1 (.d _) W W (KM (.ptr _ _) (.box _ _) W W (Px _ _ _ _ _ W W W G_hit (nl W) (K4 v6.1) W (N1 (.d _) W W (BP ⟨W,?_⟩))))))))))))))))))))))
 refine B1<|sv W<|sv W<|A1<|cc W hz1 (fun c2 hz1=> ?_)<|fun c2 hz1=> ?_
 refine Pw fun _ _=>N1 (.d _) W (A7 W G_hit W W) (N1 (.ptr _ _) W W (N1 (.d _) W (O4 W G_hit W) (Px _ _ _ _ _ W W W (gq W) (nl W) (K4 v6.1) W (N1 (.d _) W W (BP ⟨W,?_⟩)))))
 refine D9<|C0<|sv W<|sv W<|sv W<|A1<|E1 ?_
 cases hz1
 exact ⟨W,(),(E6 W W)⟩
 refine A9<|D9<|C0<|sv W<|sv W<|sv W<|A1<|E1 ?_
 cases hz1
 exact ⟨W,(),(E6 W W)⟩
 refine C6 W ?_
 cases hz1
 obtain rfl:=ez1 _ rfl
 refine ⟨nofun,C5 W<|T3 ?_⟩
 exact ⟨(),(E6 W W)⟩
 rintro _ ⟨g1,q1⟩
 refine B4 q1<|A4<|B1<|sv W<|sd W (D6 W)<|sv W<|A1<|cc W h (fun c3 h=> ?_)<|fun c3 h=> ?_
 refine B1<|sd W (A7 W G_hit W W)<|sv W<|bs h fun v7 hv7 h=>B0 W W A3 (FE _ _ _ _ hv7) (.inl W) (sm W<|R4 W G_hit (T4 v7) W (A1<|B1<|sq W<|sl W G_hit W<|sv W<|sq W<|R4 W G_hit ((T4 v7).set 1 (di<|D8 (v7.Len+1))) W (sq W<|R4 W G_hit (((T4 v7).set 1 (di<|D8 (v7.Len+1))).set 2 (di 0)) W (A1<|C0<|sd W (A7 W (gq W) W W)<|sd W (A7 W G_hit W W)<|B8 (dl C8 [(Agent.mk v7.Route (D8 (v7.Len+1)) 0 v7.Len v7.Begin v7.Obey v7.Gone)]) W W (bs h fun v8 hv8 h=>B0 W W A3 (Wt _ _ _ hv8) (.inl W) (sv W<|sv W<|sv W<|R4 W (gq W) (K4 v8.1) W (A1<|B1<|sd W (A7 W G_hit W W)<|R4 W (gq W) (K4 v8.1) W (A1<|B2 ?_))))))))
 cases h
 exact A6 (.inr W) (B6 (H6 W G_hit (nl W) W) C1) (.refl _)
 refine A9<|B1<|sd W (A7 W (gq W) W W)<|R4 W (gq W) (K4 y1.2) W (A1<|B2 ?_)
 cases h
 exact A6 (.inr W) (B6 (H6 W G_hit (nl W) W) C1) (.refl _)
def Tp [Lp](p1:Map)(p2:State)(p3:Int):Option Bool:=
  ((cond ((decide (p3≥0))&& (decide (p3≤16777216))) (Bv p1 p2) (some default))).bind fun v1=>some (((decide (p3≥0))&& (decide (p3≤16777216)))&& (v1==0))
theorem NL(p1 p2 p3 r)(h:Tp p1 p2 p3=some r):PCall prog 122 [(.agg (P1 p1)),(.agg (Y8 p2)),(i64 p3)] (bo r):=by
 refine C2 (fk func122 ntmps122 m0 (by with_unfolding_all rfl)) (nl W) ?_
 unfold Tp at h
 refine B4 (s0:=⟨T [(0,(.d _)),(1,(.d _)),(2,(.d _))],G []⟩) (E6 W W) ?_
 refine B1<|sm W<|sn W W<|sv W<|A1<|B1<|sv W<|sv W<|sv W<|gt W (fun _=>W)<|gt W (vb W W W)<|sa W W W<|sv W<|gt W (fun _=>(A7 W (gq W) W W))<|gt W (fun _=>(A7 W G_hit W W))<|bs h fun v1 hv1 h=> ?_
 refine M2 _ (i64 v1) (K2 W) (fun w5=>⟨_,[(.d (.agg (P1 p1))),(.d (.agg (Y8 p2)))],_,_,(by simp only [A2 w5];rfl),W,A3,Oa _ _ _<|B9 w5 hv1,(.inl W)⟩) ?_
 refine gt W (vb W W W)<|sa W W W<|sv W<|A1<|B2 ?_
 cases h
 exact A6 (.inr W) (B6 (B3 W) C1) (.refl _)
def Dz (p3:Int)(v1:RoadsWay)(x1:Int):Option (Stp Int Int):=
  (C3 v1.starts x1).bind fun v3=>cond (decide (v3>p3)) (some (.go (D8 (x1 - 1)))) (some (.out x1))
def Nd [Lp](p1:Map)(p2:(List Int))(p3:Int):Option (Int×Int×Bool):=
  (Y6 p1 p2).bind fun v1=>((cond (!((v1.lanes.length:Int)==0)) (Bm p3 0 v1.length) (some default))).bind fun v2=>cond (((v1.lanes.length:Int)==0)||(!v2)) (some (0,0,false)) ((loop (Dz p3 v1) (D8 ((v1.lanes.length:Int) - 1))).bind fun y1=>(C3 v1.lanes y1).bind fun v4=>(C3 v1.starts y1).bind fun v5=>some (v4,(D8 (p3 - v5)),true))
theorem LK(p1 p2 p3 r)(h:Nd p1 p2 p3=some r):PCall prog 231 [(.agg (P1 p1)),(.list (List.map A5 p2)),(i64 p3)] (.tup [(i64 r.1),(i64 r.2.1),(bo r.2.2)]):=by
 refine C2 (fk func231 ntmps231 m0 (by with_unfolding_all rfl)) (nl W) ?_
 unfold Nd at h
 refine B4 (s0:=⟨T [(0,(.d _)),(1,(.d _)),(2,(.d _))],G []⟩) (E6 W W) ?_
 refine B1<|sm W<|sv W<|sv W<|sv W<|A1<|lr<|fun u2 _=>sd W (A7 W G_hit W W)<|sv W<|bs h fun v1 hv1 h=>B0 W W A3 (Im _ _ _ hv1) (.inl W) (sm W<|R4 W G_hit (Ix v1) W (A1<|A4<|B1<|sq W<|sl W G_hit W<|sd W (D6 W)<|sv W<|sv W<|gf W (fun _=>W)<|gp W (K6 W) (fun _=>W) (gf W (vl W G_hit W)<|bs h fun v2 hv2 h=> ?_)))
 refine M2 _ (bo v2) (K6 W) (fun w4=>⟨_,[(di p3),(di 0),(di v1.length)],_,_,(by simp only [A2 w4];rfl),W,A3,Cl _ _ _ _<|B9 w4 hv2,(.inl W)⟩) ?_
 refine M3 _ (.d (bo (!v2))) W (K6 W) (fun w5=>(by simp only [A2 w5];rfl)) ?_
 refine sd W (N9 W W<|fun hc=>A2<|J2 hc)<|A1<|cc W h (fun c1 h=> ?_)<|fun c1 h=> ?_
 refine B1<|sv W<|sv W<|sv W<|A1<|B2 ?_
 cases h
 exact A6 (.inr W) (Xh (B3 W) (B3 W) (B3 W) C1 C1 C1) (.refl _)
 refine A9<|B1<|sq W<|sl W G_hit W<|sd W (D6 W)<|sv W<|sv W<|A1<|A4<|bs h fun y1 hy1 h=>D4 (fun s=> ∃g1:Unit,Sb ⟨T [(2,(di p3)),(9,(.ptr (9,u2) 0)),(10,(di y1))],G [((9,u2),some<|.box 260 (Ix v1))]⟩ s) ?_ ?_
 refine A8<|E2 (Dz p3 v1) (fun (x1:Int) (g2:Unit)=>⟨T [(2,(di p3)),(9,(.ptr (9,u2) 0)),(10,(di x1))],G [((9,u2),some<|.box 260 (Ix v1))]⟩) (D8 ((v1.lanes.length:Int) - 1)) () _ hy1 (E6 W W) ?_
 intro x1 g2 z1 hz1 ez1
 unfold Dz at hz1
 refine A4<|B1<|sq W<|sl W G_hit W<|sv W<|bs hz1 fun _ hv3 hz1=>sd W (C4 W W hv3 W)<|sd W (C7 W hv3 W)<|sv W<|sv W<|A1<|cc W hz1 (fun c2 hz1=> ?_)<|fun c2 hz1=> ?_
 refine A9<|A8<|C0<|sv W<|sv W<|sv W<|A1<|D9<|E1 ?_
 cases hz1
 exact ⟨W,(),(E6 W W)⟩
 refine C6 W ?_
 cases hz1
 obtain rfl:=ez1 _ rfl
 refine ⟨nofun,C5 W<|T3 ?_⟩
 exact ⟨(),(E6 W W)⟩
 rintro _ ⟨g1,q1⟩
 refine B4 q1<|A4<|E0 W<|sq W<|sl W G_hit W<|sv W<|bs h fun _ hv4 h=>sd W (C4 W W hv4 W)<|sd W (C7 W hv4 W)<|sv W<|sq W<|sl W G_hit W<|sv W<|bs h fun _ hv5 h=>sd W (C4 W W hv5 W)<|sd W (C7 W hv5 W)<|sv W<|sv W<|sv W<|sv W<|A1<|B2 ?_
 cases h
 exact A6 (.inr W) (Xh (B3 W) (B3 W) (B3 W) C1 C1 C1) (.refl _)
def Y0 (p2:Int)(x1:(Int×CurvePiece))(a1:(Int×CurvePiece)):Option (Stp (Int×CurvePiece) (Int×CurvePiece)):=
  cond ((a1.1==0)||(decide (a1.2.start≤p2))) (some (.go (a1.1,a1.2))) (some (.go (x1.1,x1.2)))
def Pp [Lp](p1:Curve)(p2:Int):Option (Int×CurvePiece×Int):=
  ((Py p1.Pts).bind fun v1=>loopL (Y0 p2) (fun (x1:(Int×CurvePiece))=>(x1.1,x1.2)) v1 (0,(CurvePiece.mk (Spot.mk 0 0) (CurveVector.mk 0 0) 0 0))).bind fun y1=>some (y1.1,y1.2,(Ov true 0 (Ov false (D8 (p2 - y1.2.start)) y1.2.l)))
theorem NM(p1 p2 r)(h:Pp p1 p2=some r):PCall prog 199 [(.agg [(.list (List.map X1 p1.Pts))]),(i64 p2)] (.tup [(i64 r.1),(.agg (Zi r.2.1)),(i64 r.2.2)]):=by
 refine C2 (fk func199 ntmps199 m0 (by with_unfolding_all rfl)) (nl W) ?_
 unfold Pp at h
 refine B4 (s0:=⟨T [(0,(.d _)),(1,(.d _))],G []⟩) (E6 W W) ?_
 refine lr<|fun u1 _=>sm W<|sm W<|sv W<|sm W<|sv W<|A1<|lr<|fun u2 _=>sm W<|A1<|lr<|fun u3 _=>sm W<|A1<|A4<|B1<|sd W (A7 W (gq W) W W)<|B0 W W A3 (HO p1) (.inl W) (A1<|bs h fun y1 hy1 h=>D4 (fun s=> ∃g1:Unit,Sb ⟨T [(3,(.ptr (3,u1) 0)),(5,(.ptr (5,u1) 0)),(7,(.ptr (7,u2) 0)),(8,(.ptr (8,u3) 0))],G [((3,u1),some<|.box 2 [(di p2)]),((5,u1),some<|.box 255 (zs 6)),((7,u2),some<|.box 3 [(di y1.1)]),((8,u3),some<|.box 255 (Hg y1.2))]⟩ s) ?_ ?_)
 refine A8<|bs hy1 fun v1 hv1 hy1=>B4 (s0:=⟨T [(3,(.ptr _ _)),(5,(.ptr _ _)),(7,(.ptr _ _)),(8,(.ptr _ _)),(12,(.d _))],G [((3,u1),some<|.box 2 _),((5,u1),some<|.box 255 _),((7,u2),some<|.box 3 _),((8,u3),some<|.box 255 _)]⟩) (E6 W W) ?_
 refine SV (.fn (.func 260) [] [(.bp [(.list (List.map X1 p1.Pts))] 0)]) KW v1 (Y0 p2) (fun (x1:(Int×CurvePiece))=>(x1.1,x1.2)) (fun (x1:(Int×CurvePiece)) (g2:Unit)=> [((3,u1),some<|.box 2 [(di p2)]),((5,u1),some<|.box 255 (zs 6)),((7,u2),some<|.box 3 [(di x1.1)]),((8,u3),some<|.box 255 (Hg x1.2))]) (0,(CurvePiece.mk (Spot.mk 0 0) (CurveVector.mk 0 0) 0 0)) () _ W (HP hv1) (fun _=>W) hy1 (E6 W W) nofun ?_ ?_
 intro u6 hu6 hku6
 refine ⟨fun x1 g2=>(F2 W<|F2 W<|F2 W<|F2 W W),?_⟩
 intro r1 x1 g2 a1 z1 hrr1 hz1 ez1
 unfold Y0 at hz1
 show Cv _ _ _ _ _ _ ⟨T [(14,(.d (.agg (Zi a1.2)))),(13,(di a1.1)),(3,(.ptr (3,u1) 0)),(5,(.ptr (5,u1) 0)),(7,(.ptr (7,u2) 0)),(8,(.ptr (8,u3) 0)),(12,(.d (.fn (.func 260) [] [(.bp [(.list (List.map X1 p1.Pts))] 0)])))],G [((1000000,u6),some (.obj (T [(3,(.ptr (3,u1) 0)),(5,(.ptr (5,u1) 0)),(7,(.ptr (7,u2) 0)),(8,(.ptr (8,u3) 0)),(12,(.d (.fn (.func 260) [] [(.bp [(.list (List.map X1 p1.Pts))] 0)])))]) r1)),((3,u1),some (.box 2 [(di p2)])),((5,u1),some (.box 255 (zs 6))),((7,u2),some (.box 3 [(di x1.1)])),((8,u3),some (.box 255 (Hg x1.2)))]⟩
 refine B1<|sv W<|A1<|C0<|sm W<|R4 W G_hit (Hg a1.2) W (A1<|T3<|QL (gq W) ?_)
 refine A8<|B1<|sv W<|sv W<|sv W<|gp W (K6 W) (fun _=>W) (gf W (vl W (gq W) W)<|gf W (fun _=>(O4 W (gq W) W))<|gf W (fun w4=>(L6 (A2 w4) (A2 w4) W))<|sd W (N9 W W<|fun hc=>A2<|J2 hc)<|A1<|cc W hz1 (fun c1 hz1=> ?_)<|fun c1 hz1=> ?_)
 refine Pw fun _ _=>N1 (.d _) W W (N1 (.d _) W (A7 W (gq W) W W) (Px _ _ _ _ _ W W W (gq W) (nl W) [(di a1.1)] W (Px _ _ _ _ _ W W W (gq W) (nl W) (Hg a1.2) W (BP ⟨W,?_⟩))))
 refine D9<|E1 ?_
 cases hz1
 exact QM (gq W) () (sg W<|sg W<|sg W<|B5 G_hit (.of W) trivial)
 refine A9<|D9<|E1 ?_
 cases hz1
 exact QM G_hit ()<|sg W<|sg W<|sg W<|sg W trivial
 rintro x1 g2 _ rfl qx1
 refine D9<|T3 ?_
 exact ⟨(),(Sb.after qx1<|E6 W W)⟩
 rintro _ ⟨g1,q1⟩
 refine B4 q1<|A4<|Pw fun _ _=>N1 (.d _) W (O4 W (gq W) W) (N1 (.d _) W (A7 W (gq W) W W) (N1 (.d _) W (O4 W G_hit W) (N1 (.ptr _ _) W W (N1 (.d _) W (O4 W (gq W) W) (N1 (.d _) W W (N1 (.ptr _ _) W W (N1 (.d _) W (O4 W (gq W) W) (N1 (.d _) W W (N1 (.d _) W W (N1 (.d _) W W (Px _ _ _ _ _ W W W (gq W) (nl W) (Hg y1.2) W (N1 (.d _) W W (BP ⟨W,?_⟩)))))))))))))
 refine B2 ?_
 cases h
 exact A6 (.inr W) (Xh (B3 W) (H6 W G_hit (nl W) W) (B3 W) C1 C1 C1) (.refl _)
def Fm (p1:Int)(p2:Int):Option Int:=
  (II .i64 p1 p2).bind fun v1=>(Su p1 p2).bind fun v2=>cond (decide (v2<0)) (some (D8 (v1 - 1))) (some v1)
theorem Zv(p1 p2 r)(h:Fm p1 p2=some r):PCall prog 200 [(i64 p1),(i64 p2)] (i64 r):=by
 refine C2 (fk func200 ntmps200 m0 (by with_unfolding_all rfl)) (nl W) ?_
 unfold Fm at h
 refine B4 (s0:=⟨T [(0,(.d _)),(1,(.d _))],G []⟩) (E6 W W) ?_
 refine B1<|sv W<|A1<|B1<|sv W<|sv W<|bs h fun _ hv1 h=>sd W (YA W W hv1)<|sv W<|A1<|A4<|B1<|sv W<|sv W<|bs h fun _ hv2 h=>sd W (Ze W W hv2)<|sv W<|A1<|cc W h (fun c1 h=> ?_)<|fun c1 h=> ?_
 refine C0<|sv W<|sv W<|sv W<|A1<|B1<|sv W<|sv W<|A1<|B2 ?_
 cases h
 exact A6 (.inr W) (B6 (B3 W) C1) (.refl _)
 refine A9<|B1<|sv W<|sv W<|A1<|B2 ?_
 cases h
 exact A6 (.inr W) (B6 (B3 W) C1) (.refl _)
def Kh [Lp](p1:Curve)(p2:Int):Option Spot:=
  (Df p1).bind fun v1=>cond (v1 !=0) (some (Spot.mk 0 0)) ((Pp p1 (Ov true 0 p2)).bind fun v2=>(Fm (D8 (v2.2.1.v.x*v2.2.2)) v2.2.1.l).bind fun v3=>(Fm (D8 (v2.2.1.v.y*v2.2.2)) v2.2.1.l).bind fun v4=>some (Spot.mk (D8 (v2.2.1.p.X+v3)) (D8 (v2.2.1.p.Y+v4))))
theorem Zw(p1 p2 r)(h:Kh p1 p2=some r):PCall prog 130 [(.agg [(.list (List.map X1 p1.Pts))]),(i64 p2)] (.agg [(i64 r.X),(i64 r.Y)]):=by
 refine C2 (fk func130 ntmps130 m0 (by with_unfolding_all rfl)) (nl W) ?_
 unfold Kh at h
 refine B4 (s0:=⟨T [(0,(.d _)),(1,(.d _))],G []⟩) (E6 W W) ?_
 refine B1<|sm W<|sn W W<|A1<|A4<|B1<|sd W (A7 W (gq W) W W)<|bs h fun _ hv1 h=>B0 W W A3 (Sx _ _ hv1) (.inl W) (sv W<|A1<|cc W h (fun c1 h=> ?_)<|fun c1 h=> ?_)
 refine B1<|sv W<|R4 W G_hit [(di 0),(di 0)] W (A1<|B2 ?_)
 cases h
 exact A6 (.inr W) (B6 (H6 W G_hit (nl W) W) C1) (.refl _)
 refine A9<|B1<|sd W (A7 W (gq W) W W)<|sv W<|sv W<|bs h fun v2 hv2 h=>B0 W W A3 (NM _ _ _ hv2) (.inl W) (sv W<|sv W<|sv W<|sv W<|sm W<|sv W<|R4 W G_hit (Hg v2.2.1) W (sv W<|A1<|A4<|E0 W<|sq W<|sq W<|sl W G_hit W<|sq W<|sp W W<|sl W G_hit W<|sv W<|sv W<|sq W<|sl W G_hit W<|bs h fun v3 hv3 h=>B0 W W A3 (Zv _ _ _ hv3) (.inl W) (sv W<|sq W<|sp W W<|sl W G_hit W<|sq W<|sp W W<|sl W G_hit W<|sv W<|sv W<|sq W<|sl W G_hit W<|bs h fun v4 hv4 h=>B0 W W A3 (Zv _ _ _ hv4) (.inl W) (sv W<|sv W<|R4 W (gq W) [(di<|D8 (v2.2.1.p.X+v3)),(di<|D8 (v2.2.1.p.Y+v4))] W (A1<|B2 ?_)))))
 cases h
 exact A6 (.inr W) (B6 (H6 W G_hit (nl W) W) C1) (.refl _)
def Qv [Lp](p1:Map)(p2:(List Int))(p3:Int):Option Spot:=
  (T1 p1 p2).bind fun v1=>(Nd p1 p2 (Ov true 0 (Ov false p3 v1))).bind fun v2=>(C3 p1.Lanes v2.1).bind fun v3=>(Kh v3.Curve_ v2.2.1).bind fun v4=>some v4
theorem Zx(p1 p2 p3 r)(h:Qv p1 p2 p3=some r):PCall prog 193 [(.agg (P1 p1)),(.list (List.map A5 p2)),(i64 p3)] (.agg [(i64 r.X),(i64 r.Y)]):=by
 refine C2 (fk func193 ntmps193 m0 (by with_unfolding_all rfl)) (nl W) ?_
 unfold Qv at h
 refine B4 (s0:=⟨T [(0,(.d _)),(1,(.d _)),(2,(.d _))],G []⟩) (E6 W W) ?_
 refine B1<|sm W<|sn W W<|A1<|A4<|E0 W<|sd W (A7 W (gq W) W W)<|sv W<|sv W<|sd W (A7 W (gq W) W W)<|sv W<|bs h fun _ hv1 h=>B0 W W A3 (Ju _ _ _ hv1) (.inl W) (sv W<|sv W<|bs h fun _ hv2 h=>B0 W W A3 (LK _ _ _ _ hv2) (.inl W) (sv W<|sv W<|sv W<|sv W<|sv W<|sv W<|sv W<|A1<|B1<|sq W<|sl W (gq W) W (sv W<|bs h fun _ hv3 h=>sd W (C4 W W hv3 W)<|sv W<|sd W (D1 W hv3 W W)<|sv W<|bs h fun v4 hv4 h=>B0 W W A3 (Zw _ _ _ hv4) (.inl W) (R4 W G_hit [(di v4.X),(di v4.Y)] W (A1<|B2 ?_)))))
 cases h
 exact A6 (.inr W) (B6 (H6 W G_hit (nl W) W) C1) (.refl _)
def Qw [Lp](p1:Spot)(p2:Spot):Option Int:=
  (Cm [p1,p2]).bind fun v1=>cond (!v1) (some 0) ((Hq p1 p2).bind fun v2=>(Z3 v2 v2).bind fun v3=>some v3)
theorem LL(p1 p2 r)(h:Qw p1 p2=some r):PCall prog 256 [(.agg [(i64 p1.X),(i64 p1.Y)]),(.agg [(i64 p2.X),(i64 p2.Y)])] (i64 r):=by
 refine C2 (fk func256 ntmps256 (fun r=>if r==1 then [1002]else []) (by with_unfolding_all rfl)) (nl W) ?_
 unfold Qw at h
 refine B4 (s0:=⟨T [(0,(.d _)),(1,(.d _))],G []⟩) (E6 W W) ?_
 refine B1<|sm W<|sn W W<|sv W<|A1<|A4<|B1<|sd W (A7 W (gq W) W W)<|sd W (A7 W G_hit W W)<|B8 (dl X1 [p1,p2]) W W (bs h fun v1 hv1 h=>B0 W W A3 (Lr _ _ hv1) (.inl W) (B8 (.d (bo (!v1))) W W (A1<|cc W h (fun c1 h=> ?_)<|fun c1 h=> ?_)))
 refine B1<|sv W<|A1<|B2 ?_
 cases h
 exact A6 (.inr W) (B6 (B3 W) C1) (.refl _)
 refine A9<|B1<|sd W (A7 W (gq W) W W)<|sd W (A7 W G_hit W W)<|bs h fun v2 hv2 h=>B0 W W A3 (Ls _ _ _ hv2) (.inl W) (sm W<|R4 W G_hit [(di v2.x),(di v2.y)] W (A1<|B1<|sd W (A7 W G_hit W W)<|sd W (A7 W G_hit W W)<|bs h fun _ hv3 h=>B0 W W A3 (Gf _ _ _ hv3) (.inl W) (sv W<|A1<|B2 ?_)))
 cases h
 exact A6 (.inr W) (B6 (B3 W) C1) (.refl _)
def Pq [Lp](p1:Spot)(p2:Spot)(p3:Int):Option Bool:=
  (Cm [p1,p2]).bind fun v1=>((cond ((v1&& (decide (p3≥0)))&& (decide (p3≤33554432))) (Qw p1 p2) (some default))).bind fun v2=>some (((v1&& (decide (p3≥0)))&& (decide (p3≤33554432)))&& (decide (v2≤(D8 (p3*p3)))))
theorem CC(p1 p2 p3 r)(h:Pq p1 p2 p3=some r):PCall prog 232 [(.agg [(i64 p1.X),(i64 p1.Y)]),(.agg [(i64 p2.X),(i64 p2.Y)]),(i64 p3)] (bo r):=by
 refine C2 (fk func232 ntmps232 (fun r=>if r==1 then [1002]else []) (by with_unfolding_all rfl)) (nl W) ?_
 unfold Pq at h
 refine B4 (s0:=⟨T [(0,(.d _)),(1,(.d _)),(2,(.d _))],G []⟩) (E6 W W) ?_
 refine B1<|sm W<|sn W W<|sv W<|A1<|B1<|sd W (A7 W (gq W) W W)<|sd W (A7 W G_hit W W)<|B8 (dl X1 [p1,p2]) W W (bs h fun _ hv1 h=>B0 W W A3 (Lr _ _ hv1) (.inl W) (sv W<|gt W (fun _=>W)<|gt W (vb W W W)<|sa W W W<|sv W<|gt W (fun _=>W)<|gt W (vb W W W)<|sa W W W<|sv W<|gt W (fun _=>(A7 W (gq W) W W))<|gt W (fun _=>(A7 W G_hit W W))<|bs h fun v2 hv2 h=> ?_))
 refine M2 _ (i64 v2) (K2 W) (fun w7=>⟨_,[(.d (.agg [(i64 p1.X),(i64 p1.Y)])),(.d (.agg [(i64 p2.X),(i64 p2.Y)]))],_,_,(by simp only [A2 w7];rfl),W,A3,LL _ _ _<|B9 w7 hv2,(.inl W)⟩) ?_
 refine gt W (fun _=>W)<|gt W (fun _=>W)<|gt W (fun w10=>(L6 (A2 w10) (A2 w10) W))<|gt W (fun w11=>(L6 (A2 w11) (A2 w11) W))<|sa W W W<|sv W<|A1<|B2 ?_
 cases h
 exact A6 (.inr W) (B6 (B3 W) C1) (.refl _)
def Nf (p1:(List Span))(p2:Span)(x1:Int):Option (Stp Int (Sum Unit (WorldSpan×Bool))):=
  cond (decide (x1< (p1.length:Int))) ((C3 p1 x1).bind fun v1=>cond (v1.Lane_==p2.Lane_) ((By (WorldSpan.mk v1.From v1.To) (WorldSpan.mk p2.From p2.To)).bind fun v2=>(Z6 v2).bind fun v3=>some (.out (.inr (v2,(!v3))))) (some (.go (D8 (x1+1))))) (some (.out (.inl ())))
def Tq [Lp](p1:(List Span))(p2:Span):Option (WorldSpan×Bool):=
  thenS (loop (Nf p1 p2) 0) (fun _=>some ((WorldSpan.mk 0 0),false)) (fun r=>some r)
theorem HQ(p1 p2 r)(h:Tq p1 p2=some r):PCall prog 129 [(.list (List.map Q7 p1)),(.agg (Q7 p2))] (.tup [(.agg [(i64 r.1.from_),(i64 r.1.to)]),(bo r.2)]):=by
 refine C2 (fk func129 ntmps129 m0 (by with_unfolding_all rfl)) (nl W) ?_
 unfold Tq at h
 refine B4 (s0:=⟨T [(0,(.d _)),(1,(.d _))],G []⟩) (E6 W W) ?_
 refine lr<|fun u1 _=>sm W<|sm W<|sv W<|A1<|A4<|B1<|sv W<|sd W (D6 W)<|sv W<|A1<|js h fun z1 hz1 h=>D4 (fun s=> ∃(y1:Unit) (g1:Unit),z1= .inl y1∧Sb ⟨T [(4,(.ptr (4,u1) 0))],G [((4,u1),some<|.box 191 [(di 0),(di 0)])]⟩ s) ?_ ?_
 refine A8<|E2 (Nf p1 p2) (fun (x1:Int) (g2:Unit)=>⟨T [(3,(.ptr (3,u1) 0)),(4,(.ptr (4,u1) 0)),(9,(dl Q7 p1)),(10,(di (p1.length:Int))),(11,(di x1))],G [((3,u1),some<|.box 93 (OS p2)),((4,u1),some<|.box 191 [(di 0),(di 0)])]⟩) 0 () _ hz1 (E6 W W) ?_
 intro x1 g2 z2 hz2 ez2
 unfold Nf at hz2
 refine B1<|sv W<|A1<|A4<|cc W hz2 (fun c1 hz2=> ?_)<|fun c1 hz2=> ?_
 refine A9<|A4<|A8<|B1<|bs hz2 fun v1 hv1 hz2=>sd W (C4 W W hv1 W)<|sd W (D1 W hv1 W W)<|sm W<|R4 W G_hit (OS v1) W (A1<|B1<|sq W<|sl W G_hit W<|sq W<|sl W (gq W) W (sv W<|A1<|cc W hz2 (fun c2 hz2=> ?_)<|fun c2 hz2=> ?_))
 refine B1<|sq W<|sl W G_hit W<|sq W<|sl W G_hit W<|sv W<|sq W<|sl W (gq W) W (sq W<|sl W (gq W) W (sv W<|bs hz2 fun v2 hv2 hz2=>B0 W W A3 (Od _ _ _ hv2) (.inl W) (sm W<|R4 W G_hit [(di v2.from_),(di v2.to)] W (A1<|A4<|E0 W<|sd W (A7 W G_hit W W)<|sd W (A7 W G_hit W W)<|bs hz2 fun v3 hv3 hz2=>B0 W W A3 (Ll _ _ hv3) (.inl W) (B8 (.d (bo (!v3))) W W (R4 W (gq W) [(di v2.from_),(di v2.to)] W (sv W<|A1<|B2 ?_)))))))
 cases hz2
 obtain rfl:=ez2 _ rfl
 refine ⟨nofun,F1 ?_⟩
 rw [wA]at h
 cases h
 exact A6 (.inr W) (Lh (H6 W G_hit (nl W) W) (B3 W) C1 C1) (.refl _)
 refine A9<|D9<|C0<|sv W<|sv W<|A1<|E1 ?_
 cases hz2
 exact ⟨W,(),(E6 W W)⟩
 refine C6 W ?_
 cases hz2
 obtain rfl:=ez2 _ rfl
 refine ⟨nofun,C5 W<|T3 ?_⟩
 exact ⟨_,(),W,(E6 W W)⟩
 rintro _ ⟨y1,g1,rfl,q1⟩
 rw [bZ]at h
 refine B4 q1<|B1<|sv W<|R4 W G_hit [(di 0),(di 0)] W (sv W<|A1<|B2 ?_)
 cases h
 exact A6 (.inr W) (Lh (H6 W G_hit (nl W) W) (B3 W) C1 C1) (.refl _)
def Ea (p1:CurveVector)(p2:CurveVector):Option Int:=
  some (D8 ((D8 (p1.x*p2.y)) - (D8 (p1.y*p2.x))))
theorem Ye(p1 p2 r)(h:Ea p1 p2=some r):PCall prog 269 [(.agg [(i64 p1.x),(i64 p1.y)]),(.agg [(i64 p2.x),(i64 p2.y)])] (i64 r):=by
 refine C2 (fk func269 ntmps269 m0 (by with_unfolding_all rfl)) (nl W) ?_
 unfold Ea at h
 refine B4 (s0:=⟨T [(0,(.d _)),(1,(.d _))],G []⟩) (E6 W W) ?_
 refine B1<|sm W<|sn W W<|sv W<|A1<|B1<|sq W<|sl W (gq W) W (sq W<|sl W G_hit W<|sv W<|sq W<|sl W (gq W) W (sq W<|sl W G_hit W<|sv W<|sv W<|sv W<|A1<|B2 ?_))
 cases h
 exact A6 (.inr W) (B6 (B3 W) C1) (.refl _)
def Wv (p1:Int):Option Int:=
  cond (decide (p1>0)) (some 1) (cond (decide (p1<0)) (some (-1)) (some 0))
theorem NN(p1 r)(h:Wv p1=some r):PCall prog 268 [(i64 p1)] (i64 r):=by
 refine C2 (fk func268 ntmps268 m0 (by with_unfolding_all rfl)) (nl W) ?_
 unfold Wv at h
 refine B4 (s0:=⟨T [(0,(.d _))],G []⟩) (E6 W W) ?_
 refine B1<|sv W<|A1<|A4<|A8<|B1<|sv W<|sv W<|sv W<|A1<|cc W h (fun c1 h=> ?_)<|fun c1 h=> ?_
 refine B1<|sv W<|A1<|B2 ?_
 cases h
 exact A6 (.inr W) (B6 (B3 W) C1) (.refl _)
 refine B1<|sv W<|sv W<|sv W<|A1<|cc W h (fun c2 h=> ?_)<|fun c2 h=> ?_
 refine B1<|sv W<|A1<|B2 ?_
 cases h
 exact A6 (.inr W) (B6 (B3 W) C1) (.refl _)
 refine A9<|D9<|B1<|sv W<|A1<|B2 ?_
 cases h
 exact A6 (.inr W) (B6 (B3 W) C1) (.refl _)
def Ki [Lp](p1:Spot)(p2:Spot)(p3:Spot):Option Int:=
  (Cm [p1,p2,p3]).bind fun v1=>cond (!v1) (some 0) ((Hq p1 p2).bind fun v2=>(Hq p1 p3).bind fun v3=>(Ea v2 v3).bind fun v4=>(Wv v4).bind fun v5=>some v5)
theorem Qc(p1 p2 p3 r)(h:Ki p1 p2 p3=some r):PCall prog 257 [(.agg [(i64 p1.X),(i64 p1.Y)]),(.agg [(i64 p2.X),(i64 p2.Y)]),(.agg [(i64 p3.X),(i64 p3.Y)])] (i64 r):=by
 refine C2 (fk func257 ntmps257 (fun r=>if r==1 then [1003]else []) (by with_unfolding_all rfl)) (nl W) ?_
 unfold Ki at h
 refine B4 (s0:=⟨T [(0,(.d _)),(1,(.d _)),(2,(.d _))],G []⟩) (E6 W W) ?_
 refine B1<|sm W<|sn W W<|sm W<|sv W<|A1<|A4<|B1<|sd W (A7 W (gq W) W W)<|sd W (A7 W (gq W) W W)<|sd W (A7 W G_hit W W)<|B8 (dl X1 [p1,p2,p3]) W W (bs h fun v1 hv1 h=>B0 W W A3 (Lr _ _ hv1) (.inl W) (B8 (.d (bo (!v1))) W W (A1<|cc W h (fun c1 h=> ?_)<|fun c1 h=> ?_)))
 refine B1<|sv W<|A1<|B2 ?_
 cases h
 exact A6 (.inr W) (B6 (B3 W) C1) (.refl _)
 refine A9<|A4<|E0 W<|sd W (A7 W (gq W) W W)<|sd W (A7 W (gq W) W W)<|bs h fun _ hv2 h=>B0 W W A3 (Ls _ _ _ hv2) (.inl W) (sd W (A7 W (gq W) W W)<|sd W (A7 W G_hit W W)<|bs h fun _ hv3 h=>B0 W W A3 (Ls _ _ _ hv3) (.inl W) (bs h fun _ hv4 h=>B0 W W A3 (Ye _ _ _ hv4) (.inl W) (bs h fun _ hv5 h=>B0 W W A3 (NN _ _ hv5) (.inl W) (sv W<|A1<|B2 ?_))))
 cases h
 exact A6 (.inr W) (B6 (B3 W) C1) (.refl _)
def Dk (p1:Spot)(p2:Spot)(p3:Spot):Option Bool:=
  some ((((decide ((Ov false p1.X p2.X)≤p3.X))&& (decide (p3.X≤(Ov true p1.X p2.X))))&& (decide ((Ov false p1.Y p2.Y)≤p3.Y)))&& (decide (p3.Y≤(Ov true p1.Y p2.Y))))
theorem Lc(p1 p2 p3 r)(h:Dk p1 p2 p3=some r):PCall prog 258 [(.agg [(i64 p1.X),(i64 p1.Y)]),(.agg [(i64 p2.X),(i64 p2.Y)]),(.agg [(i64 p3.X),(i64 p3.Y)])] (bo r):=by
 refine C2 (fk func258 ntmps258 m0 (by with_unfolding_all rfl)) (nl W) ?_
 unfold Dk at h
 refine B4 (s0:=⟨T [(0,(.d _)),(1,(.d _)),(2,(.d _))],G []⟩) (E6 W W) ?_
 refine B1<|sm W<|sn W W<|sm W<|sv W<|A1<|B1<|sq W<|sl W (gq W) W (sq W<|sl W (gq W) W (sv W<|sq W<|sl W G_hit W<|sv W<|sv W<|gp W (K2 W) (fun _=>W) (gt W (vl W G_hit W)<|gp W (K2 W) (fun _=>W) (gt W (vl W (gq W) W)<|gp W (K2 W) (fun _=>W) (gt W (vl W (gq W) W) ?_)))))
 refine gt W (fun w7=>(by simp only [A2 w7];rfl)) ?_
 refine gt W (fun w8=>(L6 (A2 w8) (A2 w8) W))<|sa W W W<|sv W<|gp W (K2 W) (fun _=>W) (gt W (vl W (gq W) W)<|gp W (K2 W) (fun _=>W) (gt W (vl W (gq W) W) ?_))
 refine gt W (fun w13=>(by simp only [A2 w13];rfl)) ?_
 refine gp W (K2 W) (fun _=>W) (gt W (vl W G_hit W)<|gt W (fun w16=>(L6 (A2 w16) (A2 w16) W))<|sa W W W<|sv W<|gp W (K2 W) (fun _=>W) (gt W (vl W G_hit W)<|gp W (K2 W) (fun _=>W) (gt W (vl W (gq W) W)<|gp W (K2 W) (fun _=>W) (gt W (vl W (gq W) W) ?_))))
 refine gt W (fun w23=>(by simp only [A2 w23];rfl)) ?_
 refine gt W (fun w24=>(L6 (A2 w24) (A2 w24) W))<|sa W W W<|sv W<|A1<|B2 ?_
 cases h
 exact A6 (.inr W) (B6 (B3 W) C1) (.refl _)
end
end Go.Abs.World
