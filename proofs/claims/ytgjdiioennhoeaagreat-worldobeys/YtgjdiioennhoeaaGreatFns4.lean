/-
  The functions, part 4.
-/
import Derived.Test.YtgjdiioennhoeaaGreatFns3
set_option maxRecDepth 20000
set_option maxHeartbeats 4000000
set_option linter.unusedVariables false
namespace Go.Abs.World
noncomputable section
open Go Go.Abs Go.Proofs Tryz
attribute [local irreducible] L8 Fb De
def X7 [Lp](p1:Map)(p2:(List Int))(x1:Int):Option (Stp Int (Sum Unit Int)):=
  cond (decide (x1< (p2.length:Int))) ((C1 p2 (D3 (x1 - 1))).bind fun v6=>(C1 p1.Lanes v6).bind fun v7=>(C1 p2 x1).bind fun v8=>(Ph v7.Next v8).bind fun v9=>cond (!v9) (some (.out (.inr 13))) (some (.go (D3 (x1+1))))) (some (.out (.inl ())))
def Z4 [Lp](p1:Map)(p2:(List Int)):Option Int:=
  (Kq p1).bind fun v1=>cond (v1 !=0) (some v1) (((cond (!(((p2.length:Int)==0)||(decide ((p2.length:Int)>8)))) (C1 p2 0) (some default))).bind fun v2=>((cond (!((((p2.length:Int)==0)||(decide ((p2.length:Int)>8)))||(decide (v2<0)))) (C1 p2 0) (some default))).bind fun v3=>((cond (!(((((p2.length:Int)==0)||(decide ((p2.length:Int)>8)))||(decide (v2<0)))||(decide (v3≥(p1.Lanes.length:Int))))) (C1 p2 0) (some default))).bind fun v4=>((cond (!(((((p2.length:Int)==0)||(decide ((p2.length:Int)>8)))||(decide (v2<0)))||(decide (v3≥(p1.Lanes.length:Int))))) (Ld p1 v4) (some default))).bind fun v5=>cond ((((((p2.length:Int)==0)||(decide ((p2.length:Int)>8)))||(decide (v2<0)))||(decide (v3≥(p1.Lanes.length:Int))))||(decide ((v5.length:Int)>0))) (some 13) (thenS (loop (X7 p1 p2) 1) (fun _=>some 0) (fun r=>some r)))
theorem Ha(p1 p2 r)(h:Z4 p1 p2=some r):PCall prog 102 [(.agg (P7 p1)),(.list (List.map A4 p2))] (i64 r):=by
 refine C4 (fk func102 ntmps102 m0 (by with_unfolding_all rfl)) (nl W) ?_
 unfold Z4 at h
 refine B4 (s0:=⟨T [(0,(.d _)),(1,(.d _))],G []⟩) (F2 W W) ?_
 refine lr<|fun u1 _=>sm W<|sv W<|A1<|B0<|sd W (B1 W G_hit W W)<|bs h fun _ hv1 h=>A9 W W A3 (Sq _ _ hv1) (.inl W) (sv W<|A1<|A5<|B0<|sv W<|sv W<|A1<|cc W h (fun c1 h=> ?_)<|fun c1 h=> ?_)
 refine B0<|sv W<|sv W<|A1<|B2 ?_
 cases h
 exact A6 (.inr W) (B6 (B3 W) C2) (.refl _)
 refine A8<|A5<|A5<|E7 W<|sv W<|sd W (D7 W)<|sv W<|sv W<|gf W (fun _=>W)<|gf W (fun w2=>(D7<|A2 w2))<|gf W (vb W W W)<|sd W (O2 W W<|fun hc=>A2<|J4 hc)<|sv W<|gf W (fun _=>W)<|bs h fun _ hv2 h=>gf W (fun w5=>(C5 (A2 w5) W (B9 w5 hv2) W))<|gf W (fun w6=>(C9 (A2 w6) (B9 w6 hv2) W))<|gf W (vb W W W)<|sd W (O2 W W<|fun hc=>A2<|J4 hc)<|sv W<|gf W (fun _=>W)<|bs h fun _ hv3 h=>gf W (fun w9=>(C5 (A2 w9) W (B9 w9 hv3) W))<|gf W (fun w10=>(C9 (A2 w10) (B9 w10 hv3) W))<|gp W (K6 W) (fun _=>W) (gf W (vl W G_hit W)<|gf W (fun w13=>(D7<|A2 w13))<|gf W (fun w14=>(M7 (A2 w14) (A2 w14) W))<|sd W (O2 W W<|fun hc=>A2<|J4 hc)<|sv W<|gf W (fun _=>(B1 W G_hit W W))<|gf W (fun _=>W)<|bs h fun v4 hv4 h=>gf W (fun w17=>(C5 (A2 w17) W (B9 w17 hv4) W))<|gf W (fun w18=>(C9 (A2 w18) (B9 w18 hv4) W))<|bs h fun v5 hv5 h=> ?_)
 refine N6 _ (.list (List.map A4 v5)) (K6 W) (fun w19=>⟨_,[(.d (.agg (P7 p1))),(di v4)],_,_,(by simp only [A2 w19];rfl),W,A3,Wz _ _ _<|B9 w19 hv5,(.inl W)⟩) ?_
 refine gf W (fun w20=>(D7<|A2 w20))<|gf W (vb W W W)<|sd W (O2 W W<|fun hc=>A2<|J4 hc)<|A1<|cc W h (fun c2 h=> ?_)<|fun c2 h=> ?_
 refine B0<|sv W<|A1<|B2 ?_
 cases h
 exact A6 (.inr W) (B6 (B3 W) C2) (.refl _)
 refine A8<|A5<|B0<|sv W<|A1<|js h fun z1 hz1 h=>D9 (fun s=> ∃(y1:Unit) (g1:Unit),z1= .inl y1∧Sb ⟨T [],G []⟩ s) ?_ ?_
 refine A7<|E4 (X7 p1 p2) (fun (x1:Int) (g2:Unit)=>⟨T [(1,(dl A4 p2)),(2,(.ptr (2,u1) 0)),(6,(di x1))],G [((2,u1),some<|.box 33 (L4 p1))]⟩) 1 () _ hz1 (F2 W W) ?_
 intro x1 g2 z2 hz2 ez2
 unfold X7 at hz2
 refine A5<|B0<|sv W<|sv W<|sd W (D7 W)<|sv W<|A1<|cc W hz2 (fun c3 hz2=> ?_)<|fun c3 hz2=> ?_
 refine A8<|A5<|A7<|A5<|E7 W<|sq W<|sl W G_hit W<|sv W<|sv W<|sv W<|bs hz2 fun _ hv6 hz2=>sd W (C5 W W hv6 W)<|sd W (C9 W hv6 W)<|bs hz2 fun _ hv7 hz2=>sd W (C5 W W hv7 W)<|sv W<|sd W (C9 W hv7 W)<|sv W<|sv W<|bs hz2 fun _ hv8 hz2=>sd W (C5 W W hv8 W)<|sd W (C9 W hv8 W)<|bs hz2 fun v9 hv9 hz2=>A9 W W A3 (Wa _ _ _ hv9) (.inl W) (C0 (.d (bo (!v9))) W W (A1<|cc W hz2 (fun c4 hz2=> ?_)<|fun c4 hz2=> ?_))
 refine B0<|sv W<|A1<|B2 ?_
 cases hz2
 obtain rfl:=ez2 _ rfl
 refine ⟨nofun,F4 ?_⟩
 rw [wE]at h
 cases h
 exact A6 (.inr W) (B6 (B3 W) C2) (.refl _)
 refine A8<|E3<|B7<|sv W<|sv W<|sv W<|A1<|E2 ?_
 cases hz2
 exact ⟨W,(),(F2 W W)⟩
 refine C8 W ?_
 cases hz2
 obtain rfl:=ez2 _ rfl
 refine ⟨nofun,C6 W<|U4 ?_⟩
 exact ⟨_,(),W,(F2 W W)⟩
 rintro _ ⟨y1,g1,rfl,q1⟩
 rw [wD]at h
 refine B4 q1<|B0<|sv W<|A1<|B2 ?_
 cases h
 exact A6 (.inr W) (B6 (B3 W) C2) (.refl _)
def Lf [Lp](p1:Map)(p2:Int):Option Int:=
  (C1 p1.Lanes p2).bind fun v1=>(Fp v1.Curve_).bind fun v2=>some v2
theorem Xa(p1 p2 r)(h:Lf p1 p2=some r):PCall prog 195 [(.agg (P7 p1)),(i64 p2)] (i64 r):=by
 refine C4 (fk func195 ntmps195 m0 (by with_unfolding_all rfl)) (nl W) ?_
 unfold Lf at h
 refine B4 (s0:=⟨T [(0,(.d _)),(1,(.d _))],G []⟩) (F2 W W) ?_
 refine B0<|sm W<|sv W<|A1<|B0<|sq W<|sl W G_hit W<|sv W<|bs h fun _ hv1 h=>sd W (C5 W W hv1 W)<|sv W<|sd W (D4 W hv1 W W)<|bs h fun _ hv2 h=>A9 W W A3 (Qy _ _ hv2) (.inl W) (sv W<|A1<|B2 ?_)
 cases h
 exact A6 (.inr W) (B6 (B3 W) C2) (.refl _)
def Cz [Lp](p1:Map)(p2:(List Int))(x1:((List Int)×Int×Int)):Option (Stp ((List Int)×Int×Int) ((List Int)×Int)):=
  cond (decide (x1.2.2< (p2.length:Int))) ((X6 x1.1 [x1.2.1]).bind fun v1=>(C1 p2 x1.2.2).bind fun v2=>(Lf p1 v2).bind fun v3=>some (.go (v1,(D3 (x1.2.1+v3)),(D3 (x1.2.2+1))))) (some (.out (x1.1,x1.2.1)))
def Lg [Lp](p1:Map)(p2:(List Int)):Option ((List Int)×Int):=
  (loop (Cz p1 p2) ([],0,0)).bind fun y1=>some (y1.1,y1.2)
theorem Xb(p1 p2 r)(h:Lg p1 p2=some r):PCall prog 186 [(.agg (P7 p1)),(.list (List.map A4 p2))] (.tup [(.list (List.map A4 r.1)),(i64 r.2)]):=by
 refine C4 (fk func186 ntmps186 (fun r=>if r==6 then [1002]else []) (by with_unfolding_all rfl)) (nl W) ?_
 unfold Lg at h
 refine B4 (s0:=⟨T [(0,(.d _)),(1,(.d _))],G []⟩) (F2 W W) ?_
 refine lr<|fun u1 _=>sm W<|sv W<|sv W<|A1<|B0<|sv W<|A1<|B0<|sv W<|A1<|A5<|B0<|sv W<|A1<|bs h fun y1 hy1 h=>D9 (fun s=> ∃g1:Nat,Sb ⟨T [(6,(oS y1.1 (18,g1))),(7,(di y1.2))],G [((18,g1),oB 2 1 A4 y1.1)]⟩ s) ?_ ?_
 refine A7<|E4 (Cz p1 p2) (fun (x1:((List Int)×Int×Int)) (g2:Nat)=>⟨T [(1,(dl A4 p2)),(2,(.ptr (2,u1) 0)),(6,(oS x1.1 (18,g2))),(7,(di x1.2.1)),(8,(di x1.2.2))],G [((2,u1),some<|.box 33 (L4 p1)),((18,g2),oB 2 1 A4 x1.1)]⟩) ([],0,0) 0 _ hy1 (E0 (Z7 W)<|B5 G_hit (.of W)<|S5 trivial) ?_
 intro x1 g2 z1 hz1 ez1
 unfold Cz at hz1
 refine A5<|B0<|sv W<|sv W<|sd W (D7 W)<|sv W<|A1<|cc W hz1 (fun c1 hz1=> ?_)<|fun c1 hz1=> ?_
 refine A8<|A5<|A7<|lr<|fun u6 _=>C0 (oS x1.1 (18,g2)) W W (sv W<|C0 (dl A4 [x1.2.1]) W W (bs hz1 fun _ hv1 hz1=>Q3 A4 (18,g2) x1.1 x1.2.1 [] _ (K7<|fun _=>W) W (gq W) hv1 (ss W<|A1<|E7 W<|sv W<|sd W (B1 W (gq W) W W)<|sv W<|sv W<|bs hz1 fun _ hv2 hz1=>sd W (C5 W W hv2 W)<|sd W (C9 W hv2 W)<|bs hz1 fun _ hv3 hz1=>A9 W W A3 (Xa _ _ _ hv3) (.inl W) (sv W<|sv W<|A1<|E3<|B7<|sv W<|sv W<|sv W<|A1<|E2 ?_))))
 cases hz1
 exact ⟨W,u6,(E0 ⟨.of W, .of W,(.of (V1<|V4 hv1).symm), .of W, .of W,trivial⟩<|sg W<|N8 G_hit trivial)⟩
 refine C8 W ?_
 cases hz1
 obtain rfl:=ez1 _ rfl
 refine ⟨nofun,C6 W<|U4 ?_⟩
 exact ⟨g2,(E0 (Z7 W)<|B8 (gq W) trivial)⟩
 rintro _ ⟨g1,q1⟩
 refine B4 q1<|B0<|C0 (oS y1.1 (18,g1)) W W (sv W<|C0 (oS y1.1 (18,g1)) W W (sv W<|A1<|B2 ?_))
 cases h
 exact A6 (.inr W) (Na (B3 W) (B3 W) (T9 G_hit) C2) (.tup (.cons T8 A3))
def Y0 [Lp](p1:Map)(p2:(List Int)):Option Int:=
  (Z4 p1 p2).bind fun v1=>cond (v1 !=0) (some 0) ((Lg p1 p2).bind fun v2=>some v2.2)
theorem Fq(p1 p2 r)(h:Y0 p1 p2=some r):PCall prog 97 [(.agg (P7 p1)),(.list (List.map A4 p2))] (i64 r):=by
 refine C4 (fk func97 ntmps97 m0 (by with_unfolding_all rfl)) (nl W) ?_
 unfold Y0 at h
 refine B4 (s0:=⟨T [(0,(.d _)),(1,(.d _))],G []⟩) (F2 W W) ?_
 refine B0<|sm W<|sv W<|A1<|A5<|B0<|sd W (B1 W G_hit W W)<|sv W<|bs h fun _ hv1 h=>A9 W W A3 (Ha _ _ _ hv1) (.inl W) (sv W<|A1<|cc W h (fun c1 h=> ?_)<|fun c1 h=> ?_)
 refine B0<|sv W<|A1<|B2 ?_
 cases h
 exact A6 (.inr W) (B6 (B3 W) C2) (.refl _)
 refine A8<|B0<|sd W (B1 W G_hit W W)<|sv W<|bs h fun _ hv2 h=>A9 W W A3 (Xb _ _ _ hv2) (.inl W) (sv W<|sv W<|sv W<|sv W<|sv W<|A1<|B0<|sv W<|sv W<|A1<|B2 ?_)
 cases h
 exact A6 (.inr W) (B6 (B3 W) C2) (.refl _)
def Fr [Lp](p1:Map)(p2:(List Int)):Option (List Int):=
  (Z4 p1 p2).bind fun v1=>cond (v1 !=0) (some []) ((Lg p1 p2).bind fun v2=>some v2.1)
theorem Mm(p1 p2 r)(h:Fr p1 p2=some r):PCall prog 96 [(.agg (P7 p1)),(.list (List.map A4 p2))] (.list (List.map A4 r)):=by
 refine C4 (fk func96 ntmps96 m0 (by with_unfolding_all rfl)) (nl W) ?_
 unfold Fr at h
 refine B4 (s0:=⟨T [(0,(.d _)),(1,(.d _))],G []⟩) (F2 W W) ?_
 refine B0<|sm W<|sv W<|A1<|A5<|B0<|sd W (B1 W G_hit W W)<|sv W<|bs h fun _ hv1 h=>A9 W W A3 (Ha _ _ _ hv1) (.inl W) (sv W<|A1<|cc W h (fun c1 h=> ?_)<|fun c1 h=> ?_)
 refine B0<|sv W<|A1<|B2 ?_
 cases h
 exact A6 (.inr W) (B6 (B3 W) C2) DLe.nil
 refine A8<|B0<|sd W (B1 W G_hit W W)<|sv W<|bs h fun _ hv2 h=>A9 W W A3 (Xb _ _ _ hv2) (.inl W) (sv W<|sv W<|sv W<|sv W<|sv W<|A1<|B0<|sv W<|sv W<|A1<|B2 ?_)
 cases h
 exact A6 (.inr W) (B6 (B3 W) C2) (.refl _)
def Gl (p2:Agent)(v1:(List Int))(x1:(Int×Int)):Option (Stp (Int×Int) Int):=
  cond (decide (x1.2< (v1.length:Int))) ((C1 v1 x1.2).bind fun v2=>cond (decide (v2≤p2.S)) (some (.go (x1.2,(D3 (x1.2+1))))) (some (.go (x1.1,(D3 (x1.2+1)))))) (some (.out x1.1))
def Pi [Lp](p1:Map)(p2:Agent):Option (Int×Int):=
  (Fr p1 p2.Route).bind fun v1=>(loop (Gl p2 v1) (0,0)).bind fun y1=>(C1 p2.Route y1).bind fun v3=>(C1 v1 y1).bind fun v4=>some (v3,(D3 (p2.S - v4)))
theorem MN(p1 p2 r)(h:Pi p1 p2=some r):PCall prog 168 [(.agg (P7 p1)),(.agg (D0 p2))] (.tup [(i64 r.1),(i64 r.2)]):=by
 refine C4 (fk func168 ntmps168 m0 (by with_unfolding_all rfl)) (nl W) ?_
 unfold Pi at h
 refine B4 (s0:=⟨T [(0,(.d _)),(1,(.d _))],G []⟩) (F2 W W) ?_
 refine lr<|fun u1 _=>sm W<|sm W<|sv W<|sv W<|A1<|B0<|sd W (B1 W (gq W) W W)<|sq W<|sl W G_hit W<|bs h fun v1 hv1 h=>A9 W W A3 (Mm _ _ _ hv1) (.inl W) (sv W<|A1<|B0<|sv W<|A1<|A5<|B0<|sv W<|A1<|bs h fun y1 hy1 h=>D9 (fun s=> ∃g1:Unit,Sb ⟨T [(3,(.ptr (3,u1) 0)),(6,(dl A4 v1)),(7,(di y1))],G [((3,u1),some<|.box 45 (T0 p2))]⟩ s) ?_ ?_)
 refine A7<|E4 (Gl p2 v1) (fun (x1:(Int×Int)) (g2:Unit)=>⟨T [(3,(.ptr (3,u1) 0)),(6,(dl A4 v1)),(7,(di x1.1)),(8,(di x1.2))],G [((3,u1),some<|.box 45 (T0 p2))]⟩) (0,0) () _ hy1 (F2 W W) ?_
 intro x1 g2 z1 hz1 ez1
 unfold Gl at hz1
 refine A5<|B0<|sv W<|sv W<|sd W (D7 W)<|sv W<|A1<|cc W hz1 (fun c1 hz1=> ?_)<|fun c1 hz1=> ?_
 refine A8<|A5<|A7<|A5<|E7 W<|sv W<|sv W<|bs hz1 fun _ hv2 hz1=>sd W (C5 W W hv2 W)<|sd W (C9 W hv2 W)<|sq W<|sl W G_hit W<|sv W<|A1<|cc W hz1 (fun c2 hz1=> ?_)<|fun c2 hz1=> ?_
 refine B7<|sv W<|sv W<|A1<|E3<|B7<|sv W<|sv W<|sv W<|A1<|E2 ?_
 cases hz1
 exact ⟨W,(),(F2 W W)⟩
 refine A8<|E3<|B7<|sv W<|sv W<|sv W<|A1<|E2 ?_
 cases hz1
 exact ⟨W,(),(F2 W W)⟩
 refine C8 W ?_
 cases hz1
 obtain rfl:=ez1 _ rfl
 refine ⟨nofun,C6 W<|U4 ?_⟩
 exact ⟨(),(F2 W W)⟩
 rintro _ ⟨g1,q1⟩
 refine B4 q1<|A5<|E7 W<|sq W<|sl W G_hit W<|sv W<|bs h fun _ hv3 h=>sd W (C5 W W hv3 W)<|sd W (C9 W hv3 W)<|sq W<|sl W G_hit W<|sv W<|sv W<|bs h fun _ hv4 h=>sd W (C5 W W hv4 W)<|sd W (C9 W hv4 W)<|sv W<|sv W<|sv W<|A1<|B2 ?_
 cases h
 exact A6 (.inr W) (Na (B3 W) (B3 W) C2 C2) (.refl _)
def Ms [Lp](p1:Map)(p2:Agent):Option Bool:=
  (Y0 p1 p2.Route).bind fun v1=>some (decide ((D3 (p2.S - p2.Len))>v1))
theorem MO(p1 p2 r)(h:Ms p1 p2=some r):PCall prog 169 [(.agg (P7 p1)),(.agg (D0 p2))] (bo r):=by
 refine C4 (fk func169 ntmps169 m0 (by with_unfolding_all rfl)) (nl W) ?_
 unfold Ms at h
 refine B4 (s0:=⟨T [(0,(.d _)),(1,(.d _))],G []⟩) (F2 W W) ?_
 refine B0<|sm W<|sn W W<|sv W<|A1<|A5<|E7 W<|sq W<|sl W G_hit W<|sq W<|sl W G_hit W<|sv W<|sd W (B1 W (gq W) W W)<|sq W<|sl W G_hit W<|bs h fun _ hv1 h=>A9 W W A3 (Fq _ _ _ hv1) (.inl W) (sv W<|sv W<|A1<|B2 ?_)
 cases h
 exact A6 (.inr W) (B6 (B3 W) C2) (.refl _)
def Hj [Lp](p1:Map)(p2:State)(p3:Int):Option Int:=
  (C1 p2.Agents p3).bind fun v1=>(Z4 p1 v1.Route).bind fun v2=>cond (v2 !=0) (some 13) (((cond (!(((((decide (v1.Len<300))||(decide (v1.Len>20000)))||(decide (v1.Begin<0)))||(decide (v1.Begin>1099511627776)))||(decide (v1.S<0)))) (Y0 p1 v1.Route) (some default))).bind fun v3=>cond ((((((decide (v1.Len<300))||(decide (v1.Len>20000)))||(decide (v1.Begin<0)))||(decide (v1.Begin>1099511627776)))||(decide (v1.S<0)))||(decide (v1.S>(D3 ((D3 (v3+v1.Len))+2000))))) (some 2) ((Pi p1 v1).bind fun v4=>(C1 p1.Lanes v4.1).bind fun v5=>(Cc v5.Kind).bind fun v6=>cond ((decide (v1.V<0))||(decide (v1.V>v6.1))) (some 2) ((Ms p1 v1).bind fun v7=>cond (((!(v1.Gone==v7))||((decide (v1.Begin>p2.Tick))&& (v1.S !=0)))||((p3==0)&& (v1.Begin !=0))) (some 10) (some 0))))
theorem AM(p1 p2 p3 r)(h:Hj p1 p2 p3=some r):PCall prog 77 [(.agg (P7 p1)),(.agg (Bc p2)),(i64 p3)] (i64 r):=by
 refine C4 (fk func77 ntmps77 m0 (by with_unfolding_all rfl)) (nl W) ?_
 unfold Hj at h
 refine B4 (s0:=⟨T [(0,(.d _)),(1,(.d _)),(2,(.d _))],G []⟩) (F2 W W) ?_
 refine B0<|sm W<|sn W W<|sv W<|A1<|B0<|sq W<|sl W G_hit W<|sv W<|bs h fun v1 hv1 h=>sd W (C5 W W hv1 W)<|sd W (D4 W hv1 W W)<|sm W<|U0 W G_hit (T0 v1) W (A1<|A5<|B0<|sd W (B1 W (gq W) W W)<|sq W<|sl W G_hit W<|bs h fun _ hv2 h=>A9 W W A3 (Ha _ _ _ hv2) (.inl W) (sv W<|A1<|cc W h (fun c1 h=> ?_)<|fun c1 h=> ?_))
 refine B0<|sv W<|A1<|B2 ?_
 cases h
 exact A6 (.inr W) (B6 (B3 W) C2) (.refl _)
 refine A8<|A5<|A5<|E7 W<|sq W<|sl W G_hit W<|sv W<|sv W<|gp W (K6 W) (fun _=>W) (gf W (vl W G_hit W)<|gf W (vb W W W)<|sd W (O2 W W<|fun hc=>A2<|J4 hc)<|sv W<|gp W (K6 W) (fun _=>W) (gf W (vl W G_hit W)<|gf W (vb W W W)<|sd W (O2 W W<|fun hc=>A2<|J4 hc)<|sv W<|gp W (K6 W) (fun _=>W) (gf W (vl W G_hit W)<|gf W (vb W W W)<|sd W (O2 W W<|fun hc=>A2<|J4 hc)<|sv W<|gp W (K6 W) (fun _=>W) (gf W (vl W G_hit W)<|gf W (vb W W W)<|sd W (O2 W W<|fun hc=>A2<|J4 hc)<|sv W<|gp W (K6 W) (fun _=>W) (gf W (vl W G_hit W)<|gf W (fun _=>(B1 W (gq W) W W))<|gp W (K6 W) (fun _=>W) (gf W (vl W G_hit W)<|bs h fun v3 hv3 h=> ?_))))))
 refine N6 _ (i64 v3) (K6 W) (fun w18=>⟨_,[(.d (.agg (P7 p1))),(dl A4 v1.Route)],_,_,(by simp only [A2 w18];rfl),W,A3,Fq _ _ _<|B9 w18 hv3,(.inl W)⟩) ?_
 refine gp W (K6 W) (fun _=>W) (gf W (vl W G_hit W)<|gf W (fun w21=>(M7 (A2 w21) (A2 w21) W))<|gf W (vb W W W)<|gf W (fun w23=>(M7 (A2 w23) (A2 w23) W))<|sd W (O2 W W<|fun hc=>A2<|J4 hc)<|A1<|cc W h (fun c2 h=> ?_)<|fun c2 h=> ?_)
 refine B0<|sv W<|A1<|B2 ?_
 cases h
 exact A6 (.inr W) (B6 (B3 W) C2) (.refl _)
 refine A8<|B0<|sd W (B1 W (gq W) W W)<|sd W (B1 W G_hit W W)<|bs h fun _ hv4 h=>A9 W W A3 (MN _ _ _ hv4) (.inl W) (sv W<|sv W<|sv W<|sv W<|sv W<|A1<|B0<|sq W<|sl W (gq W) W (sv W<|bs h fun _ hv5 h=>sd W (C5 W W hv5 W)<|sv W<|sd W (C9 W hv5 W)<|bs h fun _ hv6 h=>A9 W W A3 (Je _ _ hv6) (.inl W) (sv W<|sv W<|sv W<|sv W<|sv W<|sv W<|sv W<|A1<|A5<|B0<|sq W<|sl W G_hit W<|sv W<|sv W<|gp W (K6 W) (fun _=>W) (gf W (vl W G_hit W)<|gf W (fun _=>W)<|gf W (fun w27=>(M7 (A2 w27) (A2 w27) W))<|sd W (O2 W W<|fun hc=>A2<|J4 hc)<|A1<|cc W h (fun c3 h=> ?_)<|fun c3 h=> ?_))))
 refine B0<|sv W<|A1<|B2 ?_
 cases h
 exact A6 (.inr W) (B6 (B3 W) C2) (.refl _)
 refine A8<|A5<|A5<|E7 W<|sq W<|sl W G_hit W<|sd W (B1 W (gq W) W W)<|sd W (B1 W G_hit W W)<|bs h fun v7 hv7 h=>A9 W W A3 (MO _ _ _ hv7) (.inl W) (C0 (.d (bo (!(v1.Gone==v7)))) W W (sv W<|gp W (K6 W) (fun _=>W) (gf W (vl W G_hit W)<|gp W (K6 W) (fun _=>W) (gf W (vl W (gq W) W)<|gf W (fun w32=>(M7 (A2 w32) (A2 w32) W))<|gf W (fun w33=>(PQ<|A2 w33))<|M8 _ (.ptr _ _) W (V2 W) (fun _=>W) (gv W (V2 W) (vl W G_hit W) (gv W (V2 W) (vb W W W) (gf W (fun w37=>(HF (A2 w37) (fun hc=>A2<|DY w37 hc) W))<|sd W (O2 W W<|fun hc=>A2<|J4 hc)<|sv W<|gf W (fun _=>W)<|gf W (vb W W W)<|gf W (fun w40=>(PQ<|A2 w40))<|M8 _ (.ptr _ _) W (V2 W) (fun _=>W) (gv W (V2 W) (vl W G_hit W) (gv W (V2 W) (vb W W W) (gf W (fun w44=>(HF (A2 w44) (fun hc=>A2<|DY w44 hc) W))<|sd W (O2 W W<|fun hc=>A2<|J4 hc)<|A1<|cc W h (fun c4 h=> ?_)<|fun c4 h=> ?_))))))))))
 refine B0<|sv W<|A1<|B2 ?_
 cases h
 exact A6 (.inr W) (B6 (B3 W) C2) (.refl _)
 refine A8<|B0<|sv W<|A1<|B2 ?_
 cases h
 exact A6 (.inr W) (B6 (B3 W) C2) (.refl _)
def Hl (p2:State)(x3:Int):Option (Stp Int (Sum Unit Int)):=
  cond (decide (x3< (p2.In.length:Int))) ((C1 p2.In x3).bind fun v7=>cond ((((decide (v7.Since<0))||(decide (v7.Since>p2.Tick)))||(decide (v7.Rank<0)))||(decide (v7.Rank>100))) (some (.out (.inr 2))) (some (.go (D3 (x3+1))))) (some (.out (.inl ())))
def Hm (p1:Map)(p2:State)(x2:Int):Option (Stp Int (Sum Unit Int)):=
  cond (decide (x2< (p2.In.length:Int))) ((C1 p2.In x2).bind fun v3=>cond ((((decide (v3.Agent_<0))||(decide (v3.Agent_≥(p2.Agents.length:Int))))||(decide (v3.Zone_<0)))||(decide (v3.Zone_≥(p1.Zones.length:Int)))) (some (.out (.inr 11))) (((cond (decide (x2>0)) (C1 p2.In (D3 (x2 - 1))) (some default))).bind fun v4=>((cond ((decide (x2>0))&& (!(decide (v3.Agent_<v4.Agent_)))) (C1 p2.In (D3 (x2 - 1))) (some default))).bind fun v5=>((cond (((decide (x2>0))&& (!(decide (v3.Agent_<v4.Agent_))))&& (v3.Agent_==v5.Agent_)) (C1 p2.In (D3 (x2 - 1))) (some default))).bind fun v6=>cond ((decide (x2>0))&& ((decide (v3.Agent_<v4.Agent_))||((v3.Agent_==v5.Agent_)&& (decide (v3.Zone_≤v6.Zone_))))) (some (.out (.inr 11))) (some (.go (D3 (x2+1)))))) (some (.out (.inl ())))
def Ho [Lp](p1:Map)(p2:State)(x1:Int):Option (Stp Int (Sum Unit Int)):=
  cond (decide (x1< (p2.Agents.length:Int))) ((Hj p1 p2 x1).bind fun v2=>cond (v2 !=0) (some (.out (.inr v2))) (some (.go (D3 (x1+1))))) (some (.out (.inl ())))
def Nh [Lp](p1:Map)(p2:State):Option Int:=
  (Kq p1).bind fun v1=>cond (v1 !=0) (some v1) (cond ((decide (p2.Tick<0))||(decide (p2.Tick>1099511627776))) (some 2) (cond ((p2.Agents.length:Int)==0) (some 6) (cond (decide ((p2.Agents.length:Int)>8)) (some 8) (thenS (loop (Ho p1 p2) 0) (fun _=>thenS (loop (Hm p1 p2) 0) (fun _=>thenS (loop (Hl p2) 0) (fun _=>some 0) (fun r=>some r)) (fun r=>some r)) (fun r=>some r)))))
theorem KN(p1 p2 r)(h:Nh p1 p2=some r):PCall prog 25 [(.agg (P7 p1)),(.agg (Bc p2))] (i64 r):=by
 refine C4 (fk func25 ntmps25 m0 (by with_unfolding_all rfl)) (nl W) ?_
 unfold Nh at h
 refine B4 (s0:=⟨T [(0,(.d _)),(1,(.d _))],G []⟩) (F2 W W) ?_
 refine lr<|fun u1 _=>sm W<|sm W<|sv W<|A1<|B0<|sd W (B1 W (gq W) W W)<|bs h fun _ hv1 h=>A9 W W A3 (Sq _ _ hv1) (.inl W) (sv W<|A1<|A5<|B0<|sv W<|sv W<|A1<|cc W h (fun c1 h=> ?_)<|fun c1 h=> ?_)
 refine B0<|sv W<|sv W<|A1<|B2 ?_
 cases h
 exact A6 (.inr W) (B6 (B3 W) C2) (.refl _)
 refine A8<|A5<|B0<|sq W<|sl W G_hit W<|sv W<|sv W<|gp W (K6 W) (fun _=>W) (gf W (vl W G_hit W)<|gf W (vb W W W)<|sd W (O2 W W<|fun hc=>A2<|J4 hc)<|A1<|cc W h (fun c2 h=> ?_)<|fun c2 h=> ?_)
 refine B0<|sv W<|A1<|B2 ?_
 cases h
 exact A6 (.inr W) (B6 (B3 W) C2) (.refl _)
 refine A8<|A5<|B0<|sq W<|sl W G_hit W<|sd W (D7 W)<|sv W<|A1<|cc W h (fun c3 h=> ?_)<|fun c3 h=> ?_
 refine B0<|sv W<|A1<|B2 ?_
 cases h
 exact A6 (.inr W) (B6 (B3 W) C2) (.refl _)
 refine A8<|A5<|B0<|sq W<|sl W G_hit W<|sd W (D7 W)<|sv W<|A1<|cc W h (fun c4 h=> ?_)<|fun c4 h=> ?_
 refine B0<|sv W<|A1<|B2 ?_
 cases h
 exact A6 (.inr W) (B6 (B3 W) C2) (.refl _)
 refine A8<|A5<|B0<|sv W<|A1<|js h fun z1 hz1 h=>D9 (fun s=> ∃(y1:Unit) (g1:Unit),z1= .inl y1∧Sb ⟨T [(2,(.ptr (2,u1) 0)),(3,(.ptr (3,u1) 0))],G [((2,u1),some<|.box 33 (L4 p1)),((3,u1),some<|.box 25 (J5 p2))]⟩ s) ?_ ?_
 refine A7<|E4 (Ho p1 p2) (fun (x1:Int) (g2:Unit)=>⟨T [(2,(.ptr (2,u1) 0)),(3,(.ptr (3,u1) 0)),(6,(di x1))],G [((2,u1),some<|.box 33 (L4 p1)),((3,u1),some<|.box 25 (J5 p2))]⟩) 0 () _ hz1 (F2 W W) ?_
 intro x1 g2 z2 hz2 ez2
 unfold Ho at hz2
 refine A5<|B0<|sv W<|sq W<|sl W (gq W) W (sd W (D7 W)<|sv W<|A1<|cc W hz2 (fun c5 hz2=> ?_)<|fun c5 hz2=> ?_)
 refine A8<|A5<|A7<|B0<|sd W (B1 W G_hit W W)<|sd W (B1 W (gq W) W W)<|sv W<|bs hz2 fun _ hv2 hz2=>A9 W W A3 (AM _ _ _ _ hv2) (.inl W) (sv W<|A1<|B0<|sv W<|sv W<|A1<|cc W hz2 (fun c6 hz2=> ?_)<|fun c6 hz2=> ?_)
 refine B0<|sv W<|sv W<|A1<|B2 ?_
 cases hz2
 obtain rfl:=ez2 _ rfl
 refine ⟨nofun,F4 ?_⟩
 rw [wE]at h
 cases h
 exact A6 (.inr W) (B6 (B3 W) C2) (.refl _)
 refine A8<|E3<|B7<|sv W<|sv W<|sv W<|A1<|E2 ?_
 cases hz2
 exact ⟨W,(),(F2 W W)⟩
 refine C8 W ?_
 cases hz2
 obtain rfl:=ez2 _ rfl
 refine ⟨nofun,C6 W<|U4 ?_⟩
 exact ⟨_,(),W,(F2 W W)⟩
 rintro _ ⟨y1,g1,rfl,q1⟩
 rw [wD]at h
 refine B4 q1<|A5<|B0<|sv W<|A1<|js h fun z3 hz3 h=>D9 (fun s=> ∃(y2:Unit) (g3:Unit),z3= .inl y2∧Sb ⟨T [(3,(.ptr (3,u1) 0))],G [((3,u1),some<|.box 25 (J5 p2))]⟩ s) ?_ ?_
 refine A7<|E4 (Hm p1 p2) (fun (x2:Int) (g4:Unit)=>⟨T [(2,(.ptr (2,u1) 0)),(3,(.ptr (3,u1) 0)),(7,(di x2))],G [((2,u1),some<|.box 33 (L4 p1)),((3,u1),some<|.box 25 (J5 p2))]⟩) 0 () _ hz3 (F2 W W) ?_
 intro x2 g4 z4 hz4 ez4
 unfold Hm at hz4
 refine A5<|B0<|sv W<|sq W<|sl W (gq W) W (sd W (D7 W)<|sv W<|A1<|cc W hz4 (fun c7 hz4=> ?_)<|fun c7 hz4=> ?_)
 refine A8<|A5<|A7<|B0<|sq W<|sl W (gq W) W (sv W<|bs hz4 fun v3 hv3 hz4=>sd W (C5 W W hv3 W)<|sd W (D4 W hv3 W W)<|sm W<|U0 W G_hit (Wx v3) W (A1<|A5<|B0<|sq W<|sl W G_hit W<|sv W<|sv W<|gp W (K6 W) (fun _=>W) (gf W (vl W G_hit W)<|gp W (K6 W) (fun _=>W) (gf W (vl W (gq W) W)<|gf W (fun w8=>(D7<|A2 w8))<|gf W (fun w9=>(M7 (A2 w9) (A2 w9) W))<|sd W (O2 W W<|fun hc=>A2<|J4 hc)<|sv W<|gp W (K6 W) (fun _=>W) (gf W (vl W G_hit W)<|gf W (vb W W W)<|sd W (O2 W W<|fun hc=>A2<|J4 hc)<|sv W<|gp W (K6 W) (fun _=>W) (gf W (vl W G_hit W)<|gp W (K6 W) (fun _=>W) (gf W (vl W (gq W) W)<|gf W (fun w17=>(D7<|A2 w17))<|gf W (fun w18=>(M7 (A2 w18) (A2 w18) W))<|sd W (O2 W W<|fun hc=>A2<|J4 hc)<|A1<|cc W hz4 (fun c8 hz4=> ?_)<|fun c8 hz4=> ?_)))))))
 refine B0<|sv W<|A1<|B2 ?_
 cases hz4
 obtain rfl:=ez4 _ rfl
 refine ⟨nofun,F4 ?_⟩
 rw [wE]at h
 cases h
 exact A6 (.inr W) (B6 (B3 W) C2) (.refl _)
 refine A8<|A5<|E7 W<|sv W<|sv W<|sv W<|gp W (M3 W) (fun _=>W) (gt W (vl W G_hit W)<|gp W (M3 W) (fun _=>W) (gt W (vl W (gq W) W)<|gt W (fun _=>W)<|gt W (vb W W W)<|bs hz4 fun _ hv4 hz4=>gt W (fun w25=>(C5 (A2 w25) (A2 w25) (B9 w25 hv4) W)) ?_))
 refine gt W (fun w26=>(by simp only [A2 w26];rfl)) ?_
 refine gt W (fun w27=>(C9 (A2 w27) (B9 w27 hv4) W))<|gt W (fun w28=>(M7 (A2 w28) (A2 w28) W))<|gt W (fun w29=>(PQ<|A2 w29))<|M8 _ (.ptr _ _) W (Hz W) (fun _=>W) (gv W (Hz W) (vl W G_hit W) (M8 _ (.ptr _ _) W (Hz W) (fun _=>W) (gv W (Hz W) (vl W (gq W) W) (gv W (Hz W) (fun _=>W) (gv W (Hz W) (vb W W W) (bs hz4 fun _ hv5 hz4=>gv W (Hz W) (fun w36=>(C5 (A2 w36) (A2 w36) (B9 w36 hv5) W)) ?_))))))
 refine gv W (Hz W) (fun w37=>(by simp only [A2 w37];rfl)) ?_
 refine gv W (Hz W) (fun w38=>(C9 (A2 w38) (B9 w38 hv5) W)) (gv W (Hz W) (fun w39=>(M7 (A2 w39) (A2 w39) W)) (gv W (Hz W) (fun w40=>(PQ<|A2 w40)) (M8 _ (.ptr _ _) W (V2 W) (fun _=>W) (gv W (V2 W) (vl W G_hit W) (M8 _ (.ptr _ _) W (V2 W) (fun _=>W) (gv W (V2 W) (vl W (gq W) W) (gv W (V2 W) (fun _=>W) (gv W (V2 W) (vb W W W) (bs hz4 fun _ hv6 hz4=>gv W (V2 W) (fun w47=>(C5 (A2 w47) (A2 w47) (B9 w47 hv6) W)) ?_)))))))))
 refine gv W (V2 W) (fun w48=>(by simp only [A2 w48];rfl)) ?_
 refine gv W (V2 W) (fun w49=>(C9 (A2 w49) (B9 w49 hv6) W)) (gv W (V2 W) (fun w50=>(M7 (A2 w50) (A2 w50) W)) (gv W (Hz W) (fun w51=>(HF (A2 w51) (fun hc=>A2<|DY w51 hc) W)) (gt W (fun w52=>(O2 (A2 w52) W (fun hc=>A2<|DY w52<|J4 hc)))<|sa W W W<|A1<|cc W hz4 (fun c9 hz4=> ?_)<|fun c9 hz4=> ?_)))
 refine B0<|sv W<|A1<|B2 ?_
 cases hz4
 obtain rfl:=ez4 _ rfl
 refine ⟨nofun,F4 ?_⟩
 rw [wE]at h
 cases h
 exact A6 (.inr W) (B6 (B3 W) C2) (.refl _)
 refine A8<|E3<|B7<|sv W<|sv W<|sv W<|A1<|E2 ?_
 cases hz4
 exact ⟨W,(),(F2 W W)⟩
 refine C8 W ?_
 cases hz4
 obtain rfl:=ez4 _ rfl
 refine ⟨nofun,C6 W<|U4 ?_⟩
 exact ⟨_,(),W,(F2 W W)⟩
 rintro _ ⟨y2,g3,rfl,q2⟩
 rw [wD]at h
 refine B4 q2<|A5<|B0<|sv W<|A1<|js h fun z5 hz5 h=>D9 (fun s=> ∃(y3:Unit) (g5:Unit),z5= .inl y3∧Sb ⟨T [],G []⟩ s) ?_ ?_
 refine A7<|E4 (Hl p2) (fun (x3:Int) (g6:Unit)=>⟨T [(3,(.ptr (3,u1) 0)),(9,(di x3))],G [((3,u1),some<|.box 25 (J5 p2))]⟩) 0 () _ hz5 (F2 W W) ?_
 intro x3 g6 z6 hz6 ez6
 unfold Hl at hz6
 refine A5<|B0<|sv W<|sq W<|sl W G_hit W<|sd W (D7 W)<|sv W<|A1<|cc W hz6 (fun c10 hz6=> ?_)<|fun c10 hz6=> ?_
 refine A8<|A5<|A7<|B0<|sq W<|sl W G_hit W<|sv W<|bs hz6 fun v7 hv7 hz6=>sd W (C5 W W hv7 W)<|sd W (D4 W hv7 W W)<|sm W<|U0 W G_hit (Wx v7) W (A1<|B0<|sq W<|sl W G_hit W<|sv W<|sv W<|gp W (K6 W) (fun _=>W) (gf W (vl W G_hit W)<|gp W (K6 W) (fun _=>W) (gf W (vl W (gq W) W)<|gf W (fun w57=>(M7 (A2 w57) (A2 w57) W))<|sd W (O2 W W<|fun hc=>A2<|J4 hc)<|sv W<|gp W (K6 W) (fun _=>W) (gf W (vl W G_hit W)<|gf W (vb W W W)<|sd W (O2 W W<|fun hc=>A2<|J4 hc)<|sv W<|gp W (K6 W) (fun _=>W) (gf W (vl W G_hit W)<|gf W (vb W W W)<|sd W (O2 W W<|fun hc=>A2<|J4 hc)<|A1<|cc W hz6 (fun c11 hz6=> ?_)<|fun c11 hz6=> ?_)))))
 refine B0<|sv W<|A1<|B2 ?_
 cases hz6
 obtain rfl:=ez6 _ rfl
 refine ⟨nofun,F4 ?_⟩
 rw [wE]at h
 cases h
 exact A6 (.inr W) (B6 (B3 W) C2) (.refl _)
 refine A8<|E3<|B7<|sv W<|sv W<|sv W<|A1<|E2 ?_
 cases hz6
 exact ⟨W,(),(F2 W W)⟩
 refine C8 W ?_
 cases hz6
 obtain rfl:=ez6 _ rfl
 refine ⟨nofun,C6 W<|U4 ?_⟩
 exact ⟨_,(),W,(F2 W W)⟩
 rintro _ ⟨y3,g5,rfl,q3⟩
 rw [wD]at h
 refine B4 q3<|B0<|sv W<|A1<|B2 ?_
 cases h
 exact A6 (.inr W) (B6 (B3 W) C2) (.refl _)
def Fs (p1:State)(p2:Int):Option Bool:=
  ((cond ((decide (p2≥0))&& (decide (p2< (p1.Agents.length:Int)))) (C1 p1.Agents p2) (some default))).bind fun v1=>((cond (((decide (p2≥0))&& (decide (p2< (p1.Agents.length:Int))))&& (decide (v1.Begin≤p1.Tick))) (C1 p1.Agents p2) (some default))).bind fun v2=>some ((((decide (p2≥0))&& (decide (p2< (p1.Agents.length:Int))))&& (decide (v1.Begin≤p1.Tick)))&& (!v2.Gone))
theorem Og(p1 p2 r)(h:Fs p1 p2=some r):PCall prog 39 [(.agg (Bc p1)),(i64 p2)] (bo r):=by
 refine C4 (fk func39 ntmps39 m0 (by with_unfolding_all rfl)) (nl W) ?_
 unfold Fs at h
 refine B4 (s0:=⟨T [(0,(.d _)),(1,(.d _))],G []⟩) (F2 W W) ?_
 refine B0<|sm W<|sv W<|A1<|A5<|E7 W<|sv W<|sv W<|sv W<|gt W (fun _=>W)<|gp W (M3 W) (fun _=>W) (gt W (vl W G_hit W)<|gt W (fun w4=>(D7<|A2 w4))<|gt W (fun w5=>(M7 (A2 w5) (A2 w5) W))<|sa W W W<|sv W<|gp W (M3 W) (fun _=>W) (gt W (vl W G_hit W)<|gt W (fun _=>W)<|bs h fun _ hv1 h=>gt W (fun w9=>(C5 (A2 w9) (A2 w9) (B9 w9 hv1) W)) ?_))
 refine gt W (fun w10=>(by simp only [A2 w10];rfl)) ?_
 refine gt W (fun w11=>(C9 (A2 w11) (B9 w11 hv1) W))<|gp W (M3 W) (fun _=>W) (gt W (vl W G_hit W)<|gt W (fun w14=>(M7 (A2 w14) (A2 w14) W))<|sa W W W<|sv W<|gp W (M3 W) (fun _=>W) (gt W (vl W G_hit W)<|gt W (fun _=>W)<|bs h fun v2 hv2 h=>gt W (fun w18=>(C5 (A2 w18) (A2 w18) (B9 w18 hv2) W)) ?_))
 refine gt W (fun w19=>(by simp only [A2 w19];rfl)) ?_
 refine gt W (fun w20=>(C9 (A2 w20) (B9 w20 hv2) W)) ?_
 refine M8 _ (.d (bo (!v2.Gone))) W (M3 W) (fun w21=>(by simp only [A2 w21];rfl)) ?_
 refine sa W W W<|sv W<|A1<|B2 ?_
 cases h
 exact A6 (.inr W) (B6 (B3 W) C2) (.refl _)
def Mt (p1:Agent):Option Bool:=
  some ((((decide (p1.S≥0))&& (decide (p1.S≤1099511627776)))&& (decide (p1.Len≥0)))&& (decide (p1.Len≤1099511627776)))
theorem Uj(p1 r)(h:Mt p1=some r):PCall prog 133 [(.agg (D0 p1))] (bo r):=by
 refine C4 (fk func133 ntmps133 m0 (by with_unfolding_all rfl)) (nl W) ?_
 unfold Mt at h
 refine B4 (s0:=⟨T [(0,(.d _))],G []⟩) (F2 W W) ?_
 refine B0<|sm W<|sv W<|A1<|B0<|sq W<|sl W G_hit W<|sv W<|sv W<|gp W (M3 W) (fun _=>W) (gt W (vl W G_hit W)<|gt W (vb W W W)<|sa W W W<|sv W<|gp W (M3 W) (fun _=>W) (gt W (vl W G_hit W)<|gt W (vb W W W)<|sa W W W<|sv W<|gp W (M3 W) (fun _=>W) (gt W (vl W G_hit W)<|gt W (vb W W W)<|sa W W W<|sv W<|A1<|B2 ?_)))
 cases h
 exact A6 (.inr W) (B6 (B3 W) C2) (.refl _)
def U9 (x5:((List Pass)×Int)):Option (Stp ((List Pass)×Int) (List Pass)):=
  ((cond (decide (x5.2>0)) (C1 x5.1 x5.2) (some default))).bind fun v9=>((cond (decide (x5.2>0)) (C1 x5.1 (D3 (x5.2 - 1))) (some default))).bind fun v10=>((cond ((decide (x5.2>0))&& (!(decide (v9.From<v10.From)))) (C1 x5.1 x5.2) (some default))).bind fun v11=>((cond ((decide (x5.2>0))&& (!(decide (v9.From<v10.From)))) (C1 x5.1 (D3 (x5.2 - 1))) (some default))).bind fun v12=>((cond (((decide (x5.2>0))&& (!(decide (v9.From<v10.From))))&& (v11.From==v12.From)) (C1 x5.1 x5.2) (some default))).bind fun v13=>((cond (((decide (x5.2>0))&& (!(decide (v9.From<v10.From))))&& (v11.From==v12.From)) (C1 x5.1 (D3 (x5.2 - 1))) (some default))).bind fun v14=>cond ((decide (x5.2>0))&& ((decide (v9.From<v10.From))||((v11.From==v12.From)&& (decide (v13.Zone_<v14.Zone_))))) ((C1 x5.1 (D3 (x5.2 - 1))).bind fun v15=>(C1 x5.1 x5.2).bind fun v16=>(C1 x5.1 x5.2).bind fun v17=>(C1 (Lx x5.1 x5.2 v15) (D3 (x5.2 - 1))).bind fun v18=>some (.go ((Lx (Lx x5.1 x5.2 v15) (D3 (x5.2 - 1)) v16),(D3 (x5.2 - 1))))) (some (.out x5.1))
def Ay [Lp](x4:((List Pass)×Int)):Option (Stp ((List Pass)×Int) (List Pass)):=
  cond (decide (x4.2< (x4.1.length:Int))) ((loop (U9) (x4.1,x4.2)).bind fun y5=>some (.go (y5,(D3 (x4.2+1))))) (some (.out x4.1))
def Az (p1:Map)(p2:(List Int))(v1:(List Int))(x1:((List Pass)×Int))(x2:((List Pass)×Int))(x3:((List Pass)×Int)):Option (Stp ((List Pass)×Int) (List Pass)):=
  (C1 p1.Zones x2.2).bind fun v2=>cond (decide (x3.2< (v2.Parts.length:Int))) ((C1 p1.Zones x2.2).bind fun v3=>(C1 v3.Parts x3.2).bind fun v4=>(C1 p2 x1.2).bind fun v5=>cond (v4.Lane_==v5) ((C1 v1 x1.2).bind fun v6=>(C1 v1 x1.2).bind fun v7=>(X6 x3.1 [(Pass.mk x2.2 x3.2 (D3 (v6+v4.From)) (D3 (v7+v4.To)))]).bind fun v8=>some (.go (v8,(D3 (x3.2+1))))) (some (.go (x3.1,(D3 (x3.2+1)))))) (some (.out x3.1))
def Ba [Lp](p1:Map)(p2:(List Int))(v1:(List Int))(x1:((List Pass)×Int))(x2:((List Pass)×Int)):Option (Stp ((List Pass)×Int) (List Pass)):=
  cond (decide (x2.2< (p1.Zones.length:Int))) ((loop (Az p1 p2 v1 x1 x2) (x2.1,0)).bind fun y3=>some (.go (y3,(D3 (x2.2+1))))) (some (.out x2.1))
def Y9 [Lp](p1:Map)(p2:(List Int))(v1:(List Int))(x1:((List Pass)×Int)):Option (Stp ((List Pass)×Int) (List Pass)):=
  cond (decide (x1.2< (v1.length:Int))) ((loop (Ba p1 p2 v1 x1) (x1.1,0)).bind fun y2=>some (.go (y2,(D3 (x1.2+1))))) (some (.out x1.1))
def Ft [Lp](p1:Map)(p2:(List Int)):Option (List Pass):=
  (Fr p1 p2).bind fun v1=>(loop (Y9 p1 p2 v1) ([],0)).bind fun y1=>(loop (Ay) (y1,1)).bind fun y4=>some y4
theorem ID(p1 p2 r)(h:Ft p1 p2=some r):PCall prog 176 [(.agg (P7 p1)),(.list (List.map A4 p2))] (.list (List.map Q6 r)):=by
 refine C4 (fk func176 ntmps176 (fun r=>if r==14 then [1018]else []) (by with_unfolding_all rfl)) (nl W) ?_
 unfold Ft at h
 refine B4 (s0:=⟨T [(0,(.d _)),(1,(.d _))],G []⟩) (F2 W W) ?_
 refine lr<|fun u1 _=>sm W<|sv W<|A1<|B0<|sv W<|A1<|B0<|sd W (B1 W G_hit W W)<|sv W<|bs h fun v1 hv1 h=>A9 W W A3 (Mm _ _ _ hv1) (.inl W) (sv W<|A1<|A5<|B0<|sv W<|A1<|bs h fun y1 hy1 h=>D9 (fun s=> ∃g1:Nat,Sb ⟨T [(5,(oS y1 (75,g1)))],G [((75,g1),oB 229 4 Q6 y1)]⟩ s) ?_ ?_)
 refine A7<|E4 (Y9 p1 p2 v1) (fun (x1:((List Pass)×Int)) (g2:Nat)=>⟨T [(1,(dl A4 p2)),(2,(.ptr (2,u1) 0)),(5,(oS x1.1 (75,g2))),(6,(dl A4 v1)),(7,(di x1.2))],G [((2,u1),some<|.box 33 (L4 p1)),((75,g2),oB 229 4 Q6 x1.1)]⟩) ([],0) 0 _ hy1 (E0 (Z7 W)<|B5 G_hit (.of W)<|S5 trivial) ?_
 intro x1 g2 z1 hz1 ez1
 unfold Y9 at hz1
 refine A5<|B0<|sv W<|sv W<|sd W (D7 W)<|sv W<|A1<|cc W hz1 (fun c1 hz1=> ?_)<|fun c1 hz1=> ?_
 refine A8<|A5<|A7<|B0<|sv W<|A1<|bs hz1 fun y2 hy2 hz1=>D9 (fun s=> ∃g3:Nat,Sb ⟨T [(1,(dl A4 p2)),(2,(.ptr (2,u1) 0)),(5,(oS y2 (75,g3))),(6,(dl A4 v1)),(7,(di x1.2))],G [((2,u1),some<|.box 33 (L4 p1)),((75,g3),oB 229 4 Q6 y2)]⟩ s) ?_ ?_
 refine A7<|E4 (Ba p1 p2 v1 x1) (fun (x2:((List Pass)×Int)) (g4:Nat)=>⟨T [(1,(dl A4 p2)),(2,(.ptr (2,u1) 0)),(5,(oS x2.1 (75,g4))),(6,(dl A4 v1)),(7,(di x1.2)),(8,(di x2.2))],G [((2,u1),some<|.box 33 (L4 p1)),((75,g4),oB 229 4 Q6 x2.1)]⟩) (x1.1,0) g2 _ hy2 (E0 (Z7 W)<|B5 G_hit (.of W)<|B8 (gq W) trivial) ?_
 intro x2 g4 z2 hz2 ez2
 unfold Ba at hz2
 refine A5<|B0<|sv W<|sq W<|sl W G_hit W<|sd W (D7 W)<|sv W<|A1<|cc W hz2 (fun c2 hz2=> ?_)<|fun c2 hz2=> ?_
 refine A8<|A5<|A7<|B0<|sv W<|A1<|bs hz2 fun y3 hy3 hz2=>D9 (fun s=> ∃g5:Nat,Sb ⟨T [(1,(dl A4 p2)),(2,(.ptr (2,u1) 0)),(5,(oS y3 (75,g5))),(6,(dl A4 v1)),(7,(di x1.2)),(8,(di x2.2))],G [((2,u1),some<|.box 33 (L4 p1)),((75,g5),oB 229 4 Q6 y3)]⟩ s) ?_ ?_
 refine A7<|E4 (Az p1 p2 v1 x1 x2) (fun (x3:((List Pass)×Int)) (g6:Nat)=>⟨T [(1,(dl A4 p2)),(2,(.ptr (2,u1) 0)),(5,(oS x3.1 (75,g6))),(6,(dl A4 v1)),(7,(di x1.2)),(8,(di x2.2)),(9,(di x3.2))],G [((2,u1),some<|.box 33 (L4 p1)),((75,g6),oB 229 4 Q6 x3.1)]⟩) (x2.1,0) g4 _ hy3 (E0 (Z7 W)<|B5 G_hit (.of W)<|B8 (gq W) trivial) ?_
 intro x3 g6 z3 hz3 ez3
 unfold Az at hz3
 refine A5<|B0<|sv W<|sq W<|sl W G_hit W<|sv W<|bs hz3 fun _ hv2 hz3=>sd W (C5 W W hv2 W)<|sv W<|sd W (C9 W hv2 W)<|sd W (D7 W)<|sv W<|A1<|cc W hz3 (fun c3 hz3=> ?_)<|fun c3 hz3=> ?_
 refine A8<|A5<|A7<|B0<|sq W<|sl W G_hit W<|sv W<|bs hz3 fun _ hv3 hz3=>sd W (C5 W W hv3 W)<|sv W<|sd W (C9 W hv3 W)<|sv W<|bs hz3 fun v4 hv4 hz3=>sd W (C5 W W hv4 W)<|sd W (D4 W hv4 W W)<|sm W<|U0 W G_hit (Tn v4) W (A1<|A5<|E7 W<|sq W<|sl W G_hit W<|sv W<|sv W<|bs hz3 fun _ hv5 hz3=>sd W (C5 W W hv5 W)<|sd W (C9 W hv5 W)<|sv W<|A1<|cc W hz3 (fun c4 hz3=> ?_)<|fun c4 hz3=> ?_)
 refine Nr W fun u12 _=>C0 (oS x3.1 (75,g6)) W W (sv W<|sv W<|sv W<|sv W<|bs hz3 fun v6 hv6 hz3=>sd W (C5 W W hv6 W)<|sd W (C9 W hv6 W)<|sq W<|sl W G_hit W<|sv W<|sv W<|sv W<|bs hz3 fun v7 hv7 hz3=>sd W (C5 W W hv7 W)<|sd W (C9 W hv7 W)<|sq W<|sl W G_hit W<|sv W<|sv W<|C0 (dl Q6 [(Pass.mk x2.2 x3.2 (D3 (v6+v4.From))<|D3 (v7+v4.To))]) W W (bs hz3 fun _ hv8 hz3=>Q3 Q6 (75,g6) x3.1 (Pass.mk x2.2 x3.2 (D3 (v6+v4.From))<|D3 (v7+v4.To)) [] _ (K7<|fun _=>W) W (gq W) hv8 (ss W<|A1<|E3<|B7<|sv W<|sv W<|sv W<|A1<|E2 ?_)))
 cases hz3
 exact ⟨W,u12,(E0 ⟨.of W, .of W,(.of (V1<|V4 hv8).symm), .of W, .of W, .of W, .of W,trivial⟩<|sg W<|N8 G_hit trivial)⟩
 refine A8<|E3<|B7<|sv W<|sv W<|sv W<|A1<|E2 ?_
 cases hz3
 exact ⟨W,g6,(E0 (Z7 W)<|sg W<|B8 (gq W) trivial)⟩
 refine C8 W ?_
 cases hz3
 obtain rfl:=ez3 _ rfl
 refine ⟨nofun,C6 W<|U4 ?_⟩
 exact ⟨g6,(E0 (Z7 W)<|B5 G_hit (.of W)<|B8 (gq W) trivial)⟩
 rintro _ ⟨g5,q1⟩
 refine E3<|B4 q1<|B7<|sv W<|sv W<|sv W<|A1<|E2 ?_
 cases hz2
 exact ⟨W,g5,(E0 (Z7 W)<|B5 G_hit (.of W)<|B8 (gq W) trivial)⟩
 refine C8 W ?_
 cases hz2
 obtain rfl:=ez2 _ rfl
 refine ⟨nofun,C6 W<|U4 ?_⟩
 exact ⟨g4,(E0 (Z7 W)<|B5 G_hit (.of W)<|B8 (gq W) trivial)⟩
 rintro _ ⟨g3,q2⟩
 refine E3<|B4 q2<|B7<|sv W<|sv W<|sv W<|A1<|E2 ?_
 cases hz1
 exact ⟨W,g3,(E0 (Z7 W)<|B5 G_hit (.of W)<|B8 (gq W) trivial)⟩
 refine C8 W ?_
 cases hz1
 obtain rfl:=ez1 _ rfl
 refine ⟨nofun,C6 W<|U4 ?_⟩
 exact ⟨g2,(E0 ⟨.of W,trivial⟩<|B8 (gq W) trivial)⟩
 rintro _ ⟨g1,q3⟩
 refine B4 q3<|A5<|B0<|sv W<|A1<|bs h fun y4 hy4 h=>D9 (fun s=> ∃g7:Nat,Sb ⟨T [(5,(oS y4 (75,g7)))],G [((75,g7),oB 229 4 Q6 y4)]⟩ s) ?_ ?_
 refine A7<|E4 (Ay) (fun (x4:((List Pass)×Int)) (g8:Nat)=>⟨T [(5,(oS x4.1 (75,g8))),(11,(di x4.2))],G [((75,g8),oB 229 4 Q6 x4.1)]⟩) (y1,1) g1 _ hy4 (E0 (Z7 W)<|B8 G_hit trivial) ?_
 intro x4 g8 z4 hz4 ez4
 unfold Ay at hz4
 refine A5<|B0<|sv W<|C0 (oS x4.1 (75,g8)) W W (sd W (fC (f:=Q6) W G_hit)<|sv W<|A1<|cc W hz4 (fun c5 hz4=> ?_)<|fun c5 hz4=> ?_)
 refine A8<|A5<|A7<|B0<|sv W<|sv W<|A1<|bs hz4 fun y5 hy5 hz4=>D9 (fun s=> ∃g9:Nat,Sb ⟨T [(5,(oS y5 (75,g9))),(11,(di x4.2))],G [((75,g9),oB 229 4 Q6 y5)]⟩ s) ?_ ?_
 refine A7<|E4 (U9) (fun (x5:((List Pass)×Int)) (g10:Nat)=>⟨T [(5,(oS x5.1 (75,g10))),(11,(di x4.2)),(12,(di x5.2))],G [((75,g10),oB 229 4 Q6 x5.1)]⟩) (x4.1,x4.2) g8 _ hy5 (E0 (Z7 W)<|B8 G_hit trivial) ?_
 intro x5 g10 z5 hz5 ez5
 unfold U9 at hz5
 refine A5<|A5<|E7 W<|sv W<|sv W<|sv W<|M8 _ (oS x5.1 (75,g10)) W (M3 W) (fun _=>W) (gt W (fun _=>W)<|bs hz5 fun _ hv9 hz5=>M8 _ (.aptr _ _ _ _) W (M3 W) (fun w3=>(Qr (A2 w3) (A2 w3) G_hit (B9 w3 hv9))) ?_)
 refine M8 _ (.aptr _ _ _ _) W (M3 W) (fun w4=>(by simp only [A2 w4];rfl)) ?_
 refine gt W (fun w5=>(Ps (A2 w5) (Ii G_hit<|Ek<|B9 w5 hv9) (B9 w5 hv9) W))<|M8 _ (oS x5.1 (75,g10)) W (M3 W) (fun _=>W) (gt W (fun _=>W)<|gt W (vb W W W)<|bs hz5 fun _ hv10 hz5=>M8 _ (.aptr _ _ _ _) W (M3 W) (fun w9=>(Qr (A2 w9) (A2 w9) G_hit (B9 w9 hv10))) ?_)
 refine M8 _ (.aptr _ _ _ _) W (M3 W) (fun w10=>(by simp only [A2 w10];rfl)) ?_
 refine gt W (fun w11=>(Ps (A2 w11) (Ii G_hit<|Ek<|B9 w11 hv10) (B9 w11 hv10) W))<|gt W (fun w12=>(M7 (A2 w12) (A2 w12) W))<|gt W (fun w13=>(PQ<|A2 w13))<|M8 _ (oS x5.1 (75,g10)) W (Hz W) (fun _=>W) (gv W (Hz W) (fun _=>W) (bs hz5 fun _ hv11 hz5=>M8 _ (.aptr _ _ _ _) W (Hz W) (fun w16=>(Qr (A2 w16) (A2 w16) G_hit (B9 w16 hv11))) ?_))
 refine M8 _ (.aptr _ _ _ _) W (Hz W) (fun w17=>(by simp only [A2 w17];rfl)) ?_
 refine gv W (Hz W) (fun w18=>(Ps (A2 w18) (Ii G_hit<|Ek<|B9 w18 hv11) (B9 w18 hv11) W)) (M8 _ (oS x5.1 (75,g10)) W (Hz W) (fun _=>W) (gv W (Hz W) (fun _=>W) (gv W (Hz W) (vb W W W) (bs hz5 fun _ hv12 hz5=>M8 _ (.aptr _ _ _ _) W (Hz W) (fun w22=>(Qr (A2 w22) (A2 w22) G_hit (B9 w22 hv12))) ?_))))
 refine M8 _ (.aptr _ _ _ _) W (Hz W) (fun w23=>(by simp only [A2 w23];rfl)) ?_
 refine gv W (Hz W) (fun w24=>(Ps (A2 w24) (Ii G_hit<|Ek<|B9 w24 hv12) (B9 w24 hv12) W)) (gv W (Hz W) (fun w25=>(M7 (A2 w25) (A2 w25) W)) (gv W (Hz W) (fun w26=>(PQ<|A2 w26)) (M8 _ (oS x5.1 (75,g10)) W (V2 W) (fun _=>W) (gv W (V2 W) (fun _=>W) (bs hz5 fun _ hv13 hz5=>M8 _ (.aptr _ _ _ _) W (V2 W) (fun w29=>(Qr (A2 w29) (A2 w29) G_hit (B9 w29 hv13))) ?_)))))
 refine M8 _ (.aptr _ _ _ _) W (V2 W) (fun w30=>(by simp only [A2 w30];rfl)) ?_
 refine gv W (V2 W) (fun w31=>(Ps (A2 w31) (Ii G_hit<|Ek<|B9 w31 hv13) (B9 w31 hv13) W)) (M8 _ (oS x5.1 (75,g10)) W (V2 W) (fun _=>W) (gv W (V2 W) (fun _=>W) (gv W (V2 W) (vb W W W) (bs hz5 fun _ hv14 hz5=>M8 _ (.aptr _ _ _ _) W (V2 W) (fun w35=>(Qr (A2 w35) (A2 w35) G_hit (B9 w35 hv14))) ?_))))
 refine M8 _ (.aptr _ _ _ _) W (V2 W) (fun w36=>(by simp only [A2 w36];rfl)) ?_
 refine gv W (V2 W) (fun w37=>(Ps (A2 w37) (Ii G_hit<|Ek<|B9 w37 hv14) (B9 w37 hv14) W)) (gv W (V2 W) (fun w38=>(M7 (A2 w38) (A2 w38) W)) (gv W (Hz W) (fun w39=>(HF (A2 w39) (fun hc=>A2<|DY w39 hc) W)) (gt W (fun w40=>(O2 (A2 w40) W (fun hc=>A2<|DY w40<|J4 hc)))<|sa W W W<|A1<|cc W hz5 (fun c6 hz5=> ?_)<|fun c6 hz5=> ?_)))
 refine A8<|A5<|A7<|E7 W<|C0 (oS x5.1 (75,g10)) W W (sv W<|C0 (oS x5.1 (75,g10)) W W (sv W<|sv W<|C0 (oS x5.1 (75,g10)) W W (sv W<|sv W<|bs hz5 fun v15 hv15 hz5=>C0 (.aptr _ _ _ _) W (Qr W W G_hit hv15) (sd W (Qe W (Ii G_hit<|Ek hv15) hv15 W W)<|C0 (oS x5.1 (75,g10)) W W (sv W<|bs hz5 fun v16 hv16 hz5=>C0 (.aptr _ _ _ _) W (Qr W W G_hit hv16) (sd W (Qe W (Ii G_hit<|Ek hv16) hv16 W W)<|bs hz5 fun _ hv17 hz5=>C0 (.aptr _ _ _ _) W (Qr W W G_hit hv17) ?_))))))
 rw [V1 (Ek hv17)]
 refine Qd Q6 _ _ _ (x5.2) _ v15 (Q6 v15) W W W (Ii G_hit<|Ek hv17) hv17 (nl W) W (bs hz5 fun _ hv18 hz5=>C0 (.aptr _ _ _ _) W (Kg W W G_hit hv18) (Qd Q6 _ _ _ ((D3 (x5.2 - 1))) _ v16 (Q6 v16) W W W G_hit hv18 (nl W) W (A1<|E3<|B7<|sv W<|sv W<|sv W<|A1<|E2 ?_)))
 cases hz5
 exact ⟨W,g10,(E0 ⟨(.of (V1<|Zw<|Zw<|Ek hv17).symm), .of W, .of W,trivial⟩<|N8 G_hit trivial)⟩
 refine C8 W ?_
 cases hz5
 obtain rfl:=ez5 _ rfl
 refine ⟨nofun,C6 W<|U4 ?_⟩
 exact ⟨g10,(E0 (Z7 W)<|B8 G_hit trivial)⟩
 rintro _ ⟨g9,q4⟩
 refine E3<|B4 q4<|B7<|sv W<|sv W<|sv W<|A1<|E2 ?_
 cases hz4
 exact ⟨W,g9,(E0 (Z7 W)<|B8 G_hit trivial)⟩
 refine C8 W ?_
 cases hz4
 obtain rfl:=ez4 _ rfl
 refine ⟨nofun,C6 W<|U4 ?_⟩
 exact ⟨g8,(E0 ⟨.of W,trivial⟩<|B8 G_hit trivial)⟩
 rintro _ ⟨g7,q5⟩
 refine B4 q5<|B0<|C0 (oS y4 (75,g7)) W W (C0 (oS y4 (75,g7)) W W (A1<|B2 ?_))
 cases h
 exact A6 (.inr W) (B6 (B3 W)<|T9 G_hit) T8
def Dw (p2:Agent)(p3:Agent)(p4:Int)(v3:(List Pass))(x1:Int):Option (Stp Int (Sum Unit Bool)):=
  cond (decide (x1< (v3.length:Int))) ((C1 v3 x1).bind fun v4=>((cond (v4.Zone_==p4) (C1 v3 x1) (some default))).bind fun v5=>((cond ((v4.Zone_==p4)&& (decide ((D3 (p2.S - p2.Len))≤v5.To))) (C1 v3 x1) (some default))).bind fun v6=>cond (((v4.Zone_==p4)&& (decide ((D3 (p2.S - p2.Len))≤v5.To)))&& (decide (p3.S≥v6.From))) (some (.out (.inr true))) (some (.go (D3 (x1+1))))) (some (.out (.inl ())))
def Gm [Lp](p1:Map)(p2:Agent)(p3:Agent)(p4:Int):Option Bool:=
  (Mt p2).bind fun v1=>((cond (!(!v1)) (Mt p3) (some default))).bind fun v2=>cond ((!v1)||(!v2)) (some false) ((Ft p1 p2.Route).bind fun v3=>thenS (loop (Dw p2 p3 p4 v3) 0) (fun _=>some false) (fun r=>some r))
theorem Pj(p1 p2 p3 p4 r)(h:Gm p1 p2 p3 p4=some r):PCall prog 83 [(.agg (P7 p1)),(.agg (D0 p2)),(.agg (D0 p3)),(i64 p4)] (bo r):=by
 refine C4 (fk func83 ntmps83 m0 (by with_unfolding_all rfl)) (nl W) ?_
 unfold Gm at h
 refine B4 (s0:=⟨T [(0,(.d _)),(1,(.d _)),(2,(.d _)),(3,(.d _))],G []⟩) (F2 W W) ?_
 refine lr<|fun u1 _=>sm W<|sm W<|sn W W<|sv W<|A1<|A5<|B0<|sd W (B1 W (gq W) W W)<|bs h fun v1 hv1 h=>A9 W W A3 (Uj _ _ hv1) (.inl W) (C0 (.d (bo (!v1))) W W (sv W<|gf W (fun _=>(B1 W G_hit W W))<|bs h fun v2 hv2 h=> ?_))
 refine N6 _ (bo v2) (K6 W) (fun w2=>⟨_,[(.d (.agg (D0 p3)))],_,_,(by simp only [A2 w2];rfl),W,A3,Uj _ _<|B9 w2 hv2,(.inl W)⟩) ?_
 refine M8 _ (.d (bo (!v2))) W (K6 W) (fun w3=>(by simp only [A2 w3];rfl)) ?_
 refine sd W (O2 W W<|fun hc=>A2<|J4 hc)<|A1<|cc W h (fun c1 h=> ?_)<|fun c1 h=> ?_
 refine B0<|sv W<|A1<|B2 ?_
 cases h
 exact A6 (.inr W) (B6 (B3 W) C2) (.refl _)
 refine A8<|B0<|sd W (B1 W (gq W) W W)<|sq W<|sl W (gq W) W (bs h fun v3 hv3 h=>A9 W W A3 (ID _ _ _ hv3) (.inl W) (sv W<|A1<|A5<|B0<|sv W<|A1<|js h fun z1 hz1 h=>D9 (fun s=> ∃(y1:Unit) (g1:Unit),z1= .inl y1∧Sb ⟨T [],G []⟩ s) ?_ ?_))
 refine A7<|E4 (Dw p2 p3 p4 v3) (fun (x1:Int) (g2:Unit)=>⟨T [(3,(di p4)),(5,(.ptr (5,u1) 0)),(6,(.ptr (6,u1) 0)),(9,(dl Q6 v3)),(10,(di x1))],G [((5,u1),some<|.box 45 (T0 p2)),((6,u1),some<|.box 45 (T0 p3))]⟩) 0 () _ hz1 (F2 W W) ?_
 intro x1 g2 z2 hz2 ez2
 unfold Dw at hz2
 refine A5<|B0<|sv W<|sv W<|sd W (D7 W)<|sv W<|A1<|cc W hz2 (fun c2 hz2=> ?_)<|fun c2 hz2=> ?_
 refine A8<|A5<|A7<|A5<|E7 W<|sv W<|sv W<|bs hz2 fun _ hv4 hz2=>sd W (C5 W W hv4 W)<|sv W<|sd W (C9 W hv4 W)<|sv W<|sv W<|sv W<|gp W (M3 W) (fun _=>W) (gt W (vl W G_hit W)<|gp W (M3 W) (fun _=>W) (gt W (vl W G_hit W)<|gt W (fun w8=>(M7 (A2 w8) (A2 w8) W))<|gt W (fun _=>W)<|gt W (fun _=>W)<|bs hz2 fun _ hv5 hz2=>gt W (fun w11=>(C5 (A2 w11) (A2 w11) (B9 w11 hv5) W)) ?_))
 refine gt W (fun w12=>(by simp only [A2 w12];rfl)) ?_
 refine gt W (fun w13=>(C9 (A2 w13) (B9 w13 hv5) W))<|gt W (fun w14=>(M7 (A2 w14) (A2 w14) W))<|sa W W W<|sv W<|gp W (M3 W) (fun _=>W) (gt W (vl W (gq W) W)<|gt W (fun _=>W)<|gt W (fun _=>W)<|bs hz2 fun _ hv6 hz2=>gt W (fun w19=>(C5 (A2 w19) (A2 w19) (B9 w19 hv6) W)) ?_)
 refine gt W (fun w20=>(by simp only [A2 w20];rfl)) ?_
 refine gt W (fun w21=>(C9 (A2 w21) (B9 w21 hv6) W))<|gt W (fun w22=>(M7 (A2 w22) (A2 w22) W))<|sa W W W<|A1<|cc W hz2 (fun c3 hz2=> ?_)<|fun c3 hz2=> ?_
 refine B0<|sv W<|A1<|B2 ?_
 cases hz2
 obtain rfl:=ez2 _ rfl
 refine ⟨nofun,F4 ?_⟩
 rw [wE]at h
 cases h
 exact A6 (.inr W) (B6 (B3 W) C2) (.refl _)
 refine A8<|E3<|B7<|sv W<|sv W<|sv W<|A1<|E2 ?_
 cases hz2
 exact ⟨W,(),(F2 W W)⟩
 refine C8 W ?_
 cases hz2
 obtain rfl:=ez2 _ rfl
 refine ⟨nofun,C6 W<|U4 ?_⟩
 exact ⟨_,(),W,(F2 W W)⟩
 rintro _ ⟨y1,g1,rfl,q1⟩
 rw [wD]at h
 refine B4 q1<|B0<|sv W<|A1<|B2 ?_
 cases h
 exact A6 (.inr W) (B6 (B3 W) C2) (.refl _)
def Gn (p1:Zone)(p2:Int)(x1:Int):Option (Stp Int (Sum Unit (Part×Bool))):=
  cond (decide (x1< (p1.Parts.length:Int))) ((C1 p1.Parts x1).bind fun v1=>cond (v1.Lane_==p2) ((C1 p1.Parts x1).bind fun v2=>some (.out (.inr (v2,true)))) (some (.go (D3 (x1+1))))) (some (.out (.inl ())))
def Sr [Lp](p1:Zone)(p2:Int):Option (Part×Bool):=
  thenS (loop (Gn p1 p2) 0) (fun _=>some ((Part.mk 0 0 0 0),false)) (fun r=>some r)
theorem BH(p1 p2 r)(h:Sr p1 p2=some r):PCall prog 103 [(.agg [(.list (List.map Bf p1.Parts)),(i64 p1.Signal_)]),(i64 p2)] (.tup [(.agg (Bf r.1)),(bo r.2)]):=by
 refine C4 (fk func103 ntmps103 m0 (by with_unfolding_all rfl)) (nl W) ?_
 unfold Sr at h
 refine B4 (s0:=⟨T [(0,(.d _)),(1,(.d _))],G []⟩) (F2 W W) ?_
 refine lr<|fun u1 _=>sm W<|sm W<|sv W<|A1<|A5<|B0<|sv W<|A1<|js h fun z1 hz1 h=>D9 (fun s=> ∃(y1:Unit) (g1:Unit),z1= .inl y1∧Sb ⟨T [(4,(.ptr (4,u1) 0))],G [((4,u1),some<|.box 114 (zs 4))]⟩ s) ?_ ?_
 refine A7<|E4 (Gn p1 p2) (fun (x1:Int) (g2:Unit)=>⟨T [(1,(di p2)),(2,(.ptr (2,u1) 0)),(4,(.ptr (4,u1) 0)),(6,(di x1))],G [((2,u1),some<|.box 117 [(dl Bf p1.Parts),(di p1.Signal_)]),((4,u1),some<|.box 114 (zs 4))]⟩) 0 () _ hz1 (F2 W W) ?_
 intro x1 g2 z2 hz2 ez2
 unfold Gn at hz2
 refine A5<|B0<|sv W<|sq W<|sl W G_hit W<|sd W (D7 W)<|sv W<|A1<|cc W hz2 (fun c1 hz2=> ?_)<|fun c1 hz2=> ?_
 refine A8<|A5<|A7<|B0<|sq W<|sl W G_hit W<|sv W<|bs hz2 fun _ hv1 hz2=>sd W (C5 W W hv1 W)<|sv W<|sd W (C9 W hv1 W)<|sv W<|sv W<|A1<|cc W hz2 (fun c2 hz2=> ?_)<|fun c2 hz2=> ?_
 refine B0<|sq W<|sl W G_hit W<|sv W<|bs hz2 fun v2 hv2 hz2=>sd W (C5 W W hv2 W)<|sd W (D4 W hv2 W W)<|U0 W (gq W) (Tn v2) W (sv W<|A1<|B2 ?_)
 cases hz2
 obtain rfl:=ez2 _ rfl
 refine ⟨nofun,F4 ?_⟩
 rw [wE]at h
 cases h
 exact A6 (.inr W) (Na (K2 W G_hit (nl W) W) (B3 W) C2 C2) (.refl _)
 refine A8<|E3<|B7<|sv W<|sv W<|sv W<|A1<|E2 ?_
 cases hz2
 exact ⟨W,(),(F2 W W)⟩
 refine C8 W ?_
 cases hz2
 obtain rfl:=ez2 _ rfl
 refine ⟨nofun,C6 W<|U4 ?_⟩
 exact ⟨_,(),W,(F2 W W)⟩
 rintro _ ⟨y1,g1,rfl,q1⟩
 rw [wD]at h
 refine B4 q1<|B0<|sv W<|U0 W G_hit (zs 4) W (sv W<|A1<|B2 ?_)
 cases h
 exact A6 (.inr W) (Na (K2 W G_hit (nl W) W) (B3 W) C2 C2) (.refl _)
def Kr [Lp](p1:Map)(p2:(List Int))(p3:Int)(x1:Int):Option (Stp Int (Sum Unit Int)):=
  cond (decide (x1< (p2.length:Int))) ((C1 p1.Zones p3).bind fun v2=>(C1 p2 x1).bind fun v3=>(Sr v2 v3).bind fun v4=>cond v4.2 (some (.out (.inr x1))) (some (.go (D3 (x1+1))))) (some (.out (.inl ())))
def Ks [Lp](p1:Map)(p2:(List Int))(p3:Int):Option Int:=
  (Z4 p1 p2).bind fun v1=>cond (((v1 !=0)||(decide (p3<0)))||(decide (p3≥(p1.Zones.length:Int)))) (some (-1)) (thenS (loop (Kr p1 p2 p3) 0) (fun _=>some (-1)) (fun r=>some r))
theorem Ss(p1 p2 p3 r)(h:Ks p1 p2 p3=some r):PCall prog 44 [(.agg (P7 p1)),(.list (List.map A4 p2)),(i64 p3)] (i64 r):=by
 refine C4 (fk func44 ntmps44 m0 (by with_unfolding_all rfl)) (nl W) ?_
 unfold Ks at h
 refine B4 (s0:=⟨T [(0,(.d _)),(1,(.d _)),(2,(.d _))],G []⟩) (F2 W W) ?_
 refine lr<|fun u1 _=>sm W<|sv W<|A1<|A5<|B0<|sd W (B1 W G_hit W W)<|sv W<|bs h fun _ hv1 h=>A9 W W A3 (Ha _ _ _ hv1) (.inl W) (sv W<|sv W<|gf W (fun _=>W)<|gf W (vb W W W)<|sd W (O2 W W<|fun hc=>A2<|J4 hc)<|sv W<|gf W (fun _=>W)<|gp W (K6 W) (fun _=>W) (gf W (vl W G_hit W)<|gf W (fun w6=>(D7<|A2 w6))<|gf W (fun w7=>(M7 (A2 w7) (A2 w7) W))<|sd W (O2 W W<|fun hc=>A2<|J4 hc)<|A1<|cc W h (fun c1 h=> ?_)<|fun c1 h=> ?_))
 refine B0<|sv W<|A1<|B2 ?_
 cases h
 exact A6 (.inr W) (B6 (B3 W) C2) (.refl _)
 refine A8<|A5<|B0<|sv W<|A1<|js h fun z1 hz1 h=>D9 (fun s=> ∃(y1:Unit) (g1:Unit),z1= .inl y1∧Sb ⟨T [],G []⟩ s) ?_ ?_
 refine A7<|E4 (Kr p1 p2 p3) (fun (x1:Int) (g2:Unit)=>⟨T [(1,(dl A4 p2)),(2,(di p3)),(3,(.ptr (3,u1) 0)),(7,(di x1))],G [((3,u1),some<|.box 33 (L4 p1))]⟩) 0 () _ hz1 (F2 W W) ?_
 intro x1 g2 z2 hz2 ez2
 unfold Kr at hz2
 refine A5<|B0<|sv W<|sv W<|sd W (D7 W)<|sv W<|A1<|cc W hz2 (fun c2 hz2=> ?_)<|fun c2 hz2=> ?_
 refine A8<|A5<|A7<|A5<|E7 W<|sq W<|sl W G_hit W<|sv W<|bs hz2 fun _ hv2 hz2=>sd W (C5 W W hv2 W)<|sd W (D4 W hv2 W W)<|sv W<|sv W<|bs hz2 fun _ hv3 hz2=>sd W (C5 W W hv3 W)<|sd W (C9 W hv3 W)<|bs hz2 fun v4 hv4 hz2=>A9 W W A3 (BH _ _ _ hv4) (.inl W) (sv W<|sv W<|sv W<|sm W<|U0 W G_hit (Tn v4.1) W (sv W<|A1<|B0<|sv W<|A1<|cc W hz2 (fun c3 hz2=> ?_)<|fun c3 hz2=> ?_))
 refine B0<|sv W<|sv W<|A1<|B2 ?_
 cases hz2
 obtain rfl:=ez2 _ rfl
 refine ⟨nofun,F4 ?_⟩
 rw [wE]at h
 cases h
 exact A6 (.inr W) (B6 (B3 W) C2) (.refl _)
 refine A8<|E3<|B7<|sv W<|sv W<|sv W<|A1<|E2 ?_
 cases hz2
 exact ⟨W,(),(F2 W W)⟩
 refine C8 W ?_
 cases hz2
 obtain rfl:=ez2 _ rfl
 refine ⟨nofun,C6 W<|U4 ?_⟩
 exact ⟨_,(),W,(F2 W W)⟩
 rintro _ ⟨y1,g1,rfl,q1⟩
 rw [wD]at h
 refine B4 q1<|B0<|sv W<|A1<|B2 ?_
 cases h
 exact A6 (.inr W) (B6 (B3 W) C2) (.refl _)
def Mu [Lp](p1:Map)(p2:Int):Option Bool:=
  ((cond ((decide (p2≥0))&& (decide (p2< (p1.Lanes.length:Int)))) (Kq p1) (some default))).bind fun v1=>some (((decide (p2≥0))&& (decide (p2< (p1.Lanes.length:Int))))&& (v1==0))
theorem Uk(p1 p2 r)(h:Mu p1 p2=some r):PCall prog 98 [(.agg (P7 p1)),(i64 p2)] (bo r):=by
 refine C4 (fk func98 ntmps98 m0 (by with_unfolding_all rfl)) (nl W) ?_
 unfold Mu at h
 refine B4 (s0:=⟨T [(0,(.d _)),(1,(.d _))],G []⟩) (F2 W W) ?_
 refine B0<|sm W<|sv W<|A1<|B0<|sv W<|sv W<|sv W<|gt W (fun _=>W)<|gp W (M3 W) (fun _=>W) (gt W (vl W G_hit W)<|gt W (fun w4=>(D7<|A2 w4))<|gt W (fun w5=>(M7 (A2 w5) (A2 w5) W))<|sa W W W<|sv W<|gt W (fun _=>(B1 W G_hit W W))<|bs h fun v1 hv1 h=> ?_)
 refine N6 _ (i64 v1) (M3 W) (fun w7=>⟨_,[(.d (.agg (P7 p1)))],_,_,(by simp only [A2 w7];rfl),W,A3,Sq _ _<|B9 w7 hv1,(.inl W)⟩) ?_
 refine gt W (vb W W W)<|sa W W W<|sv W<|A1<|B2 ?_
 cases h
 exact A6 (.inr W) (B6 (B3 W) C2) (.refl _)
def Ap [Lp](p1:Signal)(p2:Int)(x2:(Int×Int)):Option (Stp (Int×Int) (Sum Unit Bool)):=
  cond (decide (x2.2< (p1.Phases.length:Int))) ((C1 p1.Phases x2.2).bind fun v5=>cond (decide (x2.1<v5.Ticks)) ((C1 p1.Phases x2.2).bind fun v6=>(Ph v6.Green p2).bind fun v7=>some (.out (.inr v7))) ((C1 p1.Phases x2.2).bind fun v8=>some (.go ((D3 (x2.1 - v8.Ticks)),(D3 (x2.2+1)))))) (some (.out (.inl ())))
def Ck (p1:Signal)(x1:(Int×Int)):Option (Stp (Int×Int) Int):=
  cond (decide (x1.2< (p1.Phases.length:Int))) ((C1 p1.Phases x1.2).bind fun v1=>some (.go ((D3 (x1.1+v1.Ticks)),(D3 (x1.2+1))))) (some (.out x1.1))
def Ni [Lp](p1:Signal)(p2:Int)(p3:Int):Option Bool:=
  (loop (Ck p1) (0,0)).bind fun y1=>(Vq p1.Offset y1).bind fun v2=>(Vq p3 y1).bind fun v3=>(Vq (D3 (v2+v3)) y1).bind fun v4=>thenS (loop (Ap p1 p2) (v4,0)) (fun _=>some false) (fun r=>some r)
theorem Ze(p1 p2 p3 r)(h:Ni p1 p2 p3=some r):PCall prog 187 [(.agg [(i64 p1.Offset),(.list (List.map Bb p1.Phases))]),(i64 p2),(i64 p3)] (bo r):=by
 refine C4 (fk func187 ntmps187 m0 (by with_unfolding_all rfl)) (nl W) ?_
 unfold Ni at h
 refine B4 (s0:=⟨T [(0,(.d _)),(1,(.d _)),(2,(.d _))],G []⟩) (F2 W W) ?_
 refine lr<|fun u1 _=>sm W<|sv W<|A1<|B0<|sv W<|A1<|A5<|B0<|sv W<|A1<|bs h fun y1 hy1 h=>D9 (fun s=> ∃g1:Unit,Sb ⟨T [(1,(di p2)),(2,(di p3)),(3,(.ptr (3,u1) 0)),(7,(di y1))],G [((3,u1),some<|.box 120 [(di p1.Offset),(dl Bb p1.Phases)])]⟩ s) ?_ ?_
 refine A7<|E4 (Ck p1) (fun (x1:(Int×Int)) (g2:Unit)=>⟨T [(1,(di p2)),(2,(di p3)),(3,(.ptr (3,u1) 0)),(7,(di x1.1)),(8,(di x1.2))],G [((3,u1),some<|.box 120 [(di p1.Offset),(dl Bb p1.Phases)])]⟩) (0,0) () _ hy1 (F2 W W) ?_
 intro x1 g2 z1 hz1 ez1
 unfold Ck at hz1
 refine A5<|B0<|sv W<|sq W<|sl W G_hit W<|sd W (D7 W)<|sv W<|A1<|cc W hz1 (fun c1 hz1=> ?_)<|fun c1 hz1=> ?_
 refine A8<|A5<|A7<|B7<|sv W<|sq W<|sl W G_hit W<|sv W<|bs hz1 fun _ hv1 hz1=>sd W (C5 W W hv1 W)<|sv W<|sd W (C9 W hv1 W)<|sv W<|sv W<|A1<|E3<|B7<|sv W<|sv W<|sv W<|A1<|E2 ?_
 cases hz1
 exact ⟨W,(),(F2 W W)⟩
 refine C8 W ?_
 cases hz1
 obtain rfl:=ez1 _ rfl
 refine ⟨nofun,C6 W<|U4 ?_⟩
 exact ⟨(),(F2 W W)⟩
 rintro _ ⟨g1,q1⟩
 refine B4 q1<|A5<|E7 W<|sq W<|sl W G_hit W<|sv W<|bs h fun _ hv2 h=>sd W (AT W W hv2)<|sv W<|sv W<|bs h fun _ hv3 h=>sd W (AT W W hv3)<|sv W<|sv W<|bs h fun v4 hv4 h=>sd W (AT W W hv4)<|sv W<|A1<|A5<|B0<|sv W<|A1<|js h fun z2 hz2 h=>D9 (fun s=> ∃(y2:Unit) (g3:Unit),z2= .inl y2∧Sb ⟨T [],G []⟩ s) ?_ ?_
 refine A7<|E4 (Ap p1 p2) (fun (x2:(Int×Int)) (g4:Unit)=>⟨T [(1,(di p2)),(3,(.ptr (3,u1) 0)),(9,(di x2.1)),(10,(di x2.2))],G [((3,u1),some<|.box 120 [(di p1.Offset),(dl Bb p1.Phases)])]⟩) (v4,0) () _ hz2 (F2 W W) ?_
 intro x2 g4 z3 hz3 ez3
 unfold Ap at hz3
 refine A5<|B0<|sv W<|sq W<|sl W G_hit W<|sd W (D7 W)<|sv W<|A1<|cc W hz3 (fun c2 hz3=> ?_)<|fun c2 hz3=> ?_
 refine A8<|A5<|A7<|A5<|B0<|sv W<|sq W<|sl W G_hit W<|sv W<|bs hz3 fun _ hv5 hz3=>sd W (C5 W W hv5 W)<|sv W<|sd W (C9 W hv5 W)<|sv W<|A1<|cc W hz3 (fun c3 hz3=> ?_)<|fun c3 hz3=> ?_
 refine B0<|sq W<|sl W G_hit W<|sv W<|bs hz3 fun _ hv6 hz3=>sd W (C5 W W hv6 W)<|sv W<|sd W (C9 W hv6 W)<|sv W<|bs hz3 fun _ hv7 hz3=>A9 W W A3 (Wa _ _ _ hv7) (.inl W) (sv W<|A1<|B2 ?_)
 cases hz3
 obtain rfl:=ez3 _ rfl
 refine ⟨nofun,F4 ?_⟩
 rw [wE]at h
 cases h
 exact A6 (.inr W) (B6 (B3 W) C2) (.refl _)
 refine A8<|B7<|sv W<|sq W<|sl W G_hit W<|sv W<|bs hz3 fun _ hv8 hz3=>sd W (C5 W W hv8 W)<|sv W<|sd W (C9 W hv8 W)<|sv W<|sv W<|A1<|E3<|B7<|sv W<|sv W<|sv W<|A1<|E2 ?_
 cases hz3
 exact ⟨W,(),(F2 W W)⟩
 refine C8 W ?_
 cases hz3
 obtain rfl:=ez3 _ rfl
 refine ⟨nofun,C6 W<|U4 ?_⟩
 exact ⟨_,(),W,(F2 W W)⟩
 rintro _ ⟨y2,g3,rfl,q2⟩
 rw [wD]at h
 refine B4 q2<|B0<|sv W<|A1<|B2 ?_
 cases h
 exact A6 (.inr W) (B6 (B3 W) C2) (.refl _)
def Qk [Lp](p1:Map)(p2:Int)(p3:Int)(p4:Int):Option Bool:=
  (Mu p1 p3).bind fun v1=>((cond (((v1&& (decide (p2≥0)))&& (decide (p2< (p1.Signals.length:Int))))&& (decide (p4≥0))) (C1 p1.Signals p2) (some default))).bind fun v2=>((cond (((v1&& (decide (p2≥0)))&& (decide (p2< (p1.Signals.length:Int))))&& (decide (p4≥0))) (Ni v2 p3 p4) (some default))).bind fun v3=>some ((((v1&& (decide (p2≥0)))&& (decide (p2< (p1.Signals.length:Int))))&& (decide (p4≥0)))&&v3)
theorem KO(p1 p2 p3 p4 r)(h:Qk p1 p2 p3 p4=some r):PCall prog 177 [(.agg (P7 p1)),(i64 p2),(i64 p3),(i64 p4)] (bo r):=by
 refine C4 (fk func177 ntmps177 m0 (by with_unfolding_all rfl)) (nl W) ?_
 unfold Qk at h
 refine B4 (s0:=⟨T [(0,(.d _)),(1,(.d _)),(2,(.d _)),(3,(.d _))],G []⟩) (F2 W W) ?_
 refine B0<|sm W<|sv W<|A1<|B0<|sd W (B1 W G_hit W W)<|sv W<|bs h fun _ hv1 h=>A9 W W A3 (Uk _ _ _ hv1) (.inl W) (sv W<|gt W (fun _=>W)<|gt W (vb W W W)<|sa W W W<|sv W<|gt W (fun _=>W)<|gp W (M3 W) (fun _=>W) (gt W (vl W G_hit W)<|gt W (fun w6=>(D7<|A2 w6))<|gt W (fun w7=>(M7 (A2 w7) (A2 w7) W))<|sa W W W<|sv W<|gt W (fun _=>W)<|gt W (vb W W W)<|sa W W W<|sv W<|gp W (M3 W) (fun _=>W) (gt W (vl W G_hit W)<|gt W (fun _=>W)<|bs h fun v2 hv2 h=>gt W (fun w13=>(C5 (A2 w13) (A2 w13) (B9 w13 hv2) W))<|gt W (fun w14=>(D4 (A2 w14) (B9 w14 hv2) W W))<|gt W (fun _=>W)<|gt W (fun _=>W)<|bs h fun v3 hv3 h=> ?_)))
 refine N6 _ (bo v3) (M3 W) (fun w17=>⟨_,[(.d (.agg [(i64 v2.Offset),(.list (List.map Bb v2.Phases))])),(di p3),(di p4)],_,_,(by simp only [A2 w17];rfl),W,A3,Ze _ _ _ _<|B9 w17 hv3,(.inl W)⟩) ?_
 refine sa W W W<|sv W<|A1<|B2 ?_
 cases h
 exact A6 (.inr W) (B6 (B3 W) C2) (.refl _)
def Gp (p2:Agent)(v1:Int)(v2:Zone)(x1:Int):Option (Stp Int (Sum Unit Int)):=
  cond (decide (x1< (v2.Parts.length:Int))) ((C1 v2.Parts x1).bind fun v5=>(C1 p2.Route v1).bind fun v6=>cond (v5.Lane_==v6) ((C1 v2.Parts x1).bind fun v7=>some (.out (.inr v7.Rank))) (some (.go (D3 (x1+1))))) (some (.out (.inl ())))
def Su [Lp](p1:Map)(p2:Agent)(p3:Int)(p4:Int):Option Int:=
  (Ks p1 p2.Route p3).bind fun v1=>cond (decide (v1<0)) (some 0) ((C1 p1.Zones p3).bind fun v2=>cond (decide (v2.Signal_>0)) ((C1 p2.Route v1).bind fun v3=>(Qk p1 (D3 (v2.Signal_ - 1)) v3 p4).bind fun v4=>cond v4 (some 2) (some 0)) (thenS (loop (Gp p2 v1 v2) 0) (fun _=>some 0) (fun r=>some r)))
theorem MP(p1 p2 p3 p4 r)(h:Su p1 p2 p3 p4=some r):PCall prog 84 [(.agg (P7 p1)),(.agg (D0 p2)),(i64 p3),(i64 p4)] (i64 r):=by
 refine C4 (fk func84 ntmps84 m0 (by with_unfolding_all rfl)) (nl W) ?_
 unfold Su at h
 refine B4 (s0:=⟨T [(0,(.d _)),(1,(.d _)),(2,(.d _)),(3,(.d _))],G []⟩) (F2 W W) ?_
 refine lr<|fun u1 _=>sm W<|sm W<|sv W<|A1<|B0<|sd W (B1 W (gq W) W W)<|sq W<|sl W G_hit W<|sv W<|bs h fun v1 hv1 h=>A9 W W A3 (Ss _ _ _ _ hv1) (.inl W) (sv W<|A1<|A5<|B0<|sv W<|sv W<|A1<|cc W h (fun c1 h=> ?_)<|fun c1 h=> ?_)
 refine B0<|sv W<|A1<|B2 ?_
 cases h
 exact A6 (.inr W) (B6 (B3 W) C2) (.refl _)
 refine A8<|lr<|fun u5 _=>sq W<|sl W (gq W) W (sv W<|bs h fun v2 hv2 h=>sd W (C5 W W hv2 W)<|sd W (D4 W hv2 W W)<|sm W<|U0 W G_hit [(dl Bf v2.Parts),(di v2.Signal_)] W (A1<|A5<|B0<|sq W<|sl W G_hit W<|sv W<|A1<|cc W h (fun c2 h=> ?_)<|fun c2 h=> ?_))
 refine A5<|A5<|E7 W<|sd W (B1 W (gq W) W W)<|sq W<|sl W G_hit W<|sv W<|sq W<|sl W (gq W) W (sv W<|bs h fun _ hv3 h=>sd W (C5 W W hv3 W)<|sd W (C9 W hv3 W)<|sv W<|bs h fun _ hv4 h=>A9 W W A3 (KO _ _ _ _ _ hv4) (.inl W) (A1<|cc W h (fun c3 h=> ?_)<|fun c3 h=> ?_))
 refine B0<|sv W<|A1<|B2 ?_
 cases h
 exact A6 (.inr W) (B6 (B3 W) C2) (.refl _)
 refine A8<|B0<|sv W<|A1<|B2 ?_
 cases h
 exact A6 (.inr W) (B6 (B3 W) C2) (.refl _)
 refine A8<|A5<|B0<|sv W<|A1<|js h fun z1 hz1 h=>D9 (fun s=> ∃(y1:Unit) (g1:Unit),z1= .inl y1∧Sb ⟨T [],G []⟩ s) ?_ ?_
 refine A7<|E4 (Gp p2 v1 v2) (fun (x1:Int) (g2:Unit)=>⟨T [(5,(.ptr (5,u1) 0)),(9,(di v1)),(10,(.ptr (10,u5) 0)),(11,(di x1))],G [((5,u1),some<|.box 45 (T0 p2)),((10,u5),some<|.box 117 [(dl Bf v2.Parts),(di v2.Signal_)])]⟩) 0 () _ hz1 (F2 W W) ?_
 intro x1 g2 z2 hz2 ez2
 unfold Gp at hz2
 refine A5<|B0<|sv W<|sq W<|sl W (gq W) W (sd W (D7 W)<|sv W<|A1<|cc W hz2 (fun c4 hz2=> ?_)<|fun c4 hz2=> ?_)
 refine A8<|A5<|A7<|A5<|E7 W<|sq W<|sl W (gq W) W (sv W<|bs hz2 fun _ hv5 hz2=>sd W (C5 W W hv5 W)<|sv W<|sd W (C9 W hv5 W)<|sq W<|sl W G_hit W<|sv W<|bs hz2 fun _ hv6 hz2=>sd W (C5 W W hv6 W)<|sd W (C9 W hv6 W)<|sv W<|A1<|cc W hz2 (fun c5 hz2=> ?_)<|fun c5 hz2=> ?_)
 refine B0<|sq W<|sl W (gq W) W (sv W<|bs hz2 fun _ hv7 hz2=>sd W (C5 W W hv7 W)<|sv W<|sd W (C9 W hv7 W)<|sv W<|A1<|B2 ?_)
 cases hz2
 obtain rfl:=ez2 _ rfl
 refine ⟨nofun,F4 ?_⟩
 rw [wE]at h
 cases h
 exact A6 (.inr W) (B6 (B3 W) C2) (.refl _)
 refine A8<|E3<|B7<|sv W<|sv W<|sv W<|A1<|E2 ?_
 cases hz2
 exact ⟨W,(),(F2 W W)⟩
 refine C8 W ?_
 cases hz2
 obtain rfl:=ez2 _ rfl
 refine ⟨nofun,C6 W<|U4 ?_⟩
 exact ⟨_,(),W,(F2 W W)⟩
 rintro _ ⟨y1,g1,rfl,q1⟩
 rw [wD]at h
 refine B4 q1<|B0<|sv W<|A1<|B2 ?_
 cases h
 exact A6 (.inr W) (B6 (B3 W) C2) (.refl _)
def Pk (p1:State)(x1:(Int×State)):Option (Stp (Int×State) State):=
  cond (decide (x1.1< (p1.Agents.length:Int))) ((C1 p1.Agents x1.1).bind fun v2=>(X6 ([]:List Int) v2.Route).bind fun v3=>(X6 x1.2.Agents [(Agent.mk v3 v2.S v2.V v2.Len v2.Begin v2.Obey v2.Gone)]).bind fun v4=>some (.go ((D3 (x1.1+1)),(State.mk x1.2.Tick v4 x1.2.In)))) (some (.out x1.2))
def Pv [Lp](p1:State):Option State:=
  (X6 ([]:List Stay) p1.In).bind fun v1=>(loop (Pk p1) (0,(State.mk p1.Tick [] v1))).bind fun y1=>some y1
theorem GA(p1 r)(h:Pv p1=some r):MCall prog 23 [(.d (.agg (Bc p1)))] [] (X5 [(di r.Tick),(oS r.Agents (800000,0)),(oS r.In (800001,0))]) [] [oB 45 7 D0 r.Agents,oB 127 4 J7 r.In]:=by
 refine PU (fk func23 ntmps23 (fun r=>if r==7 then [1003]else []) (by with_unfolding_all rfl)) (by generalize r.Agents=x1;generalize r.In=x2;cases x1<;>cases x2<;>rfl) (nl W) ?_
 unfold Pv at h
 refine B4 (s0:=⟨T [(0,(.d _))],G []⟩) (F2 W W) ?_
 refine lr<|fun u1 _=>sm W<|sm W<|A1<|A5<|Rm fun u2 hu2=>N9 (.ptr _ _) W W (N9 (.d _) W (Q8 W (gq W) W) (N9 (.ptr _ _) W W (N9 (.d _) W (Q8 W (gq W) W) (bs h fun v1 hv1 h=>ZX J7 p1.In _ (K7<|fun _=>W) W hv1 (CC hu2) ?_))))
 refine N9 (X5 [(di p1.Tick),(.d .nilS),(oS v1 (10,u2))]) W (by generalize v1=x1;cases x1<;>rfl) ?_
 refine HG (.ptr _ _) (.box _ _) W W (Vr _ _ _ _ _ (X1 _) W W G_hit (nl W) [(di p1.Tick),(.d .nilS),(oS v1 (10,u2))] W (DZ<|pY (fun q=>⟨⟨by first|rfl|((generalize v1=l0;cases l0)<;>rfl),q⟩,⟨by first|rfl|((generalize v1=l0;cases l0)<;>rfl),q⟩⟩) ?_))
 refine A5<|B0<|sv W<|A1<|bs h fun y1 hy1 h=>D9 (fun s=> ∃g1:(Nat×Nat),Sb ⟨T [(2,(.ptr (2,u1) 0)),(3,(.ptr (3,u2) 0))],G [((2,u1),some<|.box 25 [(di 0),(.d .nilS),(.d .nilS)]),((3,u2),some<|.box 25 [(di y1.Tick),(oS y1.Agents (32,g1.1)),(oS y1.In (10,g1.2))]),((32,g1.1),oB 45 7 D0 y1.Agents),((10,g1.2),oB 127 4 J7 y1.In)]⟩ s) ?_ ?_
 refine A7<|E4 (Pk p1) (fun (x1:(Int×State)) (g2:(Nat×Nat))=>⟨T [(1,(.ptr (1,u1) 0)),(2,(.ptr (2,u1) 0)),(3,(.ptr (3,u2) 0)),(4,(di x1.1))],G [((1,u1),some<|.box 25 (J5 p1)),((2,u1),some<|.box 25 [(di 0),(.d .nilS),(.d .nilS)]),((3,u2),some<|.box 25 [(di x1.2.Tick),(oS x1.2.Agents (32,g2.1)),(oS x1.2.In (10,g2.2))]),((32,g2.1),oB 45 7 D0 x1.2.Agents),((10,g2.2),oB 127 4 J7 x1.2.In)]⟩) (0,(State.mk p1.Tick [] v1)) (0,u2) _ hy1 (E0 (Z7 W)<|sg W<|sg W<|B5 G_hit (.of W)<|S5<|B8 (gq W) trivial) ?_
 intro x1 g2 z1 hz1 ez1
 unfold Pk at hz1
 refine A5<|B0<|sv W<|sq W<|sl W G_hit W<|sd W (D7 W)<|sv W<|A1<|cc W hz1 (fun c1 hz1=> ?_)<|fun c1 hz1=> ?_
 refine A8<|A5<|A7<|lr<|fun u5 _=>sq W<|sl W G_hit W<|sv W<|bs hz1 fun v2 hv2 hz1=>sd W (C5 W W hv2 W)<|sd W (D4 W hv2 W W)<|sm W<|U0 W G_hit (T0 v2) W (A1<|lr<|fun u6 hu6=>sq W<|sl W G_hit W<|bs hz1 fun v3 hv3 hz1=>ZV A4 (26,u6) ([]:List Int) v2.Route _ (K7<|fun _=>W) W (CC hu6) hv3 (CC hu6) (sq W<|Jz _ _ _ _ _ (ZU _ _) W W (gq W) (nl W) ((T0 v2).set 0 (oS v3 (26,u6))) W (A1<|oO [(26,u6)] [(1,(.ptr (1,u1) 0)),(2,(.ptr (2,u1) 0)),(3,(.ptr (3,u2) 0)),(4,(di x1.1)),(5,(.ptr (5,u5) 0)),(12,(di x1.1)),(13,(.ptr (1,u1) 1)),(14,(dl D0 p1.Agents)),(15,(di (p1.Agents.length:Int))),(16,(.d (bo<|decide (x1.1< (p1.Agents.length:Int))))),(19,(.ptr (1,u1) 1)),(20,(dl D0 p1.Agents)),(21,(di x1.1)),(22,(.d (.lp (List.map D0 p1.Agents) (x1.1).toNat 0))),(23,(.d (.agg (D0 v2)))),(24,(.ptr (5,u5) 0)),(25,(dl A4 v2.Route)),(26,(dl A4 v3)),(27,(.ptr (5,u5) 0))] [((5,u5),some<|.box 45 ((T0 v2).set 0 (dl A4 v3))),((1,u1),some<|.box 25 (J5 p1)),((2,u1),some<|.box 25 [(di 0),(.d .nilS),(.d .nilS)]),((3,u2),some<|.box 25 [(di x1.2.Tick),(oS x1.2.Agents (32,g2.1)),(oS x1.2.In (10,g2.2))]),((32,g2.1),oB 45 7 D0 x1.2.Agents),((10,g2.2),oB 127 4 J7 x1.2.In)] ⟨U5 W,U5 W,U5 W,U5 W,U5 W,U5 W,U5 W,U5 W,U5 W,U5 W,U5 W,U5 W,U5 W,U5 W,U5 W,U5 W,U5 W,(ZW (T9<|KD (.head _)<|gq W) T8),U5 W,trivial⟩ (YD G_hit (Ka (Ls W) Sh) (.cons (ZW (T9<|KD (.head _)<|gq W) T8) (.cons (U5 W) (.cons (U5 W) (.cons (U5 W) (.cons (U5 W) (.cons (U5 W) (.cons (U5 W) .nil))))))) (CJ (gq W) (Ka (Ls W) Sh) (CJ (gq W) (Ka (Ls W) Sh) (CJ (gq W) (Ka (Ls W) Sh) (fT (gq W) (Ka (Ls W) Sh) (fT (gq W) (Ka (Ls W) Sh) trivial)))))) (Br fun u7 _=>sq W<|C0 (oS x1.2.Agents (32,g2.1)) W (Q8 W (gq W) W) (sd W (B1 W G_hit W W)<|C0 (dl D0 [(Agent.mk v3 v2.S v2.V v2.Len v2.Begin v2.Obey v2.Gone)]) W W (bs hz1 fun _ hv4 hz1=>Q3 D0 (32,g2.1) x1.2.Agents (Agent.mk v3 v2.S v2.V v2.Len v2.Begin v2.Obey v2.Gone) [] _ (K7<|fun _=>W) W (gq W) hv4 (sq W<|U0 W (gq W) [(di x1.2.Tick),(.sl (32,u7)),(oS x1.2.In (10,g2.2))] W (A1<|E3<|B7<|sv W<|sv W<|sv W<|A1<|E2 ?_))))))))
 cases hz1
 exact ⟨W,(u7,g2.2),(E0 (Z7 W)<|sg W<|sg W<|B5 G_hit (.box (cv<|.cons (.of (V1<|V4 hv4).symm) cw))<|N8 (gq W)<|B8 (gq W) trivial)⟩
 refine C8 W ?_
 cases hz1
 obtain rfl:=ez1 _ rfl
 refine ⟨nofun,C6 W<|U4 ?_⟩
 exact ⟨(g2.1,g2.2),(E0 (Z7 W)<|sg W<|sg W<|B8 (gq W)<|B8 (gq W) trivial)⟩
 rintro _ ⟨g1,q1⟩
 refine B4 q1<|B0<|C0 (X5 [(di y1.Tick),(oS y1.Agents (32,g1.1)),(oS y1.In (10,g1.2))]) W (B1 W (gq W) W W) (Jz _ _ _ _ _ (X1 _) W W G_hit (nl W) [(di y1.Tick),(oS y1.Agents (32,g1.1)),(oS y1.In (10,g1.2))] W (A1<|B2 ?_))
 obtain rfl:=(lD h)
 exact fO (v1:=(X5 [(di y1.Tick),(oS y1.Agents (32,g1.1)),(oS y1.In (10,g1.2))])) (.inr W) (SF<|K2 W G_hit (Nat.le_of_ble_eq_true W) W) (.of W) [((32,g1.1),oB 45 7 D0 y1.Agents),((10,g1.2),oB 127 4 J7 y1.In)] (B8 (gq W)<|B8 (gq W) trivial) (XY [(32,g1.1),(10,g1.2)] (by generalize y1.Agents=x1;generalize y1.In=x2;cases x1<;>cases x2<;>rfl) trivial ⟨(G_hit).trans oB_ren.symm,((gq W)).trans oB_ren.symm,trivial⟩ W (List.forall_mem_cons.2 ⟨fun i hi=>IP W hi,(List.forall_mem_cons.2 ⟨fun i hi=>IP W hi,(fun _ h=>nomatch h)⟩)⟩) (pJ<|Ls W))
def Lh [Lp](p1:Map)(p2:Int):Option Int:=
  (Mu p1 p2).bind fun v1=>cond (!v1) (some 0) ((Lf p1 p2).bind fun v2=>some v2)
theorem IE(p1 p2 r)(h:Lh p1 p2=some r):PCall prog 126 [(.agg (P7 p1)),(i64 p2)] (i64 r):=by
 refine C4 (fk func126 ntmps126 m0 (by with_unfolding_all rfl)) (nl W) ?_
 unfold Lh at h
 refine B4 (s0:=⟨T [(0,(.d _)),(1,(.d _))],G []⟩) (F2 W W) ?_
 refine B0<|sm W<|sv W<|A1<|A5<|B0<|sd W (B1 W G_hit W W)<|sv W<|bs h fun v1 hv1 h=>A9 W W A3 (Uk _ _ _ hv1) (.inl W) (C0 (.d (bo (!v1))) W W (A1<|cc W h (fun c1 h=> ?_)<|fun c1 h=> ?_))
 refine B0<|sv W<|A1<|B2 ?_
 cases h
 exact A6 (.inr W) (B6 (B3 W) C2) (.refl _)
 refine A8<|B0<|sd W (B1 W G_hit W W)<|sv W<|bs h fun _ hv2 h=>A9 W W A3 (Xa _ _ _ hv2) (.inl W) (sv W<|A1<|B2 ?_)
 cases h
 exact A6 (.inr W) (B6 (B3 W) C2) (.refl _)
def Jt [Lp](p1:Map)(p2:Agent)(v2:(List Int))(x1:((List Span)×Int)):Option (Stp ((List Span)×Int) (List Span)):=
  cond (decide (x1.2< (v2.length:Int))) ((C1 v2 x1.2).bind fun v3=>(C1 v2 x1.2).bind fun v4=>(C1 p2.Route x1.2).bind fun v5=>(Lh p1 v5).bind fun v6=>cond (decide ((Mp true 0 (D3 ((D3 (p2.S - p2.Len)) - v3)))≤(Mp false (D3 (p2.S - v4)) v6))) ((C1 p2.Route x1.2).bind fun v7=>(X6 x1.1 [(Span.mk v7 (Mp true 0 (D3 ((D3 (p2.S - p2.Len)) - v3))) (Mp false (D3 (p2.S - v4)) v6))]).bind fun v8=>some (.go (v8,(D3 (x1.2+1))))) (some (.go (x1.1,(D3 (x1.2+1)))))) (some (.out x1.1))
def Pl [Lp](p1:Map)(p2:Agent):Option (List Span):=
  (Mt p2).bind fun v1=>cond (!v1) (some []) ((Fr p1 p2.Route).bind fun v2=>(loop (Jt p1 p2 v2) ([],0)).bind fun y1=>some y1)
theorem BI(p1 p2 r)(h:Pl p1 p2=some r):PCall prog 63 [(.agg (P7 p1)),(.agg (D0 p2))] (.list (List.map Dc r)):=by
 refine C4 (fk func63 ntmps63 (fun r=>if r==10 then [1009]else []) (by with_unfolding_all rfl)) (nl W) ?_
 unfold Pl at h
 refine B4 (s0:=⟨T [(0,(.d _)),(1,(.d _))],G []⟩) (F2 W W) ?_
 refine lr<|fun u1 _=>sm W<|sm W<|sv W<|A1<|B0<|sv W<|A1<|A5<|B0<|sd W (B1 W G_hit W W)<|bs h fun v1 hv1 h=>A9 W W A3 (Uj _ _ hv1) (.inl W) (C0 (.d (bo (!v1))) W W (A1<|cc W h (fun c1 h=> ?_)<|fun c1 h=> ?_))
 refine B0<|sv W<|A1<|B2 ?_
 cases h
 exact A6 (.inr W) (B6 (B3 W) C2) DLe.nil
 refine A8<|B0<|sd W (B1 W (gq W) W W)<|sq W<|sl W G_hit W<|bs h fun v2 hv2 h=>A9 W W A3 (Mm _ _ _ hv2) (.inl W) (sv W<|A1<|A5<|B0<|sv W<|A1<|bs h fun y1 hy1 h=>D9 (fun s=> ∃g1:Nat,Sb ⟨T [(5,(oS y1 (62,g1)))],G [((62,g1),oB 93 3 Dc y1)]⟩ s) ?_ ?_)
 refine A7<|E4 (Jt p1 p2 v2) (fun (x1:((List Span)×Int)) (g2:Nat)=>⟨T [(2,(.ptr (2,u1) 0)),(3,(.ptr (3,u1) 0)),(5,(oS x1.1 (62,g2))),(6,(dl A4 v2)),(7,(di x1.2))],G [((2,u1),some<|.box 33 (L4 p1)),((3,u1),some<|.box 45 (T0 p2)),((62,g2),oB 93 3 Dc x1.1)]⟩) ([],0) 0 _ hy1 (E0 (Z7 W)<|sg W<|B5 G_hit (.of W)<|S5 trivial) ?_
 intro x1 g2 z1 hz1 ez1
 unfold Jt at hz1
 refine A5<|B0<|sv W<|sv W<|sd W (D7 W)<|sv W<|A1<|cc W hz1 (fun c2 hz1=> ?_)<|fun c2 hz1=> ?_
 refine A8<|A5<|A7<|A5<|E7 W<|sq W<|sl W (gq W) W (sq W<|sl W (gq W) W (sv W<|sv W<|sv W<|bs hz1 fun v3 hv3 hz1=>sd W (C5 W W hv3 W)<|sd W (C9 W hv3 W)<|sv W<|sv W<|sq W<|sl W (gq W) W (sv W<|sv W<|bs hz1 fun v4 hv4 hz1=>sd W (C5 W W hv4 W)<|sd W (C9 W hv4 W)<|sv W<|sd W (B1 W G_hit W W)<|sq W<|sl W (gq W) W (sv W<|bs hz1 fun _ hv5 hz1=>sd W (C5 W W hv5 W)<|sd W (C9 W hv5 W)<|bs hz1 fun v6 hv6 hz1=>A9 W W A3 (IE _ _ _ hv6) (.inl W) (sv W<|sv W<|sv W<|A1<|B0<|sv W<|sv W<|sv W<|A1<|cc W hz1 (fun c3 hz1=> ?_)<|fun c3 hz1=> ?_)))))
 refine Br fun u10 _=>C0 (oS x1.1 (62,g2)) W W (sq W<|sl W (gq W) W (sv W<|bs hz1 fun v7 hv7 hz1=>sd W (C5 W W hv7 W)<|sd W (C9 W hv7 W)<|sv W<|sv W<|sv W<|C0 (dl Dc [(Span.mk v7 (Mp true 0<|D3 ((D3 (p2.S - p2.Len)) - v3))<|Mp false (D3 (p2.S - v4)) v6)]) W W (bs hz1 fun _ hv8 hz1=>Q3 Dc (62,g2) x1.1 (Span.mk v7 (Mp true 0<|D3 ((D3 (p2.S - p2.Len)) - v3))<|Mp false (D3 (p2.S - v4)) v6) [] _ (K7<|fun _=>W) W (gq W) hv8 (ss W<|A1<|E3<|B7<|sv W<|sv W<|sv W<|A1<|E2 ?_))))
 cases hz1
 exact ⟨W,u10,(E0 ⟨.of W, .of W,(.of (V1<|V4 hv8).symm), .of W, .of W,trivial⟩<|sg W<|sg W<|N8 G_hit trivial)⟩
 refine A8<|E3<|B7<|sv W<|sv W<|sv W<|A1<|E2 ?_
 cases hz1
 exact ⟨W,g2,(E0 (Z7 W)<|B5 G_hit (.of W)<|sg W<|B8 (gq W) trivial)⟩
 refine C8 W ?_
 cases hz1
 obtain rfl:=ez1 _ rfl
 refine ⟨nofun,C6 W<|U4 ?_⟩
 exact ⟨g2,(E0 ⟨.of W,trivial⟩<|B8 (gq W) trivial)⟩
 rintro _ ⟨g1,q1⟩
 refine B4 q1<|B0<|C0 (oS y1 (62,g1)) W W (C0 (oS y1 (62,g1)) W W (A1<|B2 ?_))
 cases h
 exact A6 (.inr W) (B6 (B3 W)<|T9 G_hit) T8
def Cq (v1:(List Span))(v2:(List Span))(x1:Int)(x2:Int):Option (Stp Int (Sum Unit Bool)):=
  cond (decide (x2< (v2.length:Int))) ((C1 v1 x1).bind fun v3=>(C1 v2 x2).bind fun v4=>((cond (v3.Lane_==v4.Lane_) (C1 v1 x1) (some default))).bind fun v5=>((cond (v3.Lane_==v4.Lane_) (C1 v2 x2) (some default))).bind fun v6=>((cond ((v3.Lane_==v4.Lane_)&& (decide (v5.From≤v6.To))) (C1 v2 x2) (some default))).bind fun v7=>((cond ((v3.Lane_==v4.Lane_)&& (decide (v5.From≤v6.To))) (C1 v1 x1) (some default))).bind fun v8=>cond (((v3.Lane_==v4.Lane_)&& (decide (v5.From≤v6.To)))&& (decide (v7.From≤v8.To))) (some (.out (.inr true))) (some (.go (D3 (x2+1))))) (some (.out (.inl ())))
def Cr [Lp](v1:(List Span))(v2:(List Span))(x1:Int):Option (Stp Int (Sum Unit Bool)):=
  cond (decide (x1< (v1.length:Int))) (thenS (loop (Cq v1 v2 x1) 0) (fun _=>some (.go (D3 (x1+1)))) (fun r=>some (.out (.inr r)))) (some (.out (.inl ())))
def Kt [Lp](p1:Map)(p2:Agent)(p3:Agent):Option Bool:=
  (Pl p1 p2).bind fun v1=>(Pl p1 p3).bind fun v2=>thenS (loop (Cr v1 v2) 0) (fun _=>some false) (fun r=>some r)
theorem EO(p1 p2 p3 r)(h:Kt p1 p2 p3=some r):PCall prog 85 [(.agg (P7 p1)),(.agg (D0 p2)),(.agg (D0 p3))] (bo r):=by
 refine C4 (fk func85 ntmps85 m0 (by with_unfolding_all rfl)) (nl W) ?_
 unfold Kt at h
 refine B4 (s0:=⟨T [(0,(.d _)),(1,(.d _)),(2,(.d _))],G []⟩) (F2 W W) ?_
 refine B0<|sm W<|sn W W<|sm W<|sv W<|A1<|A5<|E7 W<|sd W (B1 W (gq W) W W)<|sd W (B1 W (gq W) W W)<|bs h fun v1 hv1 h=>A9 W W A3 (BI _ _ _ hv1) (.inl W) (sd W (B1 W (gq W) W W)<|sd W (B1 W G_hit W W)<|bs h fun v2 hv2 h=>A9 W W A3 (BI _ _ _ hv2) (.inl W) (sv W<|sv W<|A1<|A5<|B0<|sv W<|A1<|js h fun z1 hz1 h=>D9 (fun s=> ∃(y1:Unit) (g1:Unit),z1= .inl y1∧Sb ⟨T [],G []⟩ s) ?_ ?_))
 refine A7<|E4 (Cr v1 v2) (fun (x1:Int) (g2:Unit)=>⟨T [(7,(dl Dc v1)),(8,(dl Dc v2)),(9,(di x1))],G []⟩) 0 () _ hz1 (F2 W W) ?_
 intro x1 g2 z2 hz2 ez2
 unfold Cr at hz2
 refine A5<|B0<|sv W<|sv W<|sd W (D7 W)<|sv W<|A1<|cc W hz2 (fun c1 hz2=> ?_)<|fun c1 hz2=> ?_
 refine A8<|A5<|A7<|B0<|sv W<|A1<|js hz2 fun z3 hz3 hz2=>D9 (fun s=> ∃(y2:Unit) (g3:Unit),z3= .inl y2∧Sb ⟨T [(7,(dl Dc v1)),(8,(dl Dc v2)),(9,(di x1))],G []⟩ s) ?_ ?_
 refine A7<|E4 (Cq v1 v2 x1) (fun (x2:Int) (g4:Unit)=>⟨T [(7,(dl Dc v1)),(8,(dl Dc v2)),(9,(di x1)),(10,(di x2))],G []⟩) 0 () _ hz3 (F2 W W) ?_
 intro x2 g4 z4 hz4 ez4
 unfold Cq at hz4
 refine A5<|B0<|sv W<|sv W<|sd W (D7 W)<|sv W<|A1<|cc W hz4 (fun c2 hz4=> ?_)<|fun c2 hz4=> ?_
 refine A8<|A5<|A7<|A5<|E7 W<|sv W<|sv W<|bs hz4 fun _ hv3 hz4=>sd W (C5 W W hv3 W)<|sv W<|sd W (C9 W hv3 W)<|sv W<|sv W<|bs hz4 fun _ hv4 hz4=>sd W (C5 W W hv4 W)<|sv W<|sd W (C9 W hv4 W)<|sv W<|sv W<|gt W (fun _=>W)<|gt W (fun _=>W)<|bs hz4 fun _ hv5 hz4=>gt W (fun w3=>(C5 (A2 w3) (A2 w3) (B9 w3 hv5) W)) ?_
 refine gt W (fun w4=>(by simp only [A2 w4];rfl)) ?_
 refine gt W (fun w5=>(C9 (A2 w5) (B9 w5 hv5) W))<|gt W (fun _=>W)<|gt W (fun _=>W)<|bs hz4 fun _ hv6 hz4=>gt W (fun w8=>(C5 (A2 w8) (A2 w8) (B9 w8 hv6) W)) ?_
 refine gt W (fun w9=>(by simp only [A2 w9];rfl)) ?_
 refine gt W (fun w10=>(C9 (A2 w10) (B9 w10 hv6) W))<|gt W (fun w11=>(M7 (A2 w11) (A2 w11) W))<|sa W W W<|sv W<|gt W (fun _=>W)<|gt W (fun _=>W)<|bs hz4 fun _ hv7 hz4=>gt W (fun w14=>(C5 (A2 w14) (A2 w14) (B9 w14 hv7) W)) ?_
 refine gt W (fun w15=>(by simp only [A2 w15];rfl)) ?_
 refine gt W (fun w16=>(C9 (A2 w16) (B9 w16 hv7) W))<|gt W (fun _=>W)<|gt W (fun _=>W)<|bs hz4 fun _ hv8 hz4=>gt W (fun w19=>(C5 (A2 w19) (A2 w19) (B9 w19 hv8) W)) ?_
 refine gt W (fun w20=>(by simp only [A2 w20];rfl)) ?_
 refine gt W (fun w21=>(C9 (A2 w21) (B9 w21 hv8) W))<|gt W (fun w22=>(M7 (A2 w22) (A2 w22) W))<|sa W W W<|A1<|cc W hz4 (fun c3 hz4=> ?_)<|fun c3 hz4=> ?_
 refine B0<|sv W<|A1<|B2 ?_
 cases hz4
 obtain rfl:=ez4 _ rfl
 refine ⟨nofun,F4 ?_⟩
 rw [wE]at hz2
 cases hz2
 obtain rfl:=ez2 _ rfl
 refine ⟨nofun,F4 ?_⟩
 rw [wE]at h
 cases h
 exact A6 (.inr W) (B6 (B3 W) C2) (.refl _)
 refine A8<|E3<|B7<|sv W<|sv W<|sv W<|A1<|E2 ?_
 cases hz4
 exact ⟨W,(),(F2 W W)⟩
 refine C8 W ?_
 cases hz4
 obtain rfl:=ez4 _ rfl
 refine ⟨nofun,C6 W<|U4 ?_⟩
 exact ⟨_,(),W,(F2 W W)⟩
 rintro _ ⟨y2,g3,rfl,q1⟩
 rw [wD]at hz2
 refine E3<|B4 q1<|B7<|sv W<|sv W<|sv W<|A1<|E2 ?_
 cases hz2
 exact ⟨W,(),(F2 W W)⟩
 refine C8 W ?_
 cases hz2
 obtain rfl:=ez2 _ rfl
 refine ⟨nofun,C6 W<|U4 ?_⟩
 exact ⟨_,(),W,(F2 W W)⟩
 rintro _ ⟨y1,g1,rfl,q2⟩
 rw [wD]at h
 refine B4 q2<|B0<|sv W<|A1<|B2 ?_
 cases h
 exact A6 (.inr W) (B6 (B3 W) C2) (.refl _)
def Hp [Lp](p1:Map)(p2:State)(p3:State)(p4:Int)(p5:Int)(x1:((List Int)×Int)):Option (Stp ((List Int)×Int) (List Int)):=
  cond (decide (x1.2< (p1.Zones.length:Int))) ((C1 p2.Agents p4).bind fun v1=>(C1 p2.Agents p5).bind fun v2=>(C1 p3.Agents p4).bind fun v3=>(Gm p1 v1 v3 x1.2).bind fun v4=>((cond (!(!v4)) (C1 p3.Agents p5) (some default))).bind fun v5=>((cond (!(!v4)) (Gm p1 v2 v5 x1.2) (some default))).bind fun v6=>cond ((!v4)||(!v6)) (some (.go (x1.1,(D3 (x1.2+1))))) ((Ks p1 v1.Route x1.2).bind fun v7=>(C1 v1.Route v7).bind fun v8=>(Ks p1 v2.Route x1.2).bind fun v9=>(C1 v2.Route v9).bind fun v10=>cond (v8 !=v10) ((X6 x1.1 [x1.2]).bind fun v11=>some (.go (v11,(D3 (x1.2+1))))) (some (.go (x1.1,(D3 (x1.2+1))))))) (some (.out x1.1))
def Ql [Lp](p1:Map)(p2:State)(p3:State)(p4:Int)(p5:Int):Option (List Int):=
  (loop (Hp p1 p2 p3 p4 p5) ([],0)).bind fun y1=>some y1
theorem KP(p1 p2 p3 p4 p5 r)(h:Ql p1 p2 p3 p4 p5=some r):PCall prog 86 [(.agg (P7 p1)),(.agg (Bc p2)),(.agg (Bc p3)),(i64 p4),(i64 p5)] (.list (List.map A4 r)):=by
 refine C4 (fk func86 ntmps86 (fun r=>if r==8 then [1002]else []) (by with_unfolding_all rfl)) (nl W) ?_
 unfold Ql at h
 refine B4 (s0:=⟨T [(0,(.d _)),(1,(.d _)),(2,(.d _)),(3,(.d _)),(4,(.d _))],G []⟩) (F2 W W) ?_
 refine lr<|fun u1 _=>sm W<|sm W<|sn W W<|sv W<|A1<|B0<|sv W<|A1<|A5<|B0<|sv W<|A1<|bs h fun y1 hy1 h=>D9 (fun s=> ∃g1:Nat,Sb ⟨T [(11,(oS y1 (76,g1)))],G [((76,g1),oB 3 1 A4 y1)]⟩ s) ?_ ?_
 refine A7<|E4 (Hp p1 p2 p3 p4 p5) (fun (x1:((List Int)×Int)) (g2:Nat)=>⟨T [(3,(di p4)),(4,(di p5)),(5,(.ptr (5,u1) 0)),(6,(.ptr (6,u1) 0)),(7,(.ptr (7,u1) 0)),(11,(oS x1.1 (76,g2))),(12,(di x1.2))],G [((5,u1),some<|.box 33 (L4 p1)),((6,u1),some<|.box 25 (J5 p2)),((7,u1),some<|.box 25 (J5 p3)),((76,g2),oB 3 1 A4 x1.1)]⟩) ([],0) 0 _ hy1 (E0 (Z7 W)<|sg W<|sg W<|B5 G_hit (.of W)<|S5 trivial) ?_
 intro x1 g2 z1 hz1 ez1
 unfold Hp at hz1
 refine A5<|B0<|sv W<|sq W<|sl W G_hit W<|sd W (D7 W)<|sv W<|A1<|cc W hz1 (fun c1 hz1=> ?_)<|fun c1 hz1=> ?_
 refine A8<|A5<|A7<|A5<|Rm fun _ _=>N9 (.ptr _ _) W W (N9 (.d _) W (Q8 W (gq W) W) (N9 (.d _) W W (bs hz1 fun v1 hv1 hz1=>N9 (.d _) W (C5 W W hv1 W) (N9 (.d _) W (D4 W hv1 W W) (N9 (.ptr _ _) W W (N9 (.d _) W (Q8 W (gq W) W) (N9 (.d _) W W (bs hz1 fun v2 hv2 hz1=>N9 (.d _) W (C5 W W hv2 W) (N9 (.d _) W (D4 W hv2 W W) (HG (.ptr _ _) (.box _ _) W W (HG (.ptr _ _) (.box _ _) W W (Vr _ _ _ _ _ W W W (gq W) (nl W) (T0 v1) W (Vr _ _ _ _ _ W W W (gq W) (nl W) (T0 v2) W (DZ ⟨W,?_⟩))))))))))))))
 refine A5<|A5<|E7 W<|sd W (B1 W (gq W) W W)<|sd W (B1 W (gq W) W W)<|sq W<|sl W (gq W) W (sv W<|bs hz1 fun _ hv3 hz1=>sd W (C5 W W hv3 W)<|sd W (D4 W hv3 W W)<|sv W<|bs hz1 fun v4 hv4 hz1=>A9 W W A3 (Pj _ _ _ _ _ hv4) (.inl W) (C0 (.d (bo (!v4))) W W (sv W<|gf W (fun _=>(B1 W (gq W) W W))<|gf W (fun _=>(B1 W G_hit W W))<|gp W (K6 W) (fun _=>W) (gf W (vl W (gq W) W)<|gf W (fun _=>W)<|bs hz1 fun v5 hv5 hz1=>gf W (fun w6=>(C5 (A2 w6) (A2 w6) (B9 w6 hv5) W))<|gf W (fun w7=>(D4 (A2 w7) (B9 w7 hv5) W W))<|gf W (fun _=>W)<|bs hz1 fun v6 hv6 hz1=> ?_))))
 refine N6 _ (bo v6) (K6 W) (fun w9=>⟨_,[(.d (.agg (P7 p1))),(.d (.agg (D0 v2))),(.d (.agg (D0 v5))),(di x1.2)],_,_,(by simp only [A2 w9];rfl),W,A3,Pj _ _ _ _ _<|B9 w9 hv6,(.inl W)⟩) ?_
 refine M8 _ (.d (bo (!v6))) W (K6 W) (fun w10=>(by simp only [A2 w10];rfl)) ?_
 refine sd W (O2 W W<|fun hc=>A2<|J4 hc)<|A1<|cc W hz1 (fun c2 hz1=> ?_)<|fun c2 hz1=> ?_
 refine Pa W<|B7<|sv W<|sv W<|sv W<|A1<|E2 ?_
 cases hz1
 exact ⟨W,g2,(E0 (Z7 W)<|sg W<|sg W<|sg W<|B8 (gq W) trivial)⟩
 refine A8<|A5<|E7 W<|sq W<|sl W (gq W) W (sd W (B1 W (gq W) W W)<|sq W<|sl W (gq W) W (sv W<|bs hz1 fun _ hv7 hz1=>A9 W W A3 (Ss _ _ _ _ hv7) (.inl W) (bs hz1 fun _ hv8 hz1=>sd W (C5 W W hv8 W)<|sd W (C9 W hv8 W)<|sq W<|sl W G_hit W<|sd W (B1 W (gq W) W W)<|sq W<|sl W G_hit W<|sv W<|bs hz1 fun _ hv9 hz1=>A9 W W A3 (Ss _ _ _ _ hv9) (.inl W) (bs hz1 fun _ hv10 hz1=>sd W (C5 W W hv10 W)<|sd W (C9 W hv10 W)<|sv W<|A1<|cc W hz1 (fun c3 hz1=> ?_)<|fun c3 hz1=> ?_))))
 refine Br fun u9 _=>C0 (oS x1.1 (76,g2)) W W (sv W<|C0 (dl A4 [x1.2]) W W (bs hz1 fun _ hv11 hz1=>Q3 A4 (76,g2) x1.1 x1.2 [] _ (K7<|fun _=>W) W (gq W) hv11 (ss W<|A1<|E3<|B7<|sv W<|sv W<|sv W<|A1<|E2 ?_)))
 cases hz1
 exact ⟨W,u9,(E0 ⟨.of W, .of W, .of W, .of W, .of W,(.of (V1<|V4 hv11).symm), .of W,trivial⟩<|sg W<|sg W<|sg W<|N8 G_hit trivial)⟩
 refine A8<|E3<|B7<|sv W<|sv W<|sv W<|A1<|E2 ?_
 cases hz1
 exact ⟨W,g2,(E0 (Z7 W)<|sg W<|sg W<|sg W<|B8 (gq W) trivial)⟩
 refine C8 W ?_
 cases hz1
 obtain rfl:=ez1 _ rfl
 refine ⟨nofun,C6 W<|U4 ?_⟩
 exact ⟨g2,(E0 ⟨.of W,trivial⟩<|B8 (gq W) trivial)⟩
 rintro _ ⟨g1,q1⟩
 refine B4 q1<|B0<|C0 (oS y1 (76,g1)) W W (C0 (oS y1 (76,g1)) W W (A1<|B2 ?_))
 cases h
 exact A6 (.inr W) (B6 (B3 W)<|T9 G_hit) T8
def Iu [Lp](p1:Map)(p2:(List Agent))(x4:(Int×State))(x5:Int):Option (Stp Int (Sum Unit (State×Int))):=
  cond (decide (x5< (p2.length:Int))) ((Fs x4.2 x4.1).bind fun v11=>((cond (!(!v11)) (Fs x4.2 x5) (some default))).bind fun v12=>cond ((!v11)||(!v12)) (some (.go (D3 (x5+1)))) ((C1 p2 x4.1).bind fun v13=>(C1 p2 x5).bind fun v14=>(Kt p1 v13 v14).bind fun v15=>((cond (!v15) (Ql p1 x4.2 x4.2 x4.1 x5) (some default))).bind fun v16=>cond (v15||(decide ((v16.length:Int)>0))) (some (.out (.inr ((State.mk 0 [] []),12)))) (some (.go (D3 (x5+1)))))) (some (.out (.inl ())))
def Fu [Lp](p1:Map)(p2:(List Agent))(x4:(Int×State)):Option (Stp (Int×State) (Sum State (State×Int))):=
  cond (decide (x4.1< (p2.length:Int))) (thenS (loop (Iu p1 p2 x4) (D3 (x4.1+1))) (fun _=>some (.go ((D3 (x4.1+1)),x4.2))) (fun r=>some (.out (.inr r)))) (some (.out (.inl x4.2)))
def Iv [Lp](p1:Map)(p2:(List Agent))(x2:(Int×State))(x3:(Int×State)):Option (Stp (Int×State) State):=
  ((cond (decide (x3.1< (p1.Zones.length:Int))) (Fs x3.2 x2.1) (some default))).bind fun v4=>cond ((decide (x3.1< (p1.Zones.length:Int)))&&v4) ((C1 p2 x2.1).bind fun v5=>(C1 p2 x2.1).bind fun v6=>(Gm p1 v5 v6 x3.1).bind fun v7=>cond v7 ((C1 p2 x2.1).bind fun v8=>(Su p1 v8 x3.1 0).bind fun v9=>(X6 x3.2.In [(Stay.mk x2.1 x3.1 0 v9)]).bind fun v10=>some (.go ((D3 (x3.1+1)),(State.mk x3.2.Tick x3.2.Agents v10)))) (some (.go ((D3 (x3.1+1)),x3.2)))) (some (.out x3.2))
def Iw [Lp](p1:Map)(p2:(List Agent))(x2:(Int×State)):Option (Stp (Int×State) State):=
  cond (decide (x2.1< (p2.length:Int))) ((loop (Iv p1 p2 x2) (0,x2.2)).bind fun y3=>some (.go ((D3 (x2.1+1)),y3))) (some (.out x2.2))
def Li (p2:(List Agent))(x1:Int):Option (Stp Int (Sum Unit (State×Int))):=
  cond (decide (x1< (p2.length:Int))) ((C1 p2 x1).bind fun v3=>cond v3.Gone (some (.out (.inr ((State.mk 0 [] []),10)))) (some (.go (D3 (x1+1))))) (some (.out (.inl ())))
def Pm [Lp](p1:Map)(p2:(List Agent)):Option (State×Int):=
  (Pv (State.mk 0 p2 [])).bind fun v1=>(Nh p1 v1).bind fun v2=>cond (v2 !=0) (some ((State.mk 0 [] []),v2)) (thenS (loop (Li p2) 0) (fun _=>(loop (Iw p1 p2) (0,v1)).bind fun y2=>thenS (loop (Fu p1 p2) (0,y2)) (fun y4=>some (y4,0)) (fun r=>some r)) (fun r=>some r))
theorem Wb(p1 p2 r)(h:Pm p1 p2=some r):PCall prog 28 [(.agg (P7 p1)),(.list (List.map D0 p2))] (.tup [(.agg (Bc r.1)),(i64 r.2)]):=by
 refine C4 (fk func28 ntmps28 (fun r=>if r==1 then [1001002]else if r==17 then [1012]else []) (by with_unfolding_all rfl)) (nl W) ?_
 unfold Pm at h
 refine B4 (s0:=⟨T [(0,(.d _)),(1,(.d _))],G []⟩) (F2 W W) ?_
 refine lr<|fun u1 _=>sm W<|sm W<|sv W<|A1<|lr<|fun u2 _=>sv W<|sv W<|bs h fun v1 hv1 h=> ?_
 refine FS (v:=X5 [(di v1.Tick),(oS v1.Agents (10010020,u2)),(oS v1.In (10010021,u2))]) (us:= [(10010020,u2),(10010021,u2)]) (fR (GA _ _ hv1) [] [] _ (((10010021,u2),oB 127 4 J7 v1.In)::(((10010020,u2),oB 45 7 D0 v1.Agents)::_)) W (.cons (DLe.d<|.agg (ca W<|ca W<|.cons ⟨DLe.nil,W⟩ .nil)) .nil) W Jc trivial (fun _ h=>h) List.nodup_nil (by generalize v1.Agents=x1;generalize v1.In=x2;cases x1<;>cases x2<;>rfl) W (KE<|KE (W)) W) ?_
 refine sn W W<|Jz _ _ _ _ _ (X1 _) W W G_hit (nl W) [(di v1.Tick),(oS v1.Agents (10010020,u2)),(oS v1.In (10010021,u2))] W (A1<|B0<|sd W (B1 W (gq W) W W)<|C0 (X5 [(di v1.Tick),(oS v1.Agents (10010020,u2)),(oS v1.In (10010021,u2))]) W (B1 W G_hit W W) (bs h fun _ hv2 h=>A9 W (rD<|E6 (Ns<|rD<|E6 (T9<|gq W)<|E6 (T9<|gq W) G1) G1) (.cons (.refl _) (.cons (.agg (ca W<|.cons ⟨T8,W⟩ (.cons ⟨T8,W⟩ .nil))) .nil)) (KN _ _ _ hv2) (.inr W) (sv W<|A1<|A5<|B0<|sv W<|sv W<|A1<|cc W h (fun c1 h=> ?_)<|fun c1 h=> ?_)))
 refine B0<|sv W<|sv W<|U0 W (gq W) [(di 0),(.d .nilS),(.d .nilS)] W (sv W<|A1<|B2 ?_)
 cases h
 exact A6 (.inr W) (Na (K2 W G_hit (nl W) W) (B3 W) C2 C2) (.tup (.cons (.agg (ca W<|.cons ⟨DLe.nil,W⟩ (.cons ⟨DLe.nil,W⟩ .nil))) A3))
 refine A8<|A5<|B0<|sv W<|A1<|js h fun z1 hz1 h=>D9 (fun s=> ∃(y1:Unit) (g1:Unit),z1= .inl y1∧Sb ⟨T [(1,(dl D0 p2)),(2,(.ptr (2,u1) 0)),(4,(.ptr (4,u1) 0)),(6,(.ptr (6,u2) 0))],G [((2,u1),some<|.box 33 (L4 p1)),((4,u1),some<|.box 25 [(di 0),(.d .nilS),(.d .nilS)]),((6,u2),some<|.box 25 [(di v1.Tick),(oS v1.Agents (10010020,u2)),(oS v1.In (10010021,u2))]),((10010020,u2),oB 45 7 D0 v1.Agents),((10010021,u2),oB 127 4 J7 v1.In)]⟩ s) ?_ ?_
 refine A7<|E4 (Li p2) (fun (x1:Int) (g2:Unit)=>⟨T [(1,(dl D0 p2)),(2,(.ptr (2,u1) 0)),(4,(.ptr (4,u1) 0)),(6,(.ptr (6,u2) 0)),(8,(di x1))],G [((2,u1),some<|.box 33 (L4 p1)),((4,u1),some<|.box 25 [(di 0),(.d .nilS),(.d .nilS)]),((6,u2),some<|.box 25 [(di v1.Tick),(oS v1.Agents (10010020,u2)),(oS v1.In (10010021,u2))]),((10010020,u2),oB 45 7 D0 v1.Agents),((10010021,u2),oB 127 4 J7 v1.In)]⟩) 0 () _ hz1 (E0 (Z7 W)<|sg W<|sg W<|B5 G_hit (.of W)<|B8 (gq W)<|B8 (gq W) trivial) ?_
 intro x1 g2 z2 hz2 ez2
 unfold Li at hz2
 refine A5<|B0<|sv W<|sv W<|sd W (D7 W)<|sv W<|A1<|cc W hz2 (fun c2 hz2=> ?_)<|fun c2 hz2=> ?_
 refine A8<|A5<|A7<|B0<|sv W<|sv W<|bs hz2 fun _ hv3 hz2=>sd W (C5 W W hv3 W)<|sv W<|sd W (C9 W hv3 W)<|A1<|cc W hz2 (fun c3 hz2=> ?_)<|fun c3 hz2=> ?_
 refine B0<|sv W<|U0 W (gq W) [(di 0),(.d .nilS),(.d .nilS)] W (sv W<|A1<|B2 ?_)
 cases hz2
 obtain rfl:=ez2 _ rfl
 refine ⟨nofun,F4 ?_⟩
 rw [wE]at h
 cases h
 exact A6 (.inr W) (Na (K2 W G_hit (nl W) W) (B3 W) C2 C2) (.tup (.cons (.agg (ca W<|.cons ⟨DLe.nil,W⟩ (.cons ⟨DLe.nil,W⟩ .nil))) A3))
 refine A8<|E3<|B7<|sv W<|sv W<|sv W<|A1<|E2 ?_
 cases hz2
 exact ⟨W,(),(E0 (Z7 W)<|B5 G_hit (.of W)<|sg W<|sg W<|B8 (gq W)<|B8 (gq W) trivial)⟩
 refine C8 W ?_
 cases hz2
 obtain rfl:=ez2 _ rfl
 refine ⟨nofun,C6 W<|U4 ?_⟩
 exact ⟨_,(),W,(E0 (Z7 W)<|B5 G_hit (.of W)<|sg W<|sg W<|B8 (gq W)<|B8 (gq W) trivial)⟩
 rintro _ ⟨y1,g1,rfl,q1⟩
 rw [wD]at h
 refine B4 q1<|A5<|B0<|sv W<|A1<|bs h fun y2 hy2 h=>D9 (fun s=> ∃g3:(Nat× ({d:Nat // d∈ [77,10010021]}×Nat)),Sb ⟨T [(1,(dl D0 p2)),(2,(.ptr (2,u1) 0)),(4,(.ptr (4,u1) 0)),(6,(.ptr (6,u2) 0))],G [((2,u1),some<|.box 33 (L4 p1)),((4,u1),some<|.box 25 [(di 0),(.d .nilS),(.d .nilS)]),((6,u2),some<|.box 25 [(di y2.Tick),(oS y2.Agents (10010020,g3.1)),(oS y2.In (g3.2.1.val,g3.2.2))]),((10010020,g3.1),oB 45 7 D0 y2.Agents),((g3.2.1.val,g3.2.2),oB 127 4 J7 y2.In)]⟩ s) ?_ ?_
 refine A7<|E4 (Iw p1 p2) (fun (x2:(Int×State)) (g4:(Nat× ({d:Nat // d∈ [77,10010021]}×Nat)))=>⟨T [(1,(dl D0 p2)),(2,(.ptr (2,u1) 0)),(4,(.ptr (4,u1) 0)),(6,(.ptr (6,u2) 0)),(9,(di x2.1))],G [((2,u1),some<|.box 33 (L4 p1)),((4,u1),some<|.box 25 [(di 0),(.d .nilS),(.d .nilS)]),((6,u2),some<|.box 25 [(di x2.2.Tick),(oS x2.2.Agents (10010020,g4.1)),(oS x2.2.In (g4.2.1.val,g4.2.2))]),((10010020,g4.1),oB 45 7 D0 x2.2.Agents),((g4.2.1.val,g4.2.2),oB 127 4 J7 x2.2.In)]⟩) (0,v1) (u2,(⟨10010021, .tail _ (.head _)⟩,u2)) _ hy2 (E0 (Z7 W)<|B5 G_hit (.of W)<|sg W<|sg W<|B8 (gq W)<|B8 (gq W) trivial) ?_
 intro x2 g4 z3 hz3 ez3
 unfold Iw at hz3
 refine A5<|B0<|sv W<|sv W<|sd W (D7 W)<|sv W<|A1<|cc W hz3 (fun c4 hz3=> ?_)<|fun c4 hz3=> ?_
 refine A8<|A5<|A7<|B0<|sv W<|A1<|bs hz3 fun y3 hy3 hz3=>D9 (fun s=> ∃g5:(Nat× ({d:Nat // d∈ [77,10010021]}×Nat)),Sb ⟨T [(1,(dl D0 p2)),(2,(.ptr (2,u1) 0)),(4,(.ptr (4,u1) 0)),(6,(.ptr (6,u2) 0)),(9,(di x2.1))],G [((2,u1),some<|.box 33 (L4 p1)),((4,u1),some<|.box 25 [(di 0),(.d .nilS),(.d .nilS)]),((6,u2),some<|.box 25 [(di y3.Tick),(oS y3.Agents (10010020,g5.1)),(oS y3.In (g5.2.1.val,g5.2.2))]),((10010020,g5.1),oB 45 7 D0 y3.Agents),((g5.2.1.val,g5.2.2),oB 127 4 J7 y3.In)]⟩ s) ?_ ?_
 refine A7<|E4 (Iv p1 p2 x2) (fun (x3:(Int×State)) (g6:(Nat× ({d:Nat // d∈ [77,10010021]}×Nat)))=>⟨T [(1,(dl D0 p2)),(2,(.ptr (2,u1) 0)),(4,(.ptr (4,u1) 0)),(6,(.ptr (6,u2) 0)),(9,(di x2.1)),(10,(di x3.1))],G [((2,u1),some<|.box 33 (L4 p1)),((4,u1),some<|.box 25 [(di 0),(.d .nilS),(.d .nilS)]),((6,u2),some<|.box 25 [(di x3.2.Tick),(oS x3.2.Agents (10010020,g6.1)),(oS x3.2.In (g6.2.1.val,g6.2.2))]),((10010020,g6.1),oB 45 7 D0 x3.2.Agents),((g6.2.1.val,g6.2.2),oB 127 4 J7 x3.2.In)]⟩) (0,x2.2) (g4.1,(g4.2.1,g4.2.2)) _ hy3 (E0 (Z7 W)<|B5 G_hit (.of W)<|sg W<|sg W<|B8 (gq W)<|B8 (Vu g4.2.1.property 4 W G_hit) trivial) ?_
 intro x3 g6 z4 hz4 ez4
 unfold Iv at hz4
 refine A5<|B0<|sv W<|sq W<|sl W G_hit W<|sd W (D7 W)<|sv W<|sv W<|M8 _ (X5 [(di x3.2.Tick),(oS x3.2.Agents (10010020,g6.1)),(oS x3.2.In (g6.2.1.val,g6.2.2))]) W (M3 W) (fun _=>(B1 W (gq W) W W)) (gt W (fun _=>W)<|bs hz4 fun v4 hv4 hz4=> ?_)
 refine N6 _ (bo v4) (M3 W) (fun w3=>⟨_,[(X5 [(di x3.2.Tick),(oS x3.2.Agents (10010020,g6.1)),(oS x3.2.In (g6.2.1.val,g6.2.2))]),(di x2.1)],_,_,(by simp only [A2 w3];rfl),(E6 (Ns<|rD<|E6 (T9<|gq W)<|E6 (T9<|Vu g6.2.1.property 4 W G_hit) G1)<|rD G1),(.cons (.agg (ca W<|.cons ⟨T8,W⟩ (.cons ⟨T8,W⟩ .nil))) A3),Og _ _ _<|B9 w3 hv4,(.inr W)⟩) ?_
 refine sa W W W<|A1<|cc W hz4 (fun c5 hz4=> ?_)<|fun c5 hz4=> ?_
 refine A8<|A5<|A7<|A5<|E7 W<|sd W (B1 W G_hit W W)<|sv W<|sv W<|bs hz4 fun _ hv5 hz4=>sd W (C5 W W hv5 W)<|sd W (D4 W hv5 W W)<|sv W<|sv W<|bs hz4 fun _ hv6 hz4=>sd W (C5 W W hv6 W)<|sd W (D4 W hv6 W W)<|sv W<|bs hz4 fun _ hv7 hz4=>A9 W W A3 (Pj _ _ _ _ _ hv7) (.inl W) (A1<|cc W hz4 (fun c6 hz4=> ?_)<|fun c6 hz4=> ?_)
 refine Nr W fun u16 _=>sq W<|C0 (oS x3.2.In (g6.2.1.val,g6.2.2)) W (Q8 W (gq W) W) (sv W<|sv W<|sd W (B1 W G_hit W W)<|sv W<|sv W<|bs hz4 fun _ hv8 hz4=>sd W (C5 W W hv8 W)<|sd W (D4 W hv8 W W)<|sv W<|bs hz4 fun v9 hv9 hz4=>A9 W W A3 (MP _ _ _ _ _ hv9) (.inl W) (sv W<|C0 (dl J7 [(Stay.mk x2.1 x3.1 0 v9)]) W W (bs hz4 fun _ hv10 hz4=>Q3 J7 (g6.2.1.val,g6.2.2) x3.2.In (Stay.mk x2.1 x3.1 0 v9) [] _ (K7<|fun _=>W) W (F5 (AX g6.2.1.property W)<|F5 (AX g6.2.1.property W)<|F5 (AX g6.2.1.property W)<|F5 (AX g6.2.1.property W) G_hit) hv10 (sq W<|Jz _ _ _ _ _ W W W (F5 W<|F5 (CG g6.2.1.property W)<|gq W) (nl W) [(di x3.2.Tick),(oS x3.2.Agents (10010020,g6.1)),(.sl (77,u16))] W (A1<|E3<|B7<|sv W<|sv W<|sv W<|A1<|E2 ?_)))))
 cases hz4
 exact ⟨W,(g6.1,(⟨77, .head _⟩,u16)),(E0 (Z7 W)<|B5 (Wv 2 W<|F5 (CG g6.2.1.property W) G_hit) (.of W) (B5 (Wv 2 W<|F5 (CG g6.2.1.property W)<|gq W) (.of W) (B5 G_hit (.box (cv<|cv<|.cons (.of (V1<|V4 hv10).symm) .nil))<|B8 (Wv 2 W<|F5 (CG g6.2.1.property W)<|gq W)<|N8 (gq W) trivial)))⟩
 refine A8<|E3<|B7<|sv W<|sv W<|sv W<|A1<|E2 ?_
 cases hz4
 exact ⟨W,(g6.1,(g6.2.1,g6.2.2)),(E0 (Z7 W)<|B5 G_hit (.of W)<|sg W<|sg W<|B8 (gq W)<|B8 (Vu g6.2.1.property 4 W G_hit) trivial)⟩
 refine C8 W ?_
 cases hz4
 obtain rfl:=ez4 _ rfl
 refine ⟨nofun,C6 W<|U4 ?_⟩
 exact ⟨(g6.1,(g6.2.1,g6.2.2)),(E0 (Z7 W)<|B5 G_hit (.of W)<|sg W<|sg W<|B8 (gq W)<|B8 (Vu g6.2.1.property 4 W G_hit) trivial)⟩
 rintro _ ⟨g5,q2⟩
 refine E3<|B4 q2<|B7<|sv W<|sv W<|sv W<|A1<|E2 ?_
 cases hz3
 exact ⟨W,(g5.1,(g5.2.1,g5.2.2)),(E0 (Z7 W)<|B5 G_hit (.of W)<|sg W<|sg W<|B8 (gq W)<|B8 (Vu g5.2.1.property 4 W G_hit) trivial)⟩
 refine C8 W ?_
 cases hz3
 obtain rfl:=ez3 _ rfl
 refine ⟨nofun,C6 W<|U4 ?_⟩
 exact ⟨(g4.1,(g4.2.1,g4.2.2)),(E0 (Z7 W)<|B5 G_hit (.of W)<|sg W<|sg W<|B8 (gq W)<|B8 (Vu g4.2.1.property 4 W G_hit) trivial)⟩
 rintro _ ⟨g3,q3⟩
 refine B4 q3<|A5<|B0<|sv W<|A1<|js h fun z5 hz5 h=>D9 (fun s=> ∃(y4:State) (g7:Unit),z5= .inl y4∧Sb ⟨T [(4,(.ptr (4,u1) 0)),(6,(.ptr (6,u2) 0))],G [((4,u1),some<|.box 25 [(di 0),(.d .nilS),(.d .nilS)]),((6,u2),some<|.box 25 (J5 y4))]⟩ s) ?_ ?_
 refine A7<|oO [(10010020,g3.1),(g3.2.1.val,g3.2.2)] [(1,(dl D0 p2)),(2,(.ptr (2,u1) 0)),(4,(.ptr (4,u1) 0)),(6,(.ptr (6,u2) 0)),(11,(di 0))] [((2,u1),some<|.box 33 (L4 p1)),((4,u1),some<|.box 25 [(di 0),(.d .nilS),(.d .nilS)]),((6,u2),some<|.box 25 (J5 y2))] ⟨U5 W,U5 W,U5 W,U5 W,U5 W,trivial⟩ (CJ G_hit (Ka (Ls W)<|Ka (Ls<|CG g3.2.1.property W) Sh)<|CJ (gq W) (Ka (Ls W)<|Ka (Ls<|CG g3.2.1.property W) Sh) (YD (gq W) (Ka (Ls W)<|Ka (Ls<|CG g3.2.1.property W) Sh) (.cons (U5 W) (.cons (ZW (T9<|KD (.head _)<|gq W) T8) (.cons (ZW (T9<|KD (.tail _ (.head _))<|F5 (AX g3.2.1.property W)<|F5 (AX g3.2.1.property W)<|F5 (AX g3.2.1.property W)<|F5 (AX g3.2.1.property W) G_hit) T8) .nil))) trivial)) (E4 (Fu p1 p2) (fun (x4:(Int×State)) (g8:Unit)=>⟨T [(1,(dl D0 p2)),(2,(.ptr (2,u1) 0)),(4,(.ptr (4,u1) 0)),(6,(.ptr (6,u2) 0)),(11,(di x4.1))],G [((2,u1),some<|.box 33 (L4 p1)),((4,u1),some<|.box 25 [(di 0),(.d .nilS),(.d .nilS)]),((6,u2),some<|.box 25 (J5 x4.2))]⟩) (0,y2) () _ hz5 (F2 W W) ?_)
 intro x4 g8 z6 hz6 ez6
 unfold Fu at hz6
 refine A5<|B0<|sv W<|sv W<|sd W (D7 W)<|sv W<|A1<|cc W hz6 (fun c7 hz6=> ?_)<|fun c7 hz6=> ?_
 refine A8<|A5<|A7<|B0<|sv W<|sv W<|sv W<|A1<|js hz6 fun z7 hz7 hz6=>D9 (fun s=> ∃(y5:Unit) (g9:Unit),z7= .inl y5∧Sb ⟨T [(1,(dl D0 p2)),(2,(.ptr (2,u1) 0)),(4,(.ptr (4,u1) 0)),(6,(.ptr (6,u2) 0)),(11,(di x4.1))],G [((2,u1),some<|.box 33 (L4 p1)),((4,u1),some<|.box 25 [(di 0),(.d .nilS),(.d .nilS)]),((6,u2),some<|.box 25 (J5 x4.2))]⟩ s) ?_ ?_
 refine A7<|E4 (Iu p1 p2 x4) (fun (x5:Int) (g10:Unit)=>⟨T [(1,(dl D0 p2)),(2,(.ptr (2,u1) 0)),(4,(.ptr (4,u1) 0)),(6,(.ptr (6,u2) 0)),(11,(di x4.1)),(12,(di x5))],G [((2,u1),some<|.box 33 (L4 p1)),((4,u1),some<|.box 25 [(di 0),(.d .nilS),(.d .nilS)]),((6,u2),some<|.box 25 (J5 x4.2))]⟩) (D3 (x4.1+1)) () _ hz7 (F2 W W) ?_
 intro x5 g10 z8 hz8 ez8
 unfold Iu at hz8
 refine A5<|B0<|sv W<|sv W<|sd W (D7 W)<|sv W<|A1<|cc W hz8 (fun c8 hz8=> ?_)<|fun c8 hz8=> ?_
 refine A8<|A5<|A7<|A5<|B0<|sd W (B1 W (gq W) W W)<|sv W<|bs hz8 fun v11 hv11 hz8=>A9 W W A3 (Og _ _ _ hv11) (.inl W) (C0 (.d (bo (!v11))) W W (sv W<|gf W (fun _=>(B1 W (gq W) W W))<|gf W (fun _=>W)<|bs hz8 fun v12 hv12 hz8=> ?_))
 refine N6 _ (bo v12) (K6 W) (fun w6=>⟨_,[(.d (.agg (Bc x4.2))),(di x5)],_,_,(by simp only [A2 w6];rfl),W,A3,Og _ _ _<|B9 w6 hv12,(.inl W)⟩) ?_
 refine M8 _ (.d (bo (!v12))) W (K6 W) (fun w7=>(by simp only [A2 w7];rfl)) ?_
 refine sd W (O2 W W<|fun hc=>A2<|J4 hc)<|A1<|cc W hz8 (fun c9 hz8=> ?_)<|fun c9 hz8=> ?_
 refine Pa W<|B7<|sv W<|sv W<|sv W<|A1<|E2 ?_
 cases hz8
 exact ⟨W,(),(F2 W W)⟩
 refine A8<|A5<|E7 W<|sd W (B1 W G_hit W W)<|sv W<|sv W<|bs hz8 fun _ hv13 hz8=>sd W (C5 W W hv13 W)<|sd W (D4 W hv13 W W)<|sv W<|sv W<|bs hz8 fun _ hv14 hz8=>sd W (C5 W W hv14 W)<|sd W (D4 W hv14 W W)<|bs hz8 fun _ hv15 hz8=>A9 W W A3 (EO _ _ _ _ hv15) (.inl W) (sv W<|gf W (fun _=>(B1 W G_hit W W))<|gf W (fun _=>(B1 W (gq W) W W))<|gf W (fun _=>(B1 W (gq W) W W))<|gf W (fun _=>W)<|gf W (fun _=>W)<|bs hz8 fun v16 hv16 hz8=> ?_)
 refine N6 _ (.list (List.map A4 v16)) (K6 W) (fun w13=>⟨_,[(.d (.agg (P7 p1))),(.d (.agg (Bc x4.2))),(.d (.agg (Bc x4.2))),(di x4.1),(di x5)],_,_,(by simp only [A2 w13];rfl),W,A3,KP _ _ _ _ _ _<|B9 w13 hv16,(.inl W)⟩) ?_
 refine gf W (fun w14=>(D7<|A2 w14))<|gf W (vb W W W)<|sd W (O2 W W<|fun hc=>A2<|J4 hc)<|A1<|cc W hz8 (fun c10 hz8=> ?_)<|fun c10 hz8=> ?_
 refine B0<|sv W<|U0 W (gq W) [(di 0),(.d .nilS),(.d .nilS)] W (sv W<|A1<|B2 ?_)
 cases hz8
 obtain rfl:=ez8 _ rfl
 refine ⟨nofun,F4 ?_⟩
 rw [wE]at hz6
 cases hz6
 obtain rfl:=ez6 _ rfl
 refine ⟨nofun,F4 ?_⟩
 rw [wE]at h
 cases h
 exact A6 (.inr W) (Na (K2 W G_hit (nl W) W) (B3 W) C2 C2) (.tup (.cons (.agg (ca W<|.cons ⟨DLe.nil,W⟩ (.cons ⟨DLe.nil,W⟩ .nil))) A3))
 refine A8<|E3<|B7<|sv W<|sv W<|sv W<|A1<|E2 ?_
 cases hz8
 exact ⟨W,(),(F2 W W)⟩
 refine C8 W ?_
 cases hz8
 obtain rfl:=ez8 _ rfl
 refine ⟨nofun,C6 W<|U4 ?_⟩
 exact ⟨_,(),W,(F2 W W)⟩
 rintro _ ⟨y5,g9,rfl,q4⟩
 rw [wD]at hz6
 refine E3<|B4 q4<|B7<|sv W<|sv W<|sv W<|A1<|E2 ?_
 cases hz6
 exact ⟨W,(),(F2 W W)⟩
 refine C8 W ?_
 cases hz6
 obtain rfl:=ez6 _ rfl
 refine ⟨nofun,C6 W<|U4 ?_⟩
 exact ⟨_,(),W,(F2 W W)⟩
 rintro _ ⟨y4,g7,rfl,q5⟩
 rw [wD]at h
 refine B4 q5<|B0<|sd W (B1 W (gq W) W W)<|U0 W G_hit (J5 y4) W (sv W<|A1<|B2 ?_)
 cases h
 exact A6 (.inr W) (Na (K2 W G_hit (nl W) W) (B3 W) C2 C2) (.refl _)
def Hq [Lp](p1:Map)(x1:((List Int)×Int)):Option (Stp ((List Int)×Int) (List Int)):=
  cond (decide (x1.2< (p1.Lanes.length:Int))) ((Ld p1 x1.2).bind fun v1=>cond ((v1.length:Int)==0) ((X6 x1.1 [x1.2]).bind fun v2=>some (.go (v2,(D3 (x1.2+1))))) (some (.go (x1.1,(D3 (x1.2+1)))))) (some (.out x1.1))
def Md [Lp](p1:Map):Option (List Int):=
  (loop (Hq p1) ([],0)).bind fun y1=>some y1
theorem GB(p1 r)(h:Md p1=some r):PCall prog 188 [(.agg (P7 p1))] (.list (List.map A4 r)):=by
 refine C4 (fk func188 ntmps188 (fun r=>if r==6 then [1002]else []) (by with_unfolding_all rfl)) (nl W) ?_
 unfold Md at h
 refine B4 (s0:=⟨T [(0,(.d _))],G []⟩) (F2 W W) ?_
 refine lr<|fun u1 _=>sm W<|sv W<|A1<|B0<|sv W<|A1<|A5<|B0<|sv W<|A1<|bs h fun y1 hy1 h=>D9 (fun s=> ∃g1:Nat,Sb ⟨T [(3,(oS y1 (20,g1)))],G [((20,g1),oB 3 1 A4 y1)]⟩ s) ?_ ?_
 refine A7<|E4 (Hq p1) (fun (x1:((List Int)×Int)) (g2:Nat)=>⟨T [(1,(.ptr (1,u1) 0)),(3,(oS x1.1 (20,g2))),(4,(di x1.2))],G [((1,u1),some<|.box 33 (L4 p1)),((20,g2),oB 3 1 A4 x1.1)]⟩) ([],0) 0 _ hy1 (E0 (Z7 W)<|B5 G_hit (.of W)<|S5 trivial) ?_
 intro x1 g2 z1 hz1 ez1
 unfold Hq at hz1
 refine A5<|B0<|sv W<|sq W<|sl W G_hit W<|sd W (D7 W)<|sv W<|A1<|cc W hz1 (fun c1 hz1=> ?_)<|fun c1 hz1=> ?_
 refine A8<|A5<|A7<|B0<|sd W (B1 W G_hit W W)<|sv W<|bs hz1 fun _ hv1 hz1=>A9 W W A3 (Wz _ _ _ hv1) (.inl W) (sd W (D7 W)<|sv W<|A1<|cc W hz1 (fun c2 hz1=> ?_)<|fun c2 hz1=> ?_)
 refine Br fun u6 _=>C0 (oS x1.1 (20,g2)) W W (sv W<|C0 (dl A4 [x1.2]) W W (bs hz1 fun _ hv2 hz1=>Q3 A4 (20,g2) x1.1 x1.2 [] _ (K7<|fun _=>W) W (gq W) hv2 (ss W<|A1<|E3<|B7<|sv W<|sv W<|sv W<|A1<|E2 ?_)))
 cases hz1
 exact ⟨W,u6,(E0 ⟨.of W,(.of (V1<|V4 hv2).symm), .of W,trivial⟩<|sg W<|N8 G_hit trivial)⟩
 refine A8<|E3<|B7<|sv W<|sv W<|sv W<|A1<|E2 ?_
 cases hz1
 exact ⟨W,g2,(E0 (Z7 W)<|B5 G_hit (.of W)<|B8 (gq W) trivial)⟩
 refine C8 W ?_
 cases hz1
 obtain rfl:=ez1 _ rfl
 refine ⟨nofun,C6 W<|U4 ?_⟩
 exact ⟨g2,(E0 ⟨.of W,trivial⟩<|B8 (gq W) trivial)⟩
 rintro _ ⟨g1,q1⟩
 refine B4 q1<|B0<|C0 (oS y1 (20,g1)) W W (C0 (oS y1 (20,g1)) W W (A1<|B2 ?_))
 cases h
 exact A6 (.inr W) (B6 (B3 W)<|T9 G_hit) T8
def Lj (p1:Map)(x1:(Int×Int× (List Int))):Option (Stp (Int×Int× (List Int)) (List Int)):=
  (C1 p1.Lanes x1.2.1).bind fun v6=>cond ((decide ((v6.Next.length:Int)>0))&& (decide ((x1.2.2.length:Int)<8))) ((C1 p1.Lanes x1.2.1).bind fun v7=>(C1 p1.Lanes x1.2.1).bind fun v8=>(Vq x1.1 (v7.Next.length:Int)).bind fun v9=>(C1 v8.Next v9).bind fun v10=>(PP .i64 x1.1 (v7.Next.length:Int)).bind fun v11=>(X6 x1.2.2 [v10]).bind fun v12=>some (.go (v11,v10,v12))) (some (.out x1.2.2))
def Ju [Lp](p1:Map)(p2:Int):Option (List Int):=
  (Md p1).bind fun v1=>cond ((v1.length:Int)==0) (some []) ((Pu p2 1048576).bind fun v2=>(Vq v2 (v1.length:Int)).bind fun v3=>(C1 v1 v3).bind fun v4=>(PP .i64 v2 (v1.length:Int)).bind fun v5=>(loop (Lj p1) (v5,v4,[v4])).bind fun y1=>some y1)
theorem Wc(p1 p2 r)(h:Ju p1 p2=some r):PCall prog 100 [(.agg (P7 p1)),(i64 p2)] (.list (List.map A4 r)):=by
 refine C4 (fk func100 ntmps100 (fun r=>if r==12 then [1002]else []) (by with_unfolding_all rfl)) (nl W) ?_
 unfold Ju at h
 refine B4 (s0:=⟨T [(0,(.d _)),(1,(.d _))],G []⟩) (F2 W W) ?_
 refine lr<|fun u1 _=>sm W<|sv W<|A1<|B0<|sd W (B1 W G_hit W W)<|bs h fun _ hv1 h=>A9 W W A3 (GB _ _ hv1) (.inl W) (sv W<|A1<|A5<|B0<|sv W<|sd W (D7 W)<|sv W<|A1<|cc W h (fun c1 h=> ?_)<|fun c1 h=> ?_)
 refine B0<|sv W<|A1<|B2 ?_
 cases h
 exact A6 (.inr W) (B6 (B3 W) C2) DLe.nil
 refine A8<|B0<|sv W<|bs h fun _ hv2 h=>A9 W W A3 (Pf _ _ _ hv2) (.inl W) (sv W<|A1<|B0<|sv W<|sv W<|sv W<|sd W (D7 W)<|bs h fun _ hv3 h=>sd W (AT W W hv3)<|bs h fun v4 hv4 h=>sd W (C5 W W hv4 W)<|sd W (C9 W hv4 W)<|sv W<|A1<|lr<|fun u7 _=>sv W<|Ot (.sl _) (.arr 3 1 (List.map A4 ([v4]:List Int))) W W (ss W<|A1<|B0<|sv W<|sv W<|sd W (D7 W)<|bs h fun v5 hv5 h=>sd W (fB W W hv5)<|sv W<|A1<|A5<|bs h fun y1 hy1 h=>D9 (fun s=> ∃g1:({d:Nat // d∈ [24,66]}×Nat),Sb ⟨T [(7,(oS y1 (g1.1.val,g1.2)))],G [((g1.1.val,g1.2),oB 3 1 A4 y1)]⟩ s) ?_ ?_))
 refine A7<|E4 (Lj p1) (fun (x1:(Int×Int× (List Int))) (g2:({d:Nat // d∈ [24,66]}×Nat))=>⟨T [(1,(di x1.1)),(2,(.ptr (2,u1) 0)),(6,(di x1.2.1)),(7,(oS x1.2.2 (g2.1.val,g2.2)))],G [((2,u1),some<|.box 33 (L4 p1)),((g2.1.val,g2.2),oB 3 1 A4 x1.2.2)]⟩) (v5,v4,[v4]) (⟨24, .head _⟩,u7) _ hy1 (E0 ⟨.of W, .of W, .of W,(.of (V1<|List.cons_ne_nil _ _).symm),trivial⟩<|sg W<|N8 G_hit trivial) ?_
 intro x1 g2 z1 hz1 ez1
 unfold Lj at hz1
 refine A5<|B0<|sq W<|sl W G_hit W<|sv W<|bs hz1 fun _ hv6 hz1=>sd W (C5 W W hv6 W)<|sv W<|sd W (C9 W hv6 W)<|sd W (D7 W)<|sv W<|sv W<|M8 _ (oS x1.2.2 (g2.1.val,g2.2)) W (M3 W) (fun _=>W) (gt W (fun w2=>(fC (f:=A4) (A2 w2) (F5 (AX g2.1.property W) G_hit)))<|gt W (vb W W W)<|sa W W W<|A1<|cc W hz1 (fun c2 hz1=> ?_)<|fun c2 hz1=> ?_)
 refine A8<|A7<|B0<|sq W<|sl W G_hit W<|sv W<|bs hz1 fun _ hv7 hz1=>sd W (C5 W W hv7 W)<|sv W<|sd W (C9 W hv7 W)<|sd W (D7 W)<|sv W<|A1<|A5<|E7 W<|sq W<|sl W G_hit W<|sv W<|bs hz1 fun _ hv8 hz1=>sd W (C5 W W hv8 W)<|sv W<|sd W (C9 W hv8 W)<|sv W<|sv W<|bs hz1 fun _ hv9 hz1=>sd W (AT W W hv9)<|bs hz1 fun v10 hv10 hz1=>sd W (C5 W W hv10 W)<|sd W (C9 W hv10 W)<|sv W<|A1<|B0<|sv W<|sv W<|bs hz1 fun _ hv11 hz1=>sd W (fB W W hv11)<|sv W<|A1<|Br fun u13 _=>C0 (oS x1.2.2 (g2.1.val,g2.2)) W W (sv W<|C0 (dl A4 [v10]) W W (bs hz1 fun _ hv12 hz1=>Q3 A4 (g2.1.val,g2.2) x1.2.2 v10 [] _ (K7<|fun _=>W) W (F5 (AX g2.1.property W) G_hit) hv12 (ss W<|A1<|E3<|E2 ?_)))
 cases hz1
 exact ⟨W,(⟨66, .tail _ (.head _)⟩,u13),(E0 ⟨.of W, .of W, .of W,(.of (V1<|V4 hv12).symm),trivial⟩<|B5 (F5 W<|F5 (CG g2.1.property W) G_hit) (.of W) (N8 G_hit trivial))⟩
 refine C8 W ?_
 cases hz1
 obtain rfl:=ez1 _ rfl
 refine ⟨nofun,C6 W<|U4 ?_⟩
 exact ⟨(g2.1,g2.2),(E0 ⟨.of W,trivial⟩<|B8 (F5 (AX g2.1.property W) G_hit) trivial)⟩
 rintro _ ⟨g1,q1⟩
 refine B4 q1<|B0<|C0 (oS y1 (g1.1.val,g1.2)) W W (C0 (oS y1 (g1.1.val,g1.2)) W W (A1<|B2 ?_))
 cases h
 exact A6 (.inr W) (B6 (B3 W)<|T9 G_hit) T8
def Pn (p1:Int)(p2:Int):Option Int:=
  (Vq p1 p2).bind fun v1=>cond (decide (v1<0)) (some (D3 (v1+p2))) (some v1)
theorem Wd(p1 p2 r)(h:Pn p1 p2=some r):PCall prog 46 [(i64 p1),(i64 p2)] (i64 r):=by
 refine C4 (fk func46 ntmps46 m0 (by with_unfolding_all rfl)) (nl W) ?_
 unfold Pn at h
 refine B4 (s0:=⟨T [(0,(.d _)),(1,(.d _))],G []⟩) (F2 W W) ?_
 refine B0<|sv W<|A1<|B0<|sv W<|sv W<|bs h fun _ hv1 h=>sd W (AT W W hv1)<|sv W<|A1<|A5<|B0<|sv W<|sv W<|A1<|cc W h (fun c1 h=> ?_)<|fun c1 h=> ?_
 refine B7<|sv W<|sv W<|sv W<|sv W<|A1<|B0<|sv W<|sv W<|A1<|B2 ?_
 cases h
 exact A6 (.inr W) (B6 (B3 W) C2) (.refl _)
 refine A8<|B0<|sv W<|sv W<|A1<|B2 ?_
 cases h
 exact A6 (.inr W) (B6 (B3 W) C2) (.refl _)
def Z5 [Lp](p1:Map)(p2:Int)(x1:Int):Option (Stp Int (Sum Unit (List Int))):=
  cond (decide (x1<4)) ((Pu p2 1048576).bind fun v1=>(Ju p1 (D3 (v1+x1))).bind fun v2=>((cond (decide ((v2.length:Int)>0)) (C1 v2 0) (some default))).bind fun v3=>((cond (decide ((v2.length:Int)>0)) (C1 p1.Lanes v3) (some default))).bind fun v4=>cond ((decide ((v2.length:Int)>0))&& (v4.Kind==1)) (some (.out (.inr v2))) (some (.go (D3 (x1+1))))) (some (.out (.inl ())))
def Dp [Lp](p1:Map)(p2:Int):Option (List Int):=
  thenS (loop (Z5 p1 p2) 0) (fun _=>(Ju p1 0).bind fun v5=>some v5) (fun r=>some r)
theorem GC(p1 p2 r)(h:Dp p1 p2=some r):PCall prog 101 [(.agg (P7 p1)),(i64 p2)] (.list (List.map A4 r)):=by
 refine C4 (fk func101 ntmps101 m0 (by with_unfolding_all rfl)) (nl W) ?_
 unfold Dp at h
 refine B4 (s0:=⟨T [(0,(.d _)),(1,(.d _))],G []⟩) (F2 W W) ?_
 refine lr<|fun u1 _=>sm W<|sv W<|A1<|A5<|B0<|sv W<|A1<|js h fun z1 hz1 h=>D9 (fun s=> ∃(y1:Unit) (g1:Unit),z1= .inl y1∧Sb ⟨T [(2,(.ptr (2,u1) 0))],G [((2,u1),some<|.box 33 (L4 p1))]⟩ s) ?_ ?_
 refine A7<|E4 (Z5 p1 p2) (fun (x1:Int) (g2:Unit)=>⟨T [(1,(di p2)),(2,(.ptr (2,u1) 0)),(5,(di x1))],G [((2,u1),some<|.box 33 (L4 p1))]⟩) 0 () _ hz1 (F2 W W) ?_
 intro x1 g2 z2 hz2 ez2
 unfold Z5 at hz2
 refine A5<|B0<|sv W<|sv W<|A1<|cc W hz2 (fun c1 hz2=> ?_)<|fun c1 hz2=> ?_
 refine A8<|A5<|A7<|A5<|E7 W<|sd W (B1 W G_hit W W)<|sv W<|bs hz2 fun _ hv1 hz2=>A9 W W A3 (Pf _ _ _ hv1) (.inl W) (sv W<|sv W<|bs hz2 fun _ hv2 hz2=>A9 W W A3 (Wc _ _ _ hv2) (.inl W) (sv W<|A1<|A5<|E7 W<|sv W<|sd W (D7 W)<|sv W<|sv W<|gp W (M3 W) (fun _=>W) (gt W (vl W G_hit W)<|gt W (fun _=>W)<|bs hz2 fun _ hv3 hz2=>gt W (fun w4=>(C5 (A2 w4) W (B9 w4 hv3) W))<|gt W (fun w5=>(C9 (A2 w5) (B9 w5 hv3) W))<|bs hz2 fun _ hv4 hz2=>gt W (fun w6=>(C5 (A2 w6) (A2 w6) (B9 w6 hv4) W)) ?_)))
 refine gt W (fun w7=>(by simp only [A2 w7];rfl)) ?_
 refine gt W (fun w8=>(C9 (A2 w8) (B9 w8 hv4) W))<|gt W (vb W W W)<|sa W W W<|A1<|cc W hz2 (fun c2 hz2=> ?_)<|fun c2 hz2=> ?_
 refine B0<|sv W<|sv W<|A1<|B2 ?_
 cases hz2
 obtain rfl:=ez2 _ rfl
 refine ⟨nofun,F4 ?_⟩
 rw [wE]at h
 cases h
 exact A6 (.inr W) (B6 (B3 W) C2) (.refl _)
 refine A8<|E3<|B7<|sv W<|sv W<|sv W<|A1<|E2 ?_
 cases hz2
 exact ⟨W,(),(F2 W W)⟩
 refine C8 W ?_
 cases hz2
 obtain rfl:=ez2 _ rfl
 refine ⟨nofun,C6 W<|U4 ?_⟩
 exact ⟨_,(),W,(F2 W W)⟩
 rintro _ ⟨y1,g1,rfl,q1⟩
 rw [wD]at h
 refine B4 q1<|B0<|sd W (B1 W G_hit W W)<|bs h fun _ hv5 h=>A9 W W A3 (Wc _ _ _ hv5) (.inl W) (sv W<|A1<|B2 ?_)
 cases h
 exact A6 (.inr W) (B6 (B3 W) C2) (.refl _)
def Rv [Lp](p1:Map)(p2:KitActor)(p3:Bool):Option Agent:=
  (Ju p1 p2.R).bind fun v1=>(Pn p2.Len 4700).bind fun v2=>(cond p3 ((Dp p1 p2.R).bind fun v3=>some (v3,false)) (some (v1,(!p2.Disobeys)))).bind fun y1=>(C1 y1.1 0).bind fun v4=>(C1 p1.Lanes v4).bind fun v5=>(Cc v5.Kind).bind fun v6=>(Pn p2.V (D3 (v6.1+1))).bind fun v7=>(cond (decide (v6.1<1000)) (some 300) (some (D3 (300+v2)))).bind fun y2=>(Y0 p1 y1.1).bind fun v8=>(Pn p2.S (D3 (v8+1))).bind fun v9=>((cond (!p3) (Pu p2.Begin 4) (some default))).bind fun v10=>cond ((!p3)&& (v10==3)) ((Pu p2.Begin 40).bind fun v11=>some (Agent.mk y1.1 0 v7 y2 v11 y1.2 false)) (some (Agent.mk y1.1 v9 v7 y2 0 y1.2 false))
theorem EP(p1 p2 p3 r)(h:Rv p1 p2 p3=some r):PCall prog 42 [(.agg (P7 p1)),(.agg (Pb p2)),(bo p3)] (.agg (D0 r)):=by
 refine C4 (fk func42 ntmps42 m0 (by with_unfolding_all rfl)) (nl W) ?_
 unfold Rv at h
 refine B4 (s0:=⟨T [(0,(.d _)),(1,(.d _)),(2,(.d _))],G []⟩) (F2 W W) ?_
 refine lr<|fun u1 _=>sm W<|sm W<|sn W W<|A1<|A5<|Nr W fun u2 _=>sd W (B1 W (gq W) W W)<|sq W<|sl W (gq W) W (bs h fun v1 hv1 h=>A9 W W A3 (Wc _ _ _ hv1) (.inl W) (sq W<|sl W (gq W) W (bs h fun v2 hv2 h=>A9 W W A3 (Wd _ _ _ hv2) (.inl W) (sv W<|sq W<|sl W (gq W) W (C0 (.d (bo (!p2.Disobeys))) W W (sv W<|sm W<|U0 W G_hit ([(dl A4 v1)]++ ((zs 4).set 2 (di<|D3 (300+v2)))++ [(.d (bo (!p2.Disobeys))),(.d (bo false))]) W (A1<|A5<|B0<|sv W<|A1<|bs h fun y1 hy1 h=>D9 (fun s=> ∃g1:Unit,Sb ⟨T [(2,(.d (bo p3))),(3,(.ptr (3,u1) 0)),(4,(.ptr (4,u1) 0)),(6,(.ptr (6,u1) 0)),(7,(.ptr (7,u2) 0))],G [((3,u1),some<|.box 33 (L4 p1)),((4,u1),some<|.box 73 (NP p2)),((6,u1),some<|.box 45 ([(.d .nilS)]++ (zs 4)++ [(.d (bo false)),(.d (bo false))])),((7,u2),some<|.box 45 ([(dl A4 y1.1)]++ ((zs 4).set 2 (di<|D3 (300+v2)))++ [(.d (bo y1.2)),(.d (bo false))]))]⟩ s) ?_ ?_)))))))
 refine cc W hy1 (fun c1 hy1=> ?_)<|fun c1 hy1=> ?_
 refine B7<|sd W (B1 W (gq W) W W)<|sq W<|sl W (gq W) W (bs hy1 fun v3 hv3 hy1=>A9 W W A3 (GC _ _ _ hv3) (.inl W) (sq W<|U0 W G_hit ([(dl A4 v3)]++ ((zs 4).set 2 (di<|D3 (300+v2)))++ [(.d (bo (!p2.Disobeys))),(.d (bo false))]) W (sq W<|U0 W G_hit ([(dl A4 v3)]++ ((zs 4).set 2 (di<|D3 (300+v2)))++ [(.d (bo false)),(.d (bo false))]) W (A1 ?_))))
 cases hy1
 exact U4 ⟨(),(F2 W W)⟩
 refine A8 ?_
 cases hy1
 exact U4 ⟨(),(F2 W W)⟩
 rintro _ ⟨g1,q1⟩
 refine B4 q1<|A5<|E7 W<|sq W<|sl W G_hit W<|sq W<|sl W (gq W) W (bs h fun _ hv4 h=>sd W (C5 W W hv4 W)<|sd W (C9 W hv4 W)<|bs h fun _ hv5 h=>sd W (C5 W W hv5 W)<|sv W<|sd W (C9 W hv5 W)<|bs h fun _ hv6 h=>A9 W W A3 (Je _ _ hv6) (.inl W) (sv W<|sv W<|sv W<|sv W<|sv W<|sv W<|sv W<|A1<|B0<|sq W<|sl W (gq W) W (sv W<|sv W<|bs h fun v7 hv7 h=>A9 W W A3 (Wd _ _ _ hv7) (.inl W) (sq W<|U0 W (gq W) [(dl A4 y1.1),(di 0),(di v7),(di<|D3 (300+v2)),(di 0),(.d (bo y1.2)),(.d (bo false))] W (A1<|A5<|B0<|sv W<|sv W<|A1<|bs h fun y2 hy2 h=>D9 (fun s=> ∃g2:Unit,Sb ⟨T [(2,(.d (bo p3))),(3,(.ptr (3,u1) 0)),(4,(.ptr (4,u1) 0)),(6,(.ptr (6,u1) 0)),(7,(.ptr (7,u2) 0))],G [((3,u1),some<|.box 33 (L4 p1)),((4,u1),some<|.box 73 (NP p2)),((6,u1),some<|.box 45 ([(.d .nilS)]++ (zs 4)++ [(.d (bo false)),(.d (bo false))])),((7,u2),some<|.box 45 [(dl A4 y1.1),(di 0),(di v7),(di y2),(di 0),(.d (bo y1.2)),(.d (bo false))])]⟩ s) ?_ ?_)))))
 refine cc W hy2 (fun c2 hy2=> ?_)<|fun c2 hy2=> ?_
 refine B7<|sq W<|U0 W G_hit [(dl A4 y1.1),(di 0),(di v7),(di 300),(di 0),(.d (bo y1.2)),(.d (bo false))] W (A1 ?_)
 cases hy2
 exact U4 ⟨(),(F2 W W)⟩
 refine A8 ?_
 cases hy2
 exact U4 ⟨(),(F2 W W)⟩
 rintro _ ⟨g2,q2⟩
 refine B4 q2<|A5<|E7 W<|sq W<|sl W (gq W) W (sd W (B1 W G_hit W W)<|sq W<|sl W (gq W) W (bs h fun _ hv8 h=>A9 W W A3 (Fq _ _ _ hv8) (.inl W) (sv W<|bs h fun v9 hv9 h=>A9 W W A3 (Wd _ _ _ hv9) (.inl W) (sq W<|U0 W (gq W) [(dl A4 y1.1),(di v9),(di v7),(di y2),(di 0),(.d (bo y1.2)),(.d (bo false))] W (A1<|A5<|B0<|sv W<|C0 (.d (bo (!p3))) W W (sv W<|gp W (M3 W) (fun _=>W) (gt W (vl W (gq W) W)<|bs h fun v10 hv10 h=> ?_)))))))
 refine N6 _ (i64 v10) (M3 W) (fun w3=>⟨_,[(di p2.Begin),(di 4)],_,_,(by simp only [A2 w3];rfl),W,A3,Pf _ _ _<|B9 w3 hv10,(.inl W)⟩) ?_
 refine gt W (vb W W W)<|sa W W W<|A1<|cc W h (fun c3 h=> ?_)<|fun c3 h=> ?_
 refine B7<|sq W<|sl W (gq W) W (bs h fun v11 hv11 h=>A9 W W A3 (Pf _ _ _ hv11) (.inl W) (sq W<|U0 W G_hit [(dl A4 y1.1),(di v9),(di v7),(di y2),(di v11),(.d (bo y1.2)),(.d (bo false))] W (sq W<|U0 W G_hit [(dl A4 y1.1),(di 0),(di v7),(di y2),(di v11),(.d (bo y1.2)),(.d (bo false))] W (A1<|B0<|sd W (B1 W G_hit W W)<|U0 W (gq W) [(dl A4 y1.1),(di 0),(di v7),(di y2),(di v11),(.d (bo y1.2)),(.d (bo false))] W (A1<|B2 ?_)))))
 cases h
 exact A6 (.inr W) (B6 (K2 W G_hit (nl W) W) C2) (.refl _)
 refine A8<|B0<|sd W (B1 W G_hit W W)<|U0 W (gq W) [(dl A4 y1.1),(di v9),(di v7),(di y2),(di 0),(.d (bo y1.2)),(.d (bo false))] W (A1<|B2 ?_)
 cases h
 exact A6 (.inr W) (B6 (K2 W G_hit (nl W) W) C2) (.refl _)
def Fv [Lp](p1:Map)(p2:(List KitActor))(x1:((List Agent)×Int×State)):Option (Stp ((List Agent)×Int×State) ((List Agent)×State)):=
  cond ((decide (x1.2.1< (p2.length:Int)))&& (decide ((x1.1.length:Int)<8))) ((X6 ([]:List Agent) x1.1).bind fun v2=>(C1 p2 x1.2.1).bind fun v3=>(Rv p1 v3 ((x1.1.length:Int)==0)).bind fun v4=>(X6 v2 [v4]).bind fun v5=>(Pm p1 v5).bind fun v6=>cond (v6.2==0) (some (.go (v6.1.Agents,(D3 (x1.2.1+1)),v6.1))) (some (.go (x1.1,(D3 (x1.2.1+1)),x1.2.2)))) (some (.out (x1.1,x1.2.2)))
def Rw [Lp](p1:Map)(p2:(List KitActor)):Option State:=
  (Pm p1 []).bind fun v1=>(loop (Fv p1 p2) ([],0,v1.1)).bind fun y1=>cond ((y1.1.length:Int)==0) ((Rv p1 (KitActor.mk 0 1048576 0 0 0 false) true).bind fun v7=>(Pm p1 [(Agent.mk v7.Route (D3 (v7.Len+1)) 0 v7.Len v7.Begin v7.Obey v7.Gone)]).bind fun v8=>some v8.1) (some y1.2)
theorem QC(p1 p2 r)(h:Rw p1 p2=some r):PCall prog 34 [(.agg (P7 p1)),(.list (List.map Pb p2))] (.agg (Bc r)):=by
 refine C4 (fk func34 ntmps34 (fun r=>if r==6 then [1006015,1013]else if r==12 then [1002]else []) (by with_unfolding_all rfl)) (nl W) ?_
 unfold Rw at h
 refine B4 (s0:=⟨T [(0,(.d _)),(1,(.d _))],G []⟩) (F2 W W) ?_
 refine lr<|fun u1 _=>sm W<|sm W<|A1<|B0<|sv W<|A1<|lr<|fun u3 _=>sd W (B1 W (gq W) W W)<|bs h fun v1 hv1 h=>A9 W W (.cons (.refl _) (.cons DLe.nil .nil)) (Wb _ _ _ hv1) (.inl W) (sv W<|sv W<|sv W<|sm W<|U0 W G_hit (J5 v1.1) W (sv W<|A1<|A5<|B0<|sv W<|A1<|bs h fun y1 hy1 h=>D9 (fun s=> ∃g1:Unit,Sb ⟨T [(2,(.ptr (2,u1) 0)),(4,(.ptr (4,u1) 0)),(5,(dl D0 y1.1)),(6,(.ptr (6,u3) 0))],G [((2,u1),some<|.box 33 (L4 p1)),((4,u1),some<|.box 25 [(di 0),(.d .nilS),(.d .nilS)]),((6,u3),some<|.box 25 (J5 y1.2))]⟩ s) ?_ ?_))
 refine A7<|E4 (Fv p1 p2) (fun (x1:((List Agent)×Int×State)) (g2:Unit)=>⟨T [(1,(dl Pb p2)),(2,(.ptr (2,u1) 0)),(4,(.ptr (4,u1) 0)),(5,(dl D0 x1.1)),(6,(.ptr (6,u3) 0)),(8,(di x1.2.1))],G [((2,u1),some<|.box 33 (L4 p1)),((4,u1),some<|.box 25 [(di 0),(.d .nilS),(.d .nilS)]),((6,u3),some<|.box 25 (J5 x1.2.2))]⟩) ([],0,v1.1) () _ hy1 (E0 ⟨.of W, .of W, .of W,(DLe.d DLe.nil), .of W, .of W,trivial⟩<|sg W<|sg W<|B5 G_hit (.of W) trivial) ?_
 intro x1 g2 z1 hz1 ez1
 unfold Fv at hz1
 refine A5<|B0<|sv W<|sv W<|sd W (D7 W)<|sv W<|sv W<|gt W (fun _=>W)<|gt W (fun w2=>(D7<|A2 w2))<|gt W (vb W W W)<|sa W W W<|A1<|cc W hz1 (fun c1 hz1=> ?_)<|fun c1 hz1=> ?_
 refine A8<|A5<|A7<|A5<|Rm fun u6 _=>N9 (.d _) W (B1 W G_hit W W) (HG (.sl _) (.arr 45 7 (List.map D0 ([]:List Agent))) W W (N9 (.d _) W W (bs hz1 fun _ hv2 hz1=>Ym D0 _ _ _ _ (K7<|fun _=>W) W G_hit hv2 (N9 (.d _) W (B1 W (gq W) W W) (N9 (.d _) W W (N9 (.d _) W W (bs hz1 fun _ hv3 hz1=>N9 (.d _) W (C5 W W hv3 W) (N9 (.d _) W (D4 W hv3 W W) (N9 (.d _) W W (N9 (.d _) W (D7 W) (N9 (.d _) W W (bs hz1 fun v4 hv4 hz1=>oC W W A3 (EP _ _ _ _ hv4) (.inl W) (N9 (dl D0 [v4]) W W (bs hz1 fun _ hv5 hz1=>Ym D0 _ _ _ _ (K7<|fun _=>W) W G_hit hv5 (bs hz1 fun v6 hv6 hz1=>oL (v:= .d (.tup [(.agg (Bc v6.1)),(i64 v6.2)])) (us:= [(43,u6)]) (kF [(43,u6)] (((43,u6),none)::_) W (rD<|E6 (HE G_hit) G1) A3 (Wb _ _ _ hv6) (Y6 CD<|Y6 EC Ub) W) (N9 (.d _) W W (N9 (.d _) W W (N9 (.d _) W W (HG (.ptr _ _) (.box _ _) W W (Vr _ _ _ _ _ W W W G_hit (nl W) (J5 v6.1) W (N9 (.d _) W W (DZ ⟨W,?_⟩))))))))))))))))))))))
 refine B0<|sv W<|sv W<|A1<|cc W hz1 (fun c2 hz1=> ?_)<|fun c2 hz1=> ?_
 refine Rm fun _ _=>N9 (.d _) W (B1 W G_hit W W) (N9 (.ptr _ _) W W (N9 (.d _) W (Q8 W G_hit W) (Vr _ _ _ _ _ W W W (gq W) (nl W) (J5 v6.1) W (N9 (.d _) W W (DZ ⟨W,?_⟩)))))
 refine E3<|B7<|sv W<|sv W<|sv W<|A1<|E2 ?_
 cases hz1
 exact ⟨W,(),(F2 W W)⟩
 refine A8<|E3<|B7<|sv W<|sv W<|sv W<|A1<|E2 ?_
 cases hz1
 exact ⟨W,(),(F2 W W)⟩
 refine C8 W ?_
 cases hz1
 obtain rfl:=ez1 _ rfl
 refine ⟨nofun,C6 W<|U4 ?_⟩
 exact ⟨(),(F2 W W)⟩
 rintro _ ⟨g1,q1⟩
 refine B4 q1<|A5<|B0<|sv W<|sd W (D7 W)<|sv W<|A1<|cc W h (fun c3 h=> ?_)<|fun c3 h=> ?_
 refine B0<|sd W (B1 W G_hit W W)<|sv W<|bs h fun v7 hv7 h=>A9 W W A3 (EP _ _ _ _ hv7) (.inl W) (sm W<|U0 W G_hit (T0 v7) W (A1<|B0<|sq W<|sl W G_hit W<|sv W<|sq W<|U0 W G_hit ((T0 v7).set 1 (di<|D3 (v7.Len+1))) W (sq W<|U0 W G_hit (((T0 v7).set 1 (di<|D3 (v7.Len+1))).set 2 (di 0)) W (A1<|B7<|sd W (B1 W (gq W) W W)<|sd W (B1 W G_hit W W)<|C0 (dl D0 [(Agent.mk v7.Route (D3 (v7.Len+1)) 0 v7.Len v7.Begin v7.Obey v7.Gone)]) W W (bs h fun v8 hv8 h=>A9 W W A3 (Wb _ _ _ hv8) (.inl W) (sv W<|sv W<|sv W<|U0 W (gq W) (J5 v8.1) W (A1<|B0<|sd W (B1 W G_hit W W)<|U0 W (gq W) (J5 v8.1) W (A1<|B2 ?_))))))))
 cases h
 exact A6 (.inr W) (B6 (K2 W G_hit (nl W) W) C2) (.refl _)
 refine A8<|B0<|sd W (B1 W (gq W) W W)<|U0 W (gq W) (J5 y1.2) W (A1<|B2 ?_)
 cases h
 exact A6 (.inr W) (B6 (K2 W G_hit (nl W) W) C2) (.refl _)
def Oh (p3:Int)(v1:(List Int))(x1:(Int×Int)):Option (Stp (Int×Int) Int):=
  cond (decide (x1.2< (v1.length:Int))) ((C1 v1 x1.2).bind fun v3=>cond (decide (v3≤p3)) (some (.go (x1.2,(D3 (x1.2+1))))) (some (.go (x1.1,(D3 (x1.2+1)))))) (some (.out x1.1))
def Qm [Lp](p1:Map)(p2:(List Int))(p3:Int):Option (Int×Int×Bool):=
  (Fr p1 p2).bind fun v1=>((cond (!((decide (p3<0))||((v1.length:Int)==0))) (Y0 p1 p2) (some default))).bind fun v2=>cond (((decide (p3<0))||((v1.length:Int)==0))||(decide (p3>v2))) (some (0,0,false)) ((loop (Oh p3 v1) (0,0)).bind fun y1=>(C1 p2 y1).bind fun v4=>(C1 v1 y1).bind fun v5=>some (v4,(D3 (p3 - v5)),true))
theorem KQ(p1 p2 p3 r)(h:Qm p1 p2 p3=some r):PCall prog 38 [(.agg (P7 p1)),(.list (List.map A4 p2)),(i64 p3)] (.tup [(i64 r.1),(i64 r.2.1),(bo r.2.2)]):=by
 refine C4 (fk func38 ntmps38 m0 (by with_unfolding_all rfl)) (nl W) ?_
 unfold Qm at h
 refine B4 (s0:=⟨T [(0,(.d _)),(1,(.d _)),(2,(.d _))],G []⟩) (F2 W W) ?_
 refine B0<|sm W<|sv W<|sv W<|sv W<|A1<|B0<|sd W (B1 W G_hit W W)<|sv W<|bs h fun v1 hv1 h=>A9 W W A3 (Mm _ _ _ hv1) (.inl W) (sv W<|A1<|A5<|B0<|sv W<|sv W<|sv W<|gf W (fun _=>W)<|gf W (fun w2=>(D7<|A2 w2))<|gf W (vb W W W)<|sd W (O2 W W<|fun hc=>A2<|J4 hc)<|sv W<|gf W (fun _=>W)<|gf W (fun _=>(B1 W G_hit W W))<|gf W (fun _=>W)<|bs h fun v2 hv2 h=> ?_)
 refine N6 _ (i64 v2) (K6 W) (fun w7=>⟨_,[(.d (.agg (P7 p1))),(dl A4 p2)],_,_,(by simp only [A2 w7];rfl),W,A3,Fq _ _ _<|B9 w7 hv2,(.inl W)⟩) ?_
 refine gf W (fun w8=>(M7 (A2 w8) (A2 w8) W))<|sd W (O2 W W<|fun hc=>A2<|J4 hc)<|A1<|cc W h (fun c1 h=> ?_)<|fun c1 h=> ?_
 refine B0<|sv W<|sv W<|sv W<|A1<|B2 ?_
 cases h
 exact A6 (.inr W) (Yj (B3 W) (B3 W) (B3 W) C2 C2 C2) (.refl _)
 refine A8<|B0<|sv W<|A1<|A5<|B0<|sv W<|A1<|bs h fun y1 hy1 h=>D9 (fun s=> ∃g1:Unit,Sb ⟨T [(1,(dl A4 p2)),(2,(di p3)),(9,(dl A4 v1)),(10,(di y1))],G []⟩ s) ?_ ?_
 refine A7<|E4 (Oh p3 v1) (fun (x1:(Int×Int)) (g2:Unit)=>⟨T [(1,(dl A4 p2)),(2,(di p3)),(9,(dl A4 v1)),(10,(di x1.1)),(11,(di x1.2))],G []⟩) (0,0) () _ hy1 (F2 W W) ?_
 intro x1 g2 z1 hz1 ez1
 unfold Oh at hz1
 refine A5<|B0<|sv W<|sv W<|sd W (D7 W)<|sv W<|A1<|cc W hz1 (fun c2 hz1=> ?_)<|fun c2 hz1=> ?_
 refine A8<|A5<|A7<|B0<|sv W<|sv W<|bs hz1 fun _ hv3 hz1=>sd W (C5 W W hv3 W)<|sd W (C9 W hv3 W)<|sv W<|sv W<|A1<|cc W hz1 (fun c3 hz1=> ?_)<|fun c3 hz1=> ?_
 refine B7<|sv W<|sv W<|A1<|E3<|B7<|sv W<|sv W<|sv W<|A1<|E2 ?_
 cases hz1
 exact ⟨W,(),(F2 W W)⟩
 refine A8<|E3<|B7<|sv W<|sv W<|sv W<|A1<|E2 ?_
 cases hz1
 exact ⟨W,(),(F2 W W)⟩
 refine C8 W ?_
 cases hz1
 obtain rfl:=ez1 _ rfl
 refine ⟨nofun,C6 W<|U4 ?_⟩
 exact ⟨(),(F2 W W)⟩
 rintro _ ⟨g1,q1⟩
 refine B4 q1<|A5<|E7 W<|sv W<|sv W<|bs h fun _ hv4 h=>sd W (C5 W W hv4 W)<|sd W (C9 W hv4 W)<|sv W<|sv W<|sv W<|bs h fun _ hv5 h=>sd W (C5 W W hv5 W)<|sd W (C9 W hv5 W)<|sv W<|sv W<|sv W<|sv W<|A1<|B2 ?_
 cases h
 exact A6 (.inr W) (Yj (B3 W) (B3 W) (B3 W) C2 C2 C2) (.refl _)
def Cl (x1:((List Int)×Int))(v2:(Part×Bool))(x2:Int):Option (Stp Int Int):=
  ((cond (decide (x2< (x1.1.length:Int))) (C1 x1.1 x2) (some default))).bind fun v5=>cond ((decide (x2< (x1.1.length:Int)))&& (decide (v5<v2.1.From))) (some (.go (D3 (x2+1)))) (some (.out x2))
def Cm [Lp](p1:Map)(p2:Int)(p3:Int)(x1:((List Int)×Int)):Option (Stp ((List Int)×Int) (List Int)):=
  cond (decide (x1.2< (p1.Zones.length:Int))) ((C1 p1.Zones x1.2).bind fun v1=>(Sr v1 p2).bind fun v2=>((cond (!((!v2.2)||(v1.Signal_==0))) (C1 p1.Signals (D3 (v1.Signal_ - 1))) (some default))).bind fun v3=>((cond (!((!v2.2)||(v1.Signal_==0))) (Ni v3 p2 p3) (some default))).bind fun v4=>cond (((!v2.2)||(v1.Signal_==0))||v4) (some (.go (x1.1,(D3 (x1.2+1))))) ((loop (Cl x1 v2) 0).bind fun y2=>((cond (decide (y2< (x1.1.length:Int))) (C1 x1.1 y2) (some default))).bind fun v6=>cond ((decide (y2< (x1.1.length:Int)))&& (v6==v2.1.From)) (some (.go (x1.1,(D3 (x1.2+1))))) ((AJ x1.1 0 y2).bind fun v7=>(X6 ([]:List Int) v7).bind fun v8=>(X6 v8 [v2.1.From]).bind fun v9=>(AJ x1.1 y2 (x1.1.length:Int)).bind fun v10=>(X6 v9 v10).bind fun v11=>some (.go (v11,(D3 (x1.2+1))))))) (some (.out x1.1))
def Tu [Lp](p1:Map)(p2:Int)(p3:Int):Option (List Int):=
  (loop (Cm p1 p2 p3) ([],0)).bind fun y1=>some y1
theorem KR(p1 p2 p3 r)(h:Tu p1 p2 p3=some r):PCall prog 99 [(.agg (P7 p1)),(i64 p2),(i64 p3)] (.list (List.map A4 r)):=by
 refine C4 (fk func99 ntmps99 (fun r=>if r==12 then [1007]else []) (by with_unfolding_all rfl)) (nl W) ?_
 unfold Tu at h
 refine B4 (s0:=⟨T [(0,(.d _)),(1,(.d _)),(2,(.d _))],G []⟩) (F2 W W) ?_
 refine lr<|fun u1 _=>sm W<|sv W<|A1<|B0<|sv W<|A1<|A5<|B0<|sv W<|A1<|bs h fun y1 hy1 h=>D9 (fun s=> ∃g1:Unit,Sb ⟨T [(7,(dl A4 y1))],G []⟩ s) ?_ ?_
 refine A7<|E4 (Cm p1 p2 p3) (fun (x1:((List Int)×Int)) (g2:Unit)=>⟨T [(1,(di p2)),(2,(di p3)),(3,(.ptr (3,u1) 0)),(7,(dl A4 x1.1)),(8,(di x1.2))],G [((3,u1),some<|.box 33 (L4 p1))]⟩) ([],0) () _ hy1 (E0 ⟨.of W, .of W, .of W,(DLe.d DLe.nil), .of W,trivial⟩<|B5 G_hit (.of W) trivial) ?_
 intro x1 g2 z1 hz1 ez1
 unfold Cm at hz1
 refine A5<|B0<|sv W<|sq W<|sl W G_hit W<|sd W (D7 W)<|sv W<|A1<|cc W hz1 (fun c1 hz1=> ?_)<|fun c1 hz1=> ?_
 refine A8<|A5<|A7<|B0<|sq W<|sl W G_hit W<|sv W<|bs hz1 fun v1 hv1 hz1=>sd W (C5 W W hv1 W)<|sd W (D4 W hv1 W W)<|sm W<|U0 W G_hit [(dl Bf v1.Parts),(di v1.Signal_)] W (A1<|lr<|fun u6 _=>sd W (B1 W G_hit W W)<|sv W<|bs hz1 fun v2 hv2 hz1=>A9 W W A3 (BH _ _ _ hv2) (.inl W) (sv W<|sv W<|sv W<|sm W<|U0 W G_hit (Tn v2.1) W (sv W<|A1<|A5<|B0<|sv W<|C0 (.d (bo (!v2.2))) W W (sv W<|gp W (K6 W) (fun _=>W) (gf W (vl W (gq W) W)<|gf W (vb W W W)<|sd W (O2 W W<|fun hc=>A2<|J4 hc)<|sv W<|gp W (K6 W) (fun _=>W) (gf W (vl W (gq W) W)<|gp W (K6 W) (fun _=>W) (gf W (vl W (gq W) W)<|gf W (vb W W W)<|bs hz1 fun v3 hv3 hz1=>gf W (fun w9=>(C5 (A2 w9) (A2 w9) (B9 w9 hv3) W))<|gf W (fun w10=>(D4 (A2 w10) (B9 w10 hv3) W W))<|gf W (fun _=>W)<|gf W (fun _=>W)<|bs hz1 fun v4 hv4 hz1=> ?_)))))))
 refine N6 _ (bo v4) (K6 W) (fun w13=>⟨_,[(.d (.agg [(i64 v3.Offset),(.list (List.map Bb v3.Phases))])),(di p2),(di p3)],_,_,(by simp only [A2 w13];rfl),W,A3,Ze _ _ _ _<|B9 w13 hv4,(.inl W)⟩) ?_
 refine sd W (O2 W W<|fun hc=>A2<|J4 hc)<|A1<|cc W hz1 (fun c2 hz1=> ?_)<|fun c2 hz1=> ?_
 refine Pa W<|B7<|sv W<|sv W<|sv W<|A1<|E2 ?_
 cases hz1
 exact ⟨W,(),(F2 W W)⟩
 refine A8<|B0<|sv W<|A1<|A5<|bs hz1 fun y2 hy2 hz1=>D9 (fun s=> ∃g3:Unit,Sb ⟨T [(1,(di p2)),(2,(di p3)),(3,(.ptr (3,u1) 0)),(7,(dl A4 x1.1)),(8,(di x1.2)),(10,(.ptr (10,u6) 0)),(12,(di y2))],G [((3,u1),some<|.box 33 (L4 p1)),((10,u6),some<|.box 114 (Tn v2.1))]⟩ s) ?_ ?_
 refine A7<|E4 (Cl x1 v2) (fun (x2:Int) (g4:Unit)=>⟨T [(1,(di p2)),(2,(di p3)),(3,(.ptr (3,u1) 0)),(7,(dl A4 x1.1)),(8,(di x1.2)),(10,(.ptr (10,u6) 0)),(12,(di x2))],G [((3,u1),some<|.box 33 (L4 p1)),((10,u6),some<|.box 114 (Tn v2.1))]⟩) 0 () _ hy2 (F2 W W) ?_
 intro x2 g4 z2 hz2 ez2
 unfold Cl at hz2
 refine A5<|A5<|E7 W<|sv W<|sv W<|sd W (D7 W)<|sv W<|sv W<|gt W (fun _=>W)<|gt W (fun _=>W)<|bs hz2 fun _ hv5 hz2=>gt W (fun w16=>(C5 (A2 w16) (A2 w16) (B9 w16 hv5) W))<|gt W (fun w17=>(C9 (A2 w17) (B9 w17 hv5) W))<|gp W (M3 W) (fun _=>W) (gt W (vl W (gq W) W)<|gt W (fun w20=>(M7 (A2 w20) (A2 w20) W))<|sa W W W<|A1<|cc W hz2 (fun c3 hz2=> ?_)<|fun c3 hz2=> ?_)
 refine A8<|A7<|B7<|sv W<|sv W<|sv W<|A1<|E3<|E2 ?_
 cases hz2
 exact ⟨W,(),(F2 W W)⟩
 refine C8 W ?_
 cases hz2
 obtain rfl:=ez2 _ rfl
 refine ⟨nofun,C6 W<|U4 ?_⟩
 exact ⟨(),(F2 W W)⟩
 rintro _ ⟨g3,q1⟩
 refine B4 q1<|A5<|A5<|E7 W<|sv W<|sv W<|sd W (D7 W)<|sv W<|sv W<|gt W (fun _=>W)<|gt W (fun _=>W)<|bs hz1 fun v6 hv6 hz1=>gt W (fun w23=>(C5 (A2 w23) (A2 w23) (B9 w23 hv6) W))<|gt W (fun w24=>(C9 (A2 w24) (B9 w24 hv6) W))<|gp W (M3 W) (fun _=>W) (gt W (vl W (gq W) W)<|gt W (fun w27=>(M7 (A2 w27) (A2 w27) W))<|sa W W W<|A1<|cc W hz1 (fun c4 hz1=> ?_)<|fun c4 hz1=> ?_)
 refine Pa W<|B7<|sv W<|sv W<|sv W<|A1<|E2 ?_
 cases hz1
 exact ⟨W,(),(F2 W W)⟩
 refine A8<|Rm fun u14 _=>HG (.sl _) (.arr 2 1 (List.map A4 ([]:List Int))) W W (N9 (.d _) W W (N9 (.d _) W W (bs hz1 fun v7 hv7 hz1=>N9 (.d _) W (fD W (fun _=>W) nZ (oA W) hv7) (bs hz1 fun _ hv8 hz1=>Ym A4 _ _ _ _ (K7<|fun _=>W) W G_hit hv8 (N9 (.ptr _ _) W W (N9 (.d _) W (Q8 W (gq W) W) (N9 (dl A4 [v2.1.From]) W W (bs hz1 fun _ hv9 hz1=>Ym A4 _ _ _ _ (K7<|fun _=>W) W G_hit hv9 (N9 (.d _) W W (N9 (.d _) W W (bs hz1 fun v10 hv10 hz1=>N9 (.d _) W (fD W (fun _=>W) (oA W) fE hv10) (bs hz1 fun v11 hv11 hz1=>Ym A4 _ _ _ _ (K7<|fun _=>W) W G_hit hv11 (N9 (.sl _) W W (DZ ⟨W,?_⟩))))))))))))))
 refine E3<|oO [(90,u14)] [(1,(di p2)),(2,(di p3)),(3,(.ptr (3,u1) 0)),(7,(dl A4 v11)),(8,(di x1.2)),(10,(.ptr (10,u6) 0)),(12,(di y2)),(65,(di y2)),(66,(dl A4 x1.1)),(67,(di (x1.1.length:Int))),(68,(.d (bo<|decide (y2< (x1.1.length:Int))))),(69,(.d (bo<|decide (y2< (x1.1.length:Int))))),(77,(.d (bo ((decide (y2< (x1.1.length:Int)))&& (v6==v2.1.From))))),(79,(dl A4 x1.1)),(80,(di y2)),(81,(dl A4 v7)),(83,(.ptr (10,u6) 1)),(84,(di v2.1.From)),(85,(dl A4 [v2.1.From])),(87,(dl A4 x1.1)),(88,(di y2)),(89,(dl A4 v10)),(90,(dl A4 v11))] [((3,u1),some<|.box 33 (L4 p1)),((10,u6),some<|.box 114 (Tn v2.1))] ⟨U5 W,U5 W,U5 W,(ZW (HE<|KD (.head _) G_hit)<|.refl _),U5 W,U5 W,U5 W,U5 W,U5 W,U5 W,U5 W,U5 W,U5 W,U5 W,U5 W,U5 W,U5 W,U5 W,U5 W,U5 W,U5 W,U5 W,(ZW (HE<|KD (.head _) G_hit)<|.refl _),trivial⟩ (CJ (gq W) (Ka (Ls W) Sh) (CJ (gq W) (Ka (Ls W) Sh) trivial)) (B7<|sv W<|sv W<|sv W<|A1<|E2 ?_)
 cases hz1
 exact ⟨W,(),(F2 W W)⟩
 refine C8 W ?_
 cases hz1
 obtain rfl:=ez1 _ rfl
 refine ⟨nofun,C6 W<|U4 ?_⟩
 exact ⟨(),(F2 W W)⟩
 rintro _ ⟨g1,q2⟩
 refine B4 q2<|B0<|sv W<|sv W<|A1<|B2 ?_
 cases h
 exact A6 (.inr W) (B6 (B3 W) C2) (.refl _)
def Nj [Lp](p1:Map)(p2:Int)(p3:Int):Option (List Int):=
  (Mu p1 p2).bind fun v1=>cond ((!v1)||(decide (p3<0))) (some []) ((Tu p1 p2 p3).bind fun v2=>some v2)
theorem QD(p1 p2 p3 r)(h:Nj p1 p2 p3=some r):PCall prog 40 [(.agg (P7 p1)),(i64 p2),(i64 p3)] (.list (List.map A4 r)):=by
 refine C4 (fk func40 ntmps40 m0 (by with_unfolding_all rfl)) (nl W) ?_
 unfold Nj at h
 refine B4 (s0:=⟨T [(0,(.d _)),(1,(.d _)),(2,(.d _))],G []⟩) (F2 W W) ?_
 refine B0<|sm W<|sv W<|A1<|A5<|B0<|sd W (B1 W G_hit W W)<|sv W<|bs h fun v1 hv1 h=>A9 W W A3 (Uk _ _ _ hv1) (.inl W) (C0 (.d (bo (!v1))) W W (sv W<|gf W (fun _=>W)<|gf W (vb W W W)<|sd W (O2 W W<|fun hc=>A2<|J4 hc)<|A1<|cc W h (fun c1 h=> ?_)<|fun c1 h=> ?_))
 refine B0<|sv W<|A1<|B2 ?_
 cases h
 exact A6 (.inr W) (B6 (B3 W) C2) DLe.nil
 refine A8<|B0<|sd W (B1 W G_hit W W)<|sv W<|sv W<|bs h fun _ hv2 h=>A9 W W A3 (KR _ _ _ _ hv2) (.inl W) (sv W<|A1<|B2 ?_)
 cases h
 exact A6 (.inr W) (B6 (B3 W) C2) (.refl _)
def X8 (v5:(State× (List Crash)×Int))(x2:Int)(v6:Agent)(v7:(Int×Int×Bool))(v10:(Int×Int×Int))(v11:(List Int))(x3:Int):Option (Stp Int (Sum Unit Bool)):=
  cond (decide (x3< (v11.length:Int))) ((C1 v11 x3).bind fun v12=>((cond (!(decide (v12≤v7.2.1))) (Iq v6.V v10.2.2) (some default))).bind fun v13=>((cond (!(decide (v12≤v7.2.1))) (C1 v11 x3) (some default))).bind fun v14=>cond ((decide (v12≤v7.2.1))||(decide ((D3 (v7.2.1+v13))≥v14))) (some (.go (D3 (x3+1)))) ((C1 v5.1.Agents x2).bind fun v15=>(C1 v11 x3).bind fun v16=>((cond (!(decide ((D3 ((D3 (v7.2.1+v15.S)) - v6.S))≥v16))) (C1 v5.1.Agents x2) (some default))).bind fun v17=>((cond (!(decide ((D3 ((D3 (v7.2.1+v15.S)) - v6.S))≥v16))) (Iq v17.V v10.2.2) (some default))).bind fun v18=>((cond (!(decide ((D3 ((D3 (v7.2.1+v15.S)) - v6.S))≥v16))) (C1 v11 x3) (some default))).bind fun v19=>cond ((decide ((D3 ((D3 (v7.2.1+v15.S)) - v6.S))≥v16))||(decide ((D3 ((D3 ((D3 (v7.2.1+v15.S)) - v6.S))+v18))≥v19))) (some (.out (.inr false))) (some (.go (D3 (x3+1)))))) (some (.out (.inl ())))
def V3 [Lp](v2:Map)(x1:(Int×State))(v5:(State× (List Crash)×Int))(x2:Int):Option (Stp Int (Sum Unit Bool)):=
  cond (decide (x2< (x1.2.Agents.length:Int))) ((C1 x1.2.Agents x2).bind fun v6=>(Qm v2 v6.Route v6.S).bind fun v7=>((cond (!(!v6.Obey)) (Fs x1.2 x2) (some default))).bind fun v8=>cond (((!v6.Obey)||(!v8))||(!v7.2.2)) (some (.go (D3 (x2+1)))) ((C1 v2.Lanes v7.1).bind fun v9=>(Cc v9.Kind).bind fun v10=>(Nj v2 v7.1 x1.2.Tick).bind fun v11=>thenS (loop (X8 v5 x2 v6 v7 v10 v11) 0) (fun _=>some (.go (D3 (x2+1)))) (fun r=>some (.out (.inr r))))) (some (.out (.inl ())))
def X9 [Lp](p4:(List Int))(v2:Map)(x1:(Int×State)):Option (Stp (Int×State) (Sum Unit Bool)):=
  cond (decide (x1.1≥0)) ((Ir v2 x1.2 p4).bind fun v5=>cond ((v5.2.2 !=0)||((v5.1.Agents.length:Int) !=(x1.2.Agents.length:Int))) (some (.out (.inr false))) (thenS (loop (V3 v2 x1 v5) 1) (fun _=>some (.go ((D3 (x1.1 - 1)),v5.1))) (fun r=>some (.out (.inr r))))) (some (.out (.inl ())))
def Lk [Lp](p1:Int)(p2:(List KitActor))(p3:Int)(p4:(List Int)):Option Bool:=
  cond ((decide ((p2.length:Int)>7))||(decide ((p4.length:Int)>8))) ((If).bind fun v1=>some v1) ((Zz p1).bind fun v2=>(Rw v2 p2).bind fun v3=>(Pu p3 31).bind fun v4=>thenS (loop (X9 p4 v2) (v4,v3)) (fun _=>(If).bind fun v20=>some v20) (fun r=>some r))
theorem AN(p1 p2 p3 p4 r)(h:Lk p1 p2 p3 p4=some r):PCall prog 8 [(i64 p1),(.list (List.map Pb p2)),(i64 p3),(.list (List.map A4 p4))] (bo r):=by
 refine C4 (fk func8 ntmps8 m0 (by with_unfolding_all rfl)) (nl W) ?_
 unfold Lk at h
 refine B4 (s0:=⟨T [(0,(.d _)),(1,(.d _)),(2,(.d _)),(3,(.d _))],G []⟩) (F2 W W) ?_
 refine B0<|sv W<|A1<|A5<|B0<|sv W<|sd W (D7 W)<|sv W<|sv W<|gf W (fun _=>W)<|gf W (fun w2=>(D7<|A2 w2))<|gf W (vb W W W)<|sd W (O2 W W<|fun hc=>A2<|J4 hc)<|A1<|cc W h (fun c1 h=> ?_)<|fun c1 h=> ?_
 refine B0<|bs h fun _ hv1 h=>A9 W W A3 (Zb _ hv1) (.inl W) (sv W<|A1<|B2 ?_)
 cases h
 exact A6 (.inr W) (B6 (B3 W) C2) (.refl _)
 refine A8<|lr<|fun u4 _=>sv W<|bs h fun v2 hv2 h=>A9 W W A3 (VY _ _ hv2) (.inl W) (sm W<|U0 W G_hit (L4 v2) W (A1<|lr<|fun u5 _=>sd W (B1 W G_hit W W)<|sv W<|bs h fun v3 hv3 h=>A9 W W A3 (QC _ _ _ hv3) (.inl W) (sm W<|U0 W G_hit (J5 v3) W (A1<|A5<|B0<|sv W<|bs h fun v4 hv4 h=>A9 W W A3 (Pf _ _ _ hv4) (.inl W) (sv W<|A1<|js h fun z1 hz1 h=>D9 (fun s=> ∃(y1:Unit) (g1:Unit),z1= .inl y1∧Sb ⟨T [],G []⟩ s) ?_ ?_)))))
 refine A7<|E4 (X9 p4 v2) (fun (x1:(Int×State)) (g2:Unit)=>⟨T [(3,(dl A4 p4)),(9,(.ptr (9,u4) 0)),(10,(.ptr (10,u5) 0)),(11,(di x1.1))],G [((9,u4),some<|.box 33 (L4 v2)),((10,u5),some<|.box 25 (J5 x1.2))]⟩) (v4,v3) () _ hz1 (F2 W W) ?_
 intro x1 g2 z2 hz2 ez2
 unfold X9 at hz2
 refine A5<|B0<|sv W<|sv W<|A1<|cc W hz2 (fun c2 hz2=> ?_)<|fun c2 hz2=> ?_
 refine A8<|A5<|A7<|lr<|fun u8 _=>sd W (B1 W G_hit W W)<|sd W (B1 W (gq W) W W)<|sv W<|bs hz2 fun v5 hv5 hz2=>A9 W W A3 (BF _ _ _ _ hv5) (.inl W) (sv W<|sv W<|sv W<|sv W<|sm W<|U0 W G_hit (J5 v5.1) W (sv W<|sv W<|A1<|A5<|B0<|sv W<|sv W<|sv W<|gp W (K6 W) (fun _=>W) (gf W (vl W G_hit W)<|gf W (fun w6=>(D7<|A2 w6))<|gp W (K6 W) (fun _=>W) (gf W (vl W (gq W) W)<|gf W (fun w9=>(D7<|A2 w9))<|gf W (fun w10=>(M7 (A2 w10) (A2 w10) W))<|sd W (O2 W W<|fun hc=>A2<|J4 hc)<|A1<|cc W hz2 (fun c3 hz2=> ?_)<|fun c3 hz2=> ?_))))
 refine B0<|sv W<|A1<|B2 ?_
 cases hz2
 obtain rfl:=ez2 _ rfl
 refine ⟨nofun,F4 ?_⟩
 rw [wE]at h
 cases h
 exact A6 (.inr W) (B6 (B3 W) C2) (.refl _)
 refine A8<|A5<|B0<|sv W<|A1<|js hz2 fun z3 hz3 hz2=>D9 (fun s=> ∃(y2:Unit) (g3:Unit),z3= .inl y2∧Sb ⟨T [(3,(dl A4 p4)),(9,(.ptr (9,u4) 0)),(10,(.ptr (10,u5) 0)),(11,(di x1.1)),(12,(.ptr (12,u8) 0))],G [((9,u4),some<|.box 33 (L4 v2)),((10,u5),some<|.box 25 (J5 x1.2)),((12,u8),some<|.box 25 (J5 v5.1))]⟩ s) ?_ ?_
 refine A7<|E4 (V3 v2 x1 v5) (fun (x2:Int) (g4:Unit)=>⟨T [(3,(dl A4 p4)),(9,(.ptr (9,u4) 0)),(10,(.ptr (10,u5) 0)),(11,(di x1.1)),(12,(.ptr (12,u8) 0)),(15,(di x2))],G [((9,u4),some<|.box 33 (L4 v2)),((10,u5),some<|.box 25 (J5 x1.2)),((12,u8),some<|.box 25 (J5 v5.1))]⟩) 1 () _ hz3 (F2 W W) ?_
 intro x2 g4 z4 hz4 ez4
 unfold V3 at hz4
 refine A5<|B0<|sv W<|sq W<|sl W (gq W) W (sd W (D7 W)<|sv W<|A1<|cc W hz4 (fun c4 hz4=> ?_)<|fun c4 hz4=> ?_)
 refine A8<|A5<|A7<|lr<|fun u13 _=>sq W<|sl W (gq W) W (sv W<|bs hz4 fun v6 hv6 hz4=>sd W (C5 W W hv6 W)<|sd W (D4 W hv6 W W)<|sm W<|U0 W G_hit (T0 v6) W (A1<|B0<|sd W (B1 W (gq W) W W)<|sq W<|sl W G_hit W<|sq W<|sl W G_hit W<|bs hz4 fun v7 hv7 hz4=>A9 W W A3 (KQ _ _ _ _ hv7) (.inl W) (sv W<|sv W<|sv W<|sv W<|sv W<|sv W<|sv W<|A1<|A5<|B0<|sq W<|sl W G_hit W<|C0 (.d (bo (!v6.Obey))) W W (sv W<|gf W (fun _=>(B1 W (gq W) W W))<|gf W (fun _=>W)<|bs hz4 fun v8 hv8 hz4=> ?_))))
 refine N6 _ (bo v8) (K6 W) (fun w13=>⟨_,[(.d (.agg (Bc x1.2))),(di x2)],_,_,(by simp only [A2 w13];rfl),W,A3,Og _ _ _<|B9 w13 hv8,(.inl W)⟩) ?_
 refine M8 _ (.d (bo (!v8))) W (K6 W) (fun w14=>(by simp only [A2 w14];rfl)) ?_
 refine sd W (O2 W W<|fun hc=>A2<|J4 hc)<|sv W<|gf W (fun _=>W) ?_
 refine M8 _ (.d (bo (!v7.2.2))) W (K6 W) (fun w16=>(by simp only [A2 w16];rfl)) ?_
 refine sd W (O2 W W<|fun hc=>A2<|J4 hc)<|A1<|cc W hz4 (fun c5 hz4=> ?_)<|fun c5 hz4=> ?_
 refine Pa W<|B7<|sv W<|sv W<|sv W<|A1<|E2 ?_
 cases hz4
 exact ⟨W,(),(F2 W W)⟩
 refine A8<|B0<|sq W<|sl W (gq W) W (sv W<|bs hz4 fun _ hv9 hz4=>sd W (C5 W W hv9 W)<|sv W<|sd W (C9 W hv9 W)<|bs hz4 fun v10 hv10 hz4=>A9 W W A3 (Je _ _ hv10) (.inl W) (sv W<|sv W<|sv W<|sv W<|sv W<|sv W<|sv W<|A1<|B0<|sd W (B1 W (gq W) W W)<|sv W<|sq W<|sl W (gq W) W (bs hz4 fun v11 hv11 hz4=>A9 W W A3 (QD _ _ _ _ hv11) (.inl W) (sv W<|A1<|B0<|sv W<|A1<|js hz4 fun z5 hz5 hz4=>D9 (fun s=> ∃(y3:Unit) (g5:Unit),z5= .inl y3∧Sb ⟨T [(3,(dl A4 p4)),(9,(.ptr (9,u4) 0)),(10,(.ptr (10,u5) 0)),(11,(di x1.1)),(12,(.ptr (12,u8) 0)),(15,(di x2))],G [((9,u4),some<|.box 33 (L4 v2)),((10,u5),some<|.box 25 (J5 x1.2)),((12,u8),some<|.box 25 (J5 v5.1))]⟩ s) ?_ ?_))))
 refine A7<|E4 (X8 v5 x2 v6 v7 v10 v11) (fun (x3:Int) (g6:Unit)=>⟨T [(3,(dl A4 p4)),(9,(.ptr (9,u4) 0)),(10,(.ptr (10,u5) 0)),(11,(di x1.1)),(12,(.ptr (12,u8) 0)),(15,(di x2)),(16,(.ptr (16,u13) 0)),(18,(di v7.2.1)),(22,(di v10.2.2)),(23,(dl A4 v11)),(24,(di x3))],G [((9,u4),some<|.box 33 (L4 v2)),((10,u5),some<|.box 25 (J5 x1.2)),((12,u8),some<|.box 25 (J5 v5.1)),((16,u13),some<|.box 45 (T0 v6))]⟩) 0 () _ hz5 (F2 W W) ?_
 intro x3 g6 z6 hz6 ez6
 unfold X8 at hz6
 refine A5<|B0<|sv W<|sv W<|sd W (D7 W)<|sv W<|A1<|cc W hz6 (fun c6 hz6=> ?_)<|fun c6 hz6=> ?_
 refine A8<|A5<|A7<|A5<|A5<|E7 W<|sv W<|sv W<|bs hz6 fun _ hv12 hz6=>sd W (C5 W W hv12 W)<|sd W (C9 W hv12 W)<|sv W<|sv W<|sv W<|gf W (fun _=>W)<|gp W (K6 W) (fun _=>W) (gf W (vl W (gq W) W)<|gf W (fun _=>W)<|bs hz6 fun v13 hv13 hz6=> ?_)
 refine N6 _ (i64 v13) (K6 W) (fun w21=>⟨_,[(di v6.V),(di v10.2.2)],_,_,(by simp only [A2 w21];rfl),W,A3,Mb _ _ _<|B9 w21 hv13,(.inl W)⟩) ?_
 refine gf W (fun w22=>(M7 (A2 w22) (A2 w22) W))<|gf W (fun _=>W)<|gf W (fun _=>W)<|bs hz6 fun _ hv14 hz6=>gf W (fun w25=>(C5 (A2 w25) (A2 w25) (B9 w25 hv14) W))<|gf W (fun w26=>(C9 (A2 w26) (B9 w26 hv14) W))<|gf W (fun w27=>(M7 (A2 w27) (A2 w27) W))<|sd W (O2 W W<|fun hc=>A2<|J4 hc)<|A1<|cc W hz6 (fun c7 hz6=> ?_)<|fun c7 hz6=> ?_
 refine Pa W<|B7<|sv W<|sv W<|sv W<|A1<|E2 ?_
 cases hz6
 exact ⟨W,(),(F2 W W)⟩
 refine A8<|A5<|E7 W<|sv W<|sq W<|sl W (gq W) W (sv W<|bs hz6 fun _ hv15 hz6=>sd W (C5 W W hv15 W)<|sv W<|sd W (C9 W hv15 W)<|sv W<|sq W<|sl W (gq W) W (sv W<|sv W<|A1<|A5<|E7 W<|sv W<|sv W<|sv W<|bs hz6 fun _ hv16 hz6=>sd W (C5 W W hv16 W)<|sd W (C9 W hv16 W)<|sv W<|sv W<|gf W (fun _=>W)<|gp W (K6 W) (fun _=>W) (gf W (vl W (gq W) W)<|gf W (fun _=>W)<|bs hz6 fun v17 hv17 hz6=>gf W (fun w32=>(C5 (A2 w32) (A2 w32) (B9 w32 hv17) W)) ?_)))
 refine gf W (fun w33=>(by simp only [A2 w33];rfl)) ?_
 refine gf W (fun w34=>(C9 (A2 w34) (B9 w34 hv17) W))<|gf W (fun _=>W)<|bs hz6 fun v18 hv18 hz6=> ?_
 refine N6 _ (i64 v18) (K6 W) (fun w36=>⟨_,[(di v17.V),(di v10.2.2)],_,_,(by simp only [A2 w36];rfl),W,A3,Mb _ _ _<|B9 w36 hv18,(.inl W)⟩) ?_
 refine gf W (fun w37=>(M7 (A2 w37) (A2 w37) W))<|gf W (fun _=>W)<|gf W (fun _=>W)<|bs hz6 fun _ hv19 hz6=>gf W (fun w40=>(C5 (A2 w40) (A2 w40) (B9 w40 hv19) W))<|gf W (fun w41=>(C9 (A2 w41) (B9 w41 hv19) W))<|gf W (fun w42=>(M7 (A2 w42) (A2 w42) W))<|sd W (O2 W W<|fun hc=>A2<|J4 hc)<|A1<|cc W hz6 (fun c8 hz6=> ?_)<|fun c8 hz6=> ?_
 refine B0<|sv W<|A1<|B2 ?_
 cases hz6
 obtain rfl:=ez6 _ rfl
 refine ⟨nofun,F4 ?_⟩
 rw [wE]at hz4
 cases hz4
 obtain rfl:=ez4 _ rfl
 refine ⟨nofun,F4 ?_⟩
 rw [wE]at hz2
 cases hz2
 obtain rfl:=ez2 _ rfl
 refine ⟨nofun,F4 ?_⟩
 rw [wE]at h
 cases h
 exact A6 (.inr W) (B6 (B3 W) C2) (.refl _)
 refine A8<|E3<|B7<|sv W<|sv W<|sv W<|A1<|E2 ?_
 cases hz6
 exact ⟨W,(),(F2 W W)⟩
 refine C8 W ?_
 cases hz6
 obtain rfl:=ez6 _ rfl
 refine ⟨nofun,C6 W<|U4 ?_⟩
 exact ⟨_,(),W,(F2 W W)⟩
 rintro _ ⟨y3,g5,rfl,q1⟩
 rw [wD]at hz4
 refine E3<|B4 q1<|B7<|sv W<|sv W<|sv W<|A1<|E2 ?_
 cases hz4
 exact ⟨W,(),(F2 W W)⟩
 refine C8 W ?_
 cases hz4
 obtain rfl:=ez4 _ rfl
 refine ⟨nofun,C6 W<|U4 ?_⟩
 exact ⟨_,(),W,(F2 W W)⟩
 rintro _ ⟨y2,g3,rfl,q2⟩
 rw [wD]at hz2
 refine B4 q2<|B7<|sd W (B1 W (gq W) W W)<|U0 W (gq W) (J5 v5.1) W (A1<|E3<|B7<|sv W<|sv W<|sv W<|A1<|E2 ?_)
 cases hz2
 exact ⟨W,(),(F2 W W)⟩
 refine C8 W ?_
 cases hz2
 obtain rfl:=ez2 _ rfl
 refine ⟨nofun,C6 W<|U4 ?_⟩
 exact ⟨_,(),W,(F2 W W)⟩
 rintro _ ⟨y1,g1,rfl,q3⟩
 rw [wD]at h
 refine B4 q3<|B0<|bs h fun _ hv20 h=>A9 W W A3 (Zb _ hv20) (.inl W) (sv W<|A1<|B2 ?_)
 cases h
 exact A6 (.inr W) (B6 (B3 W) C2) (.refl _)
end
end Go.Abs.World
