/-
  The functions, part 4.
-/
import Derived.Test.YtgjdiioennhoeaaGreatFns3
set_option maxRecDepth 20000
set_option maxHeartbeats 4000000
set_option linter.unusedVariables false
namespace Go.Abs.World
noncomputable section
open Go Go.Abs Go.Proofs Tryz
attribute [local irreducible] L6 Ew Cw
def Jc [Lp](p1:Map)(p2:Int)(x1:((List Int)×Int)):Option (Stp ((List Int)×Int) (List Int)):=
  cond (decide (x1.2< (p1.Lanes.length:Int))) ((C0 p1.Lanes x1.2).bind fun v1=>(Ow v1.Next p2).bind fun v2=>cond v2 ((X3 x1.1 [x1.2]).bind fun v3=>some (.go (v3,(D6 (x1.2+1))))) (some (.go (x1.1,(D6 (x1.2+1)))))) (some (.out x1.1))
def Kv [Lp](p1:Map)(p2:Int):Option (List Int):=
  (loop (Jc p1 p2) ([],0)).bind fun y1=>some y1
theorem Wu(p1 p2 r)(h:Kv p1 p2=some r):PCall prog 189 [(.agg (Q0 p1)),(i64 p2)] (.list (List.map A4 r)):=by
 refine C4 (fk func189 ntmps189 (fun r=>if r==6 then [1002]else []) (by with_unfolding_all rfl)) (nl W) ?_
 unfold Kv at h
 refine B4 (s0:=⟨T [(0,(.d _)),(1,(.d _))],G []⟩) (F3 W W) ?_
 refine lr<|fun u1 _=>sm W<|sv W<|A1<|B0<|sv W<|A1<|A5<|B0<|sv W<|A1<|bs h fun y1 hy1 h=>D9 (fun s=> ∃g1:Nat,Sb ⟨T [(5,(oS y1 (25,g1)))],G [((25,g1),oB 3 1 A4 y1)]⟩ s) ?_ ?_
 refine A7<|E3 (Jc p1 p2) (fun (x1:((List Int)×Int)) (g2:Nat)=>⟨T [(1,(di p2)),(2,(.ptr (2,u1) 0)),(5,(oS x1.1 (25,g2))),(6,(di x1.2))],G [((2,u1),some<|.box 33 (L8 p1)),((25,g2),oB 3 1 A4 x1.1)]⟩) ([],0) 0 _ hy1 (E1 (Z1 W)<|B5 G_hit (.of W)<|S4 trivial) ?_
 intro x1 g2 z1 hz1 ez1
 unfold Jc at hz1
 refine A5<|B0<|sv W<|sq W<|sl W G_hit W<|sd W (D8 W)<|sv W<|A1<|cc W hz1 (fun c1 hz1=> ?_)<|fun c1 hz1=> ?_
 refine A8<|A5<|A7<|B0<|sq W<|sl W G_hit W<|sv W<|bs hz1 fun _ hv1 hz1=>sd W (C5 W W hv1 W)<|sv W<|sd W (C9 W hv1 W)<|sv W<|bs hz1 fun _ hv2 hz1=>A9 W W A3 (Vu _ _ _ hv2) (.inl W) (A1<|cc W hz1 (fun c2 hz1=> ?_)<|fun c2 hz1=> ?_)
 refine Bj fun u6 _=>B9 (oS x1.1 (25,g2)) W W (sv W<|B9 (dl A4 [x1.2]) W W (bs hz1 fun _ hv3 hz1=>P9 A4 (25,g2) x1.1 x1.2 [] _ (L7<|fun _=>W) W (gq W) hv3 (ss W<|A1<|E2<|B8<|sv W<|sv W<|sv W<|A1<|E4 ?_)))
 cases hz1
 exact ⟨W,u6,(E1 ⟨.of W, .of W,(.of (U8<|V0 hv3).symm), .of W,trivial⟩<|sg W<|N7 G_hit trivial)⟩
 refine A8<|E2<|B8<|sv W<|sv W<|sv W<|A1<|E4 ?_
 cases hz1
 exact ⟨W,g2,(E1 (Z1 W)<|B5 G_hit (.of W)<|B7 (gq W) trivial)⟩
 refine C8 W ?_
 cases hz1
 obtain rfl:=ez1 _ rfl
 refine ⟨nofun,C7 W<|U7 ?_⟩
 exact ⟨g2,(E1 ⟨.of W,trivial⟩<|B7 (gq W) trivial)⟩
 rintro _ ⟨g1,q1⟩
 refine B4 q1<|B0<|B9 (oS y1 (25,g1)) W W (B9 (oS y1 (25,g1)) W W (A1<|B2 ?_))
 cases h
 exact A6 (.inr W) (B6 (B3 W)<|T7 G_hit) T6
def X4 [Lp](p1:Map)(p2:(List Int))(x1:Int):Option (Stp Int (Sum Unit Int)):=
  cond (decide (x1< (p2.length:Int))) ((C0 p2 (D6 (x1 - 1))).bind fun v6=>(C0 p1.Lanes v6).bind fun v7=>(C0 p2 x1).bind fun v8=>(Ow v7.Next v8).bind fun v9=>cond (!v9) (some (.out (.inr 13))) (some (.go (D6 (x1+1))))) (some (.out (.inl ())))
def Y9 [Lp](p1:Map)(p2:(List Int)):Option Int:=
  (Kg p1).bind fun v1=>cond (v1 !=0) (some v1) (((cond (!(((p2.length:Int)==0)||(decide ((p2.length:Int)>8)))) (C0 p2 0) (some default))).bind fun v2=>((cond (!((((p2.length:Int)==0)||(decide ((p2.length:Int)>8)))||(decide (v2<0)))) (C0 p2 0) (some default))).bind fun v3=>((cond (!(((((p2.length:Int)==0)||(decide ((p2.length:Int)>8)))||(decide (v2<0)))||(decide (v3≥(p1.Lanes.length:Int))))) (C0 p2 0) (some default))).bind fun v4=>((cond (!(((((p2.length:Int)==0)||(decide ((p2.length:Int)>8)))||(decide (v2<0)))||(decide (v3≥(p1.Lanes.length:Int))))) (Kv p1 v4) (some default))).bind fun v5=>cond ((((((p2.length:Int)==0)||(decide ((p2.length:Int)>8)))||(decide (v2<0)))||(decide (v3≥(p1.Lanes.length:Int))))||(decide ((v5.length:Int)>0))) (some 13) (thenS (loop (X4 p1 p2) 1) (fun _=>some 0) (fun r=>some r)))
theorem Gu(p1 p2 r)(h:Y9 p1 p2=some r):PCall prog 102 [(.agg (Q0 p1)),(.list (List.map A4 p2))] (i64 r):=by
 refine C4 (fk func102 ntmps102 m0 (by with_unfolding_all rfl)) (nl W) ?_
 unfold Y9 at h
 refine B4 (s0:=⟨T [(0,(.d _)),(1,(.d _))],G []⟩) (F3 W W) ?_
 refine lr<|fun u1 _=>sm W<|sv W<|A1<|B0<|sd W (B1 W G_hit W W)<|bs h fun _ hv1 h=>A9 W W A3 (Sh _ _ hv1) (.inl W) (sv W<|A1<|A5<|B0<|sv W<|sv W<|A1<|cc W h (fun c1 h=> ?_)<|fun c1 h=> ?_)
 refine B0<|sv W<|sv W<|A1<|B2 ?_
 cases h
 exact A6 (.inr W) (B6 (B3 W) C2) (.refl _)
 refine A8<|A5<|A5<|E8 W<|sv W<|sd W (D8 W)<|sv W<|sv W<|gf W (fun _=>W)<|gf W (fun w2=>(D8<|A2 w2))<|gf W (vb W W W)<|sd W (N9 W W<|fun hc=>A2<|J4 hc)<|sv W<|gf W (fun _=>W)<|bs h fun _ hv2 h=>gf W (fun w5=>(C5 (A2 w5) W (C1 w5 hv2) W))<|gf W (fun w6=>(C9 (A2 w6) (C1 w6 hv2) W))<|gf W (vb W W W)<|sd W (N9 W W<|fun hc=>A2<|J4 hc)<|sv W<|gf W (fun _=>W)<|bs h fun _ hv3 h=>gf W (fun w9=>(C5 (A2 w9) W (C1 w9 hv3) W))<|gf W (fun w10=>(C9 (A2 w10) (C1 w10 hv3) W))<|gp W (K6 W) (fun _=>W) (gf W (vl W G_hit W)<|gf W (fun w13=>(D8<|A2 w13))<|gf W (fun w14=>(M3 (A2 w14) (A2 w14) W))<|sd W (N9 W W<|fun hc=>A2<|J4 hc)<|sv W<|gf W (fun _=>(B1 W G_hit W W))<|gf W (fun _=>W)<|bs h fun v4 hv4 h=>gf W (fun w17=>(C5 (A2 w17) W (C1 w17 hv4) W))<|gf W (fun w18=>(C9 (A2 w18) (C1 w18 hv4) W))<|bs h fun v5 hv5 h=> ?_)
 refine O3 _ (.list (List.map A4 v5)) (K6 W) (fun w19=>⟨_,[(.d (.agg (Q0 p1))),(di v4)],_,_,(by simp only [A2 w19];rfl),W,A3,Wu _ _ _<|C1 w19 hv5,(.inl W)⟩) ?_
 refine gf W (fun w20=>(D8<|A2 w20))<|gf W (vb W W W)<|sd W (N9 W W<|fun hc=>A2<|J4 hc)<|A1<|cc W h (fun c2 h=> ?_)<|fun c2 h=> ?_
 refine B0<|sv W<|A1<|B2 ?_
 cases h
 exact A6 (.inr W) (B6 (B3 W) C2) (.refl _)
 refine A8<|A5<|B0<|sv W<|A1<|js h fun z1 hz1 h=>D9 (fun s=> ∃(y1:Unit) (g1:Unit),z1= .inl y1∧Sb ⟨T [],G []⟩ s) ?_ ?_
 refine A7<|E3 (X4 p1 p2) (fun (x1:Int) (g2:Unit)=>⟨T [(1,(dl A4 p2)),(2,(.ptr (2,u1) 0)),(6,(di x1))],G [((2,u1),some<|.box 33 (L8 p1))]⟩) 1 () _ hz1 (F3 W W) ?_
 intro x1 g2 z2 hz2 ez2
 unfold X4 at hz2
 refine A5<|B0<|sv W<|sv W<|sd W (D8 W)<|sv W<|A1<|cc W hz2 (fun c3 hz2=> ?_)<|fun c3 hz2=> ?_
 refine A8<|A5<|A7<|A5<|E8 W<|sq W<|sl W G_hit W<|sv W<|sv W<|sv W<|bs hz2 fun _ hv6 hz2=>sd W (C5 W W hv6 W)<|sd W (C9 W hv6 W)<|bs hz2 fun _ hv7 hz2=>sd W (C5 W W hv7 W)<|sv W<|sd W (C9 W hv7 W)<|sv W<|sv W<|bs hz2 fun _ hv8 hz2=>sd W (C5 W W hv8 W)<|sd W (C9 W hv8 W)<|bs hz2 fun v9 hv9 hz2=>A9 W W A3 (Vu _ _ _ hv9) (.inl W) (B9 (.d (bo (!v9))) W W (A1<|cc W hz2 (fun c4 hz2=> ?_)<|fun c4 hz2=> ?_))
 refine B0<|sv W<|A1<|B2 ?_
 cases hz2
 obtain rfl:=ez2 _ rfl
 refine ⟨nofun,E6 ?_⟩
 rw [wE]at h
 cases h
 exact A6 (.inr W) (B6 (B3 W) C2) (.refl _)
 refine A8<|E2<|B8<|sv W<|sv W<|sv W<|A1<|E4 ?_
 cases hz2
 exact ⟨W,(),(F3 W W)⟩
 refine C8 W ?_
 cases hz2
 obtain rfl:=ez2 _ rfl
 refine ⟨nofun,C7 W<|U7 ?_⟩
 exact ⟨_,(),W,(F3 W W)⟩
 rintro _ ⟨y1,g1,rfl,q1⟩
 rw [wD]at h
 refine B4 q1<|B0<|sv W<|A1<|B2 ?_
 cases h
 exact A6 (.inr W) (B6 (B3 W) C2) (.refl _)
def Kw [Lp](p1:Map)(p2:Int):Option Int:=
  (C0 p1.Lanes p2).bind fun v1=>(Fk v1.Curve_).bind fun v2=>some v2
theorem Wv(p1 p2 r)(h:Kw p1 p2=some r):PCall prog 195 [(.agg (Q0 p1)),(i64 p2)] (i64 r):=by
 refine C4 (fk func195 ntmps195 m0 (by with_unfolding_all rfl)) (nl W) ?_
 unfold Kw at h
 refine B4 (s0:=⟨T [(0,(.d _)),(1,(.d _))],G []⟩) (F3 W W) ?_
 refine B0<|sm W<|sv W<|A1<|B0<|sq W<|sl W G_hit W<|sv W<|bs h fun _ hv1 h=>sd W (C5 W W hv1 W)<|sv W<|sd W (D3 W hv1 W W)<|bs h fun _ hv2 h=>A9 W W A3 (Ql _ _ hv2) (.inl W) (sv W<|A1<|B2 ?_)
 cases h
 exact A6 (.inr W) (B6 (B3 W) C2) (.refl _)
def Cs [Lp](p1:Map)(p2:(List Int))(x1:((List Int)×Int×Int)):Option (Stp ((List Int)×Int×Int) ((List Int)×Int)):=
  cond (decide (x1.2.2< (p2.length:Int))) ((X3 x1.1 [x1.2.1]).bind fun v1=>(C0 p2 x1.2.2).bind fun v2=>(Kw p1 v2).bind fun v3=>some (.go (v1,(D6 (x1.2.1+v3)),(D6 (x1.2.2+1))))) (some (.out (x1.1,x1.2.1)))
def Kx [Lp](p1:Map)(p2:(List Int)):Option ((List Int)×Int):=
  (loop (Cs p1 p2) ([],0,0)).bind fun y1=>some (y1.1,y1.2)
theorem Ww(p1 p2 r)(h:Kx p1 p2=some r):PCall prog 186 [(.agg (Q0 p1)),(.list (List.map A4 p2))] (.tup [(.list (List.map A4 r.1)),(i64 r.2)]):=by
 refine C4 (fk func186 ntmps186 (fun r=>if r==6 then [1002]else []) (by with_unfolding_all rfl)) (nl W) ?_
 unfold Kx at h
 refine B4 (s0:=⟨T [(0,(.d _)),(1,(.d _))],G []⟩) (F3 W W) ?_
 refine lr<|fun u1 _=>sm W<|sv W<|sv W<|A1<|B0<|sv W<|A1<|B0<|sv W<|A1<|A5<|B0<|sv W<|A1<|bs h fun y1 hy1 h=>D9 (fun s=> ∃g1:Nat,Sb ⟨T [(6,(oS y1.1 (18,g1))),(7,(di y1.2))],G [((18,g1),oB 2 1 A4 y1.1)]⟩ s) ?_ ?_
 refine A7<|E3 (Cs p1 p2) (fun (x1:((List Int)×Int×Int)) (g2:Nat)=>⟨T [(1,(dl A4 p2)),(2,(.ptr (2,u1) 0)),(6,(oS x1.1 (18,g2))),(7,(di x1.2.1)),(8,(di x1.2.2))],G [((2,u1),some<|.box 33 (L8 p1)),((18,g2),oB 2 1 A4 x1.1)]⟩) ([],0,0) 0 _ hy1 (E1 (Z1 W)<|B5 G_hit (.of W)<|S4 trivial) ?_
 intro x1 g2 z1 hz1 ez1
 unfold Cs at hz1
 refine A5<|B0<|sv W<|sv W<|sd W (D8 W)<|sv W<|A1<|cc W hz1 (fun c1 hz1=> ?_)<|fun c1 hz1=> ?_
 refine A8<|A5<|A7<|lr<|fun u6 _=>B9 (oS x1.1 (18,g2)) W W (sv W<|B9 (dl A4 [x1.2.1]) W W (bs hz1 fun _ hv1 hz1=>P9 A4 (18,g2) x1.1 x1.2.1 [] _ (L7<|fun _=>W) W (gq W) hv1 (ss W<|A1<|E8 W<|sv W<|sd W (B1 W (gq W) W W)<|sv W<|sv W<|bs hz1 fun _ hv2 hz1=>sd W (C5 W W hv2 W)<|sd W (C9 W hv2 W)<|bs hz1 fun _ hv3 hz1=>A9 W W A3 (Wv _ _ _ hv3) (.inl W) (sv W<|sv W<|A1<|E2<|B8<|sv W<|sv W<|sv W<|A1<|E4 ?_))))
 cases hz1
 exact ⟨W,u6,(E1 ⟨.of W, .of W,(.of (U8<|V0 hv1).symm), .of W, .of W,trivial⟩<|sg W<|N7 G_hit trivial)⟩
 refine C8 W ?_
 cases hz1
 obtain rfl:=ez1 _ rfl
 refine ⟨nofun,C7 W<|U7 ?_⟩
 exact ⟨g2,(E1 (Z1 W)<|B7 (gq W) trivial)⟩
 rintro _ ⟨g1,q1⟩
 refine B4 q1<|B0<|B9 (oS y1.1 (18,g1)) W W (sv W<|B9 (oS y1.1 (18,g1)) W W (sv W<|A1<|B2 ?_))
 cases h
 exact A6 (.inr W) (Mt (B3 W) (B3 W) (T7 G_hit) C2) (.tup (.cons T6 A3))
def Ai [Lp](p1:Map)(p2:(List Int)):Option Int:=
  (Y9 p1 p2).bind fun v1=>cond (v1 !=0) (some 0) ((Kx p1 p2).bind fun v2=>some v2.2)
theorem Kh(p1 p2 r)(h:Ai p1 p2=some r):PCall prog 97 [(.agg (Q0 p1)),(.list (List.map A4 p2))] (i64 r):=by
 refine C4 (fk func97 ntmps97 m0 (by with_unfolding_all rfl)) (nl W) ?_
 unfold Ai at h
 refine B4 (s0:=⟨T [(0,(.d _)),(1,(.d _))],G []⟩) (F3 W W) ?_
 refine B0<|sm W<|sv W<|A1<|A5<|B0<|sd W (B1 W G_hit W W)<|sv W<|bs h fun _ hv1 h=>A9 W W A3 (Gu _ _ _ hv1) (.inl W) (sv W<|A1<|cc W h (fun c1 h=> ?_)<|fun c1 h=> ?_)
 refine B0<|sv W<|A1<|B2 ?_
 cases h
 exact A6 (.inr W) (B6 (B3 W) C2) (.refl _)
 refine A8<|B0<|sd W (B1 W G_hit W W)<|sv W<|bs h fun _ hv2 h=>A9 W W A3 (Ww _ _ _ hv2) (.inl W) (sv W<|sv W<|sv W<|sv W<|sv W<|A1<|B0<|sv W<|sv W<|A1<|B2 ?_)
 cases h
 exact A6 (.inr W) (B6 (B3 W) C2) (.refl _)
def Fl [Lp](p1:Map)(p2:(List Int)):Option (List Int):=
  (Y9 p1 p2).bind fun v1=>cond (v1 !=0) (some []) ((Kx p1 p2).bind fun v2=>some v2.1)
theorem Md(p1 p2 r)(h:Fl p1 p2=some r):PCall prog 96 [(.agg (Q0 p1)),(.list (List.map A4 p2))] (.list (List.map A4 r)):=by
 refine C4 (fk func96 ntmps96 m0 (by with_unfolding_all rfl)) (nl W) ?_
 unfold Fl at h
 refine B4 (s0:=⟨T [(0,(.d _)),(1,(.d _))],G []⟩) (F3 W W) ?_
 refine B0<|sm W<|sv W<|A1<|A5<|B0<|sd W (B1 W G_hit W W)<|sv W<|bs h fun _ hv1 h=>A9 W W A3 (Gu _ _ _ hv1) (.inl W) (sv W<|A1<|cc W h (fun c1 h=> ?_)<|fun c1 h=> ?_)
 refine B0<|sv W<|A1<|B2 ?_
 cases h
 exact A6 (.inr W) (B6 (B3 W) C2) DLe.nil
 refine A8<|B0<|sd W (B1 W G_hit W W)<|sv W<|bs h fun _ hv2 h=>A9 W W A3 (Ww _ _ _ hv2) (.inl W) (sv W<|sv W<|sv W<|sv W<|sv W<|A1<|B0<|sv W<|sv W<|A1<|B2 ?_)
 cases h
 exact A6 (.inr W) (B6 (B3 W) C2) (.refl _)
def Gg (p2:Agent)(v1:(List Int))(x1:(Int×Int)):Option (Stp (Int×Int) Int):=
  cond (decide (x1.2< (v1.length:Int))) ((C0 v1 x1.2).bind fun v2=>cond (decide (v2≤p2.S)) (some (.go (x1.2,(D6 (x1.2+1))))) (some (.go (x1.1,(D6 (x1.2+1)))))) (some (.out x1.1))
def Ox [Lp](p1:Map)(p2:Agent):Option (Int×Int):=
  (Fl p1 p2.Route).bind fun v1=>(loop (Gg p2 v1) (0,0)).bind fun y1=>(C0 p2.Route y1).bind fun v3=>(C0 v1 y1).bind fun v4=>some (v3,(D6 (p2.S - v4)))
theorem MI(p1 p2 r)(h:Ox p1 p2=some r):PCall prog 168 [(.agg (Q0 p1)),(.agg (D0 p2))] (.tup [(i64 r.1),(i64 r.2)]):=by
 refine C4 (fk func168 ntmps168 m0 (by with_unfolding_all rfl)) (nl W) ?_
 unfold Ox at h
 refine B4 (s0:=⟨T [(0,(.d _)),(1,(.d _))],G []⟩) (F3 W W) ?_
 refine lr<|fun u1 _=>sm W<|sm W<|sv W<|sv W<|A1<|B0<|sd W (B1 W (gq W) W W)<|sq W<|sl W G_hit W<|bs h fun v1 hv1 h=>A9 W W A3 (Md _ _ _ hv1) (.inl W) (sv W<|A1<|B0<|sv W<|A1<|A5<|B0<|sv W<|A1<|bs h fun y1 hy1 h=>D9 (fun s=> ∃g1:Unit,Sb ⟨T [(3,(.ptr (3,u1) 0)),(6,(dl A4 v1)),(7,(di y1))],G [((3,u1),some<|.box 45 (R7 p2))]⟩ s) ?_ ?_)
 refine A7<|E3 (Gg p2 v1) (fun (x1:(Int×Int)) (g2:Unit)=>⟨T [(3,(.ptr (3,u1) 0)),(6,(dl A4 v1)),(7,(di x1.1)),(8,(di x1.2))],G [((3,u1),some<|.box 45 (R7 p2))]⟩) (0,0) () _ hy1 (F3 W W) ?_
 intro x1 g2 z1 hz1 ez1
 unfold Gg at hz1
 refine A5<|B0<|sv W<|sv W<|sd W (D8 W)<|sv W<|A1<|cc W hz1 (fun c1 hz1=> ?_)<|fun c1 hz1=> ?_
 refine A8<|A5<|A7<|A5<|E8 W<|sv W<|sv W<|bs hz1 fun _ hv2 hz1=>sd W (C5 W W hv2 W)<|sd W (C9 W hv2 W)<|sq W<|sl W G_hit W<|sv W<|A1<|cc W hz1 (fun c2 hz1=> ?_)<|fun c2 hz1=> ?_
 refine B8<|sv W<|sv W<|A1<|E2<|B8<|sv W<|sv W<|sv W<|A1<|E4 ?_
 cases hz1
 exact ⟨W,(),(F3 W W)⟩
 refine A8<|E2<|B8<|sv W<|sv W<|sv W<|A1<|E4 ?_
 cases hz1
 exact ⟨W,(),(F3 W W)⟩
 refine C8 W ?_
 cases hz1
 obtain rfl:=ez1 _ rfl
 refine ⟨nofun,C7 W<|U7 ?_⟩
 exact ⟨(),(F3 W W)⟩
 rintro _ ⟨g1,q1⟩
 refine B4 q1<|A5<|E8 W<|sq W<|sl W G_hit W<|sv W<|bs h fun _ hv3 h=>sd W (C5 W W hv3 W)<|sd W (C9 W hv3 W)<|sq W<|sl W G_hit W<|sv W<|sv W<|bs h fun _ hv4 h=>sd W (C5 W W hv4 W)<|sd W (C9 W hv4 W)<|sv W<|sv W<|sv W<|A1<|B2 ?_
 cases h
 exact A6 (.inr W) (Mt (B3 W) (B3 W) C2 C2) (.refl _)
def Ml [Lp](p1:Map)(p2:Agent):Option Bool:=
  (Ai p1 p2.Route).bind fun v1=>some (decide ((D6 (p2.S - p2.Len))>v1))
theorem MJ(p1 p2 r)(h:Ml p1 p2=some r):PCall prog 169 [(.agg (Q0 p1)),(.agg (D0 p2))] (bo r):=by
 refine C4 (fk func169 ntmps169 m0 (by with_unfolding_all rfl)) (nl W) ?_
 unfold Ml at h
 refine B4 (s0:=⟨T [(0,(.d _)),(1,(.d _))],G []⟩) (F3 W W) ?_
 refine B0<|sm W<|sn W W<|sv W<|A1<|A5<|E8 W<|sq W<|sl W G_hit W<|sq W<|sl W G_hit W<|sv W<|sd W (B1 W (gq W) W W)<|sq W<|sl W G_hit W<|bs h fun _ hv1 h=>A9 W W A3 (Kh _ _ _ hv1) (.inl W) (sv W<|sv W<|A1<|B2 ?_)
 cases h
 exact A6 (.inr W) (B6 (B3 W) C2) (.refl _)
def Hc [Lp](p1:Map)(p2:State)(p3:Int):Option Int:=
  (C0 p2.Agents p3).bind fun v1=>(Y9 p1 v1.Route).bind fun v2=>cond (v2 !=0) (some 13) (((cond (!(((((decide (v1.Len<300))||(decide (v1.Len>20000)))||(decide (v1.Begin<0)))||(decide (v1.Begin>1099511627776)))||(decide (v1.S<0)))) (Ai p1 v1.Route) (some default))).bind fun v3=>cond ((((((decide (v1.Len<300))||(decide (v1.Len>20000)))||(decide (v1.Begin<0)))||(decide (v1.Begin>1099511627776)))||(decide (v1.S<0)))||(decide (v1.S>(D6 ((D6 (v3+v1.Len))+2000))))) (some 2) ((Ox p1 v1).bind fun v4=>(C0 p1.Lanes v4.1).bind fun v5=>(Dd v5.Kind).bind fun v6=>cond ((decide (v1.V<0))||(decide (v1.V>v6.1))) (some 2) ((Ml p1 v1).bind fun v7=>cond (((!(v1.Gone==v7))||((decide (v1.Begin>p2.Tick))&& (v1.S !=0)))||((p3==0)&& (v1.Begin !=0))) (some 10) (some 0))))
theorem AI(p1 p2 p3 r)(h:Hc p1 p2 p3=some r):PCall prog 77 [(.agg (Q0 p1)),(.agg (Ba p2)),(i64 p3)] (i64 r):=by
 refine C4 (fk func77 ntmps77 m0 (by with_unfolding_all rfl)) (nl W) ?_
 unfold Hc at h
 refine B4 (s0:=⟨T [(0,(.d _)),(1,(.d _)),(2,(.d _))],G []⟩) (F3 W W) ?_
 refine B0<|sm W<|sn W W<|sv W<|A1<|B0<|sq W<|sl W G_hit W<|sv W<|bs h fun v1 hv1 h=>sd W (C5 W W hv1 W)<|sd W (D3 W hv1 W W)<|sm W<|U1 W G_hit (R7 v1) W (A1<|A5<|B0<|sd W (B1 W (gq W) W W)<|sq W<|sl W G_hit W<|bs h fun _ hv2 h=>A9 W W A3 (Gu _ _ _ hv2) (.inl W) (sv W<|A1<|cc W h (fun c1 h=> ?_)<|fun c1 h=> ?_))
 refine B0<|sv W<|A1<|B2 ?_
 cases h
 exact A6 (.inr W) (B6 (B3 W) C2) (.refl _)
 refine A8<|A5<|A5<|E8 W<|sq W<|sl W G_hit W<|sv W<|sv W<|gp W (K6 W) (fun _=>W) (gf W (vl W G_hit W)<|gf W (vb W W W)<|sd W (N9 W W<|fun hc=>A2<|J4 hc)<|sv W<|gp W (K6 W) (fun _=>W) (gf W (vl W G_hit W)<|gf W (vb W W W)<|sd W (N9 W W<|fun hc=>A2<|J4 hc)<|sv W<|gp W (K6 W) (fun _=>W) (gf W (vl W G_hit W)<|gf W (vb W W W)<|sd W (N9 W W<|fun hc=>A2<|J4 hc)<|sv W<|gp W (K6 W) (fun _=>W) (gf W (vl W G_hit W)<|gf W (vb W W W)<|sd W (N9 W W<|fun hc=>A2<|J4 hc)<|sv W<|gp W (K6 W) (fun _=>W) (gf W (vl W G_hit W)<|gf W (fun _=>(B1 W (gq W) W W))<|gp W (K6 W) (fun _=>W) (gf W (vl W G_hit W)<|bs h fun v3 hv3 h=> ?_))))))
 refine O3 _ (i64 v3) (K6 W) (fun w18=>⟨_,[(.d (.agg (Q0 p1))),(dl A4 v1.Route)],_,_,(by simp only [A2 w18];rfl),W,A3,Kh _ _ _<|C1 w18 hv3,(.inl W)⟩) ?_
 refine gp W (K6 W) (fun _=>W) (gf W (vl W G_hit W)<|gf W (fun w21=>(M3 (A2 w21) (A2 w21) W))<|gf W (vb W W W)<|gf W (fun w23=>(M3 (A2 w23) (A2 w23) W))<|sd W (N9 W W<|fun hc=>A2<|J4 hc)<|A1<|cc W h (fun c2 h=> ?_)<|fun c2 h=> ?_)
 refine B0<|sv W<|A1<|B2 ?_
 cases h
 exact A6 (.inr W) (B6 (B3 W) C2) (.refl _)
 refine A8<|B0<|sd W (B1 W (gq W) W W)<|sd W (B1 W G_hit W W)<|bs h fun _ hv4 h=>A9 W W A3 (MI _ _ _ hv4) (.inl W) (sv W<|sv W<|sv W<|sv W<|sv W<|A1<|B0<|sq W<|sl W (gq W) W (sv W<|bs h fun _ hv5 h=>sd W (C5 W W hv5 W)<|sv W<|sd W (C9 W hv5 W)<|bs h fun _ hv6 h=>A9 W W A3 (Mc _ _ hv6) (.inl W) (sv W<|sv W<|sv W<|sv W<|sv W<|sv W<|sv W<|A1<|A5<|B0<|sq W<|sl W G_hit W<|sv W<|sv W<|gp W (K6 W) (fun _=>W) (gf W (vl W G_hit W)<|gf W (fun _=>W)<|gf W (fun w27=>(M3 (A2 w27) (A2 w27) W))<|sd W (N9 W W<|fun hc=>A2<|J4 hc)<|A1<|cc W h (fun c3 h=> ?_)<|fun c3 h=> ?_))))
 refine B0<|sv W<|A1<|B2 ?_
 cases h
 exact A6 (.inr W) (B6 (B3 W) C2) (.refl _)
 refine A8<|A5<|A5<|E8 W<|sq W<|sl W G_hit W<|sd W (B1 W (gq W) W W)<|sd W (B1 W G_hit W W)<|bs h fun v7 hv7 h=>A9 W W A3 (MJ _ _ _ hv7) (.inl W) (B9 (.d (bo (!(v1.Gone==v7)))) W W (sv W<|gp W (K6 W) (fun _=>W) (gf W (vl W G_hit W)<|gp W (K6 W) (fun _=>W) (gf W (vl W (gq W) W)<|gf W (fun w32=>(M3 (A2 w32) (A2 w32) W))<|gf W (fun w33=>(HR<|A2 w33))<|M8 _ (.ptr _ _) W (P7 W) (fun _=>W) (gv W (P7 W) (vl W G_hit W) (gv W (P7 W) (vb W W W) (gf W (fun w37=>(Yh (A2 w37) (fun hc=>A2<|Wo w37 hc) W))<|sd W (N9 W W<|fun hc=>A2<|J4 hc)<|sv W<|gf W (fun _=>W)<|gf W (vb W W W)<|gf W (fun w40=>(HR<|A2 w40))<|M8 _ (.ptr _ _) W (P7 W) (fun _=>W) (gv W (P7 W) (vl W G_hit W) (gv W (P7 W) (vb W W W) (gf W (fun w44=>(Yh (A2 w44) (fun hc=>A2<|Wo w44 hc) W))<|sd W (N9 W W<|fun hc=>A2<|J4 hc)<|A1<|cc W h (fun c4 h=> ?_)<|fun c4 h=> ?_))))))))))
 refine B0<|sv W<|A1<|B2 ?_
 cases h
 exact A6 (.inr W) (B6 (B3 W) C2) (.refl _)
 refine A8<|B0<|sv W<|A1<|B2 ?_
 cases h
 exact A6 (.inr W) (B6 (B3 W) C2) (.refl _)
def Hd (p2:State)(x3:Int):Option (Stp Int (Sum Unit Int)):=
  cond (decide (x3< (p2.In.length:Int))) ((C0 p2.In x3).bind fun v7=>cond ((((decide (v7.Since<0))||(decide (v7.Since>p2.Tick)))||(decide (v7.Rank<0)))||(decide (v7.Rank>100))) (some (.out (.inr 2))) (some (.go (D6 (x3+1))))) (some (.out (.inl ())))
def He (p1:Map)(p2:State)(x2:Int):Option (Stp Int (Sum Unit Int)):=
  cond (decide (x2< (p2.In.length:Int))) ((C0 p2.In x2).bind fun v3=>cond ((((decide (v3.Agent_<0))||(decide (v3.Agent_≥(p2.Agents.length:Int))))||(decide (v3.Zone_<0)))||(decide (v3.Zone_≥(p1.Zones.length:Int)))) (some (.out (.inr 11))) (((cond (decide (x2>0)) (C0 p2.In (D6 (x2 - 1))) (some default))).bind fun v4=>((cond ((decide (x2>0))&& (!(decide (v3.Agent_<v4.Agent_)))) (C0 p2.In (D6 (x2 - 1))) (some default))).bind fun v5=>((cond (((decide (x2>0))&& (!(decide (v3.Agent_<v4.Agent_))))&& (v3.Agent_==v5.Agent_)) (C0 p2.In (D6 (x2 - 1))) (some default))).bind fun v6=>cond ((decide (x2>0))&& ((decide (v3.Agent_<v4.Agent_))||((v3.Agent_==v5.Agent_)&& (decide (v3.Zone_≤v6.Zone_))))) (some (.out (.inr 11))) (some (.go (D6 (x2+1)))))) (some (.out (.inl ())))
def Hf [Lp](p1:Map)(p2:State)(x1:Int):Option (Stp Int (Sum Unit Int)):=
  cond (decide (x1< (p2.Agents.length:Int))) ((Hc p1 p2 x1).bind fun v2=>cond (v2 !=0) (some (.out (.inr v2))) (some (.go (D6 (x1+1))))) (some (.out (.inl ())))
def Mz [Lp](p1:Map)(p2:State):Option Int:=
  (Kg p1).bind fun v1=>cond (v1 !=0) (some v1) (cond ((decide (p2.Tick<0))||(decide (p2.Tick>1099511627776))) (some 2) (cond ((p2.Agents.length:Int)==0) (some 6) (cond (decide ((p2.Agents.length:Int)>8)) (some 8) (thenS (loop (Hf p1 p2) 0) (fun _=>thenS (loop (He p1 p2) 0) (fun _=>thenS (loop (Hd p2) 0) (fun _=>some 0) (fun r=>some r)) (fun r=>some r)) (fun r=>some r)))))
theorem KI(p1 p2 r)(h:Mz p1 p2=some r):PCall prog 25 [(.agg (Q0 p1)),(.agg (Ba p2))] (i64 r):=by
 refine C4 (fk func25 ntmps25 m0 (by with_unfolding_all rfl)) (nl W) ?_
 unfold Mz at h
 refine B4 (s0:=⟨T [(0,(.d _)),(1,(.d _))],G []⟩) (F3 W W) ?_
 refine lr<|fun u1 _=>sm W<|sm W<|sv W<|A1<|B0<|sd W (B1 W (gq W) W W)<|bs h fun _ hv1 h=>A9 W W A3 (Sh _ _ hv1) (.inl W) (sv W<|A1<|A5<|B0<|sv W<|sv W<|A1<|cc W h (fun c1 h=> ?_)<|fun c1 h=> ?_)
 refine B0<|sv W<|sv W<|A1<|B2 ?_
 cases h
 exact A6 (.inr W) (B6 (B3 W) C2) (.refl _)
 refine A8<|A5<|B0<|sq W<|sl W G_hit W<|sv W<|sv W<|gp W (K6 W) (fun _=>W) (gf W (vl W G_hit W)<|gf W (vb W W W)<|sd W (N9 W W<|fun hc=>A2<|J4 hc)<|A1<|cc W h (fun c2 h=> ?_)<|fun c2 h=> ?_)
 refine B0<|sv W<|A1<|B2 ?_
 cases h
 exact A6 (.inr W) (B6 (B3 W) C2) (.refl _)
 refine A8<|A5<|B0<|sq W<|sl W G_hit W<|sd W (D8 W)<|sv W<|A1<|cc W h (fun c3 h=> ?_)<|fun c3 h=> ?_
 refine B0<|sv W<|A1<|B2 ?_
 cases h
 exact A6 (.inr W) (B6 (B3 W) C2) (.refl _)
 refine A8<|A5<|B0<|sq W<|sl W G_hit W<|sd W (D8 W)<|sv W<|A1<|cc W h (fun c4 h=> ?_)<|fun c4 h=> ?_
 refine B0<|sv W<|A1<|B2 ?_
 cases h
 exact A6 (.inr W) (B6 (B3 W) C2) (.refl _)
 refine A8<|A5<|B0<|sv W<|A1<|js h fun z1 hz1 h=>D9 (fun s=> ∃(y1:Unit) (g1:Unit),z1= .inl y1∧Sb ⟨T [(2,(.ptr (2,u1) 0)),(3,(.ptr (3,u1) 0))],G [((2,u1),some<|.box 33 (L8 p1)),((3,u1),some<|.box 25 (K2 p2))]⟩ s) ?_ ?_
 refine A7<|E3 (Hf p1 p2) (fun (x1:Int) (g2:Unit)=>⟨T [(2,(.ptr (2,u1) 0)),(3,(.ptr (3,u1) 0)),(6,(di x1))],G [((2,u1),some<|.box 33 (L8 p1)),((3,u1),some<|.box 25 (K2 p2))]⟩) 0 () _ hz1 (F3 W W) ?_
 intro x1 g2 z2 hz2 ez2
 unfold Hf at hz2
 refine A5<|B0<|sv W<|sq W<|sl W (gq W) W (sd W (D8 W)<|sv W<|A1<|cc W hz2 (fun c5 hz2=> ?_)<|fun c5 hz2=> ?_)
 refine A8<|A5<|A7<|B0<|sd W (B1 W G_hit W W)<|sd W (B1 W (gq W) W W)<|sv W<|bs hz2 fun _ hv2 hz2=>A9 W W A3 (AI _ _ _ _ hv2) (.inl W) (sv W<|A1<|B0<|sv W<|sv W<|A1<|cc W hz2 (fun c6 hz2=> ?_)<|fun c6 hz2=> ?_)
 refine B0<|sv W<|sv W<|A1<|B2 ?_
 cases hz2
 obtain rfl:=ez2 _ rfl
 refine ⟨nofun,E6 ?_⟩
 rw [wE]at h
 cases h
 exact A6 (.inr W) (B6 (B3 W) C2) (.refl _)
 refine A8<|E2<|B8<|sv W<|sv W<|sv W<|A1<|E4 ?_
 cases hz2
 exact ⟨W,(),(F3 W W)⟩
 refine C8 W ?_
 cases hz2
 obtain rfl:=ez2 _ rfl
 refine ⟨nofun,C7 W<|U7 ?_⟩
 exact ⟨_,(),W,(F3 W W)⟩
 rintro _ ⟨y1,g1,rfl,q1⟩
 rw [wD]at h
 refine B4 q1<|A5<|B0<|sv W<|A1<|js h fun z3 hz3 h=>D9 (fun s=> ∃(y2:Unit) (g3:Unit),z3= .inl y2∧Sb ⟨T [(3,(.ptr (3,u1) 0))],G [((3,u1),some<|.box 25 (K2 p2))]⟩ s) ?_ ?_
 refine A7<|E3 (He p1 p2) (fun (x2:Int) (g4:Unit)=>⟨T [(2,(.ptr (2,u1) 0)),(3,(.ptr (3,u1) 0)),(7,(di x2))],G [((2,u1),some<|.box 33 (L8 p1)),((3,u1),some<|.box 25 (K2 p2))]⟩) 0 () _ hz3 (F3 W W) ?_
 intro x2 g4 z4 hz4 ez4
 unfold He at hz4
 refine A5<|B0<|sv W<|sq W<|sl W (gq W) W (sd W (D8 W)<|sv W<|A1<|cc W hz4 (fun c7 hz4=> ?_)<|fun c7 hz4=> ?_)
 refine A8<|A5<|A7<|B0<|sq W<|sl W (gq W) W (sv W<|bs hz4 fun v3 hv3 hz4=>sd W (C5 W W hv3 W)<|sd W (D3 W hv3 W W)<|sm W<|U1 W G_hit (Ws v3) W (A1<|A5<|B0<|sq W<|sl W G_hit W<|sv W<|sv W<|gp W (K6 W) (fun _=>W) (gf W (vl W G_hit W)<|gp W (K6 W) (fun _=>W) (gf W (vl W (gq W) W)<|gf W (fun w8=>(D8<|A2 w8))<|gf W (fun w9=>(M3 (A2 w9) (A2 w9) W))<|sd W (N9 W W<|fun hc=>A2<|J4 hc)<|sv W<|gp W (K6 W) (fun _=>W) (gf W (vl W G_hit W)<|gf W (vb W W W)<|sd W (N9 W W<|fun hc=>A2<|J4 hc)<|sv W<|gp W (K6 W) (fun _=>W) (gf W (vl W G_hit W)<|gp W (K6 W) (fun _=>W) (gf W (vl W (gq W) W)<|gf W (fun w17=>(D8<|A2 w17))<|gf W (fun w18=>(M3 (A2 w18) (A2 w18) W))<|sd W (N9 W W<|fun hc=>A2<|J4 hc)<|A1<|cc W hz4 (fun c8 hz4=> ?_)<|fun c8 hz4=> ?_)))))))
 refine B0<|sv W<|A1<|B2 ?_
 cases hz4
 obtain rfl:=ez4 _ rfl
 refine ⟨nofun,E6 ?_⟩
 rw [wE]at h
 cases h
 exact A6 (.inr W) (B6 (B3 W) C2) (.refl _)
 refine A8<|A5<|E8 W<|sv W<|sv W<|sv W<|gp W (M6 W) (fun _=>W) (gt W (vl W G_hit W)<|gp W (M6 W) (fun _=>W) (gt W (vl W (gq W) W)<|gt W (fun _=>W)<|gt W (vb W W W)<|bs hz4 fun _ hv4 hz4=>gt W (fun w25=>(C5 (A2 w25) (A2 w25) (C1 w25 hv4) W)) ?_))
 refine gt W (fun w26=>(by simp only [A2 w26];rfl)) ?_
 refine gt W (fun w27=>(C9 (A2 w27) (C1 w27 hv4) W))<|gt W (fun w28=>(M3 (A2 w28) (A2 w28) W))<|gt W (fun w29=>(HR<|A2 w29))<|M8 _ (.ptr _ _) W (Ht W) (fun _=>W) (gv W (Ht W) (vl W G_hit W) (M8 _ (.ptr _ _) W (Ht W) (fun _=>W) (gv W (Ht W) (vl W (gq W) W) (gv W (Ht W) (fun _=>W) (gv W (Ht W) (vb W W W) (bs hz4 fun _ hv5 hz4=>gv W (Ht W) (fun w36=>(C5 (A2 w36) (A2 w36) (C1 w36 hv5) W)) ?_))))))
 refine gv W (Ht W) (fun w37=>(by simp only [A2 w37];rfl)) ?_
 refine gv W (Ht W) (fun w38=>(C9 (A2 w38) (C1 w38 hv5) W)) (gv W (Ht W) (fun w39=>(M3 (A2 w39) (A2 w39) W)) (gv W (Ht W) (fun w40=>(HR<|A2 w40)) (M8 _ (.ptr _ _) W (P7 W) (fun _=>W) (gv W (P7 W) (vl W G_hit W) (M8 _ (.ptr _ _) W (P7 W) (fun _=>W) (gv W (P7 W) (vl W (gq W) W) (gv W (P7 W) (fun _=>W) (gv W (P7 W) (vb W W W) (bs hz4 fun _ hv6 hz4=>gv W (P7 W) (fun w47=>(C5 (A2 w47) (A2 w47) (C1 w47 hv6) W)) ?_)))))))))
 refine gv W (P7 W) (fun w48=>(by simp only [A2 w48];rfl)) ?_
 refine gv W (P7 W) (fun w49=>(C9 (A2 w49) (C1 w49 hv6) W)) (gv W (P7 W) (fun w50=>(M3 (A2 w50) (A2 w50) W)) (gv W (Ht W) (fun w51=>(Yh (A2 w51) (fun hc=>A2<|Wo w51 hc) W)) (gt W (fun w52=>(N9 (A2 w52) W (fun hc=>A2<|Wo w52<|J4 hc)))<|sa W W W<|A1<|cc W hz4 (fun c9 hz4=> ?_)<|fun c9 hz4=> ?_)))
 refine B0<|sv W<|A1<|B2 ?_
 cases hz4
 obtain rfl:=ez4 _ rfl
 refine ⟨nofun,E6 ?_⟩
 rw [wE]at h
 cases h
 exact A6 (.inr W) (B6 (B3 W) C2) (.refl _)
 refine A8<|E2<|B8<|sv W<|sv W<|sv W<|A1<|E4 ?_
 cases hz4
 exact ⟨W,(),(F3 W W)⟩
 refine C8 W ?_
 cases hz4
 obtain rfl:=ez4 _ rfl
 refine ⟨nofun,C7 W<|U7 ?_⟩
 exact ⟨_,(),W,(F3 W W)⟩
 rintro _ ⟨y2,g3,rfl,q2⟩
 rw [wD]at h
 refine B4 q2<|A5<|B0<|sv W<|A1<|js h fun z5 hz5 h=>D9 (fun s=> ∃(y3:Unit) (g5:Unit),z5= .inl y3∧Sb ⟨T [],G []⟩ s) ?_ ?_
 refine A7<|E3 (Hd p2) (fun (x3:Int) (g6:Unit)=>⟨T [(3,(.ptr (3,u1) 0)),(9,(di x3))],G [((3,u1),some<|.box 25 (K2 p2))]⟩) 0 () _ hz5 (F3 W W) ?_
 intro x3 g6 z6 hz6 ez6
 unfold Hd at hz6
 refine A5<|B0<|sv W<|sq W<|sl W G_hit W<|sd W (D8 W)<|sv W<|A1<|cc W hz6 (fun c10 hz6=> ?_)<|fun c10 hz6=> ?_
 refine A8<|A5<|A7<|B0<|sq W<|sl W G_hit W<|sv W<|bs hz6 fun v7 hv7 hz6=>sd W (C5 W W hv7 W)<|sd W (D3 W hv7 W W)<|sm W<|U1 W G_hit (Ws v7) W (A1<|B0<|sq W<|sl W G_hit W<|sv W<|sv W<|gp W (K6 W) (fun _=>W) (gf W (vl W G_hit W)<|gp W (K6 W) (fun _=>W) (gf W (vl W (gq W) W)<|gf W (fun w57=>(M3 (A2 w57) (A2 w57) W))<|sd W (N9 W W<|fun hc=>A2<|J4 hc)<|sv W<|gp W (K6 W) (fun _=>W) (gf W (vl W G_hit W)<|gf W (vb W W W)<|sd W (N9 W W<|fun hc=>A2<|J4 hc)<|sv W<|gp W (K6 W) (fun _=>W) (gf W (vl W G_hit W)<|gf W (vb W W W)<|sd W (N9 W W<|fun hc=>A2<|J4 hc)<|A1<|cc W hz6 (fun c11 hz6=> ?_)<|fun c11 hz6=> ?_)))))
 refine B0<|sv W<|A1<|B2 ?_
 cases hz6
 obtain rfl:=ez6 _ rfl
 refine ⟨nofun,E6 ?_⟩
 rw [wE]at h
 cases h
 exact A6 (.inr W) (B6 (B3 W) C2) (.refl _)
 refine A8<|E2<|B8<|sv W<|sv W<|sv W<|A1<|E4 ?_
 cases hz6
 exact ⟨W,(),(F3 W W)⟩
 refine C8 W ?_
 cases hz6
 obtain rfl:=ez6 _ rfl
 refine ⟨nofun,C7 W<|U7 ?_⟩
 exact ⟨_,(),W,(F3 W W)⟩
 rintro _ ⟨y3,g5,rfl,q3⟩
 rw [wD]at h
 refine B4 q3<|B0<|sv W<|A1<|B2 ?_
 cases h
 exact A6 (.inr W) (B6 (B3 W) C2) (.refl _)
def Ib (p1:State)(p2:Int):Option Bool:=
  ((cond ((decide (p2≥0))&& (decide (p2< (p1.Agents.length:Int)))) (C0 p1.Agents p2) (some default))).bind fun v1=>((cond (((decide (p2≥0))&& (decide (p2< (p1.Agents.length:Int))))&& (decide (v1.Begin≤p1.Tick))) (C0 p1.Agents p2) (some default))).bind fun v2=>some ((((decide (p2≥0))&& (decide (p2< (p1.Agents.length:Int))))&& (decide (v1.Begin≤p1.Tick)))&& (!v2.Gone))
theorem Si(p1 p2 r)(h:Ib p1 p2=some r):PCall prog 39 [(.agg (Ba p1)),(i64 p2)] (bo r):=by
 refine C4 (fk func39 ntmps39 m0 (by with_unfolding_all rfl)) (nl W) ?_
 unfold Ib at h
 refine B4 (s0:=⟨T [(0,(.d _)),(1,(.d _))],G []⟩) (F3 W W) ?_
 refine B0<|sm W<|sv W<|A1<|A5<|E8 W<|sv W<|sv W<|sv W<|gt W (fun _=>W)<|gp W (M6 W) (fun _=>W) (gt W (vl W G_hit W)<|gt W (fun w4=>(D8<|A2 w4))<|gt W (fun w5=>(M3 (A2 w5) (A2 w5) W))<|sa W W W<|sv W<|gp W (M6 W) (fun _=>W) (gt W (vl W G_hit W)<|gt W (fun _=>W)<|bs h fun _ hv1 h=>gt W (fun w9=>(C5 (A2 w9) (A2 w9) (C1 w9 hv1) W)) ?_))
 refine gt W (fun w10=>(by simp only [A2 w10];rfl)) ?_
 refine gt W (fun w11=>(C9 (A2 w11) (C1 w11 hv1) W))<|gp W (M6 W) (fun _=>W) (gt W (vl W G_hit W)<|gt W (fun w14=>(M3 (A2 w14) (A2 w14) W))<|sa W W W<|sv W<|gp W (M6 W) (fun _=>W) (gt W (vl W G_hit W)<|gt W (fun _=>W)<|bs h fun v2 hv2 h=>gt W (fun w18=>(C5 (A2 w18) (A2 w18) (C1 w18 hv2) W)) ?_))
 refine gt W (fun w19=>(by simp only [A2 w19];rfl)) ?_
 refine gt W (fun w20=>(C9 (A2 w20) (C1 w20 hv2) W)) ?_
 refine M8 _ (.d (bo (!v2.Gone))) W (M6 W) (fun w21=>(by simp only [A2 w21];rfl)) ?_
 refine sa W W W<|sv W<|A1<|B2 ?_
 cases h
 exact A6 (.inr W) (B6 (B3 W) C2) (.refl _)
def Mm (p1:Agent):Option Bool:=
  some ((((decide (p1.S≥0))&& (decide (p1.S≤1099511627776)))&& (decide (p1.Len≥0)))&& (decide (p1.Len≤1099511627776)))
theorem Ue(p1 r)(h:Mm p1=some r):PCall prog 133 [(.agg (D0 p1))] (bo r):=by
 refine C4 (fk func133 ntmps133 m0 (by with_unfolding_all rfl)) (nl W) ?_
 unfold Mm at h
 refine B4 (s0:=⟨T [(0,(.d _))],G []⟩) (F3 W W) ?_
 refine B0<|sm W<|sv W<|A1<|B0<|sq W<|sl W G_hit W<|sv W<|sv W<|gp W (M6 W) (fun _=>W) (gt W (vl W G_hit W)<|gt W (vb W W W)<|sa W W W<|sv W<|gp W (M6 W) (fun _=>W) (gt W (vl W G_hit W)<|gt W (vb W W W)<|sa W W W<|sv W<|gp W (M6 W) (fun _=>W) (gt W (vl W G_hit W)<|gt W (vb W W W)<|sa W W W<|sv W<|A1<|B2 ?_)))
 cases h
 exact A6 (.inr W) (B6 (B3 W) C2) (.refl _)
def U5 (x5:((List Pass)×Int)):Option (Stp ((List Pass)×Int) (List Pass)):=
  ((cond (decide (x5.2>0)) (C0 x5.1 x5.2) (some default))).bind fun v9=>((cond (decide (x5.2>0)) (C0 x5.1 (D6 (x5.2 - 1))) (some default))).bind fun v10=>((cond ((decide (x5.2>0))&& (!(decide (v9.From<v10.From)))) (C0 x5.1 x5.2) (some default))).bind fun v11=>((cond ((decide (x5.2>0))&& (!(decide (v9.From<v10.From)))) (C0 x5.1 (D6 (x5.2 - 1))) (some default))).bind fun v12=>((cond (((decide (x5.2>0))&& (!(decide (v9.From<v10.From))))&& (v11.From==v12.From)) (C0 x5.1 x5.2) (some default))).bind fun v13=>((cond (((decide (x5.2>0))&& (!(decide (v9.From<v10.From))))&& (v11.From==v12.From)) (C0 x5.1 (D6 (x5.2 - 1))) (some default))).bind fun v14=>cond ((decide (x5.2>0))&& ((decide (v9.From<v10.From))||((v11.From==v12.From)&& (decide (v13.Zone_<v14.Zone_))))) ((C0 x5.1 (D6 (x5.2 - 1))).bind fun v15=>(C0 x5.1 x5.2).bind fun v16=>(C0 x5.1 x5.2).bind fun v17=>(C0 (Ln x5.1 x5.2 v15) (D6 (x5.2 - 1))).bind fun v18=>some (.go ((Ln (Ln x5.1 x5.2 v15) (D6 (x5.2 - 1)) v16),(D6 (x5.2 - 1))))) (some (.out x5.1))
def Ar [Lp](x4:((List Pass)×Int)):Option (Stp ((List Pass)×Int) (List Pass)):=
  cond (decide (x4.2< (x4.1.length:Int))) ((loop (U5) (x4.1,x4.2)).bind fun y5=>some (.go (y5,(D6 (x4.2+1))))) (some (.out x4.1))
def As (p1:Map)(p2:(List Int))(v1:(List Int))(x1:((List Pass)×Int))(x2:((List Pass)×Int))(x3:((List Pass)×Int)):Option (Stp ((List Pass)×Int) (List Pass)):=
  (C0 p1.Zones x2.2).bind fun v2=>cond (decide (x3.2< (v2.Parts.length:Int))) ((C0 p1.Zones x2.2).bind fun v3=>(C0 v3.Parts x3.2).bind fun v4=>(C0 p2 x1.2).bind fun v5=>cond (v4.Lane_==v5) ((C0 v1 x1.2).bind fun v6=>(C0 v1 x1.2).bind fun v7=>(X3 x3.1 [(Pass.mk x2.2 x3.2 (D6 (v6+v4.From)) (D6 (v7+v4.To)))]).bind fun v8=>some (.go (v8,(D6 (x3.2+1))))) (some (.go (x3.1,(D6 (x3.2+1)))))) (some (.out x3.1))
def At [Lp](p1:Map)(p2:(List Int))(v1:(List Int))(x1:((List Pass)×Int))(x2:((List Pass)×Int)):Option (Stp ((List Pass)×Int) (List Pass)):=
  cond (decide (x2.2< (p1.Zones.length:Int))) ((loop (As p1 p2 v1 x1 x2) (x2.1,0)).bind fun y3=>some (.go (y3,(D6 (x2.2+1))))) (some (.out x2.1))
def Y4 [Lp](p1:Map)(p2:(List Int))(v1:(List Int))(x1:((List Pass)×Int)):Option (Stp ((List Pass)×Int) (List Pass)):=
  cond (decide (x1.2< (v1.length:Int))) ((loop (At p1 p2 v1 x1) (x1.1,0)).bind fun y2=>some (.go (y2,(D6 (x1.2+1))))) (some (.out x1.1))
def Fm [Lp](p1:Map)(p2:(List Int)):Option (List Pass):=
  (Fl p1 p2).bind fun v1=>(loop (Y4 p1 p2 v1) ([],0)).bind fun y1=>(loop (Ar) (y1,1)).bind fun y4=>some y4
theorem HZ(p1 p2 r)(h:Fm p1 p2=some r):PCall prog 176 [(.agg (Q0 p1)),(.list (List.map A4 p2))] (.list (List.map Q6 r)):=by
 refine C4 (fk func176 ntmps176 (fun r=>if r==14 then [1018]else []) (by with_unfolding_all rfl)) (nl W) ?_
 unfold Fm at h
 refine B4 (s0:=⟨T [(0,(.d _)),(1,(.d _))],G []⟩) (F3 W W) ?_
 refine lr<|fun u1 _=>sm W<|sv W<|A1<|B0<|sv W<|A1<|B0<|sd W (B1 W G_hit W W)<|sv W<|bs h fun v1 hv1 h=>A9 W W A3 (Md _ _ _ hv1) (.inl W) (sv W<|A1<|A5<|B0<|sv W<|A1<|bs h fun y1 hy1 h=>D9 (fun s=> ∃g1:Nat,Sb ⟨T [(5,(oS y1 (75,g1)))],G [((75,g1),oB 229 4 Q6 y1)]⟩ s) ?_ ?_)
 refine A7<|E3 (Y4 p1 p2 v1) (fun (x1:((List Pass)×Int)) (g2:Nat)=>⟨T [(1,(dl A4 p2)),(2,(.ptr (2,u1) 0)),(5,(oS x1.1 (75,g2))),(6,(dl A4 v1)),(7,(di x1.2))],G [((2,u1),some<|.box 33 (L8 p1)),((75,g2),oB 229 4 Q6 x1.1)]⟩) ([],0) 0 _ hy1 (E1 (Z1 W)<|B5 G_hit (.of W)<|S4 trivial) ?_
 intro x1 g2 z1 hz1 ez1
 unfold Y4 at hz1
 refine A5<|B0<|sv W<|sv W<|sd W (D8 W)<|sv W<|A1<|cc W hz1 (fun c1 hz1=> ?_)<|fun c1 hz1=> ?_
 refine A8<|A5<|A7<|B0<|sv W<|A1<|bs hz1 fun y2 hy2 hz1=>D9 (fun s=> ∃g3:Nat,Sb ⟨T [(1,(dl A4 p2)),(2,(.ptr (2,u1) 0)),(5,(oS y2 (75,g3))),(6,(dl A4 v1)),(7,(di x1.2))],G [((2,u1),some<|.box 33 (L8 p1)),((75,g3),oB 229 4 Q6 y2)]⟩ s) ?_ ?_
 refine A7<|E3 (At p1 p2 v1 x1) (fun (x2:((List Pass)×Int)) (g4:Nat)=>⟨T [(1,(dl A4 p2)),(2,(.ptr (2,u1) 0)),(5,(oS x2.1 (75,g4))),(6,(dl A4 v1)),(7,(di x1.2)),(8,(di x2.2))],G [((2,u1),some<|.box 33 (L8 p1)),((75,g4),oB 229 4 Q6 x2.1)]⟩) (x1.1,0) g2 _ hy2 (E1 (Z1 W)<|B5 G_hit (.of W)<|B7 (gq W) trivial) ?_
 intro x2 g4 z2 hz2 ez2
 unfold At at hz2
 refine A5<|B0<|sv W<|sq W<|sl W G_hit W<|sd W (D8 W)<|sv W<|A1<|cc W hz2 (fun c2 hz2=> ?_)<|fun c2 hz2=> ?_
 refine A8<|A5<|A7<|B0<|sv W<|A1<|bs hz2 fun y3 hy3 hz2=>D9 (fun s=> ∃g5:Nat,Sb ⟨T [(1,(dl A4 p2)),(2,(.ptr (2,u1) 0)),(5,(oS y3 (75,g5))),(6,(dl A4 v1)),(7,(di x1.2)),(8,(di x2.2))],G [((2,u1),some<|.box 33 (L8 p1)),((75,g5),oB 229 4 Q6 y3)]⟩ s) ?_ ?_
 refine A7<|E3 (As p1 p2 v1 x1 x2) (fun (x3:((List Pass)×Int)) (g6:Nat)=>⟨T [(1,(dl A4 p2)),(2,(.ptr (2,u1) 0)),(5,(oS x3.1 (75,g6))),(6,(dl A4 v1)),(7,(di x1.2)),(8,(di x2.2)),(9,(di x3.2))],G [((2,u1),some<|.box 33 (L8 p1)),((75,g6),oB 229 4 Q6 x3.1)]⟩) (x2.1,0) g4 _ hy3 (E1 (Z1 W)<|B5 G_hit (.of W)<|B7 (gq W) trivial) ?_
 intro x3 g6 z3 hz3 ez3
 unfold As at hz3
 refine A5<|B0<|sv W<|sq W<|sl W G_hit W<|sv W<|bs hz3 fun _ hv2 hz3=>sd W (C5 W W hv2 W)<|sv W<|sd W (C9 W hv2 W)<|sd W (D8 W)<|sv W<|A1<|cc W hz3 (fun c3 hz3=> ?_)<|fun c3 hz3=> ?_
 refine A8<|A5<|A7<|B0<|sq W<|sl W G_hit W<|sv W<|bs hz3 fun _ hv3 hz3=>sd W (C5 W W hv3 W)<|sv W<|sd W (C9 W hv3 W)<|sv W<|bs hz3 fun v4 hv4 hz3=>sd W (C5 W W hv4 W)<|sd W (D3 W hv4 W W)<|sm W<|U1 W G_hit (AT v4) W (A1<|A5<|E8 W<|sq W<|sl W G_hit W<|sv W<|sv W<|bs hz3 fun _ hv5 hz3=>sd W (C5 W W hv5 W)<|sd W (C9 W hv5 W)<|sv W<|A1<|cc W hz3 (fun c4 hz3=> ?_)<|fun c4 hz3=> ?_)
 refine Mi W fun u12 _=>B9 (oS x3.1 (75,g6)) W W (sv W<|sv W<|sv W<|sv W<|bs hz3 fun v6 hv6 hz3=>sd W (C5 W W hv6 W)<|sd W (C9 W hv6 W)<|sq W<|sl W G_hit W<|sv W<|sv W<|sv W<|bs hz3 fun v7 hv7 hz3=>sd W (C5 W W hv7 W)<|sd W (C9 W hv7 W)<|sq W<|sl W G_hit W<|sv W<|sv W<|B9 (dl Q6 [(Pass.mk x2.2 x3.2 (D6 (v6+v4.From))<|D6 (v7+v4.To))]) W W (bs hz3 fun _ hv8 hz3=>P9 Q6 (75,g6) x3.1 (Pass.mk x2.2 x3.2 (D6 (v6+v4.From))<|D6 (v7+v4.To)) [] _ (L7<|fun _=>W) W (gq W) hv8 (ss W<|A1<|E2<|B8<|sv W<|sv W<|sv W<|A1<|E4 ?_)))
 cases hz3
 exact ⟨W,u12,(E1 ⟨.of W, .of W,(.of (U8<|V0 hv8).symm), .of W, .of W, .of W, .of W,trivial⟩<|sg W<|N7 G_hit trivial)⟩
 refine A8<|E2<|B8<|sv W<|sv W<|sv W<|A1<|E4 ?_
 cases hz3
 exact ⟨W,g6,(E1 (Z1 W)<|sg W<|B7 (gq W) trivial)⟩
 refine C8 W ?_
 cases hz3
 obtain rfl:=ez3 _ rfl
 refine ⟨nofun,C7 W<|U7 ?_⟩
 exact ⟨g6,(E1 (Z1 W)<|B5 G_hit (.of W)<|B7 (gq W) trivial)⟩
 rintro _ ⟨g5,q1⟩
 refine E2<|B4 q1<|B8<|sv W<|sv W<|sv W<|A1<|E4 ?_
 cases hz2
 exact ⟨W,g5,(E1 (Z1 W)<|B5 G_hit (.of W)<|B7 (gq W) trivial)⟩
 refine C8 W ?_
 cases hz2
 obtain rfl:=ez2 _ rfl
 refine ⟨nofun,C7 W<|U7 ?_⟩
 exact ⟨g4,(E1 (Z1 W)<|B5 G_hit (.of W)<|B7 (gq W) trivial)⟩
 rintro _ ⟨g3,q2⟩
 refine E2<|B4 q2<|B8<|sv W<|sv W<|sv W<|A1<|E4 ?_
 cases hz1
 exact ⟨W,g3,(E1 (Z1 W)<|B5 G_hit (.of W)<|B7 (gq W) trivial)⟩
 refine C8 W ?_
 cases hz1
 obtain rfl:=ez1 _ rfl
 refine ⟨nofun,C7 W<|U7 ?_⟩
 exact ⟨g2,(E1 ⟨.of W,trivial⟩<|B7 (gq W) trivial)⟩
 rintro _ ⟨g1,q3⟩
 refine B4 q3<|A5<|B0<|sv W<|A1<|bs h fun y4 hy4 h=>D9 (fun s=> ∃g7:Nat,Sb ⟨T [(5,(oS y4 (75,g7)))],G [((75,g7),oB 229 4 Q6 y4)]⟩ s) ?_ ?_
 refine A7<|E3 (Ar) (fun (x4:((List Pass)×Int)) (g8:Nat)=>⟨T [(5,(oS x4.1 (75,g8))),(11,(di x4.2))],G [((75,g8),oB 229 4 Q6 x4.1)]⟩) (y1,1) g1 _ hy4 (E1 (Z1 W)<|B7 G_hit trivial) ?_
 intro x4 g8 z4 hz4 ez4
 unfold Ar at hz4
 refine A5<|B0<|sv W<|B9 (oS x4.1 (75,g8)) W W (sd W (eO (f:=Q6) W G_hit)<|sv W<|A1<|cc W hz4 (fun c5 hz4=> ?_)<|fun c5 hz4=> ?_)
 refine A8<|A5<|A7<|B0<|sv W<|sv W<|A1<|bs hz4 fun y5 hy5 hz4=>D9 (fun s=> ∃g9:Nat,Sb ⟨T [(5,(oS y5 (75,g9))),(11,(di x4.2))],G [((75,g9),oB 229 4 Q6 y5)]⟩ s) ?_ ?_
 refine A7<|E3 (U5) (fun (x5:((List Pass)×Int)) (g10:Nat)=>⟨T [(5,(oS x5.1 (75,g10))),(11,(di x4.2)),(12,(di x5.2))],G [((75,g10),oB 229 4 Q6 x5.1)]⟩) (x4.1,x4.2) g8 _ hy5 (E1 (Z1 W)<|B7 G_hit trivial) ?_
 intro x5 g10 z5 hz5 ez5
 unfold U5 at hz5
 refine A5<|A5<|E8 W<|sv W<|sv W<|sv W<|M8 _ (oS x5.1 (75,g10)) W (M6 W) (fun _=>W) (gt W (fun _=>W)<|bs hz5 fun _ hv9 hz5=>M8 _ (.aptr _ _ _ _) W (M6 W) (fun w3=>(Qe (A2 w3) (A2 w3) G_hit (C1 w3 hv9))) ?_)
 refine M8 _ (.aptr _ _ _ _) W (M6 W) (fun w4=>(by simp only [A2 w4];rfl)) ?_
 refine gt W (fun w5=>(Ph (A2 w5) (Ie G_hit<|Eg<|C1 w5 hv9) (C1 w5 hv9) W))<|M8 _ (oS x5.1 (75,g10)) W (M6 W) (fun _=>W) (gt W (fun _=>W)<|gt W (vb W W W)<|bs hz5 fun _ hv10 hz5=>M8 _ (.aptr _ _ _ _) W (M6 W) (fun w9=>(Qe (A2 w9) (A2 w9) G_hit (C1 w9 hv10))) ?_)
 refine M8 _ (.aptr _ _ _ _) W (M6 W) (fun w10=>(by simp only [A2 w10];rfl)) ?_
 refine gt W (fun w11=>(Ph (A2 w11) (Ie G_hit<|Eg<|C1 w11 hv10) (C1 w11 hv10) W))<|gt W (fun w12=>(M3 (A2 w12) (A2 w12) W))<|gt W (fun w13=>(HR<|A2 w13))<|M8 _ (oS x5.1 (75,g10)) W (Ht W) (fun _=>W) (gv W (Ht W) (fun _=>W) (bs hz5 fun _ hv11 hz5=>M8 _ (.aptr _ _ _ _) W (Ht W) (fun w16=>(Qe (A2 w16) (A2 w16) G_hit (C1 w16 hv11))) ?_))
 refine M8 _ (.aptr _ _ _ _) W (Ht W) (fun w17=>(by simp only [A2 w17];rfl)) ?_
 refine gv W (Ht W) (fun w18=>(Ph (A2 w18) (Ie G_hit<|Eg<|C1 w18 hv11) (C1 w18 hv11) W)) (M8 _ (oS x5.1 (75,g10)) W (Ht W) (fun _=>W) (gv W (Ht W) (fun _=>W) (gv W (Ht W) (vb W W W) (bs hz5 fun _ hv12 hz5=>M8 _ (.aptr _ _ _ _) W (Ht W) (fun w22=>(Qe (A2 w22) (A2 w22) G_hit (C1 w22 hv12))) ?_))))
 refine M8 _ (.aptr _ _ _ _) W (Ht W) (fun w23=>(by simp only [A2 w23];rfl)) ?_
 refine gv W (Ht W) (fun w24=>(Ph (A2 w24) (Ie G_hit<|Eg<|C1 w24 hv12) (C1 w24 hv12) W)) (gv W (Ht W) (fun w25=>(M3 (A2 w25) (A2 w25) W)) (gv W (Ht W) (fun w26=>(HR<|A2 w26)) (M8 _ (oS x5.1 (75,g10)) W (P7 W) (fun _=>W) (gv W (P7 W) (fun _=>W) (bs hz5 fun _ hv13 hz5=>M8 _ (.aptr _ _ _ _) W (P7 W) (fun w29=>(Qe (A2 w29) (A2 w29) G_hit (C1 w29 hv13))) ?_)))))
 refine M8 _ (.aptr _ _ _ _) W (P7 W) (fun w30=>(by simp only [A2 w30];rfl)) ?_
 refine gv W (P7 W) (fun w31=>(Ph (A2 w31) (Ie G_hit<|Eg<|C1 w31 hv13) (C1 w31 hv13) W)) (M8 _ (oS x5.1 (75,g10)) W (P7 W) (fun _=>W) (gv W (P7 W) (fun _=>W) (gv W (P7 W) (vb W W W) (bs hz5 fun _ hv14 hz5=>M8 _ (.aptr _ _ _ _) W (P7 W) (fun w35=>(Qe (A2 w35) (A2 w35) G_hit (C1 w35 hv14))) ?_))))
 refine M8 _ (.aptr _ _ _ _) W (P7 W) (fun w36=>(by simp only [A2 w36];rfl)) ?_
 refine gv W (P7 W) (fun w37=>(Ph (A2 w37) (Ie G_hit<|Eg<|C1 w37 hv14) (C1 w37 hv14) W)) (gv W (P7 W) (fun w38=>(M3 (A2 w38) (A2 w38) W)) (gv W (Ht W) (fun w39=>(Yh (A2 w39) (fun hc=>A2<|Wo w39 hc) W)) (gt W (fun w40=>(N9 (A2 w40) W (fun hc=>A2<|Wo w40<|J4 hc)))<|sa W W W<|A1<|cc W hz5 (fun c6 hz5=> ?_)<|fun c6 hz5=> ?_)))
 refine A8<|A5<|A7<|E8 W<|B9 (oS x5.1 (75,g10)) W W (sv W<|B9 (oS x5.1 (75,g10)) W W (sv W<|sv W<|B9 (oS x5.1 (75,g10)) W W (sv W<|sv W<|bs hz5 fun v15 hv15 hz5=>B9 (.aptr _ _ _ _) W (Qe W W G_hit hv15) (sd W (Ps W (Ie G_hit<|Eg hv15) hv15 W W)<|B9 (oS x5.1 (75,g10)) W W (sv W<|bs hz5 fun v16 hv16 hz5=>B9 (.aptr _ _ _ _) W (Qe W W G_hit hv16) (sd W (Ps W (Ie G_hit<|Eg hv16) hv16 W W)<|bs hz5 fun _ hv17 hz5=>B9 (.aptr _ _ _ _) W (Qe W W G_hit hv17) ?_))))))
 rw [U8 (Eg hv17)]
 refine Pr Q6 _ _ _ (x5.2) _ v15 (Q6 v15) W W W (Ie G_hit<|Eg hv17) hv17 (nl W) W (bs hz5 fun _ hv18 hz5=>B9 (.aptr _ _ _ _) W (Jw W W G_hit hv18) (Pr Q6 _ _ _ ((D6 (x5.2 - 1))) _ v16 (Q6 v16) W W W G_hit hv18 (nl W) W (A1<|E2<|B8<|sv W<|sv W<|sv W<|A1<|E4 ?_)))
 cases hz5
 exact ⟨W,g10,(E1 ⟨(.of (U8<|Zr<|Zr<|Eg hv17).symm), .of W, .of W,trivial⟩<|N7 G_hit trivial)⟩
 refine C8 W ?_
 cases hz5
 obtain rfl:=ez5 _ rfl
 refine ⟨nofun,C7 W<|U7 ?_⟩
 exact ⟨g10,(E1 (Z1 W)<|B7 G_hit trivial)⟩
 rintro _ ⟨g9,q4⟩
 refine E2<|B4 q4<|B8<|sv W<|sv W<|sv W<|A1<|E4 ?_
 cases hz4
 exact ⟨W,g9,(E1 (Z1 W)<|B7 G_hit trivial)⟩
 refine C8 W ?_
 cases hz4
 obtain rfl:=ez4 _ rfl
 refine ⟨nofun,C7 W<|U7 ?_⟩
 exact ⟨g8,(E1 ⟨.of W,trivial⟩<|B7 G_hit trivial)⟩
 rintro _ ⟨g7,q5⟩
 refine B4 q5<|B0<|B9 (oS y4 (75,g7)) W W (B9 (oS y4 (75,g7)) W W (A1<|B2 ?_))
 cases h
 exact A6 (.inr W) (B6 (B3 W)<|T7 G_hit) T6
def Dq (p2:Agent)(p3:Agent)(p4:Int)(v3:(List Pass))(x1:Int):Option (Stp Int (Sum Unit Bool)):=
  cond (decide (x1< (v3.length:Int))) ((C0 v3 x1).bind fun v4=>((cond (v4.Zone_==p4) (C0 v3 x1) (some default))).bind fun v5=>((cond ((v4.Zone_==p4)&& (decide ((D6 (p2.S - p2.Len))≤v5.To))) (C0 v3 x1) (some default))).bind fun v6=>cond (((v4.Zone_==p4)&& (decide ((D6 (p2.S - p2.Len))≤v5.To)))&& (decide (p3.S≥v6.From))) (some (.out (.inr true))) (some (.go (D6 (x1+1))))) (some (.out (.inl ())))
def Gh [Lp](p1:Map)(p2:Agent)(p3:Agent)(p4:Int):Option Bool:=
  (Mm p2).bind fun v1=>((cond (!(!v1)) (Mm p3) (some default))).bind fun v2=>cond ((!v1)||(!v2)) (some false) ((Fm p1 p2.Route).bind fun v3=>thenS (loop (Dq p2 p3 p4 v3) 0) (fun _=>some false) (fun r=>some r))
theorem Oy(p1 p2 p3 p4 r)(h:Gh p1 p2 p3 p4=some r):PCall prog 83 [(.agg (Q0 p1)),(.agg (D0 p2)),(.agg (D0 p3)),(i64 p4)] (bo r):=by
 refine C4 (fk func83 ntmps83 m0 (by with_unfolding_all rfl)) (nl W) ?_
 unfold Gh at h
 refine B4 (s0:=⟨T [(0,(.d _)),(1,(.d _)),(2,(.d _)),(3,(.d _))],G []⟩) (F3 W W) ?_
 refine lr<|fun u1 _=>sm W<|sm W<|sn W W<|sv W<|A1<|A5<|B0<|sd W (B1 W (gq W) W W)<|bs h fun v1 hv1 h=>A9 W W A3 (Ue _ _ hv1) (.inl W) (B9 (.d (bo (!v1))) W W (sv W<|gf W (fun _=>(B1 W G_hit W W))<|bs h fun v2 hv2 h=> ?_))
 refine O3 _ (bo v2) (K6 W) (fun w2=>⟨_,[(.d (.agg (D0 p3)))],_,_,(by simp only [A2 w2];rfl),W,A3,Ue _ _<|C1 w2 hv2,(.inl W)⟩) ?_
 refine M8 _ (.d (bo (!v2))) W (K6 W) (fun w3=>(by simp only [A2 w3];rfl)) ?_
 refine sd W (N9 W W<|fun hc=>A2<|J4 hc)<|A1<|cc W h (fun c1 h=> ?_)<|fun c1 h=> ?_
 refine B0<|sv W<|A1<|B2 ?_
 cases h
 exact A6 (.inr W) (B6 (B3 W) C2) (.refl _)
 refine A8<|B0<|sd W (B1 W (gq W) W W)<|sq W<|sl W (gq W) W (bs h fun v3 hv3 h=>A9 W W A3 (HZ _ _ _ hv3) (.inl W) (sv W<|A1<|A5<|B0<|sv W<|A1<|js h fun z1 hz1 h=>D9 (fun s=> ∃(y1:Unit) (g1:Unit),z1= .inl y1∧Sb ⟨T [],G []⟩ s) ?_ ?_))
 refine A7<|E3 (Dq p2 p3 p4 v3) (fun (x1:Int) (g2:Unit)=>⟨T [(3,(di p4)),(5,(.ptr (5,u1) 0)),(6,(.ptr (6,u1) 0)),(9,(dl Q6 v3)),(10,(di x1))],G [((5,u1),some<|.box 45 (R7 p2)),((6,u1),some<|.box 45 (R7 p3))]⟩) 0 () _ hz1 (F3 W W) ?_
 intro x1 g2 z2 hz2 ez2
 unfold Dq at hz2
 refine A5<|B0<|sv W<|sv W<|sd W (D8 W)<|sv W<|A1<|cc W hz2 (fun c2 hz2=> ?_)<|fun c2 hz2=> ?_
 refine A8<|A5<|A7<|A5<|E8 W<|sv W<|sv W<|bs hz2 fun _ hv4 hz2=>sd W (C5 W W hv4 W)<|sv W<|sd W (C9 W hv4 W)<|sv W<|sv W<|sv W<|gp W (M6 W) (fun _=>W) (gt W (vl W G_hit W)<|gp W (M6 W) (fun _=>W) (gt W (vl W G_hit W)<|gt W (fun w8=>(M3 (A2 w8) (A2 w8) W))<|gt W (fun _=>W)<|gt W (fun _=>W)<|bs hz2 fun _ hv5 hz2=>gt W (fun w11=>(C5 (A2 w11) (A2 w11) (C1 w11 hv5) W)) ?_))
 refine gt W (fun w12=>(by simp only [A2 w12];rfl)) ?_
 refine gt W (fun w13=>(C9 (A2 w13) (C1 w13 hv5) W))<|gt W (fun w14=>(M3 (A2 w14) (A2 w14) W))<|sa W W W<|sv W<|gp W (M6 W) (fun _=>W) (gt W (vl W (gq W) W)<|gt W (fun _=>W)<|gt W (fun _=>W)<|bs hz2 fun _ hv6 hz2=>gt W (fun w19=>(C5 (A2 w19) (A2 w19) (C1 w19 hv6) W)) ?_)
 refine gt W (fun w20=>(by simp only [A2 w20];rfl)) ?_
 refine gt W (fun w21=>(C9 (A2 w21) (C1 w21 hv6) W))<|gt W (fun w22=>(M3 (A2 w22) (A2 w22) W))<|sa W W W<|A1<|cc W hz2 (fun c3 hz2=> ?_)<|fun c3 hz2=> ?_
 refine B0<|sv W<|A1<|B2 ?_
 cases hz2
 obtain rfl:=ez2 _ rfl
 refine ⟨nofun,E6 ?_⟩
 rw [wE]at h
 cases h
 exact A6 (.inr W) (B6 (B3 W) C2) (.refl _)
 refine A8<|E2<|B8<|sv W<|sv W<|sv W<|A1<|E4 ?_
 cases hz2
 exact ⟨W,(),(F3 W W)⟩
 refine C8 W ?_
 cases hz2
 obtain rfl:=ez2 _ rfl
 refine ⟨nofun,C7 W<|U7 ?_⟩
 exact ⟨_,(),W,(F3 W W)⟩
 rintro _ ⟨y1,g1,rfl,q1⟩
 rw [wD]at h
 refine B4 q1<|B0<|sv W<|A1<|B2 ?_
 cases h
 exact A6 (.inr W) (B6 (B3 W) C2) (.refl _)
def Gi (p1:Zone)(p2:Int)(x1:Int):Option (Stp Int (Sum Unit (Part×Bool))):=
  cond (decide (x1< (p1.Parts.length:Int))) ((C0 p1.Parts x1).bind fun v1=>cond (v1.Lane_==p2) ((C0 p1.Parts x1).bind fun v2=>some (.out (.inr (v2,true)))) (some (.go (D6 (x1+1))))) (some (.out (.inl ())))
def Sj [Lp](p1:Zone)(p2:Int):Option (Part×Bool):=
  thenS (loop (Gi p1 p2) 0) (fun _=>some ((Part.mk 0 0 0 0),false)) (fun r=>some r)
theorem MK(p1 p2 r)(h:Sj p1 p2=some r):PCall prog 103 [(.agg [(.list (List.map Bk p1.Parts)),(i64 p1.Signal_)]),(i64 p2)] (.tup [(.agg (Bk r.1)),(bo r.2)]):=by
 refine C4 (fk func103 ntmps103 m0 (by with_unfolding_all rfl)) (nl W) ?_
 unfold Sj at h
 refine B4 (s0:=⟨T [(0,(.d _)),(1,(.d _))],G []⟩) (F3 W W) ?_
 refine lr<|fun u1 _=>sm W<|sm W<|sv W<|A1<|A5<|B0<|sv W<|A1<|js h fun z1 hz1 h=>D9 (fun s=> ∃(y1:Unit) (g1:Unit),z1= .inl y1∧Sb ⟨T [(4,(.ptr (4,u1) 0))],G [((4,u1),some<|.box 114 (zs 4))]⟩ s) ?_ ?_
 refine A7<|E3 (Gi p1 p2) (fun (x1:Int) (g2:Unit)=>⟨T [(1,(di p2)),(2,(.ptr (2,u1) 0)),(4,(.ptr (4,u1) 0)),(6,(di x1))],G [((2,u1),some<|.box 117 [(dl Bk p1.Parts),(di p1.Signal_)]),((4,u1),some<|.box 114 (zs 4))]⟩) 0 () _ hz1 (F3 W W) ?_
 intro x1 g2 z2 hz2 ez2
 unfold Gi at hz2
 refine A5<|B0<|sv W<|sq W<|sl W G_hit W<|sd W (D8 W)<|sv W<|A1<|cc W hz2 (fun c1 hz2=> ?_)<|fun c1 hz2=> ?_
 refine A8<|A5<|A7<|B0<|sq W<|sl W G_hit W<|sv W<|bs hz2 fun _ hv1 hz2=>sd W (C5 W W hv1 W)<|sv W<|sd W (C9 W hv1 W)<|sv W<|sv W<|A1<|cc W hz2 (fun c2 hz2=> ?_)<|fun c2 hz2=> ?_
 refine B0<|sq W<|sl W G_hit W<|sv W<|bs hz2 fun v2 hv2 hz2=>sd W (C5 W W hv2 W)<|sd W (D3 W hv2 W W)<|U1 W (gq W) (AT v2) W (sv W<|A1<|B2 ?_)
 cases hz2
 obtain rfl:=ez2 _ rfl
 refine ⟨nofun,E6 ?_⟩
 rw [wE]at h
 cases h
 exact A6 (.inr W) (Mt (K1 W G_hit (nl W) W) (B3 W) C2 C2) (.refl _)
 refine A8<|E2<|B8<|sv W<|sv W<|sv W<|A1<|E4 ?_
 cases hz2
 exact ⟨W,(),(F3 W W)⟩
 refine C8 W ?_
 cases hz2
 obtain rfl:=ez2 _ rfl
 refine ⟨nofun,C7 W<|U7 ?_⟩
 exact ⟨_,(),W,(F3 W W)⟩
 rintro _ ⟨y1,g1,rfl,q1⟩
 rw [wD]at h
 refine B4 q1<|B0<|sv W<|U1 W G_hit (zs 4) W (sv W<|A1<|B2 ?_)
 cases h
 exact A6 (.inr W) (Mt (K1 W G_hit (nl W) W) (B3 W) C2 C2) (.refl _)
def Ki [Lp](p1:Map)(p2:(List Int))(p3:Int)(x1:Int):Option (Stp Int (Sum Unit Int)):=
  cond (decide (x1< (p2.length:Int))) ((C0 p1.Zones p3).bind fun v2=>(C0 p2 x1).bind fun v3=>(Sj v2 v3).bind fun v4=>cond v4.2 (some (.out (.inr x1))) (some (.go (D6 (x1+1))))) (some (.out (.inl ())))
def Fo [Lp](p1:Map)(p2:(List Int))(p3:Int):Option Int:=
  (Y9 p1 p2).bind fun v1=>cond (((v1 !=0)||(decide (p3<0)))||(decide (p3≥(p1.Zones.length:Int)))) (some (-1)) (thenS (loop (Ki p1 p2 p3) 0) (fun _=>some (-1)) (fun r=>some r))
theorem Kj(p1 p2 p3 r)(h:Fo p1 p2 p3=some r):PCall prog 44 [(.agg (Q0 p1)),(.list (List.map A4 p2)),(i64 p3)] (i64 r):=by
 refine C4 (fk func44 ntmps44 m0 (by with_unfolding_all rfl)) (nl W) ?_
 unfold Fo at h
 refine B4 (s0:=⟨T [(0,(.d _)),(1,(.d _)),(2,(.d _))],G []⟩) (F3 W W) ?_
 refine lr<|fun u1 _=>sm W<|sv W<|A1<|A5<|B0<|sd W (B1 W G_hit W W)<|sv W<|bs h fun _ hv1 h=>A9 W W A3 (Gu _ _ _ hv1) (.inl W) (sv W<|sv W<|gf W (fun _=>W)<|gf W (vb W W W)<|sd W (N9 W W<|fun hc=>A2<|J4 hc)<|sv W<|gf W (fun _=>W)<|gp W (K6 W) (fun _=>W) (gf W (vl W G_hit W)<|gf W (fun w6=>(D8<|A2 w6))<|gf W (fun w7=>(M3 (A2 w7) (A2 w7) W))<|sd W (N9 W W<|fun hc=>A2<|J4 hc)<|A1<|cc W h (fun c1 h=> ?_)<|fun c1 h=> ?_))
 refine B0<|sv W<|A1<|B2 ?_
 cases h
 exact A6 (.inr W) (B6 (B3 W) C2) (.refl _)
 refine A8<|A5<|B0<|sv W<|A1<|js h fun z1 hz1 h=>D9 (fun s=> ∃(y1:Unit) (g1:Unit),z1= .inl y1∧Sb ⟨T [],G []⟩ s) ?_ ?_
 refine A7<|E3 (Ki p1 p2 p3) (fun (x1:Int) (g2:Unit)=>⟨T [(1,(dl A4 p2)),(2,(di p3)),(3,(.ptr (3,u1) 0)),(7,(di x1))],G [((3,u1),some<|.box 33 (L8 p1))]⟩) 0 () _ hz1 (F3 W W) ?_
 intro x1 g2 z2 hz2 ez2
 unfold Ki at hz2
 refine A5<|B0<|sv W<|sv W<|sd W (D8 W)<|sv W<|A1<|cc W hz2 (fun c2 hz2=> ?_)<|fun c2 hz2=> ?_
 refine A8<|A5<|A7<|A5<|E8 W<|sq W<|sl W G_hit W<|sv W<|bs hz2 fun _ hv2 hz2=>sd W (C5 W W hv2 W)<|sd W (D3 W hv2 W W)<|sv W<|sv W<|bs hz2 fun _ hv3 hz2=>sd W (C5 W W hv3 W)<|sd W (C9 W hv3 W)<|bs hz2 fun v4 hv4 hz2=>A9 W W A3 (MK _ _ _ hv4) (.inl W) (sv W<|sv W<|sv W<|sm W<|U1 W G_hit (AT v4.1) W (sv W<|A1<|B0<|sv W<|A1<|cc W hz2 (fun c3 hz2=> ?_)<|fun c3 hz2=> ?_))
 refine B0<|sv W<|sv W<|A1<|B2 ?_
 cases hz2
 obtain rfl:=ez2 _ rfl
 refine ⟨nofun,E6 ?_⟩
 rw [wE]at h
 cases h
 exact A6 (.inr W) (B6 (B3 W) C2) (.refl _)
 refine A8<|E2<|B8<|sv W<|sv W<|sv W<|A1<|E4 ?_
 cases hz2
 exact ⟨W,(),(F3 W W)⟩
 refine C8 W ?_
 cases hz2
 obtain rfl:=ez2 _ rfl
 refine ⟨nofun,C7 W<|U7 ?_⟩
 exact ⟨_,(),W,(F3 W W)⟩
 rintro _ ⟨y1,g1,rfl,q1⟩
 rw [wD]at h
 refine B4 q1<|B0<|sv W<|A1<|B2 ?_
 cases h
 exact A6 (.inr W) (B6 (B3 W) C2) (.refl _)
def Mn [Lp](p1:Map)(p2:Int):Option Bool:=
  ((cond ((decide (p2≥0))&& (decide (p2< (p1.Lanes.length:Int)))) (Kg p1) (some default))).bind fun v1=>some (((decide (p2≥0))&& (decide (p2< (p1.Lanes.length:Int))))&& (v1==0))
theorem BF(p1 p2 r)(h:Mn p1 p2=some r):PCall prog 98 [(.agg (Q0 p1)),(i64 p2)] (bo r):=by
 refine C4 (fk func98 ntmps98 m0 (by with_unfolding_all rfl)) (nl W) ?_
 unfold Mn at h
 refine B4 (s0:=⟨T [(0,(.d _)),(1,(.d _))],G []⟩) (F3 W W) ?_
 refine B0<|sm W<|sv W<|A1<|B0<|sv W<|sv W<|sv W<|gt W (fun _=>W)<|gp W (M6 W) (fun _=>W) (gt W (vl W G_hit W)<|gt W (fun w4=>(D8<|A2 w4))<|gt W (fun w5=>(M3 (A2 w5) (A2 w5) W))<|sa W W W<|sv W<|gt W (fun _=>(B1 W G_hit W W))<|bs h fun v1 hv1 h=> ?_)
 refine O3 _ (i64 v1) (M6 W) (fun w7=>⟨_,[(.d (.agg (Q0 p1)))],_,_,(by simp only [A2 w7];rfl),W,A3,Sh _ _<|C1 w7 hv1,(.inl W)⟩) ?_
 refine gt W (vb W W W)<|sa W W W<|sv W<|A1<|B2 ?_
 cases h
 exact A6 (.inr W) (B6 (B3 W) C2) (.refl _)
def Aj [Lp](p1:Signal)(p2:Int)(x2:(Int×Int)):Option (Stp (Int×Int) (Sum Unit Bool)):=
  cond (decide (x2.2< (p1.Phases.length:Int))) ((C0 p1.Phases x2.2).bind fun v5=>cond (decide (x2.1<v5.Ticks)) ((C0 p1.Phases x2.2).bind fun v6=>(Ow v6.Green p2).bind fun v7=>some (.out (.inr v7))) ((C0 p1.Phases x2.2).bind fun v8=>some (.go ((D6 (x2.1 - v8.Ticks)),(D6 (x2.2+1)))))) (some (.out (.inl ())))
def Cb (p1:Signal)(x1:(Int×Int)):Option (Stp (Int×Int) Int):=
  cond (decide (x1.2< (p1.Phases.length:Int))) ((C0 p1.Phases x1.2).bind fun v1=>some (.go ((D6 (x1.1+v1.Ticks)),(D6 (x1.2+1))))) (some (.out x1.1))
def Na [Lp](p1:Signal)(p2:Int)(p3:Int):Option Bool:=
  (loop (Cb p1) (0,0)).bind fun y1=>(Vl p1.Offset y1).bind fun v2=>(Vl p3 y1).bind fun v3=>(Vl (D6 (v2+v3)) y1).bind fun v4=>thenS (loop (Aj p1 p2) (v4,0)) (fun _=>some false) (fun r=>some r)
theorem KJ(p1 p2 p3 r)(h:Na p1 p2 p3=some r):PCall prog 187 [(.agg [(i64 p1.Offset),(.list (List.map Az p1.Phases))]),(i64 p2),(i64 p3)] (bo r):=by
 refine C4 (fk func187 ntmps187 m0 (by with_unfolding_all rfl)) (nl W) ?_
 unfold Na at h
 refine B4 (s0:=⟨T [(0,(.d _)),(1,(.d _)),(2,(.d _))],G []⟩) (F3 W W) ?_
 refine lr<|fun u1 _=>sm W<|sv W<|A1<|B0<|sv W<|A1<|A5<|B0<|sv W<|A1<|bs h fun y1 hy1 h=>D9 (fun s=> ∃g1:Unit,Sb ⟨T [(1,(di p2)),(2,(di p3)),(3,(.ptr (3,u1) 0)),(7,(di y1))],G [((3,u1),some<|.box 120 [(di p1.Offset),(dl Az p1.Phases)])]⟩ s) ?_ ?_
 refine A7<|E3 (Cb p1) (fun (x1:(Int×Int)) (g2:Unit)=>⟨T [(1,(di p2)),(2,(di p3)),(3,(.ptr (3,u1) 0)),(7,(di x1.1)),(8,(di x1.2))],G [((3,u1),some<|.box 120 [(di p1.Offset),(dl Az p1.Phases)])]⟩) (0,0) () _ hy1 (F3 W W) ?_
 intro x1 g2 z1 hz1 ez1
 unfold Cb at hz1
 refine A5<|B0<|sv W<|sq W<|sl W G_hit W<|sd W (D8 W)<|sv W<|A1<|cc W hz1 (fun c1 hz1=> ?_)<|fun c1 hz1=> ?_
 refine A8<|A5<|A7<|B8<|sv W<|sq W<|sl W G_hit W<|sv W<|bs hz1 fun _ hv1 hz1=>sd W (C5 W W hv1 W)<|sv W<|sd W (C9 W hv1 W)<|sv W<|sv W<|A1<|E2<|B8<|sv W<|sv W<|sv W<|A1<|E4 ?_
 cases hz1
 exact ⟨W,(),(F3 W W)⟩
 refine C8 W ?_
 cases hz1
 obtain rfl:=ez1 _ rfl
 refine ⟨nofun,C7 W<|U7 ?_⟩
 exact ⟨(),(F3 W W)⟩
 rintro _ ⟨g1,q1⟩
 refine B4 q1<|A5<|E8 W<|sq W<|sl W G_hit W<|sv W<|bs h fun _ hv2 h=>sd W (AQ W W hv2)<|sv W<|sv W<|bs h fun _ hv3 h=>sd W (AQ W W hv3)<|sv W<|sv W<|bs h fun v4 hv4 h=>sd W (AQ W W hv4)<|sv W<|A1<|A5<|B0<|sv W<|A1<|js h fun z2 hz2 h=>D9 (fun s=> ∃(y2:Unit) (g3:Unit),z2= .inl y2∧Sb ⟨T [],G []⟩ s) ?_ ?_
 refine A7<|E3 (Aj p1 p2) (fun (x2:(Int×Int)) (g4:Unit)=>⟨T [(1,(di p2)),(3,(.ptr (3,u1) 0)),(9,(di x2.1)),(10,(di x2.2))],G [((3,u1),some<|.box 120 [(di p1.Offset),(dl Az p1.Phases)])]⟩) (v4,0) () _ hz2 (F3 W W) ?_
 intro x2 g4 z3 hz3 ez3
 unfold Aj at hz3
 refine A5<|B0<|sv W<|sq W<|sl W G_hit W<|sd W (D8 W)<|sv W<|A1<|cc W hz3 (fun c2 hz3=> ?_)<|fun c2 hz3=> ?_
 refine A8<|A5<|A7<|A5<|B0<|sv W<|sq W<|sl W G_hit W<|sv W<|bs hz3 fun _ hv5 hz3=>sd W (C5 W W hv5 W)<|sv W<|sd W (C9 W hv5 W)<|sv W<|A1<|cc W hz3 (fun c3 hz3=> ?_)<|fun c3 hz3=> ?_
 refine B0<|sq W<|sl W G_hit W<|sv W<|bs hz3 fun _ hv6 hz3=>sd W (C5 W W hv6 W)<|sv W<|sd W (C9 W hv6 W)<|sv W<|bs hz3 fun _ hv7 hz3=>A9 W W A3 (Vu _ _ _ hv7) (.inl W) (sv W<|A1<|B2 ?_)
 cases hz3
 obtain rfl:=ez3 _ rfl
 refine ⟨nofun,E6 ?_⟩
 rw [wE]at h
 cases h
 exact A6 (.inr W) (B6 (B3 W) C2) (.refl _)
 refine A8<|B8<|sv W<|sq W<|sl W G_hit W<|sv W<|bs hz3 fun _ hv8 hz3=>sd W (C5 W W hv8 W)<|sv W<|sd W (C9 W hv8 W)<|sv W<|sv W<|A1<|E2<|B8<|sv W<|sv W<|sv W<|A1<|E4 ?_
 cases hz3
 exact ⟨W,(),(F3 W W)⟩
 refine C8 W ?_
 cases hz3
 obtain rfl:=ez3 _ rfl
 refine ⟨nofun,C7 W<|U7 ?_⟩
 exact ⟨_,(),W,(F3 W W)⟩
 rintro _ ⟨y2,g3,rfl,q2⟩
 rw [wD]at h
 refine B4 q2<|B0<|sv W<|A1<|B2 ?_
 cases h
 exact A6 (.inr W) (B6 (B3 W) C2) (.refl _)
def Py [Lp](p1:Map)(p2:Int)(p3:Int)(p4:Int):Option Bool:=
  (Mn p1 p3).bind fun v1=>((cond (((v1&& (decide (p2≥0)))&& (decide (p2< (p1.Signals.length:Int))))&& (decide (p4≥0))) (C0 p1.Signals p2) (some default))).bind fun v2=>((cond (((v1&& (decide (p2≥0)))&& (decide (p2< (p1.Signals.length:Int))))&& (decide (p4≥0))) (Na v2 p3 p4) (some default))).bind fun v3=>some ((((v1&& (decide (p2≥0)))&& (decide (p2< (p1.Signals.length:Int))))&& (decide (p4≥0)))&&v3)
theorem KL(p1 p2 p3 p4 r)(h:Py p1 p2 p3 p4=some r):PCall prog 177 [(.agg (Q0 p1)),(i64 p2),(i64 p3),(i64 p4)] (bo r):=by
 refine C4 (fk func177 ntmps177 m0 (by with_unfolding_all rfl)) (nl W) ?_
 unfold Py at h
 refine B4 (s0:=⟨T [(0,(.d _)),(1,(.d _)),(2,(.d _)),(3,(.d _))],G []⟩) (F3 W W) ?_
 refine B0<|sm W<|sv W<|A1<|B0<|sd W (B1 W G_hit W W)<|sv W<|bs h fun _ hv1 h=>A9 W W A3 (BF _ _ _ hv1) (.inl W) (sv W<|gt W (fun _=>W)<|gt W (vb W W W)<|sa W W W<|sv W<|gt W (fun _=>W)<|gp W (M6 W) (fun _=>W) (gt W (vl W G_hit W)<|gt W (fun w6=>(D8<|A2 w6))<|gt W (fun w7=>(M3 (A2 w7) (A2 w7) W))<|sa W W W<|sv W<|gt W (fun _=>W)<|gt W (vb W W W)<|sa W W W<|sv W<|gp W (M6 W) (fun _=>W) (gt W (vl W G_hit W)<|gt W (fun _=>W)<|bs h fun v2 hv2 h=>gt W (fun w13=>(C5 (A2 w13) (A2 w13) (C1 w13 hv2) W))<|gt W (fun w14=>(D3 (A2 w14) (C1 w14 hv2) W W))<|gt W (fun _=>W)<|gt W (fun _=>W)<|bs h fun v3 hv3 h=> ?_)))
 refine O3 _ (bo v3) (M6 W) (fun w17=>⟨_,[(.d (.agg [(i64 v2.Offset),(.list (List.map Az v2.Phases))])),(di p3),(di p4)],_,_,(by simp only [A2 w17];rfl),W,A3,KJ _ _ _ _<|C1 w17 hv3,(.inl W)⟩) ?_
 refine sa W W W<|sv W<|A1<|B2 ?_
 cases h
 exact A6 (.inr W) (B6 (B3 W) C2) (.refl _)
def Gj (p2:Agent)(v1:Int)(v2:Zone)(x1:Int):Option (Stp Int (Sum Unit Int)):=
  cond (decide (x1< (v2.Parts.length:Int))) ((C0 v2.Parts x1).bind fun v5=>(C0 p2.Route v1).bind fun v6=>cond (v5.Lane_==v6) ((C0 v2.Parts x1).bind fun v7=>some (.out (.inr v7.Rank))) (some (.go (D6 (x1+1))))) (some (.out (.inl ())))
def Sk [Lp](p1:Map)(p2:Agent)(p3:Int)(p4:Int):Option Int:=
  (Fo p1 p2.Route p3).bind fun v1=>cond (decide (v1<0)) (some 0) ((C0 p1.Zones p3).bind fun v2=>cond (decide (v2.Signal_>0)) ((C0 p2.Route v1).bind fun v3=>(Py p1 (D6 (v2.Signal_ - 1)) v3 p4).bind fun v4=>cond v4 (some 2) (some 0)) (thenS (loop (Gj p2 v1 v2) 0) (fun _=>some 0) (fun r=>some r)))
theorem ML(p1 p2 p3 p4 r)(h:Sk p1 p2 p3 p4=some r):PCall prog 84 [(.agg (Q0 p1)),(.agg (D0 p2)),(i64 p3),(i64 p4)] (i64 r):=by
 refine C4 (fk func84 ntmps84 m0 (by with_unfolding_all rfl)) (nl W) ?_
 unfold Sk at h
 refine B4 (s0:=⟨T [(0,(.d _)),(1,(.d _)),(2,(.d _)),(3,(.d _))],G []⟩) (F3 W W) ?_
 refine lr<|fun u1 _=>sm W<|sm W<|sv W<|A1<|B0<|sd W (B1 W (gq W) W W)<|sq W<|sl W G_hit W<|sv W<|bs h fun v1 hv1 h=>A9 W W A3 (Kj _ _ _ _ hv1) (.inl W) (sv W<|A1<|A5<|B0<|sv W<|sv W<|A1<|cc W h (fun c1 h=> ?_)<|fun c1 h=> ?_)
 refine B0<|sv W<|A1<|B2 ?_
 cases h
 exact A6 (.inr W) (B6 (B3 W) C2) (.refl _)
 refine A8<|lr<|fun u5 _=>sq W<|sl W (gq W) W (sv W<|bs h fun v2 hv2 h=>sd W (C5 W W hv2 W)<|sd W (D3 W hv2 W W)<|sm W<|U1 W G_hit [(dl Bk v2.Parts),(di v2.Signal_)] W (A1<|A5<|B0<|sq W<|sl W G_hit W<|sv W<|A1<|cc W h (fun c2 h=> ?_)<|fun c2 h=> ?_))
 refine A5<|A5<|E8 W<|sd W (B1 W (gq W) W W)<|sq W<|sl W G_hit W<|sv W<|sq W<|sl W (gq W) W (sv W<|bs h fun _ hv3 h=>sd W (C5 W W hv3 W)<|sd W (C9 W hv3 W)<|sv W<|bs h fun _ hv4 h=>A9 W W A3 (KL _ _ _ _ _ hv4) (.inl W) (A1<|cc W h (fun c3 h=> ?_)<|fun c3 h=> ?_))
 refine B0<|sv W<|A1<|B2 ?_
 cases h
 exact A6 (.inr W) (B6 (B3 W) C2) (.refl _)
 refine A8<|B0<|sv W<|A1<|B2 ?_
 cases h
 exact A6 (.inr W) (B6 (B3 W) C2) (.refl _)
 refine A8<|A5<|B0<|sv W<|A1<|js h fun z1 hz1 h=>D9 (fun s=> ∃(y1:Unit) (g1:Unit),z1= .inl y1∧Sb ⟨T [],G []⟩ s) ?_ ?_
 refine A7<|E3 (Gj p2 v1 v2) (fun (x1:Int) (g2:Unit)=>⟨T [(5,(.ptr (5,u1) 0)),(9,(di v1)),(10,(.ptr (10,u5) 0)),(11,(di x1))],G [((5,u1),some<|.box 45 (R7 p2)),((10,u5),some<|.box 117 [(dl Bk v2.Parts),(di v2.Signal_)])]⟩) 0 () _ hz1 (F3 W W) ?_
 intro x1 g2 z2 hz2 ez2
 unfold Gj at hz2
 refine A5<|B0<|sv W<|sq W<|sl W (gq W) W (sd W (D8 W)<|sv W<|A1<|cc W hz2 (fun c4 hz2=> ?_)<|fun c4 hz2=> ?_)
 refine A8<|A5<|A7<|A5<|E8 W<|sq W<|sl W (gq W) W (sv W<|bs hz2 fun _ hv5 hz2=>sd W (C5 W W hv5 W)<|sv W<|sd W (C9 W hv5 W)<|sq W<|sl W G_hit W<|sv W<|bs hz2 fun _ hv6 hz2=>sd W (C5 W W hv6 W)<|sd W (C9 W hv6 W)<|sv W<|A1<|cc W hz2 (fun c5 hz2=> ?_)<|fun c5 hz2=> ?_)
 refine B0<|sq W<|sl W (gq W) W (sv W<|bs hz2 fun _ hv7 hz2=>sd W (C5 W W hv7 W)<|sv W<|sd W (C9 W hv7 W)<|sv W<|A1<|B2 ?_)
 cases hz2
 obtain rfl:=ez2 _ rfl
 refine ⟨nofun,E6 ?_⟩
 rw [wE]at h
 cases h
 exact A6 (.inr W) (B6 (B3 W) C2) (.refl _)
 refine A8<|E2<|B8<|sv W<|sv W<|sv W<|A1<|E4 ?_
 cases hz2
 exact ⟨W,(),(F3 W W)⟩
 refine C8 W ?_
 cases hz2
 obtain rfl:=ez2 _ rfl
 refine ⟨nofun,C7 W<|U7 ?_⟩
 exact ⟨_,(),W,(F3 W W)⟩
 rintro _ ⟨y1,g1,rfl,q1⟩
 rw [wD]at h
 refine B4 q1<|B0<|sv W<|A1<|B2 ?_
 cases h
 exact A6 (.inr W) (B6 (B3 W) C2) (.refl _)
def Oz (p1:State)(x1:(Int×State)):Option (Stp (Int×State) State):=
  cond (decide (x1.1< (p1.Agents.length:Int))) ((C0 p1.Agents x1.1).bind fun v2=>(X3 ([]:List Int) v2.Route).bind fun v3=>(X3 x1.2.Agents [(Agent.mk v3 v2.S v2.V v2.Len v2.Begin v2.Obey v2.Gone)]).bind fun v4=>some (.go ((D6 (x1.1+1)),(State.mk x1.2.Tick v4 x1.2.In)))) (some (.out x1.2))
def Pj [Lp](p1:State):Option State:=
  (X3 ([]:List Stay) p1.In).bind fun v1=>(loop (Oz p1) (0,(State.mk p1.Tick [] v1))).bind fun y1=>some y1
theorem FV(p1 r)(h:Pj p1=some r):MCall prog 23 [(.d (.agg (Ba p1)))] [] (X2 [(di r.Tick),(oS r.Agents (800000,0)),(oS r.In (800001,0))]) [] [oB 45 7 D0 r.Agents,oB 127 4 J7 r.In]:=by
 refine PS (fk func23 ntmps23 (fun r=>if r==7 then [1003]else []) (by with_unfolding_all rfl)) (by generalize r.Agents=x1;generalize r.In=x2;cases x1<;>cases x2<;>rfl) (nl W) ?_
 unfold Pj at h
 refine B4 (s0:=⟨T [(0,(.d _))],G []⟩) (F3 W W) ?_
 refine lr<|fun u1 _=>sm W<|sm W<|A1<|A5<|Qy fun u2 hu2=>N5 (.ptr _ _) W W (N5 (.d _) W (P6 W (gq W) W) (N5 (.ptr _ _) W W (N5 (.d _) W (P6 W (gq W) W) (bs h fun v1 hv1 h=>ZO J7 p1.In _ (L7<|fun _=>W) W hv1 (CA hu2) ?_))))
 refine N5 (X2 [(di p1.Tick),(.d .nilS),(oS v1 (10,u2))]) W (by generalize v1=x1;cases x1<;>rfl) ?_
 refine DX (.ptr _ _) (.box _ _) W W (Qz _ _ _ _ _ (W8 _) W W G_hit (nl W) [(di p1.Tick),(.d .nilS),(oS v1 (10,u2))] W (DW<|pL (fun q=>⟨⟨by first|rfl|((generalize v1=l0;cases l0)<;>rfl),q⟩,⟨by first|rfl|((generalize v1=l0;cases l0)<;>rfl),q⟩⟩) ?_))
 refine A5<|B0<|sv W<|A1<|bs h fun y1 hy1 h=>D9 (fun s=> ∃g1:(Nat×Nat),Sb ⟨T [(2,(.ptr (2,u1) 0)),(3,(.ptr (3,u2) 0))],G [((2,u1),some<|.box 25 [(di 0),(.d .nilS),(.d .nilS)]),((3,u2),some<|.box 25 [(di y1.Tick),(oS y1.Agents (32,g1.1)),(oS y1.In (10,g1.2))]),((32,g1.1),oB 45 7 D0 y1.Agents),((10,g1.2),oB 127 4 J7 y1.In)]⟩ s) ?_ ?_
 refine A7<|E3 (Oz p1) (fun (x1:(Int×State)) (g2:(Nat×Nat))=>⟨T [(1,(.ptr (1,u1) 0)),(2,(.ptr (2,u1) 0)),(3,(.ptr (3,u2) 0)),(4,(di x1.1))],G [((1,u1),some<|.box 25 (K2 p1)),((2,u1),some<|.box 25 [(di 0),(.d .nilS),(.d .nilS)]),((3,u2),some<|.box 25 [(di x1.2.Tick),(oS x1.2.Agents (32,g2.1)),(oS x1.2.In (10,g2.2))]),((32,g2.1),oB 45 7 D0 x1.2.Agents),((10,g2.2),oB 127 4 J7 x1.2.In)]⟩) (0,(State.mk p1.Tick [] v1)) (0,u2) _ hy1 (E1 (Z1 W)<|sg W<|sg W<|B5 G_hit (.of W)<|S4<|B7 (gq W) trivial) ?_
 intro x1 g2 z1 hz1 ez1
 unfold Oz at hz1
 refine A5<|B0<|sv W<|sq W<|sl W G_hit W<|sd W (D8 W)<|sv W<|A1<|cc W hz1 (fun c1 hz1=> ?_)<|fun c1 hz1=> ?_
 refine A8<|A5<|A7<|lr<|fun u5 _=>sq W<|sl W G_hit W<|sv W<|bs hz1 fun v2 hv2 hz1=>sd W (C5 W W hv2 W)<|sd W (D3 W hv2 W W)<|sm W<|U1 W G_hit (R7 v2) W (A1<|lr<|fun u6 hu6=>sq W<|sl W G_hit W<|bs hz1 fun v3 hv3 hz1=>ZN A4 (26,u6) ([]:List Int) v2.Route _ (L7<|fun _=>W) W (CA hu6) hv3 (CA hu6) (sq W<|Jp _ _ _ _ _ (ZM _ _) W W (gq W) (nl W) ((R7 v2).set 0 (oS v3 (26,u6))) W (A1<|pK [(26,u6)] [(1,(.ptr (1,u1) 0)),(2,(.ptr (2,u1) 0)),(3,(.ptr (3,u2) 0)),(4,(di x1.1)),(5,(.ptr (5,u5) 0)),(12,(di x1.1)),(13,(.ptr (1,u1) 1)),(14,(dl D0 p1.Agents)),(15,(di (p1.Agents.length:Int))),(16,(.d (bo<|decide (x1.1< (p1.Agents.length:Int))))),(19,(.ptr (1,u1) 1)),(20,(dl D0 p1.Agents)),(21,(di x1.1)),(22,(.d (.lp (List.map D0 p1.Agents) (x1.1).toNat 0))),(23,(.d (.agg (D0 v2)))),(24,(.ptr (5,u5) 0)),(25,(dl A4 v2.Route)),(26,(dl A4 v3)),(27,(.ptr (5,u5) 0))] [((5,u5),some<|.box 45 ((R7 v2).set 0 (dl A4 v3))),((1,u1),some<|.box 25 (K2 p1)),((2,u1),some<|.box 25 [(di 0),(.d .nilS),(.d .nilS)]),((3,u2),some<|.box 25 [(di x1.2.Tick),(oS x1.2.Agents (32,g2.1)),(oS x1.2.In (10,g2.2))]),((32,g2.1),oB 45 7 D0 x1.2.Agents),((10,g2.2),oB 127 4 J7 x1.2.In)] ⟨El W,El W,El W,El W,El W,El W,El W,El W,El W,El W,El W,El W,El W,El W,El W,El W,El W,(jT (T7<|SF (.head _)<|gq W) T6),El W,trivial⟩ (XV G_hit (Ly (Nn W) Vo) (.cons (jT (T7<|SF (.head _)<|gq W) T6) (.cons (El W) (.cons (El W) (.cons (El W) (.cons (El W) (.cons (El W) (.cons (El W) .nil))))))) (KA (gq W) (Ly (Nn W) Vo) (KA (gq W) (Ly (Nn W) Vo) (KA (gq W) (Ly (Nn W) Vo) (fE (gq W) (Ly (Nn W) Vo) (fE (gq W) (Ly (Nn W) Vo) trivial)))))) (Bj fun u7 _=>sq W<|B9 (oS x1.2.Agents (32,g2.1)) W (P6 W (gq W) W) (sd W (B1 W G_hit W W)<|B9 (dl D0 [(Agent.mk v3 v2.S v2.V v2.Len v2.Begin v2.Obey v2.Gone)]) W W (bs hz1 fun _ hv4 hz1=>P9 D0 (32,g2.1) x1.2.Agents (Agent.mk v3 v2.S v2.V v2.Len v2.Begin v2.Obey v2.Gone) [] _ (L7<|fun _=>W) W (gq W) hv4 (sq W<|U1 W (gq W) [(di x1.2.Tick),(.sl (32,u7)),(oS x1.2.In (10,g2.2))] W (A1<|E2<|B8<|sv W<|sv W<|sv W<|A1<|E4 ?_))))))))
 cases hz1
 exact ⟨W,(u7,g2.2),(E1 (Z1 W)<|sg W<|sg W<|B5 G_hit (.box (cv<|.cons (.of (U8<|V0 hv4).symm) cw))<|N7 (gq W)<|B7 (gq W) trivial)⟩
 refine C8 W ?_
 cases hz1
 obtain rfl:=ez1 _ rfl
 refine ⟨nofun,C7 W<|U7 ?_⟩
 exact ⟨(g2.1,g2.2),(E1 (Z1 W)<|sg W<|sg W<|B7 (gq W)<|B7 (gq W) trivial)⟩
 rintro _ ⟨g1,q1⟩
 refine B4 q1<|B0<|B9 (X2 [(di y1.Tick),(oS y1.Agents (32,g1.1)),(oS y1.In (10,g1.2))]) W (B1 W (gq W) W W) (Jp _ _ _ _ _ (W8 _) W W G_hit (nl W) [(di y1.Tick),(oS y1.Agents (32,g1.1)),(oS y1.In (10,g1.2))] W (A1<|B2 ?_))
 obtain rfl:=(lD h)
 exact eZ (v1:=(X2 [(di y1.Tick),(oS y1.Agents (32,g1.1)),(oS y1.In (10,g1.2))])) (.inr W) (SC<|K1 W G_hit (Nat.le_of_ble_eq_true W) W) (.of W) [((32,g1.1),oB 45 7 D0 y1.Agents),((10,g1.2),oB 127 4 J7 y1.In)] (B7 (gq W)<|B7 (gq W) trivial) (XQ [(32,g1.1),(10,g1.2)] (by generalize y1.Agents=x1;generalize y1.In=x2;cases x1<;>cases x2<;>rfl) trivial ⟨(G_hit).trans oB_ren.symm,((gq W)).trans oB_ren.symm,trivial⟩ W (List.forall_mem_cons.2 ⟨fun i hi=>IK W hi,(List.forall_mem_cons.2 ⟨fun i hi=>IK W hi,(fun _ h=>nomatch h)⟩)⟩) (oU<|Nn W))
def Ky [Lp](p1:Map)(p2:Int):Option Int:=
  (Mn p1 p2).bind fun v1=>cond (!v1) (some 0) ((Kw p1 p2).bind fun v2=>some v2)
theorem IA(p1 p2 r)(h:Ky p1 p2=some r):PCall prog 126 [(.agg (Q0 p1)),(i64 p2)] (i64 r):=by
 refine C4 (fk func126 ntmps126 m0 (by with_unfolding_all rfl)) (nl W) ?_
 unfold Ky at h
 refine B4 (s0:=⟨T [(0,(.d _)),(1,(.d _))],G []⟩) (F3 W W) ?_
 refine B0<|sm W<|sv W<|A1<|A5<|B0<|sd W (B1 W G_hit W W)<|sv W<|bs h fun v1 hv1 h=>A9 W W A3 (BF _ _ _ hv1) (.inl W) (B9 (.d (bo (!v1))) W W (A1<|cc W h (fun c1 h=> ?_)<|fun c1 h=> ?_))
 refine B0<|sv W<|A1<|B2 ?_
 cases h
 exact A6 (.inr W) (B6 (B3 W) C2) (.refl _)
 refine A8<|B0<|sd W (B1 W G_hit W W)<|sv W<|bs h fun _ hv2 h=>A9 W W A3 (Wv _ _ _ hv2) (.inl W) (sv W<|A1<|B2 ?_)
 cases h
 exact A6 (.inr W) (B6 (B3 W) C2) (.refl _)
def Jl [Lp](p1:Map)(p2:Agent)(v2:(List Int))(x1:((List Span)×Int)):Option (Stp ((List Span)×Int) (List Span)):=
  cond (decide (x1.2< (v2.length:Int))) ((C0 v2 x1.2).bind fun v3=>(C0 v2 x1.2).bind fun v4=>(C0 p2.Route x1.2).bind fun v5=>(Ky p1 v5).bind fun v6=>cond (decide ((Mg true 0 (D6 ((D6 (p2.S - p2.Len)) - v3)))≤(Mg false (D6 (p2.S - v4)) v6))) ((C0 p2.Route x1.2).bind fun v7=>(X3 x1.1 [(Span.mk v7 (Mg true 0 (D6 ((D6 (p2.S - p2.Len)) - v3))) (Mg false (D6 (p2.S - v4)) v6))]).bind fun v8=>some (.go (v8,(D6 (x1.2+1))))) (some (.go (x1.1,(D6 (x1.2+1)))))) (some (.out x1.1))
def Pa [Lp](p1:Map)(p2:Agent):Option (List Span):=
  (Mm p2).bind fun v1=>cond (!v1) (some []) ((Fl p1 p2.Route).bind fun v2=>(loop (Jl p1 p2 v2) ([],0)).bind fun y1=>some y1)
theorem BG(p1 p2 r)(h:Pa p1 p2=some r):PCall prog 63 [(.agg (Q0 p1)),(.agg (D0 p2))] (.list (List.map Cu r)):=by
 refine C4 (fk func63 ntmps63 (fun r=>if r==10 then [1009]else []) (by with_unfolding_all rfl)) (nl W) ?_
 unfold Pa at h
 refine B4 (s0:=⟨T [(0,(.d _)),(1,(.d _))],G []⟩) (F3 W W) ?_
 refine lr<|fun u1 _=>sm W<|sm W<|sv W<|A1<|B0<|sv W<|A1<|A5<|B0<|sd W (B1 W G_hit W W)<|bs h fun v1 hv1 h=>A9 W W A3 (Ue _ _ hv1) (.inl W) (B9 (.d (bo (!v1))) W W (A1<|cc W h (fun c1 h=> ?_)<|fun c1 h=> ?_))
 refine B0<|sv W<|A1<|B2 ?_
 cases h
 exact A6 (.inr W) (B6 (B3 W) C2) DLe.nil
 refine A8<|B0<|sd W (B1 W (gq W) W W)<|sq W<|sl W G_hit W<|bs h fun v2 hv2 h=>A9 W W A3 (Md _ _ _ hv2) (.inl W) (sv W<|A1<|A5<|B0<|sv W<|A1<|bs h fun y1 hy1 h=>D9 (fun s=> ∃g1:Nat,Sb ⟨T [(5,(oS y1 (62,g1)))],G [((62,g1),oB 93 3 Cu y1)]⟩ s) ?_ ?_)
 refine A7<|E3 (Jl p1 p2 v2) (fun (x1:((List Span)×Int)) (g2:Nat)=>⟨T [(2,(.ptr (2,u1) 0)),(3,(.ptr (3,u1) 0)),(5,(oS x1.1 (62,g2))),(6,(dl A4 v2)),(7,(di x1.2))],G [((2,u1),some<|.box 33 (L8 p1)),((3,u1),some<|.box 45 (R7 p2)),((62,g2),oB 93 3 Cu x1.1)]⟩) ([],0) 0 _ hy1 (E1 (Z1 W)<|sg W<|B5 G_hit (.of W)<|S4 trivial) ?_
 intro x1 g2 z1 hz1 ez1
 unfold Jl at hz1
 refine A5<|B0<|sv W<|sv W<|sd W (D8 W)<|sv W<|A1<|cc W hz1 (fun c2 hz1=> ?_)<|fun c2 hz1=> ?_
 refine A8<|A5<|A7<|A5<|E8 W<|sq W<|sl W (gq W) W (sq W<|sl W (gq W) W (sv W<|sv W<|sv W<|bs hz1 fun v3 hv3 hz1=>sd W (C5 W W hv3 W)<|sd W (C9 W hv3 W)<|sv W<|sv W<|sq W<|sl W (gq W) W (sv W<|sv W<|bs hz1 fun v4 hv4 hz1=>sd W (C5 W W hv4 W)<|sd W (C9 W hv4 W)<|sv W<|sd W (B1 W G_hit W W)<|sq W<|sl W (gq W) W (sv W<|bs hz1 fun _ hv5 hz1=>sd W (C5 W W hv5 W)<|sd W (C9 W hv5 W)<|bs hz1 fun v6 hv6 hz1=>A9 W W A3 (IA _ _ _ hv6) (.inl W) (sv W<|sv W<|sv W<|A1<|B0<|sv W<|sv W<|sv W<|A1<|cc W hz1 (fun c3 hz1=> ?_)<|fun c3 hz1=> ?_)))))
 refine Bj fun u10 _=>B9 (oS x1.1 (62,g2)) W W (sq W<|sl W (gq W) W (sv W<|bs hz1 fun v7 hv7 hz1=>sd W (C5 W W hv7 W)<|sd W (C9 W hv7 W)<|sv W<|sv W<|sv W<|B9 (dl Cu [(Span.mk v7 (Mg true 0<|D6 ((D6 (p2.S - p2.Len)) - v3))<|Mg false (D6 (p2.S - v4)) v6)]) W W (bs hz1 fun _ hv8 hz1=>P9 Cu (62,g2) x1.1 (Span.mk v7 (Mg true 0<|D6 ((D6 (p2.S - p2.Len)) - v3))<|Mg false (D6 (p2.S - v4)) v6) [] _ (L7<|fun _=>W) W (gq W) hv8 (ss W<|A1<|E2<|B8<|sv W<|sv W<|sv W<|A1<|E4 ?_))))
 cases hz1
 exact ⟨W,u10,(E1 ⟨.of W, .of W,(.of (U8<|V0 hv8).symm), .of W, .of W,trivial⟩<|sg W<|sg W<|N7 G_hit trivial)⟩
 refine A8<|E2<|B8<|sv W<|sv W<|sv W<|A1<|E4 ?_
 cases hz1
 exact ⟨W,g2,(E1 (Z1 W)<|B5 G_hit (.of W)<|sg W<|B7 (gq W) trivial)⟩
 refine C8 W ?_
 cases hz1
 obtain rfl:=ez1 _ rfl
 refine ⟨nofun,C7 W<|U7 ?_⟩
 exact ⟨g2,(E1 ⟨.of W,trivial⟩<|B7 (gq W) trivial)⟩
 rintro _ ⟨g1,q1⟩
 refine B4 q1<|B0<|B9 (oS y1 (62,g1)) W W (B9 (oS y1 (62,g1)) W W (A1<|B2 ?_))
 cases h
 exact A6 (.inr W) (B6 (B3 W)<|T7 G_hit) T6
def Ci (v1:(List Span))(v2:(List Span))(x1:Int)(x2:Int):Option (Stp Int (Sum Unit Bool)):=
  cond (decide (x2< (v2.length:Int))) ((C0 v1 x1).bind fun v3=>(C0 v2 x2).bind fun v4=>((cond (v3.Lane_==v4.Lane_) (C0 v1 x1) (some default))).bind fun v5=>((cond (v3.Lane_==v4.Lane_) (C0 v2 x2) (some default))).bind fun v6=>((cond ((v3.Lane_==v4.Lane_)&& (decide (v5.From≤v6.To))) (C0 v2 x2) (some default))).bind fun v7=>((cond ((v3.Lane_==v4.Lane_)&& (decide (v5.From≤v6.To))) (C0 v1 x1) (some default))).bind fun v8=>cond (((v3.Lane_==v4.Lane_)&& (decide (v5.From≤v6.To)))&& (decide (v7.From≤v8.To))) (some (.out (.inr true))) (some (.go (D6 (x2+1))))) (some (.out (.inl ())))
def Cj [Lp](v1:(List Span))(v2:(List Span))(x1:Int):Option (Stp Int (Sum Unit Bool)):=
  cond (decide (x1< (v1.length:Int))) (thenS (loop (Ci v1 v2 x1) 0) (fun _=>some (.go (D6 (x1+1)))) (fun r=>some (.out (.inr r)))) (some (.out (.inl ())))
def Kk [Lp](p1:Map)(p2:Agent)(p3:Agent):Option Bool:=
  (Pa p1 p2).bind fun v1=>(Pa p1 p3).bind fun v2=>thenS (loop (Cj v1 v2) 0) (fun _=>some false) (fun r=>some r)
theorem EM(p1 p2 p3 r)(h:Kk p1 p2 p3=some r):PCall prog 85 [(.agg (Q0 p1)),(.agg (D0 p2)),(.agg (D0 p3))] (bo r):=by
 refine C4 (fk func85 ntmps85 m0 (by with_unfolding_all rfl)) (nl W) ?_
 unfold Kk at h
 refine B4 (s0:=⟨T [(0,(.d _)),(1,(.d _)),(2,(.d _))],G []⟩) (F3 W W) ?_
 refine B0<|sm W<|sn W W<|sm W<|sv W<|A1<|A5<|E8 W<|sd W (B1 W (gq W) W W)<|sd W (B1 W (gq W) W W)<|bs h fun v1 hv1 h=>A9 W W A3 (BG _ _ _ hv1) (.inl W) (sd W (B1 W (gq W) W W)<|sd W (B1 W G_hit W W)<|bs h fun v2 hv2 h=>A9 W W A3 (BG _ _ _ hv2) (.inl W) (sv W<|sv W<|A1<|A5<|B0<|sv W<|A1<|js h fun z1 hz1 h=>D9 (fun s=> ∃(y1:Unit) (g1:Unit),z1= .inl y1∧Sb ⟨T [],G []⟩ s) ?_ ?_))
 refine A7<|E3 (Cj v1 v2) (fun (x1:Int) (g2:Unit)=>⟨T [(7,(dl Cu v1)),(8,(dl Cu v2)),(9,(di x1))],G []⟩) 0 () _ hz1 (F3 W W) ?_
 intro x1 g2 z2 hz2 ez2
 unfold Cj at hz2
 refine A5<|B0<|sv W<|sv W<|sd W (D8 W)<|sv W<|A1<|cc W hz2 (fun c1 hz2=> ?_)<|fun c1 hz2=> ?_
 refine A8<|A5<|A7<|B0<|sv W<|A1<|js hz2 fun z3 hz3 hz2=>D9 (fun s=> ∃(y2:Unit) (g3:Unit),z3= .inl y2∧Sb ⟨T [(7,(dl Cu v1)),(8,(dl Cu v2)),(9,(di x1))],G []⟩ s) ?_ ?_
 refine A7<|E3 (Ci v1 v2 x1) (fun (x2:Int) (g4:Unit)=>⟨T [(7,(dl Cu v1)),(8,(dl Cu v2)),(9,(di x1)),(10,(di x2))],G []⟩) 0 () _ hz3 (F3 W W) ?_
 intro x2 g4 z4 hz4 ez4
 unfold Ci at hz4
 refine A5<|B0<|sv W<|sv W<|sd W (D8 W)<|sv W<|A1<|cc W hz4 (fun c2 hz4=> ?_)<|fun c2 hz4=> ?_
 refine A8<|A5<|A7<|A5<|E8 W<|sv W<|sv W<|bs hz4 fun _ hv3 hz4=>sd W (C5 W W hv3 W)<|sv W<|sd W (C9 W hv3 W)<|sv W<|sv W<|bs hz4 fun _ hv4 hz4=>sd W (C5 W W hv4 W)<|sv W<|sd W (C9 W hv4 W)<|sv W<|sv W<|gt W (fun _=>W)<|gt W (fun _=>W)<|bs hz4 fun _ hv5 hz4=>gt W (fun w3=>(C5 (A2 w3) (A2 w3) (C1 w3 hv5) W)) ?_
 refine gt W (fun w4=>(by simp only [A2 w4];rfl)) ?_
 refine gt W (fun w5=>(C9 (A2 w5) (C1 w5 hv5) W))<|gt W (fun _=>W)<|gt W (fun _=>W)<|bs hz4 fun _ hv6 hz4=>gt W (fun w8=>(C5 (A2 w8) (A2 w8) (C1 w8 hv6) W)) ?_
 refine gt W (fun w9=>(by simp only [A2 w9];rfl)) ?_
 refine gt W (fun w10=>(C9 (A2 w10) (C1 w10 hv6) W))<|gt W (fun w11=>(M3 (A2 w11) (A2 w11) W))<|sa W W W<|sv W<|gt W (fun _=>W)<|gt W (fun _=>W)<|bs hz4 fun _ hv7 hz4=>gt W (fun w14=>(C5 (A2 w14) (A2 w14) (C1 w14 hv7) W)) ?_
 refine gt W (fun w15=>(by simp only [A2 w15];rfl)) ?_
 refine gt W (fun w16=>(C9 (A2 w16) (C1 w16 hv7) W))<|gt W (fun _=>W)<|gt W (fun _=>W)<|bs hz4 fun _ hv8 hz4=>gt W (fun w19=>(C5 (A2 w19) (A2 w19) (C1 w19 hv8) W)) ?_
 refine gt W (fun w20=>(by simp only [A2 w20];rfl)) ?_
 refine gt W (fun w21=>(C9 (A2 w21) (C1 w21 hv8) W))<|gt W (fun w22=>(M3 (A2 w22) (A2 w22) W))<|sa W W W<|A1<|cc W hz4 (fun c3 hz4=> ?_)<|fun c3 hz4=> ?_
 refine B0<|sv W<|A1<|B2 ?_
 cases hz4
 obtain rfl:=ez4 _ rfl
 refine ⟨nofun,E6 ?_⟩
 rw [wE]at hz2
 cases hz2
 obtain rfl:=ez2 _ rfl
 refine ⟨nofun,E6 ?_⟩
 rw [wE]at h
 cases h
 exact A6 (.inr W) (B6 (B3 W) C2) (.refl _)
 refine A8<|E2<|B8<|sv W<|sv W<|sv W<|A1<|E4 ?_
 cases hz4
 exact ⟨W,(),(F3 W W)⟩
 refine C8 W ?_
 cases hz4
 obtain rfl:=ez4 _ rfl
 refine ⟨nofun,C7 W<|U7 ?_⟩
 exact ⟨_,(),W,(F3 W W)⟩
 rintro _ ⟨y2,g3,rfl,q1⟩
 rw [wD]at hz2
 refine E2<|B4 q1<|B8<|sv W<|sv W<|sv W<|A1<|E4 ?_
 cases hz2
 exact ⟨W,(),(F3 W W)⟩
 refine C8 W ?_
 cases hz2
 obtain rfl:=ez2 _ rfl
 refine ⟨nofun,C7 W<|U7 ?_⟩
 exact ⟨_,(),W,(F3 W W)⟩
 rintro _ ⟨y1,g1,rfl,q2⟩
 rw [wD]at h
 refine B4 q2<|B0<|sv W<|A1<|B2 ?_
 cases h
 exact A6 (.inr W) (B6 (B3 W) C2) (.refl _)
def Hg [Lp](p1:Map)(p2:State)(p3:State)(p4:Int)(p5:Int)(x1:((List Int)×Int)):Option (Stp ((List Int)×Int) (List Int)):=
  cond (decide (x1.2< (p1.Zones.length:Int))) ((C0 p2.Agents p4).bind fun v1=>(C0 p2.Agents p5).bind fun v2=>(C0 p3.Agents p4).bind fun v3=>(Gh p1 v1 v3 x1.2).bind fun v4=>((cond (!(!v4)) (C0 p3.Agents p5) (some default))).bind fun v5=>((cond (!(!v4)) (Gh p1 v2 v5 x1.2) (some default))).bind fun v6=>cond ((!v4)||(!v6)) (some (.go (x1.1,(D6 (x1.2+1))))) ((Fo p1 v1.Route x1.2).bind fun v7=>(C0 v1.Route v7).bind fun v8=>(Fo p1 v2.Route x1.2).bind fun v9=>(C0 v2.Route v9).bind fun v10=>cond (v8 !=v10) ((X3 x1.1 [x1.2]).bind fun v11=>some (.go (v11,(D6 (x1.2+1))))) (some (.go (x1.1,(D6 (x1.2+1))))))) (some (.out x1.1))
def Pz [Lp](p1:Map)(p2:State)(p3:State)(p4:Int)(p5:Int):Option (List Int):=
  (loop (Hg p1 p2 p3 p4 p5) ([],0)).bind fun y1=>some y1
theorem KM(p1 p2 p3 p4 p5 r)(h:Pz p1 p2 p3 p4 p5=some r):PCall prog 86 [(.agg (Q0 p1)),(.agg (Ba p2)),(.agg (Ba p3)),(i64 p4),(i64 p5)] (.list (List.map A4 r)):=by
 refine C4 (fk func86 ntmps86 (fun r=>if r==8 then [1002]else []) (by with_unfolding_all rfl)) (nl W) ?_
 unfold Pz at h
 refine B4 (s0:=⟨T [(0,(.d _)),(1,(.d _)),(2,(.d _)),(3,(.d _)),(4,(.d _))],G []⟩) (F3 W W) ?_
 refine lr<|fun u1 _=>sm W<|sm W<|sn W W<|sv W<|A1<|B0<|sv W<|A1<|A5<|B0<|sv W<|A1<|bs h fun y1 hy1 h=>D9 (fun s=> ∃g1:Nat,Sb ⟨T [(11,(oS y1 (76,g1)))],G [((76,g1),oB 3 1 A4 y1)]⟩ s) ?_ ?_
 refine A7<|E3 (Hg p1 p2 p3 p4 p5) (fun (x1:((List Int)×Int)) (g2:Nat)=>⟨T [(3,(di p4)),(4,(di p5)),(5,(.ptr (5,u1) 0)),(6,(.ptr (6,u1) 0)),(7,(.ptr (7,u1) 0)),(11,(oS x1.1 (76,g2))),(12,(di x1.2))],G [((5,u1),some<|.box 33 (L8 p1)),((6,u1),some<|.box 25 (K2 p2)),((7,u1),some<|.box 25 (K2 p3)),((76,g2),oB 3 1 A4 x1.1)]⟩) ([],0) 0 _ hy1 (E1 (Z1 W)<|sg W<|sg W<|B5 G_hit (.of W)<|S4 trivial) ?_
 intro x1 g2 z1 hz1 ez1
 unfold Hg at hz1
 refine A5<|B0<|sv W<|sq W<|sl W G_hit W<|sd W (D8 W)<|sv W<|A1<|cc W hz1 (fun c1 hz1=> ?_)<|fun c1 hz1=> ?_
 refine A8<|A5<|A7<|A5<|Qy fun _ _=>N5 (.ptr _ _) W W (N5 (.d _) W (P6 W (gq W) W) (N5 (.d _) W W (bs hz1 fun v1 hv1 hz1=>N5 (.d _) W (C5 W W hv1 W) (N5 (.d _) W (D3 W hv1 W W) (N5 (.ptr _ _) W W (N5 (.d _) W (P6 W (gq W) W) (N5 (.d _) W W (bs hz1 fun v2 hv2 hz1=>N5 (.d _) W (C5 W W hv2 W) (N5 (.d _) W (D3 W hv2 W W) (DX (.ptr _ _) (.box _ _) W W (DX (.ptr _ _) (.box _ _) W W (Qz _ _ _ _ _ W W W (gq W) (nl W) (R7 v1) W (Qz _ _ _ _ _ W W W (gq W) (nl W) (R7 v2) W (DW ⟨W,?_⟩))))))))))))))
 refine A5<|A5<|E8 W<|sd W (B1 W (gq W) W W)<|sd W (B1 W (gq W) W W)<|sq W<|sl W (gq W) W (sv W<|bs hz1 fun _ hv3 hz1=>sd W (C5 W W hv3 W)<|sd W (D3 W hv3 W W)<|sv W<|bs hz1 fun v4 hv4 hz1=>A9 W W A3 (Oy _ _ _ _ _ hv4) (.inl W) (B9 (.d (bo (!v4))) W W (sv W<|gf W (fun _=>(B1 W (gq W) W W))<|gf W (fun _=>(B1 W G_hit W W))<|gp W (K6 W) (fun _=>W) (gf W (vl W (gq W) W)<|gf W (fun _=>W)<|bs hz1 fun v5 hv5 hz1=>gf W (fun w6=>(C5 (A2 w6) (A2 w6) (C1 w6 hv5) W))<|gf W (fun w7=>(D3 (A2 w7) (C1 w7 hv5) W W))<|gf W (fun _=>W)<|bs hz1 fun v6 hv6 hz1=> ?_))))
 refine O3 _ (bo v6) (K6 W) (fun w9=>⟨_,[(.d (.agg (Q0 p1))),(.d (.agg (D0 v2))),(.d (.agg (D0 v5))),(di x1.2)],_,_,(by simp only [A2 w9];rfl),W,A3,Oy _ _ _ _ _<|C1 w9 hv6,(.inl W)⟩) ?_
 refine M8 _ (.d (bo (!v6))) W (K6 W) (fun w10=>(by simp only [A2 w10];rfl)) ?_
 refine sd W (N9 W W<|fun hc=>A2<|J4 hc)<|A1<|cc W hz1 (fun c2 hz1=> ?_)<|fun c2 hz1=> ?_
 refine Tu W<|B8<|sv W<|sv W<|sv W<|A1<|E4 ?_
 cases hz1
 exact ⟨W,g2,(E1 (Z1 W)<|sg W<|sg W<|sg W<|B7 (gq W) trivial)⟩
 refine A8<|A5<|E8 W<|sq W<|sl W (gq W) W (sd W (B1 W (gq W) W W)<|sq W<|sl W (gq W) W (sv W<|bs hz1 fun _ hv7 hz1=>A9 W W A3 (Kj _ _ _ _ hv7) (.inl W) (bs hz1 fun _ hv8 hz1=>sd W (C5 W W hv8 W)<|sd W (C9 W hv8 W)<|sq W<|sl W G_hit W<|sd W (B1 W (gq W) W W)<|sq W<|sl W G_hit W<|sv W<|bs hz1 fun _ hv9 hz1=>A9 W W A3 (Kj _ _ _ _ hv9) (.inl W) (bs hz1 fun _ hv10 hz1=>sd W (C5 W W hv10 W)<|sd W (C9 W hv10 W)<|sv W<|A1<|cc W hz1 (fun c3 hz1=> ?_)<|fun c3 hz1=> ?_))))
 refine Bj fun u9 _=>B9 (oS x1.1 (76,g2)) W W (sv W<|B9 (dl A4 [x1.2]) W W (bs hz1 fun _ hv11 hz1=>P9 A4 (76,g2) x1.1 x1.2 [] _ (L7<|fun _=>W) W (gq W) hv11 (ss W<|A1<|E2<|B8<|sv W<|sv W<|sv W<|A1<|E4 ?_)))
 cases hz1
 exact ⟨W,u9,(E1 ⟨.of W, .of W, .of W, .of W, .of W,(.of (U8<|V0 hv11).symm), .of W,trivial⟩<|sg W<|sg W<|sg W<|N7 G_hit trivial)⟩
 refine A8<|E2<|B8<|sv W<|sv W<|sv W<|A1<|E4 ?_
 cases hz1
 exact ⟨W,g2,(E1 (Z1 W)<|sg W<|sg W<|sg W<|B7 (gq W) trivial)⟩
 refine C8 W ?_
 cases hz1
 obtain rfl:=ez1 _ rfl
 refine ⟨nofun,C7 W<|U7 ?_⟩
 exact ⟨g2,(E1 ⟨.of W,trivial⟩<|B7 (gq W) trivial)⟩
 rintro _ ⟨g1,q1⟩
 refine B4 q1<|B0<|B9 (oS y1 (76,g1)) W W (B9 (oS y1 (76,g1)) W W (A1<|B2 ?_))
 cases h
 exact A6 (.inr W) (B6 (B3 W)<|T7 G_hit) T6
def Io [Lp](p1:Map)(p2:(List Agent))(x4:(Int×State))(x5:Int):Option (Stp Int (Sum Unit (State×Int))):=
  cond (decide (x5< (p2.length:Int))) ((Ib x4.2 x4.1).bind fun v11=>((cond (!(!v11)) (Ib x4.2 x5) (some default))).bind fun v12=>cond ((!v11)||(!v12)) (some (.go (D6 (x5+1)))) ((C0 p2 x4.1).bind fun v13=>(C0 p2 x5).bind fun v14=>(Kk p1 v13 v14).bind fun v15=>((cond (!v15) (Pz p1 x4.2 x4.2 x4.1 x5) (some default))).bind fun v16=>cond (v15||(decide ((v16.length:Int)>0))) (some (.out (.inr ((State.mk 0 [] []),12)))) (some (.go (D6 (x5+1)))))) (some (.out (.inl ())))
def Fp [Lp](p1:Map)(p2:(List Agent))(x4:(Int×State)):Option (Stp (Int×State) (Sum State (State×Int))):=
  cond (decide (x4.1< (p2.length:Int))) (thenS (loop (Io p1 p2 x4) (D6 (x4.1+1))) (fun _=>some (.go ((D6 (x4.1+1)),x4.2))) (fun r=>some (.out (.inr r)))) (some (.out (.inl x4.2)))
def Ip [Lp](p1:Map)(p2:(List Agent))(x2:(Int×State))(x3:(Int×State)):Option (Stp (Int×State) State):=
  ((cond (decide (x3.1< (p1.Zones.length:Int))) (Ib x3.2 x2.1) (some default))).bind fun v4=>cond ((decide (x3.1< (p1.Zones.length:Int)))&&v4) ((C0 p2 x2.1).bind fun v5=>(C0 p2 x2.1).bind fun v6=>(Gh p1 v5 v6 x3.1).bind fun v7=>cond v7 ((C0 p2 x2.1).bind fun v8=>(Sk p1 v8 x3.1 0).bind fun v9=>(X3 x3.2.In [(Stay.mk x2.1 x3.1 0 v9)]).bind fun v10=>some (.go ((D6 (x3.1+1)),(State.mk x3.2.Tick x3.2.Agents v10)))) (some (.go ((D6 (x3.1+1)),x3.2)))) (some (.out x3.2))
def Iq [Lp](p1:Map)(p2:(List Agent))(x2:(Int×State)):Option (Stp (Int×State) State):=
  cond (decide (x2.1< (p2.length:Int))) ((loop (Ip p1 p2 x2) (0,x2.2)).bind fun y3=>some (.go ((D6 (x2.1+1)),y3))) (some (.out x2.2))
def Kz (p2:(List Agent))(x1:Int):Option (Stp Int (Sum Unit (State×Int))):=
  cond (decide (x1< (p2.length:Int))) ((C0 p2 x1).bind fun v3=>cond v3.Gone (some (.out (.inr ((State.mk 0 [] []),10)))) (some (.go (D6 (x1+1))))) (some (.out (.inl ())))
def Pb [Lp](p1:Map)(p2:(List Agent)):Option (State×Int):=
  (Pj (State.mk 0 p2 [])).bind fun v1=>(Mz p1 v1).bind fun v2=>cond (v2 !=0) (some ((State.mk 0 [] []),v2)) (thenS (loop (Kz p2) 0) (fun _=>(loop (Iq p1 p2) (0,v1)).bind fun y2=>thenS (loop (Fp p1 p2) (0,y2)) (fun y4=>some (y4,0)) (fun r=>some r)) (fun r=>some r))
theorem Vv(p1 p2 r)(h:Pb p1 p2=some r):PCall prog 28 [(.agg (Q0 p1)),(.list (List.map D0 p2))] (.tup [(.agg (Ba r.1)),(i64 r.2)]):=by
 refine C4 (fk func28 ntmps28 (fun r=>if r==1 then [1001002]else if r==17 then [1012]else []) (by with_unfolding_all rfl)) (nl W) ?_
 unfold Pb at h
 refine B4 (s0:=⟨T [(0,(.d _)),(1,(.d _))],G []⟩) (F3 W W) ?_
 refine lr<|fun u1 _=>sm W<|sm W<|sv W<|A1<|lr<|fun u2 _=>sv W<|sv W<|bs h fun v1 hv1 h=> ?_
 refine FN (v:=X2 [(di v1.Tick),(oS v1.Agents (10010020,u2)),(oS v1.In (10010021,u2))]) (us:= [(10010020,u2),(10010021,u2)]) (fC (FV _ _ hv1) [] [] _ (((10010021,u2),oB 127 4 J7 v1.In)::(((10010020,u2),oB 45 7 D0 v1.Agents)::_)) W (.cons (DLe.d<|.agg (ca W<|ca W<|.cons ⟨DLe.nil,W⟩ .nil)) .nil) W Iw trivial (fun _ h=>h) List.nodup_nil (by generalize v1.Agents=x1;generalize v1.In=x2;cases x1<;>cases x2<;>rfl) W (JZ<|JZ (W)) W) ?_
 refine sn W W<|Jp _ _ _ _ _ (W8 _) W W G_hit (nl W) [(di v1.Tick),(oS v1.Agents (10010020,u2)),(oS v1.In (10010021,u2))] W (A1<|B0<|sd W (B1 W (gq W) W W)<|B9 (X2 [(di v1.Tick),(oS v1.Agents (10010020,u2)),(oS v1.In (10010021,u2))]) W (B1 W G_hit W W) (bs h fun _ hv2 h=>A9 W (rD<|E7 (Nl<|rD<|E7 (T7<|gq W)<|E7 (T7<|gq W) G1) G1) (.cons (.refl _) (.cons (.agg (ca W<|.cons ⟨T6,W⟩ (.cons ⟨T6,W⟩ .nil))) .nil)) (KI _ _ _ hv2) (.inr W) (sv W<|A1<|A5<|B0<|sv W<|sv W<|A1<|cc W h (fun c1 h=> ?_)<|fun c1 h=> ?_)))
 refine B0<|sv W<|sv W<|U1 W (gq W) [(di 0),(.d .nilS),(.d .nilS)] W (sv W<|A1<|B2 ?_)
 cases h
 exact A6 (.inr W) (Mt (K1 W G_hit (nl W) W) (B3 W) C2 C2) (.tup (.cons (.agg (ca W<|.cons ⟨DLe.nil,W⟩ (.cons ⟨DLe.nil,W⟩ .nil))) A3))
 refine A8<|A5<|B0<|sv W<|A1<|js h fun z1 hz1 h=>D9 (fun s=> ∃(y1:Unit) (g1:Unit),z1= .inl y1∧Sb ⟨T [(1,(dl D0 p2)),(2,(.ptr (2,u1) 0)),(4,(.ptr (4,u1) 0)),(6,(.ptr (6,u2) 0))],G [((2,u1),some<|.box 33 (L8 p1)),((4,u1),some<|.box 25 [(di 0),(.d .nilS),(.d .nilS)]),((6,u2),some<|.box 25 [(di v1.Tick),(oS v1.Agents (10010020,u2)),(oS v1.In (10010021,u2))]),((10010020,u2),oB 45 7 D0 v1.Agents),((10010021,u2),oB 127 4 J7 v1.In)]⟩ s) ?_ ?_
 refine A7<|E3 (Kz p2) (fun (x1:Int) (g2:Unit)=>⟨T [(1,(dl D0 p2)),(2,(.ptr (2,u1) 0)),(4,(.ptr (4,u1) 0)),(6,(.ptr (6,u2) 0)),(8,(di x1))],G [((2,u1),some<|.box 33 (L8 p1)),((4,u1),some<|.box 25 [(di 0),(.d .nilS),(.d .nilS)]),((6,u2),some<|.box 25 [(di v1.Tick),(oS v1.Agents (10010020,u2)),(oS v1.In (10010021,u2))]),((10010020,u2),oB 45 7 D0 v1.Agents),((10010021,u2),oB 127 4 J7 v1.In)]⟩) 0 () _ hz1 (E1 (Z1 W)<|sg W<|sg W<|B5 G_hit (.of W)<|B7 (gq W)<|B7 (gq W) trivial) ?_
 intro x1 g2 z2 hz2 ez2
 unfold Kz at hz2
 refine A5<|B0<|sv W<|sv W<|sd W (D8 W)<|sv W<|A1<|cc W hz2 (fun c2 hz2=> ?_)<|fun c2 hz2=> ?_
 refine A8<|A5<|A7<|B0<|sv W<|sv W<|bs hz2 fun _ hv3 hz2=>sd W (C5 W W hv3 W)<|sv W<|sd W (C9 W hv3 W)<|A1<|cc W hz2 (fun c3 hz2=> ?_)<|fun c3 hz2=> ?_
 refine B0<|sv W<|U1 W (gq W) [(di 0),(.d .nilS),(.d .nilS)] W (sv W<|A1<|B2 ?_)
 cases hz2
 obtain rfl:=ez2 _ rfl
 refine ⟨nofun,E6 ?_⟩
 rw [wE]at h
 cases h
 exact A6 (.inr W) (Mt (K1 W G_hit (nl W) W) (B3 W) C2 C2) (.tup (.cons (.agg (ca W<|.cons ⟨DLe.nil,W⟩ (.cons ⟨DLe.nil,W⟩ .nil))) A3))
 refine A8<|E2<|B8<|sv W<|sv W<|sv W<|A1<|E4 ?_
 cases hz2
 exact ⟨W,(),(E1 (Z1 W)<|B5 G_hit (.of W)<|sg W<|sg W<|B7 (gq W)<|B7 (gq W) trivial)⟩
 refine C8 W ?_
 cases hz2
 obtain rfl:=ez2 _ rfl
 refine ⟨nofun,C7 W<|U7 ?_⟩
 exact ⟨_,(),W,(E1 (Z1 W)<|B5 G_hit (.of W)<|sg W<|sg W<|B7 (gq W)<|B7 (gq W) trivial)⟩
 rintro _ ⟨y1,g1,rfl,q1⟩
 rw [wD]at h
 refine B4 q1<|A5<|B0<|sv W<|A1<|bs h fun y2 hy2 h=>D9 (fun s=> ∃g3:(Nat× ({d:Nat // d∈ [77,10010021]}×Nat)),Sb ⟨T [(1,(dl D0 p2)),(2,(.ptr (2,u1) 0)),(4,(.ptr (4,u1) 0)),(6,(.ptr (6,u2) 0))],G [((2,u1),some<|.box 33 (L8 p1)),((4,u1),some<|.box 25 [(di 0),(.d .nilS),(.d .nilS)]),((6,u2),some<|.box 25 [(di y2.Tick),(oS y2.Agents (10010020,g3.1)),(oS y2.In (g3.2.1.val,g3.2.2))]),((10010020,g3.1),oB 45 7 D0 y2.Agents),((g3.2.1.val,g3.2.2),oB 127 4 J7 y2.In)]⟩ s) ?_ ?_
 refine A7<|E3 (Iq p1 p2) (fun (x2:(Int×State)) (g4:(Nat× ({d:Nat // d∈ [77,10010021]}×Nat)))=>⟨T [(1,(dl D0 p2)),(2,(.ptr (2,u1) 0)),(4,(.ptr (4,u1) 0)),(6,(.ptr (6,u2) 0)),(9,(di x2.1))],G [((2,u1),some<|.box 33 (L8 p1)),((4,u1),some<|.box 25 [(di 0),(.d .nilS),(.d .nilS)]),((6,u2),some<|.box 25 [(di x2.2.Tick),(oS x2.2.Agents (10010020,g4.1)),(oS x2.2.In (g4.2.1.val,g4.2.2))]),((10010020,g4.1),oB 45 7 D0 x2.2.Agents),((g4.2.1.val,g4.2.2),oB 127 4 J7 x2.2.In)]⟩) (0,v1) (u2,(⟨10010021, .tail _ (.head _)⟩,u2)) _ hy2 (E1 (Z1 W)<|B5 G_hit (.of W)<|sg W<|sg W<|B7 (gq W)<|B7 (gq W) trivial) ?_
 intro x2 g4 z3 hz3 ez3
 unfold Iq at hz3
 refine A5<|B0<|sv W<|sv W<|sd W (D8 W)<|sv W<|A1<|cc W hz3 (fun c4 hz3=> ?_)<|fun c4 hz3=> ?_
 refine A8<|A5<|A7<|B0<|sv W<|A1<|bs hz3 fun y3 hy3 hz3=>D9 (fun s=> ∃g5:(Nat× ({d:Nat // d∈ [77,10010021]}×Nat)),Sb ⟨T [(1,(dl D0 p2)),(2,(.ptr (2,u1) 0)),(4,(.ptr (4,u1) 0)),(6,(.ptr (6,u2) 0)),(9,(di x2.1))],G [((2,u1),some<|.box 33 (L8 p1)),((4,u1),some<|.box 25 [(di 0),(.d .nilS),(.d .nilS)]),((6,u2),some<|.box 25 [(di y3.Tick),(oS y3.Agents (10010020,g5.1)),(oS y3.In (g5.2.1.val,g5.2.2))]),((10010020,g5.1),oB 45 7 D0 y3.Agents),((g5.2.1.val,g5.2.2),oB 127 4 J7 y3.In)]⟩ s) ?_ ?_
 refine A7<|E3 (Ip p1 p2 x2) (fun (x3:(Int×State)) (g6:(Nat× ({d:Nat // d∈ [77,10010021]}×Nat)))=>⟨T [(1,(dl D0 p2)),(2,(.ptr (2,u1) 0)),(4,(.ptr (4,u1) 0)),(6,(.ptr (6,u2) 0)),(9,(di x2.1)),(10,(di x3.1))],G [((2,u1),some<|.box 33 (L8 p1)),((4,u1),some<|.box 25 [(di 0),(.d .nilS),(.d .nilS)]),((6,u2),some<|.box 25 [(di x3.2.Tick),(oS x3.2.Agents (10010020,g6.1)),(oS x3.2.In (g6.2.1.val,g6.2.2))]),((10010020,g6.1),oB 45 7 D0 x3.2.Agents),((g6.2.1.val,g6.2.2),oB 127 4 J7 x3.2.In)]⟩) (0,x2.2) (g4.1,(g4.2.1,g4.2.2)) _ hy3 (E1 (Z1 W)<|B5 G_hit (.of W)<|sg W<|sg W<|B7 (gq W)<|B7 (Vn g4.2.1.property 4 W G_hit) trivial) ?_
 intro x3 g6 z4 hz4 ez4
 unfold Ip at hz4
 refine A5<|B0<|sv W<|sq W<|sl W G_hit W<|sd W (D8 W)<|sv W<|sv W<|M8 _ (X2 [(di x3.2.Tick),(oS x3.2.Agents (10010020,g6.1)),(oS x3.2.In (g6.2.1.val,g6.2.2))]) W (M6 W) (fun _=>(B1 W (gq W) W W)) (gt W (fun _=>W)<|bs hz4 fun v4 hv4 hz4=> ?_)
 refine O3 _ (bo v4) (M6 W) (fun w3=>⟨_,[(X2 [(di x3.2.Tick),(oS x3.2.Agents (10010020,g6.1)),(oS x3.2.In (g6.2.1.val,g6.2.2))]),(di x2.1)],_,_,(by simp only [A2 w3];rfl),(E7 (Nl<|rD<|E7 (T7<|gq W)<|E7 (T7<|Vn g6.2.1.property 4 W G_hit) G1)<|rD G1),(.cons (.agg (ca W<|.cons ⟨T6,W⟩ (.cons ⟨T6,W⟩ .nil))) A3),Si _ _ _<|C1 w3 hv4,(.inr W)⟩) ?_
 refine sa W W W<|A1<|cc W hz4 (fun c5 hz4=> ?_)<|fun c5 hz4=> ?_
 refine A8<|A5<|A7<|A5<|E8 W<|sd W (B1 W G_hit W W)<|sv W<|sv W<|bs hz4 fun _ hv5 hz4=>sd W (C5 W W hv5 W)<|sd W (D3 W hv5 W W)<|sv W<|sv W<|bs hz4 fun _ hv6 hz4=>sd W (C5 W W hv6 W)<|sd W (D3 W hv6 W W)<|sv W<|bs hz4 fun _ hv7 hz4=>A9 W W A3 (Oy _ _ _ _ _ hv7) (.inl W) (A1<|cc W hz4 (fun c6 hz4=> ?_)<|fun c6 hz4=> ?_)
 refine Mi W fun u16 _=>sq W<|B9 (oS x3.2.In (g6.2.1.val,g6.2.2)) W (P6 W (gq W) W) (sv W<|sv W<|sd W (B1 W G_hit W W)<|sv W<|sv W<|bs hz4 fun _ hv8 hz4=>sd W (C5 W W hv8 W)<|sd W (D3 W hv8 W W)<|sv W<|bs hz4 fun v9 hv9 hz4=>A9 W W A3 (ML _ _ _ _ _ hv9) (.inl W) (sv W<|B9 (dl J7 [(Stay.mk x2.1 x3.1 0 v9)]) W W (bs hz4 fun _ hv10 hz4=>P9 J7 (g6.2.1.val,g6.2.2) x3.2.In (Stay.mk x2.1 x3.1 0 v9) [] _ (L7<|fun _=>W) W (F4 (AS g6.2.1.property W)<|F4 (AS g6.2.1.property W)<|F4 (AS g6.2.1.property W)<|F4 (AS g6.2.1.property W) G_hit) hv10 (sq W<|Jp _ _ _ _ _ W W W (F4 W<|F4 (CE g6.2.1.property W)<|gq W) (nl W) [(di x3.2.Tick),(oS x3.2.Agents (10010020,g6.1)),(.sl (77,u16))] W (A1<|E2<|B8<|sv W<|sv W<|sv W<|A1<|E4 ?_)))))
 cases hz4
 exact ⟨W,(g6.1,(⟨77, .head _⟩,u16)),(E1 (Z1 W)<|B5 (Wq 2 W<|F4 (CE g6.2.1.property W) G_hit) (.of W) (B5 (Wq 2 W<|F4 (CE g6.2.1.property W)<|gq W) (.of W) (B5 G_hit (.box (cv<|cv<|.cons (.of (U8<|V0 hv10).symm) .nil))<|B7 (Wq 2 W<|F4 (CE g6.2.1.property W)<|gq W)<|N7 (gq W) trivial)))⟩
 refine A8<|E2<|B8<|sv W<|sv W<|sv W<|A1<|E4 ?_
 cases hz4
 exact ⟨W,(g6.1,(g6.2.1,g6.2.2)),(E1 (Z1 W)<|B5 G_hit (.of W)<|sg W<|sg W<|B7 (gq W)<|B7 (Vn g6.2.1.property 4 W G_hit) trivial)⟩
 refine C8 W ?_
 cases hz4
 obtain rfl:=ez4 _ rfl
 refine ⟨nofun,C7 W<|U7 ?_⟩
 exact ⟨(g6.1,(g6.2.1,g6.2.2)),(E1 (Z1 W)<|B5 G_hit (.of W)<|sg W<|sg W<|B7 (gq W)<|B7 (Vn g6.2.1.property 4 W G_hit) trivial)⟩
 rintro _ ⟨g5,q2⟩
 refine E2<|B4 q2<|B8<|sv W<|sv W<|sv W<|A1<|E4 ?_
 cases hz3
 exact ⟨W,(g5.1,(g5.2.1,g5.2.2)),(E1 (Z1 W)<|B5 G_hit (.of W)<|sg W<|sg W<|B7 (gq W)<|B7 (Vn g5.2.1.property 4 W G_hit) trivial)⟩
 refine C8 W ?_
 cases hz3
 obtain rfl:=ez3 _ rfl
 refine ⟨nofun,C7 W<|U7 ?_⟩
 exact ⟨(g4.1,(g4.2.1,g4.2.2)),(E1 (Z1 W)<|B5 G_hit (.of W)<|sg W<|sg W<|B7 (gq W)<|B7 (Vn g4.2.1.property 4 W G_hit) trivial)⟩
 rintro _ ⟨g3,q3⟩
 refine B4 q3<|A5<|B0<|sv W<|A1<|js h fun z5 hz5 h=>D9 (fun s=> ∃(y4:State) (g7:Unit),z5= .inl y4∧Sb ⟨T [(4,(.ptr (4,u1) 0)),(6,(.ptr (6,u2) 0))],G [((4,u1),some<|.box 25 [(di 0),(.d .nilS),(.d .nilS)]),((6,u2),some<|.box 25 (K2 y4))]⟩ s) ?_ ?_
 refine A7<|pK [(10010020,g3.1),(g3.2.1.val,g3.2.2)] [(1,(dl D0 p2)),(2,(.ptr (2,u1) 0)),(4,(.ptr (4,u1) 0)),(6,(.ptr (6,u2) 0)),(11,(di 0))] [((2,u1),some<|.box 33 (L8 p1)),((4,u1),some<|.box 25 [(di 0),(.d .nilS),(.d .nilS)]),((6,u2),some<|.box 25 (K2 y2))] ⟨El W,El W,El W,El W,El W,trivial⟩ (KA G_hit (Ly (Nn W)<|Ly (Nn<|CE g3.2.1.property W) Vo)<|KA (gq W) (Ly (Nn W)<|Ly (Nn<|CE g3.2.1.property W) Vo) (XV (gq W) (Ly (Nn W)<|Ly (Nn<|CE g3.2.1.property W) Vo) (.cons (El W) (.cons (jT (T7<|SF (.head _)<|gq W) T6) (.cons (jT (T7<|SF (.tail _ (.head _))<|F4 (AS g3.2.1.property W)<|F4 (AS g3.2.1.property W)<|F4 (AS g3.2.1.property W)<|F4 (AS g3.2.1.property W) G_hit) T6) .nil))) trivial)) (E3 (Fp p1 p2) (fun (x4:(Int×State)) (g8:Unit)=>⟨T [(1,(dl D0 p2)),(2,(.ptr (2,u1) 0)),(4,(.ptr (4,u1) 0)),(6,(.ptr (6,u2) 0)),(11,(di x4.1))],G [((2,u1),some<|.box 33 (L8 p1)),((4,u1),some<|.box 25 [(di 0),(.d .nilS),(.d .nilS)]),((6,u2),some<|.box 25 (K2 x4.2))]⟩) (0,y2) () _ hz5 (F3 W W) ?_)
 intro x4 g8 z6 hz6 ez6
 unfold Fp at hz6
 refine A5<|B0<|sv W<|sv W<|sd W (D8 W)<|sv W<|A1<|cc W hz6 (fun c7 hz6=> ?_)<|fun c7 hz6=> ?_
 refine A8<|A5<|A7<|B0<|sv W<|sv W<|sv W<|A1<|js hz6 fun z7 hz7 hz6=>D9 (fun s=> ∃(y5:Unit) (g9:Unit),z7= .inl y5∧Sb ⟨T [(1,(dl D0 p2)),(2,(.ptr (2,u1) 0)),(4,(.ptr (4,u1) 0)),(6,(.ptr (6,u2) 0)),(11,(di x4.1))],G [((2,u1),some<|.box 33 (L8 p1)),((4,u1),some<|.box 25 [(di 0),(.d .nilS),(.d .nilS)]),((6,u2),some<|.box 25 (K2 x4.2))]⟩ s) ?_ ?_
 refine A7<|E3 (Io p1 p2 x4) (fun (x5:Int) (g10:Unit)=>⟨T [(1,(dl D0 p2)),(2,(.ptr (2,u1) 0)),(4,(.ptr (4,u1) 0)),(6,(.ptr (6,u2) 0)),(11,(di x4.1)),(12,(di x5))],G [((2,u1),some<|.box 33 (L8 p1)),((4,u1),some<|.box 25 [(di 0),(.d .nilS),(.d .nilS)]),((6,u2),some<|.box 25 (K2 x4.2))]⟩) (D6 (x4.1+1)) () _ hz7 (F3 W W) ?_
 intro x5 g10 z8 hz8 ez8
 unfold Io at hz8
 refine A5<|B0<|sv W<|sv W<|sd W (D8 W)<|sv W<|A1<|cc W hz8 (fun c8 hz8=> ?_)<|fun c8 hz8=> ?_
 refine A8<|A5<|A7<|A5<|B0<|sd W (B1 W (gq W) W W)<|sv W<|bs hz8 fun v11 hv11 hz8=>A9 W W A3 (Si _ _ _ hv11) (.inl W) (B9 (.d (bo (!v11))) W W (sv W<|gf W (fun _=>(B1 W (gq W) W W))<|gf W (fun _=>W)<|bs hz8 fun v12 hv12 hz8=> ?_))
 refine O3 _ (bo v12) (K6 W) (fun w6=>⟨_,[(.d (.agg (Ba x4.2))),(di x5)],_,_,(by simp only [A2 w6];rfl),W,A3,Si _ _ _<|C1 w6 hv12,(.inl W)⟩) ?_
 refine M8 _ (.d (bo (!v12))) W (K6 W) (fun w7=>(by simp only [A2 w7];rfl)) ?_
 refine sd W (N9 W W<|fun hc=>A2<|J4 hc)<|A1<|cc W hz8 (fun c9 hz8=> ?_)<|fun c9 hz8=> ?_
 refine Tu W<|B8<|sv W<|sv W<|sv W<|A1<|E4 ?_
 cases hz8
 exact ⟨W,(),(F3 W W)⟩
 refine A8<|A5<|E8 W<|sd W (B1 W G_hit W W)<|sv W<|sv W<|bs hz8 fun _ hv13 hz8=>sd W (C5 W W hv13 W)<|sd W (D3 W hv13 W W)<|sv W<|sv W<|bs hz8 fun _ hv14 hz8=>sd W (C5 W W hv14 W)<|sd W (D3 W hv14 W W)<|bs hz8 fun _ hv15 hz8=>A9 W W A3 (EM _ _ _ _ hv15) (.inl W) (sv W<|gf W (fun _=>(B1 W G_hit W W))<|gf W (fun _=>(B1 W (gq W) W W))<|gf W (fun _=>(B1 W (gq W) W W))<|gf W (fun _=>W)<|gf W (fun _=>W)<|bs hz8 fun v16 hv16 hz8=> ?_)
 refine O3 _ (.list (List.map A4 v16)) (K6 W) (fun w13=>⟨_,[(.d (.agg (Q0 p1))),(.d (.agg (Ba x4.2))),(.d (.agg (Ba x4.2))),(di x4.1),(di x5)],_,_,(by simp only [A2 w13];rfl),W,A3,KM _ _ _ _ _ _<|C1 w13 hv16,(.inl W)⟩) ?_
 refine gf W (fun w14=>(D8<|A2 w14))<|gf W (vb W W W)<|sd W (N9 W W<|fun hc=>A2<|J4 hc)<|A1<|cc W hz8 (fun c10 hz8=> ?_)<|fun c10 hz8=> ?_
 refine B0<|sv W<|U1 W (gq W) [(di 0),(.d .nilS),(.d .nilS)] W (sv W<|A1<|B2 ?_)
 cases hz8
 obtain rfl:=ez8 _ rfl
 refine ⟨nofun,E6 ?_⟩
 rw [wE]at hz6
 cases hz6
 obtain rfl:=ez6 _ rfl
 refine ⟨nofun,E6 ?_⟩
 rw [wE]at h
 cases h
 exact A6 (.inr W) (Mt (K1 W G_hit (nl W) W) (B3 W) C2 C2) (.tup (.cons (.agg (ca W<|.cons ⟨DLe.nil,W⟩ (.cons ⟨DLe.nil,W⟩ .nil))) A3))
 refine A8<|E2<|B8<|sv W<|sv W<|sv W<|A1<|E4 ?_
 cases hz8
 exact ⟨W,(),(F3 W W)⟩
 refine C8 W ?_
 cases hz8
 obtain rfl:=ez8 _ rfl
 refine ⟨nofun,C7 W<|U7 ?_⟩
 exact ⟨_,(),W,(F3 W W)⟩
 rintro _ ⟨y5,g9,rfl,q4⟩
 rw [wD]at hz6
 refine E2<|B4 q4<|B8<|sv W<|sv W<|sv W<|A1<|E4 ?_
 cases hz6
 exact ⟨W,(),(F3 W W)⟩
 refine C8 W ?_
 cases hz6
 obtain rfl:=ez6 _ rfl
 refine ⟨nofun,C7 W<|U7 ?_⟩
 exact ⟨_,(),W,(F3 W W)⟩
 rintro _ ⟨y4,g7,rfl,q5⟩
 rw [wD]at h
 refine B4 q5<|B0<|sd W (B1 W (gq W) W W)<|U1 W G_hit (K2 y4) W (sv W<|A1<|B2 ?_)
 cases h
 exact A6 (.inr W) (Mt (K1 W G_hit (nl W) W) (B3 W) C2 C2) (.refl _)
def Hh [Lp](p1:Map)(x1:((List Int)×Int)):Option (Stp ((List Int)×Int) (List Int)):=
  cond (decide (x1.2< (p1.Lanes.length:Int))) ((Kv p1 x1.2).bind fun v1=>cond ((v1.length:Int)==0) ((X3 x1.1 [x1.2]).bind fun v2=>some (.go (v2,(D6 (x1.2+1))))) (some (.go (x1.1,(D6 (x1.2+1)))))) (some (.out x1.1))
def Lv [Lp](p1:Map):Option (List Int):=
  (loop (Hh p1) ([],0)).bind fun y1=>some y1
theorem FW(p1 r)(h:Lv p1=some r):PCall prog 188 [(.agg (Q0 p1))] (.list (List.map A4 r)):=by
 refine C4 (fk func188 ntmps188 (fun r=>if r==6 then [1002]else []) (by with_unfolding_all rfl)) (nl W) ?_
 unfold Lv at h
 refine B4 (s0:=⟨T [(0,(.d _))],G []⟩) (F3 W W) ?_
 refine lr<|fun u1 _=>sm W<|sv W<|A1<|B0<|sv W<|A1<|A5<|B0<|sv W<|A1<|bs h fun y1 hy1 h=>D9 (fun s=> ∃g1:Nat,Sb ⟨T [(3,(oS y1 (20,g1)))],G [((20,g1),oB 3 1 A4 y1)]⟩ s) ?_ ?_
 refine A7<|E3 (Hh p1) (fun (x1:((List Int)×Int)) (g2:Nat)=>⟨T [(1,(.ptr (1,u1) 0)),(3,(oS x1.1 (20,g2))),(4,(di x1.2))],G [((1,u1),some<|.box 33 (L8 p1)),((20,g2),oB 3 1 A4 x1.1)]⟩) ([],0) 0 _ hy1 (E1 (Z1 W)<|B5 G_hit (.of W)<|S4 trivial) ?_
 intro x1 g2 z1 hz1 ez1
 unfold Hh at hz1
 refine A5<|B0<|sv W<|sq W<|sl W G_hit W<|sd W (D8 W)<|sv W<|A1<|cc W hz1 (fun c1 hz1=> ?_)<|fun c1 hz1=> ?_
 refine A8<|A5<|A7<|B0<|sd W (B1 W G_hit W W)<|sv W<|bs hz1 fun _ hv1 hz1=>A9 W W A3 (Wu _ _ _ hv1) (.inl W) (sd W (D8 W)<|sv W<|A1<|cc W hz1 (fun c2 hz1=> ?_)<|fun c2 hz1=> ?_)
 refine Bj fun u6 _=>B9 (oS x1.1 (20,g2)) W W (sv W<|B9 (dl A4 [x1.2]) W W (bs hz1 fun _ hv2 hz1=>P9 A4 (20,g2) x1.1 x1.2 [] _ (L7<|fun _=>W) W (gq W) hv2 (ss W<|A1<|E2<|B8<|sv W<|sv W<|sv W<|A1<|E4 ?_)))
 cases hz1
 exact ⟨W,u6,(E1 ⟨.of W,(.of (U8<|V0 hv2).symm), .of W,trivial⟩<|sg W<|N7 G_hit trivial)⟩
 refine A8<|E2<|B8<|sv W<|sv W<|sv W<|A1<|E4 ?_
 cases hz1
 exact ⟨W,g2,(E1 (Z1 W)<|B5 G_hit (.of W)<|B7 (gq W) trivial)⟩
 refine C8 W ?_
 cases hz1
 obtain rfl:=ez1 _ rfl
 refine ⟨nofun,C7 W<|U7 ?_⟩
 exact ⟨g2,(E1 ⟨.of W,trivial⟩<|B7 (gq W) trivial)⟩
 rintro _ ⟨g1,q1⟩
 refine B4 q1<|B0<|B9 (oS y1 (20,g1)) W W (B9 (oS y1 (20,g1)) W W (A1<|B2 ?_))
 cases h
 exact A6 (.inr W) (B6 (B3 W)<|T7 G_hit) T6
def La (p1:Map)(x1:(Int×Int× (List Int))):Option (Stp (Int×Int× (List Int)) (List Int)):=
  (C0 p1.Lanes x1.2.1).bind fun v6=>cond ((decide ((v6.Next.length:Int)>0))&& (decide ((x1.2.2.length:Int)<8))) ((C0 p1.Lanes x1.2.1).bind fun v7=>(C0 p1.Lanes x1.2.1).bind fun v8=>(Vl x1.1 (v7.Next.length:Int)).bind fun v9=>(C0 v8.Next v9).bind fun v10=>(PN .i64 x1.1 (v7.Next.length:Int)).bind fun v11=>(X3 x1.2.2 [v10]).bind fun v12=>some (.go (v11,v10,v12))) (some (.out x1.2.2))
def Jm [Lp](p1:Map)(p2:Int):Option (List Int):=
  (Lv p1).bind fun v1=>cond ((v1.length:Int)==0) (some []) ((Ra p2 1048576).bind fun v2=>(Vl v2 (v1.length:Int)).bind fun v3=>(C0 v1 v3).bind fun v4=>(PN .i64 v2 (v1.length:Int)).bind fun v5=>(loop (La p1) (v5,v4,[v4])).bind fun y1=>some y1)
theorem Vw(p1 p2 r)(h:Jm p1 p2=some r):PCall prog 100 [(.agg (Q0 p1)),(i64 p2)] (.list (List.map A4 r)):=by
 refine C4 (fk func100 ntmps100 (fun r=>if r==12 then [1002]else []) (by with_unfolding_all rfl)) (nl W) ?_
 unfold Jm at h
 refine B4 (s0:=⟨T [(0,(.d _)),(1,(.d _))],G []⟩) (F3 W W) ?_
 refine lr<|fun u1 _=>sm W<|sv W<|A1<|B0<|sd W (B1 W G_hit W W)<|bs h fun _ hv1 h=>A9 W W A3 (FW _ _ hv1) (.inl W) (sv W<|A1<|A5<|B0<|sv W<|sd W (D8 W)<|sv W<|A1<|cc W h (fun c1 h=> ?_)<|fun c1 h=> ?_)
 refine B0<|sv W<|A1<|B2 ?_
 cases h
 exact A6 (.inr W) (B6 (B3 W) C2) DLe.nil
 refine A8<|B0<|sv W<|bs h fun _ hv2 h=>A9 W W A3 (Se _ _ _ hv2) (.inl W) (sv W<|A1<|B0<|sv W<|sv W<|sv W<|sd W (D8 W)<|bs h fun _ hv3 h=>sd W (AQ W W hv3)<|bs h fun v4 hv4 h=>sd W (C5 W W hv4 W)<|sd W (C9 W hv4 W)<|sv W<|A1<|lr<|fun u7 _=>sv W<|Oh (.sl _) (.arr 3 1 (List.map A4 ([v4]:List Int))) W W (ss W<|A1<|B0<|sv W<|sv W<|sd W (D8 W)<|bs h fun v5 hv5 h=>sd W (eN W W hv5)<|sv W<|A1<|A5<|bs h fun y1 hy1 h=>D9 (fun s=> ∃g1:({d:Nat // d∈ [24,66]}×Nat),Sb ⟨T [(7,(oS y1 (g1.1.val,g1.2)))],G [((g1.1.val,g1.2),oB 3 1 A4 y1)]⟩ s) ?_ ?_))
 refine A7<|E3 (La p1) (fun (x1:(Int×Int× (List Int))) (g2:({d:Nat // d∈ [24,66]}×Nat))=>⟨T [(1,(di x1.1)),(2,(.ptr (2,u1) 0)),(6,(di x1.2.1)),(7,(oS x1.2.2 (g2.1.val,g2.2)))],G [((2,u1),some<|.box 33 (L8 p1)),((g2.1.val,g2.2),oB 3 1 A4 x1.2.2)]⟩) (v5,v4,[v4]) (⟨24, .head _⟩,u7) _ hy1 (E1 ⟨.of W, .of W, .of W,(.of (U8<|List.cons_ne_nil _ _).symm),trivial⟩<|sg W<|N7 G_hit trivial) ?_
 intro x1 g2 z1 hz1 ez1
 unfold La at hz1
 refine A5<|B0<|sq W<|sl W G_hit W<|sv W<|bs hz1 fun _ hv6 hz1=>sd W (C5 W W hv6 W)<|sv W<|sd W (C9 W hv6 W)<|sd W (D8 W)<|sv W<|sv W<|M8 _ (oS x1.2.2 (g2.1.val,g2.2)) W (M6 W) (fun _=>W) (gt W (fun w2=>(eO (f:=A4) (A2 w2) (F4 (AS g2.1.property W) G_hit)))<|gt W (vb W W W)<|sa W W W<|A1<|cc W hz1 (fun c2 hz1=> ?_)<|fun c2 hz1=> ?_)
 refine A8<|A7<|B0<|sq W<|sl W G_hit W<|sv W<|bs hz1 fun _ hv7 hz1=>sd W (C5 W W hv7 W)<|sv W<|sd W (C9 W hv7 W)<|sd W (D8 W)<|sv W<|A1<|A5<|E8 W<|sq W<|sl W G_hit W<|sv W<|bs hz1 fun _ hv8 hz1=>sd W (C5 W W hv8 W)<|sv W<|sd W (C9 W hv8 W)<|sv W<|sv W<|bs hz1 fun _ hv9 hz1=>sd W (AQ W W hv9)<|bs hz1 fun v10 hv10 hz1=>sd W (C5 W W hv10 W)<|sd W (C9 W hv10 W)<|sv W<|A1<|B0<|sv W<|sv W<|bs hz1 fun _ hv11 hz1=>sd W (eN W W hv11)<|sv W<|A1<|Bj fun u13 _=>B9 (oS x1.2.2 (g2.1.val,g2.2)) W W (sv W<|B9 (dl A4 [v10]) W W (bs hz1 fun _ hv12 hz1=>P9 A4 (g2.1.val,g2.2) x1.2.2 v10 [] _ (L7<|fun _=>W) W (F4 (AS g2.1.property W) G_hit) hv12 (ss W<|A1<|E2<|E4 ?_)))
 cases hz1
 exact ⟨W,(⟨66, .tail _ (.head _)⟩,u13),(E1 ⟨.of W, .of W, .of W,(.of (U8<|V0 hv12).symm),trivial⟩<|B5 (F4 W<|F4 (CE g2.1.property W) G_hit) (.of W) (N7 G_hit trivial))⟩
 refine C8 W ?_
 cases hz1
 obtain rfl:=ez1 _ rfl
 refine ⟨nofun,C7 W<|U7 ?_⟩
 exact ⟨(g2.1,g2.2),(E1 ⟨.of W,trivial⟩<|B7 (F4 (AS g2.1.property W) G_hit) trivial)⟩
 rintro _ ⟨g1,q1⟩
 refine B4 q1<|B0<|B9 (oS y1 (g1.1.val,g1.2)) W W (B9 (oS y1 (g1.1.val,g1.2)) W W (A1<|B2 ?_))
 cases h
 exact A6 (.inr W) (B6 (B3 W)<|T7 G_hit) T6
def Pc (p1:Int)(p2:Int):Option Int:=
  (Vl p1 p2).bind fun v1=>cond (decide (v1<0)) (some (D6 (v1+p2))) (some v1)
theorem Vx(p1 p2 r)(h:Pc p1 p2=some r):PCall prog 46 [(i64 p1),(i64 p2)] (i64 r):=by
 refine C4 (fk func46 ntmps46 m0 (by with_unfolding_all rfl)) (nl W) ?_
 unfold Pc at h
 refine B4 (s0:=⟨T [(0,(.d _)),(1,(.d _))],G []⟩) (F3 W W) ?_
 refine B0<|sv W<|A1<|B0<|sv W<|sv W<|bs h fun _ hv1 h=>sd W (AQ W W hv1)<|sv W<|A1<|A5<|B0<|sv W<|sv W<|A1<|cc W h (fun c1 h=> ?_)<|fun c1 h=> ?_
 refine B8<|sv W<|sv W<|sv W<|sv W<|A1<|B0<|sv W<|sv W<|A1<|B2 ?_
 cases h
 exact A6 (.inr W) (B6 (B3 W) C2) (.refl _)
 refine A8<|B0<|sv W<|sv W<|A1<|B2 ?_
 cases h
 exact A6 (.inr W) (B6 (B3 W) C2) (.refl _)
def Z0 [Lp](p1:Map)(p2:Int)(x1:Int):Option (Stp Int (Sum Unit (List Int))):=
  cond (decide (x1<4)) ((Ra p2 1048576).bind fun v1=>(Jm p1 (D6 (v1+x1))).bind fun v2=>((cond (decide ((v2.length:Int)>0)) (C0 v2 0) (some default))).bind fun v3=>((cond (decide ((v2.length:Int)>0)) (C0 p1.Lanes v3) (some default))).bind fun v4=>cond ((decide ((v2.length:Int)>0))&& (v4.Kind==1)) (some (.out (.inr v2))) (some (.go (D6 (x1+1))))) (some (.out (.inl ())))
def Dk [Lp](p1:Map)(p2:Int):Option (List Int):=
  thenS (loop (Z0 p1 p2) 0) (fun _=>(Jm p1 0).bind fun v5=>some v5) (fun r=>some r)
theorem FX(p1 p2 r)(h:Dk p1 p2=some r):PCall prog 101 [(.agg (Q0 p1)),(i64 p2)] (.list (List.map A4 r)):=by
 refine C4 (fk func101 ntmps101 m0 (by with_unfolding_all rfl)) (nl W) ?_
 unfold Dk at h
 refine B4 (s0:=⟨T [(0,(.d _)),(1,(.d _))],G []⟩) (F3 W W) ?_
 refine lr<|fun u1 _=>sm W<|sv W<|A1<|A5<|B0<|sv W<|A1<|js h fun z1 hz1 h=>D9 (fun s=> ∃(y1:Unit) (g1:Unit),z1= .inl y1∧Sb ⟨T [(2,(.ptr (2,u1) 0))],G [((2,u1),some<|.box 33 (L8 p1))]⟩ s) ?_ ?_
 refine A7<|E3 (Z0 p1 p2) (fun (x1:Int) (g2:Unit)=>⟨T [(1,(di p2)),(2,(.ptr (2,u1) 0)),(5,(di x1))],G [((2,u1),some<|.box 33 (L8 p1))]⟩) 0 () _ hz1 (F3 W W) ?_
 intro x1 g2 z2 hz2 ez2
 unfold Z0 at hz2
 refine A5<|B0<|sv W<|sv W<|A1<|cc W hz2 (fun c1 hz2=> ?_)<|fun c1 hz2=> ?_
 refine A8<|A5<|A7<|A5<|E8 W<|sd W (B1 W G_hit W W)<|sv W<|bs hz2 fun _ hv1 hz2=>A9 W W A3 (Se _ _ _ hv1) (.inl W) (sv W<|sv W<|bs hz2 fun _ hv2 hz2=>A9 W W A3 (Vw _ _ _ hv2) (.inl W) (sv W<|A1<|A5<|E8 W<|sv W<|sd W (D8 W)<|sv W<|sv W<|gp W (M6 W) (fun _=>W) (gt W (vl W G_hit W)<|gt W (fun _=>W)<|bs hz2 fun _ hv3 hz2=>gt W (fun w4=>(C5 (A2 w4) W (C1 w4 hv3) W))<|gt W (fun w5=>(C9 (A2 w5) (C1 w5 hv3) W))<|bs hz2 fun _ hv4 hz2=>gt W (fun w6=>(C5 (A2 w6) (A2 w6) (C1 w6 hv4) W)) ?_)))
 refine gt W (fun w7=>(by simp only [A2 w7];rfl)) ?_
 refine gt W (fun w8=>(C9 (A2 w8) (C1 w8 hv4) W))<|gt W (vb W W W)<|sa W W W<|A1<|cc W hz2 (fun c2 hz2=> ?_)<|fun c2 hz2=> ?_
 refine B0<|sv W<|sv W<|A1<|B2 ?_
 cases hz2
 obtain rfl:=ez2 _ rfl
 refine ⟨nofun,E6 ?_⟩
 rw [wE]at h
 cases h
 exact A6 (.inr W) (B6 (B3 W) C2) (.refl _)
 refine A8<|E2<|B8<|sv W<|sv W<|sv W<|A1<|E4 ?_
 cases hz2
 exact ⟨W,(),(F3 W W)⟩
 refine C8 W ?_
 cases hz2
 obtain rfl:=ez2 _ rfl
 refine ⟨nofun,C7 W<|U7 ?_⟩
 exact ⟨_,(),W,(F3 W W)⟩
 rintro _ ⟨y1,g1,rfl,q1⟩
 rw [wD]at h
 refine B4 q1<|B0<|sd W (B1 W G_hit W W)<|bs h fun _ hv5 h=>A9 W W A3 (Vw _ _ _ hv5) (.inl W) (sv W<|A1<|B2 ?_)
 cases h
 exact A6 (.inr W) (B6 (B3 W) C2) (.refl _)
def Rl [Lp](p1:Map)(p2:KitActor)(p3:Bool):Option Agent:=
  (Jm p1 p2.R).bind fun v1=>(Pc p2.Len 4700).bind fun v2=>(cond p3 ((Dk p1 p2.R).bind fun v3=>some (v3,false)) (some (v1,(!p2.Disobeys)))).bind fun y1=>(C0 y1.1 0).bind fun v4=>(C0 p1.Lanes v4).bind fun v5=>(Dd v5.Kind).bind fun v6=>(Pc p2.V (D6 (v6.1+1))).bind fun v7=>(cond (decide (v6.1<1000)) (some 300) (some (D6 (300+v2)))).bind fun y2=>(Ai p1 y1.1).bind fun v8=>(Pc p2.S (D6 (v8+1))).bind fun v9=>((cond (!p3) (Ra p2.Begin 4) (some default))).bind fun v10=>cond ((!p3)&& (v10==3)) ((Ra p2.Begin 40).bind fun v11=>some (Agent.mk y1.1 0 v7 y2 v11 y1.2 false)) (some (Agent.mk y1.1 v9 v7 y2 0 y1.2 false))
theorem EN(p1 p2 p3 r)(h:Rl p1 p2 p3=some r):PCall prog 42 [(.agg (Q0 p1)),(.agg (On p2)),(bo p3)] (.agg (D0 r)):=by
 refine C4 (fk func42 ntmps42 m0 (by with_unfolding_all rfl)) (nl W) ?_
 unfold Rl at h
 refine B4 (s0:=⟨T [(0,(.d _)),(1,(.d _)),(2,(.d _))],G []⟩) (F3 W W) ?_
 refine lr<|fun u1 _=>sm W<|sm W<|sn W W<|A1<|A5<|Mi W fun u2 _=>sd W (B1 W (gq W) W W)<|sq W<|sl W (gq W) W (bs h fun v1 hv1 h=>A9 W W A3 (Vw _ _ _ hv1) (.inl W) (sq W<|sl W (gq W) W (bs h fun v2 hv2 h=>A9 W W A3 (Vx _ _ _ hv2) (.inl W) (sv W<|sq W<|sl W (gq W) W (B9 (.d (bo (!p2.Disobeys))) W W (sv W<|sm W<|U1 W G_hit ([(dl A4 v1)]++ ((zs 4).set 2 (di<|D6 (300+v2)))++ [(.d (bo (!p2.Disobeys))),(.d (bo false))]) W (A1<|A5<|B0<|sv W<|A1<|bs h fun y1 hy1 h=>D9 (fun s=> ∃g1:Unit,Sb ⟨T [(2,(.d (bo p3))),(3,(.ptr (3,u1) 0)),(4,(.ptr (4,u1) 0)),(6,(.ptr (6,u1) 0)),(7,(.ptr (7,u2) 0))],G [((3,u1),some<|.box 33 (L8 p1)),((4,u1),some<|.box 73 (NN p2)),((6,u1),some<|.box 45 ([(.d .nilS)]++ (zs 4)++ [(.d (bo false)),(.d (bo false))])),((7,u2),some<|.box 45 ([(dl A4 y1.1)]++ ((zs 4).set 2 (di<|D6 (300+v2)))++ [(.d (bo y1.2)),(.d (bo false))]))]⟩ s) ?_ ?_)))))))
 refine cc W hy1 (fun c1 hy1=> ?_)<|fun c1 hy1=> ?_
 refine B8<|sd W (B1 W (gq W) W W)<|sq W<|sl W (gq W) W (bs hy1 fun v3 hv3 hy1=>A9 W W A3 (FX _ _ _ hv3) (.inl W) (sq W<|U1 W G_hit ([(dl A4 v3)]++ ((zs 4).set 2 (di<|D6 (300+v2)))++ [(.d (bo (!p2.Disobeys))),(.d (bo false))]) W (sq W<|U1 W G_hit ([(dl A4 v3)]++ ((zs 4).set 2 (di<|D6 (300+v2)))++ [(.d (bo false)),(.d (bo false))]) W (A1 ?_))))
 cases hy1
 exact U7 ⟨(),(F3 W W)⟩
 refine A8 ?_
 cases hy1
 exact U7 ⟨(),(F3 W W)⟩
 rintro _ ⟨g1,q1⟩
 refine B4 q1<|A5<|E8 W<|sq W<|sl W G_hit W<|sq W<|sl W (gq W) W (bs h fun _ hv4 h=>sd W (C5 W W hv4 W)<|sd W (C9 W hv4 W)<|bs h fun _ hv5 h=>sd W (C5 W W hv5 W)<|sv W<|sd W (C9 W hv5 W)<|bs h fun _ hv6 h=>A9 W W A3 (Mc _ _ hv6) (.inl W) (sv W<|sv W<|sv W<|sv W<|sv W<|sv W<|sv W<|A1<|B0<|sq W<|sl W (gq W) W (sv W<|sv W<|bs h fun v7 hv7 h=>A9 W W A3 (Vx _ _ _ hv7) (.inl W) (sq W<|U1 W (gq W) [(dl A4 y1.1),(di 0),(di v7),(di<|D6 (300+v2)),(di 0),(.d (bo y1.2)),(.d (bo false))] W (A1<|A5<|B0<|sv W<|sv W<|A1<|bs h fun y2 hy2 h=>D9 (fun s=> ∃g2:Unit,Sb ⟨T [(2,(.d (bo p3))),(3,(.ptr (3,u1) 0)),(4,(.ptr (4,u1) 0)),(6,(.ptr (6,u1) 0)),(7,(.ptr (7,u2) 0))],G [((3,u1),some<|.box 33 (L8 p1)),((4,u1),some<|.box 73 (NN p2)),((6,u1),some<|.box 45 ([(.d .nilS)]++ (zs 4)++ [(.d (bo false)),(.d (bo false))])),((7,u2),some<|.box 45 [(dl A4 y1.1),(di 0),(di v7),(di y2),(di 0),(.d (bo y1.2)),(.d (bo false))])]⟩ s) ?_ ?_)))))
 refine cc W hy2 (fun c2 hy2=> ?_)<|fun c2 hy2=> ?_
 refine B8<|sq W<|U1 W G_hit [(dl A4 y1.1),(di 0),(di v7),(di 300),(di 0),(.d (bo y1.2)),(.d (bo false))] W (A1 ?_)
 cases hy2
 exact U7 ⟨(),(F3 W W)⟩
 refine A8 ?_
 cases hy2
 exact U7 ⟨(),(F3 W W)⟩
 rintro _ ⟨g2,q2⟩
 refine B4 q2<|A5<|E8 W<|sq W<|sl W (gq W) W (sd W (B1 W G_hit W W)<|sq W<|sl W (gq W) W (bs h fun _ hv8 h=>A9 W W A3 (Kh _ _ _ hv8) (.inl W) (sv W<|bs h fun v9 hv9 h=>A9 W W A3 (Vx _ _ _ hv9) (.inl W) (sq W<|U1 W (gq W) [(dl A4 y1.1),(di v9),(di v7),(di y2),(di 0),(.d (bo y1.2)),(.d (bo false))] W (A1<|A5<|B0<|sv W<|B9 (.d (bo (!p3))) W W (sv W<|gp W (M6 W) (fun _=>W) (gt W (vl W (gq W) W)<|bs h fun v10 hv10 h=> ?_)))))))
 refine O3 _ (i64 v10) (M6 W) (fun w3=>⟨_,[(di p2.Begin),(di 4)],_,_,(by simp only [A2 w3];rfl),W,A3,Se _ _ _<|C1 w3 hv10,(.inl W)⟩) ?_
 refine gt W (vb W W W)<|sa W W W<|A1<|cc W h (fun c3 h=> ?_)<|fun c3 h=> ?_
 refine B8<|sq W<|sl W (gq W) W (bs h fun v11 hv11 h=>A9 W W A3 (Se _ _ _ hv11) (.inl W) (sq W<|U1 W G_hit [(dl A4 y1.1),(di v9),(di v7),(di y2),(di v11),(.d (bo y1.2)),(.d (bo false))] W (sq W<|U1 W G_hit [(dl A4 y1.1),(di 0),(di v7),(di y2),(di v11),(.d (bo y1.2)),(.d (bo false))] W (A1<|B0<|sd W (B1 W G_hit W W)<|U1 W (gq W) [(dl A4 y1.1),(di 0),(di v7),(di y2),(di v11),(.d (bo y1.2)),(.d (bo false))] W (A1<|B2 ?_)))))
 cases h
 exact A6 (.inr W) (B6 (K1 W G_hit (nl W) W) C2) (.refl _)
 refine A8<|B0<|sd W (B1 W G_hit W W)<|U1 W (gq W) [(dl A4 y1.1),(di v9),(di v7),(di y2),(di 0),(.d (bo y1.2)),(.d (bo false))] W (A1<|B2 ?_)
 cases h
 exact A6 (.inr W) (B6 (K1 W G_hit (nl W) W) C2) (.refl _)
def Fq [Lp](p1:Map)(p2:(List KitActor))(x1:((List Agent)×Int×State)):Option (Stp ((List Agent)×Int×State) ((List Agent)×State)):=
  cond ((decide (x1.2.1< (p2.length:Int)))&& (decide ((x1.1.length:Int)<8))) ((X3 ([]:List Agent) x1.1).bind fun v2=>(C0 p2 x1.2.1).bind fun v3=>(Rl p1 v3 ((x1.1.length:Int)==0)).bind fun v4=>(X3 v2 [v4]).bind fun v5=>(Pb p1 v5).bind fun v6=>cond (v6.2==0) (some (.go (v6.1.Agents,(D6 (x1.2.1+1)),v6.1))) (some (.go (x1.1,(D6 (x1.2.1+1)),x1.2.2)))) (some (.out (x1.1,x1.2.2)))
def Rm [Lp](p1:Map)(p2:(List KitActor)):Option State:=
  (Pb p1 []).bind fun v1=>(loop (Fq p1 p2) ([],0,v1.1)).bind fun y1=>cond ((y1.1.length:Int)==0) ((Rl p1 (KitActor.mk 0 1048576 0 0 0 false) true).bind fun v7=>(Pb p1 [(Agent.mk v7.Route (D6 (v7.Len+1)) 0 v7.Len v7.Begin v7.Obey v7.Gone)]).bind fun v8=>some v8.1) (some y1.2)
theorem QB(p1 p2 r)(h:Rm p1 p2=some r):PCall prog 34 [(.agg (Q0 p1)),(.list (List.map On p2))] (.agg (Ba r)):=by
 refine C4 (fk func34 ntmps34 (fun r=>if r==6 then [1006015,1013]else if r==12 then [1002]else []) (by with_unfolding_all rfl)) (nl W) ?_
 unfold Rm at h
 refine B4 (s0:=⟨T [(0,(.d _)),(1,(.d _))],G []⟩) (F3 W W) ?_
 refine lr<|fun u1 _=>sm W<|sm W<|A1<|B0<|sv W<|A1<|lr<|fun u3 _=>sd W (B1 W (gq W) W W)<|bs h fun v1 hv1 h=>A9 W W (.cons (.refl _) (.cons DLe.nil .nil)) (Vv _ _ _ hv1) (.inl W) (sv W<|sv W<|sv W<|sm W<|U1 W G_hit (K2 v1.1) W (sv W<|A1<|A5<|B0<|sv W<|A1<|bs h fun y1 hy1 h=>D9 (fun s=> ∃g1:Unit,Sb ⟨T [(2,(.ptr (2,u1) 0)),(4,(.ptr (4,u1) 0)),(5,(dl D0 y1.1)),(6,(.ptr (6,u3) 0))],G [((2,u1),some<|.box 33 (L8 p1)),((4,u1),some<|.box 25 [(di 0),(.d .nilS),(.d .nilS)]),((6,u3),some<|.box 25 (K2 y1.2))]⟩ s) ?_ ?_))
 refine A7<|E3 (Fq p1 p2) (fun (x1:((List Agent)×Int×State)) (g2:Unit)=>⟨T [(1,(dl On p2)),(2,(.ptr (2,u1) 0)),(4,(.ptr (4,u1) 0)),(5,(dl D0 x1.1)),(6,(.ptr (6,u3) 0)),(8,(di x1.2.1))],G [((2,u1),some<|.box 33 (L8 p1)),((4,u1),some<|.box 25 [(di 0),(.d .nilS),(.d .nilS)]),((6,u3),some<|.box 25 (K2 x1.2.2))]⟩) ([],0,v1.1) () _ hy1 (E1 ⟨.of W, .of W, .of W,(DLe.d DLe.nil), .of W, .of W,trivial⟩<|sg W<|sg W<|B5 G_hit (.of W) trivial) ?_
 intro x1 g2 z1 hz1 ez1
 unfold Fq at hz1
 refine A5<|B0<|sv W<|sv W<|sd W (D8 W)<|sv W<|sv W<|gt W (fun _=>W)<|gt W (fun w2=>(D8<|A2 w2))<|gt W (vb W W W)<|sa W W W<|A1<|cc W hz1 (fun c1 hz1=> ?_)<|fun c1 hz1=> ?_
 refine A8<|A5<|A7<|A5<|Qy fun u6 _=>N5 (.d _) W (B1 W G_hit W W) (DX (.sl _) (.arr 45 7 (List.map D0 ([]:List Agent))) W W (N5 (.d _) W W (bs hz1 fun _ hv2 hz1=>RX D0 _ _ _ _ (L7<|fun _=>W) W G_hit hv2 (N5 (.d _) W (B1 W (gq W) W W) (N5 (.d _) W W (N5 (.d _) W W (bs hz1 fun _ hv3 hz1=>N5 (.d _) W (C5 W W hv3 W) (N5 (.d _) W (D3 W hv3 W W) (N5 (.d _) W W (N5 (.d _) W (D8 W) (N5 (.d _) W W (bs hz1 fun v4 hv4 hz1=>nK W W A3 (EN _ _ _ _ hv4) (.inl W) (N5 (dl D0 [v4]) W W (bs hz1 fun _ hv5 hz1=>RX D0 _ _ _ _ (L7<|fun _=>W) W G_hit hv5 (bs hz1 fun v6 hv6 hz1=>nR (v:= .d (.tup [(.agg (Ba v6.1)),(i64 v6.2)])) (us:= [(43,u6)]) (jQ [(43,u6)] (((43,u6),none)::_) W (rD<|E7 (NH G_hit) G1) A3 (Vv _ _ _ hv6) (Y1 CB<|Y1 EA Tv) W) (N5 (.d _) W W (N5 (.d _) W W (N5 (.d _) W W (DX (.ptr _ _) (.box _ _) W W (Qz _ _ _ _ _ W W W G_hit (nl W) (K2 v6.1) W (N5 (.d _) W W (DW ⟨W,?_⟩))))))))))))))))))))))
 refine B0<|sv W<|sv W<|A1<|cc W hz1 (fun c2 hz1=> ?_)<|fun c2 hz1=> ?_
 refine Qy fun _ _=>N5 (.d _) W (B1 W G_hit W W) (N5 (.ptr _ _) W W (N5 (.d _) W (P6 W G_hit W) (Qz _ _ _ _ _ W W W (gq W) (nl W) (K2 v6.1) W (N5 (.d _) W W (DW ⟨W,?_⟩)))))
 refine E2<|B8<|sv W<|sv W<|sv W<|A1<|E4 ?_
 cases hz1
 exact ⟨W,(),(F3 W W)⟩
 refine A8<|E2<|B8<|sv W<|sv W<|sv W<|A1<|E4 ?_
 cases hz1
 exact ⟨W,(),(F3 W W)⟩
 refine C8 W ?_
 cases hz1
 obtain rfl:=ez1 _ rfl
 refine ⟨nofun,C7 W<|U7 ?_⟩
 exact ⟨(),(F3 W W)⟩
 rintro _ ⟨g1,q1⟩
 refine B4 q1<|A5<|B0<|sv W<|sd W (D8 W)<|sv W<|A1<|cc W h (fun c3 h=> ?_)<|fun c3 h=> ?_
 refine B0<|sd W (B1 W G_hit W W)<|sv W<|bs h fun v7 hv7 h=>A9 W W A3 (EN _ _ _ _ hv7) (.inl W) (sm W<|U1 W G_hit (R7 v7) W (A1<|B0<|sq W<|sl W G_hit W<|sv W<|sq W<|U1 W G_hit ((R7 v7).set 1 (di<|D6 (v7.Len+1))) W (sq W<|U1 W G_hit (((R7 v7).set 1 (di<|D6 (v7.Len+1))).set 2 (di 0)) W (A1<|B8<|sd W (B1 W (gq W) W W)<|sd W (B1 W G_hit W W)<|B9 (dl D0 [(Agent.mk v7.Route (D6 (v7.Len+1)) 0 v7.Len v7.Begin v7.Obey v7.Gone)]) W W (bs h fun v8 hv8 h=>A9 W W A3 (Vv _ _ _ hv8) (.inl W) (sv W<|sv W<|sv W<|U1 W (gq W) (K2 v8.1) W (A1<|B0<|sd W (B1 W G_hit W W)<|U1 W (gq W) (K2 v8.1) W (A1<|B2 ?_))))))))
 cases h
 exact A6 (.inr W) (B6 (K1 W G_hit (nl W) W) C2) (.refl _)
 refine A8<|B0<|sd W (B1 W (gq W) W W)<|U1 W (gq W) (K2 y1.2) W (A1<|B2 ?_)
 cases h
 exact A6 (.inr W) (B6 (K1 W G_hit (nl W) W) C2) (.refl _)
def Kl (p2:Agent)(p3:Int)(v1:(List Int))(x1:Int):Option (Stp Int (Sum Unit Int)):=
  cond (decide (x1< (v1.length:Int))) ((C0 p2.Route x1).bind fun v2=>cond (v2==p3) ((C0 v1 x1).bind fun v3=>some (.out (.inr (D6 (p2.S - v3))))) (some (.go (D6 (x1+1))))) (some (.out (.inl ())))
def Nb [Lp](p1:Map)(p2:Agent)(p3:Int):Option Int:=
  (Fl p1 p2.Route).bind fun v1=>thenS (loop (Kl p2 p3 v1) 0) (fun _=>some (-1152921504606846976)) (fun r=>some r)
theorem Yz(p1 p2 p3 r)(h:Nb p1 p2 p3=some r):PCall prog 45 [(.agg (Q0 p1)),(.agg (D0 p2)),(i64 p3)] (i64 r):=by
 refine C4 (fk func45 ntmps45 m0 (by with_unfolding_all rfl)) (nl W) ?_
 unfold Nb at h
 refine B4 (s0:=⟨T [(0,(.d _)),(1,(.d _)),(2,(.d _))],G []⟩) (F3 W W) ?_
 refine lr<|fun u1 _=>sm W<|sm W<|sv W<|A1<|B0<|sd W (B1 W (gq W) W W)<|sq W<|sl W G_hit W<|bs h fun v1 hv1 h=>A9 W W A3 (Md _ _ _ hv1) (.inl W) (sv W<|A1<|A5<|B0<|sv W<|A1<|js h fun z1 hz1 h=>D9 (fun s=> ∃(y1:Unit) (g1:Unit),z1= .inl y1∧Sb ⟨T [],G []⟩ s) ?_ ?_)
 refine A7<|E3 (Kl p2 p3 v1) (fun (x1:Int) (g2:Unit)=>⟨T [(2,(di p3)),(4,(.ptr (4,u1) 0)),(7,(dl A4 v1)),(8,(di x1))],G [((4,u1),some<|.box 45 (R7 p2))]⟩) 0 () _ hz1 (F3 W W) ?_
 intro x1 g2 z2 hz2 ez2
 unfold Kl at hz2
 refine A5<|B0<|sv W<|sv W<|sd W (D8 W)<|sv W<|A1<|cc W hz2 (fun c1 hz2=> ?_)<|fun c1 hz2=> ?_
 refine A8<|A5<|A7<|B0<|sq W<|sl W G_hit W<|sv W<|bs hz2 fun _ hv2 hz2=>sd W (C5 W W hv2 W)<|sd W (C9 W hv2 W)<|sv W<|sv W<|A1<|cc W hz2 (fun c2 hz2=> ?_)<|fun c2 hz2=> ?_
 refine A5<|E8 W<|sq W<|sl W G_hit W<|sv W<|sv W<|bs hz2 fun _ hv3 hz2=>sd W (C5 W W hv3 W)<|sd W (C9 W hv3 W)<|sv W<|sv W<|A1<|B2 ?_
 cases hz2
 obtain rfl:=ez2 _ rfl
 refine ⟨nofun,E6 ?_⟩
 rw [wE]at h
 cases h
 exact A6 (.inr W) (B6 (B3 W) C2) (.refl _)
 refine A8<|E2<|B8<|sv W<|sv W<|sv W<|A1<|E4 ?_
 cases hz2
 exact ⟨W,(),(F3 W W)⟩
 refine C8 W ?_
 cases hz2
 obtain rfl:=ez2 _ rfl
 refine ⟨nofun,C7 W<|U7 ?_⟩
 exact ⟨_,(),W,(F3 W W)⟩
 rintro _ ⟨y1,g1,rfl,q1⟩
 rw [wD]at h
 refine B4 q1<|B0<|sv W<|A1<|B2 ?_
 cases h
 exact A6 (.inr W) (B6 (B3 W) C2) (.refl _)
def X5 [Lp](v2:Map)(x1:(Int×State))(v5:(State× (List Crash)×Int))(x2:Int):Option (Stp Int (Sum Unit Bool)):=
  cond (decide (x2< (v5.2.1.length:Int))) ((C0 v5.2.1 x2).bind fun v6=>((cond (!((((((v6.Tick !=x1.2.Tick)||(decide (v6.A<0)))||(decide (v6.A≥v6.B)))||(decide (v6.B≥(x1.2.Agents.length:Int))))||((v6.Who.length:Int)==0))||(decide ((v6.Who.length:Int)>2)))) (C0 v6.Who 0) (some default))).bind fun v7=>((cond ((!((((((v6.Tick !=x1.2.Tick)||(decide (v6.A<0)))||(decide (v6.A≥v6.B)))||(decide (v6.B≥(x1.2.Agents.length:Int))))||((v6.Who.length:Int)==0))||(decide ((v6.Who.length:Int)>2))))&& (v7 !=v6.A)) (C0 v6.Who 0) (some default))).bind fun v8=>cond (((((((v6.Tick !=x1.2.Tick)||(decide (v6.A<0)))||(decide (v6.A≥v6.B)))||(decide (v6.B≥(x1.2.Agents.length:Int))))||((v6.Who.length:Int)==0))||(decide ((v6.Who.length:Int)>2)))||((v7 !=v6.A)&& (v8 !=v6.B))) (some (.out (.inr false))) ((C0 x1.2.Agents v6.A).bind fun v9=>(C0 x1.2.Agents v6.B).bind fun v10=>cond (decide (v6.Zone_≥0)) ((Fo v2 v9.Route v6.Zone_).bind fun v11=>(Fo v2 v10.Route v6.Zone_).bind fun v12=>((cond (!((decide (v11<0))||(decide (v12<0)))) (C0 v9.Route v11) (some default))).bind fun v13=>((cond (!((decide (v11<0))||(decide (v12<0)))) (C0 v10.Route v12) (some default))).bind fun v14=>cond (((decide (v11<0))||(decide (v12<0)))||(v13==v14)) (some (.out (.inr false))) (some (.go (D6 (x2+1))))) ((Nb v2 v9 v6.Lane_).bind fun v15=>(Nb v2 v10 v6.Lane_).bind fun v16=>((cond (!((v6.Who.length:Int) !=1)) (C0 v6.Who 0) (some default))).bind fun v17=>((cond (!(((v6.Who.length:Int) !=1)||((v17==v6.A)&& (decide (v15≥v16))))) (C0 v6.Who 0) (some default))).bind fun v18=>cond ((((v6.Who.length:Int) !=1)||((v17==v6.A)&& (decide (v15≥v16))))||((v18==v6.B)&& (decide (v15<v16)))) (some (.out (.inr false))) (some (.go (D6 (x2+1))))))) (some (.out (.inl ())))
def U9 [Lp](p3:(List (List Int)))(v2:Map)(x1:(Int×State)):Option (Stp (Int×State) (Sum Unit Bool)):=
  cond (decide (x1.1< (p3.length:Int))) ((C0 p3 x1.1).bind fun v4=>(Il v2 x1.2 v4).bind fun v5=>cond (v5.2.2 !=0) (some (.out (.inr false))) (thenS (loop (X5 v2 x1 v5) 0) (fun _=>some (.go ((D6 (x1.1+1)),v5.1))) (fun r=>some (.out (.inr r))))) (some (.out (.inl ())))
def Lb [Lp](p1:Int)(p2:(List KitActor))(p3:(List (List Int))):Option Bool:=
  cond ((decide ((p2.length:Int)>7))||(decide ((p3.length:Int)>8))) ((Ia).bind fun v1=>some v1) ((Zu p1).bind fun v2=>(Rm v2 p2).bind fun v3=>thenS (loop (U9 p3 v2) (0,v3)) (fun _=>(Ia).bind fun v19=>some v19) (fun r=>some r))
theorem AJ(p1 p2 p3 r)(h:Lb p1 p2 p3=some r):PCall prog 10 [(i64 p1),(.list (List.map On p2)),(.list (List.map Oo p3))] (bo r):=by
 refine C4 (fk func10 ntmps10 m0 (by with_unfolding_all rfl)) (nl W) ?_
 unfold Lb at h
 refine B4 (s0:=⟨T [(0,(.d _)),(1,(.d _)),(2,(.d _))],G []⟩) (F3 W W) ?_
 refine B0<|sv W<|A1<|A5<|B0<|sv W<|sd W (D8 W)<|sv W<|sv W<|gf W (fun _=>W)<|gf W (fun w2=>(D8<|A2 w2))<|gf W (vb W W W)<|sd W (N9 W W<|fun hc=>A2<|J4 hc)<|A1<|cc W h (fun c1 h=> ?_)<|fun c1 h=> ?_
 refine B0<|bs h fun _ hv1 h=>A9 W W A3 (Yw _ hv1) (.inl W) (sv W<|A1<|B2 ?_)
 cases h
 exact A6 (.inr W) (B6 (B3 W) C2) (.refl _)
 refine A8<|lr<|fun u4 _=>sv W<|bs h fun v2 hv2 h=>A9 W W A3 (VT _ _ hv2) (.inl W) (sm W<|U1 W G_hit (L8 v2) W (A1<|lr<|fun u5 _=>sd W (B1 W G_hit W W)<|sv W<|bs h fun v3 hv3 h=>A9 W W A3 (QB _ _ _ hv3) (.inl W) (sm W<|U1 W G_hit (K2 v3) W (A1<|A5<|B0<|sv W<|A1<|js h fun z1 hz1 h=>D9 (fun s=> ∃(y1:Unit) (g1:Unit),z1= .inl y1∧Sb ⟨T [],G []⟩ s) ?_ ?_))))
 refine A7<|E3 (U9 p3 v2) (fun (x1:(Int×State)) (g2:Unit)=>⟨T [(2,(dl Oo p3)),(7,(.ptr (7,u4) 0)),(8,(.ptr (8,u5) 0)),(9,(di x1.1))],G [((7,u4),some<|.box 33 (L8 v2)),((8,u5),some<|.box 25 (K2 x1.2))]⟩) (0,v3) () _ hz1 (F3 W W) ?_
 intro x1 g2 z2 hz2 ez2
 unfold U9 at hz2
 refine A5<|B0<|sv W<|sv W<|sd W (D8 W)<|sv W<|A1<|cc W hz2 (fun c2 hz2=> ?_)<|fun c2 hz2=> ?_
 refine A8<|A5<|A7<|A5<|Mi W fun u8 _=>sd W (B1 W G_hit W W)<|sd W (B1 W (gq W) W W)<|sv W<|sv W<|bs hz2 fun _ hv4 hz2=>sd W (C5 W W hv4 W)<|sd W (C9 W hv4 W)<|bs hz2 fun v5 hv5 hz2=>A9 W W A3 (BD _ _ _ _ hv5) (.inl W) (sv W<|sv W<|sv W<|sv W<|sm W<|U1 W G_hit (K2 v5.1) W (sv W<|sv W<|A1<|A5<|B0<|sv W<|sv W<|A1<|cc W hz2 (fun c3 hz2=> ?_)<|fun c3 hz2=> ?_))
 refine B0<|sv W<|A1<|B2 ?_
 cases hz2
 obtain rfl:=ez2 _ rfl
 refine ⟨nofun,E6 ?_⟩
 rw [wE]at h
 cases h
 exact A6 (.inr W) (B6 (B3 W) C2) (.refl _)
 refine A8<|A5<|B0<|sv W<|A1<|js hz2 fun z3 hz3 hz2=>D9 (fun s=> ∃(y2:Unit) (g3:Unit),z3= .inl y2∧Sb ⟨T [(2,(dl Oo p3)),(7,(.ptr (7,u4) 0)),(8,(.ptr (8,u5) 0)),(9,(di x1.1)),(10,(.ptr (10,u8) 0))],G [((7,u4),some<|.box 33 (L8 v2)),((8,u5),some<|.box 25 (K2 x1.2)),((10,u8),some<|.box 25 (K2 v5.1))]⟩ s) ?_ ?_
 refine A7<|E3 (X5 v2 x1 v5) (fun (x2:Int) (g4:Unit)=>⟨T [(2,(dl Oo p3)),(7,(.ptr (7,u4) 0)),(8,(.ptr (8,u5) 0)),(9,(di x1.1)),(10,(.ptr (10,u8) 0)),(11,(dl Dt v5.2.1)),(13,(di x2))],G [((7,u4),some<|.box 33 (L8 v2)),((8,u5),some<|.box 25 (K2 x1.2)),((10,u8),some<|.box 25 (K2 v5.1))]⟩) 0 () _ hz3 (F3 W W) ?_
 intro x2 g4 z4 hz4 ez4
 unfold X5 at hz4
 refine A5<|B0<|sv W<|sv W<|sd W (D8 W)<|sv W<|A1<|cc W hz4 (fun c4 hz4=> ?_)<|fun c4 hz4=> ?_
 refine A8<|A5<|A7<|B0<|sv W<|sv W<|bs hz4 fun v6 hv6 hz4=>sd W (C5 W W hv6 W)<|sd W (D3 W hv6 W W)<|sm W<|U1 W G_hit (nX v6) W (A1<|A5<|A5<|E8 W<|sq W<|sl W G_hit W<|sq W<|sl W (gq W) W (sv W<|sv W<|gp W (K6 W) (fun _=>W) (gf W (vl W G_hit W)<|gf W (vb W W W)<|sd W (N9 W W<|fun hc=>A2<|J4 hc)<|sv W<|gp W (K6 W) (fun _=>W) (gf W (vl W G_hit W)<|gp W (K6 W) (fun _=>W) (gf W (vl W G_hit W)<|gf W (fun w11=>(M3 (A2 w11) (A2 w11) W))<|sd W (N9 W W<|fun hc=>A2<|J4 hc)<|sv W<|gp W (K6 W) (fun _=>W) (gf W (vl W G_hit W)<|gp W (K6 W) (fun _=>W) (gf W (vl W (gq W) W)<|gf W (fun w16=>(D8<|A2 w16))<|gf W (fun w17=>(M3 (A2 w17) (A2 w17) W))<|sd W (N9 W W<|fun hc=>A2<|J4 hc)<|sv W<|gp W (K6 W) (fun _=>W) (gf W (vl W G_hit W)<|gf W (fun w20=>(D8<|A2 w20))<|gf W (vb W W W)<|sd W (N9 W W<|fun hc=>A2<|J4 hc)<|sv W<|gp W (K6 W) (fun _=>W) (gf W (vl W G_hit W)<|gf W (fun w24=>(D8<|A2 w24))<|gf W (vb W W W)<|sd W (N9 W W<|fun hc=>A2<|J4 hc)<|sv W<|gp W (K6 W) (fun _=>W) (gf W (vl W G_hit W)<|bs hz4 fun _ hv7 hz4=>gf W (fun w28=>(C5 (A2 w28) W (C1 w28 hv7) W))<|gf W (fun w29=>(C9 (A2 w29) (C1 w29 hv7) W))<|gp W (K6 W) (fun _=>W) ?_))))))))))
 refine gf W (vl W G_hit W)<|gf W (fun w32=>(M3 (A2 w32) (A2 w32) W))<|gf W (fun w33=>(HR<|A2 w33))<|M8 _ (.ptr _ _) W (P7 W) (fun _=>W) (gv W (P7 W) (vl W G_hit W) (bs hz4 fun _ hv8 hz4=>gv W (P7 W) (fun w36=>(C5 (A2 w36) W (C1 w36 hv8) W)) (gv W (P7 W) (fun w37=>(C9 (A2 w37) (C1 w37 hv8) W)) (M8 _ (.ptr _ _) W (P7 W) (fun _=>W) (gv W (P7 W) (vl W G_hit W) (gv W (P7 W) (fun w40=>(M3 (A2 w40) (A2 w40) W)) (gf W (fun w41=>(Yh (A2 w41) (fun hc=>A2<|Wo w41 hc) W))<|sd W (N9 W W<|fun hc=>A2<|J4 hc)<|A1<|cc W hz4 (fun c5 hz4=> ?_)<|fun c5 hz4=> ?_)))))))
 refine B0<|sv W<|A1<|B2 ?_
 cases hz4
 obtain rfl:=ez4 _ rfl
 refine ⟨nofun,E6 ?_⟩
 rw [wE]at hz2
 cases hz2
 obtain rfl:=ez2 _ rfl
 refine ⟨nofun,E6 ?_⟩
 rw [wE]at h
 cases h
 exact A6 (.inr W) (B6 (B3 W) C2) (.refl _)
 refine A8<|A5<|Qy fun _ _=>N5 (.ptr _ _) W W (N5 (.d _) W (P6 W (gq W) W) (N5 (.ptr _ _) W W (N5 (.d _) W (P6 W G_hit W) (bs hz4 fun v9 hv9 hz4=>N5 (.d _) W (C5 W W hv9 W) (N5 (.d _) W (D3 W hv9 W W) (N5 (.ptr _ _) W W (N5 (.d _) W (P6 W (gq W) W) (N5 (.ptr _ _) W W (N5 (.d _) W (P6 W G_hit W) (bs hz4 fun v10 hv10 hz4=>N5 (.d _) W (C5 W W hv10 W) (N5 (.d _) W (D3 W hv10 W W) (DX (.ptr _ _) (.box _ _) W W (DX (.ptr _ _) (.box _ _) W W (Qz _ _ _ _ _ W W W (gq W) (nl W) (R7 v9) W (Qz _ _ _ _ _ W W W (gq W) (nl W) (R7 v10) W (DW ⟨W,?_⟩))))))))))))))))
 refine A5<|B0<|sq W<|sl W (gq W) W (sv W<|A1<|cc W hz4 (fun c6 hz4=> ?_)<|fun c6 hz4=> ?_)
 refine A5<|E8 W<|sd W (B1 W (gq W) W W)<|sq W<|sl W (gq W) W (sq W<|sl W (gq W) W (bs hz4 fun _ hv11 hz4=>A9 W W A3 (Kj _ _ _ _ hv11) (.inl W) (sd W (B1 W (gq W) W W)<|sq W<|sl W G_hit W<|sq W<|sl W (gq W) W (bs hz4 fun _ hv12 hz4=>A9 W W A3 (Kj _ _ _ _ hv12) (.inl W) (sv W<|sv W<|A1<|A5<|A5<|E8 W<|sv W<|sv W<|sv W<|gf W (fun _=>W)<|gf W (vb W W W)<|sd W (N9 W W<|fun hc=>A2<|J4 hc)<|sv W<|gp W (K6 W) (fun _=>W) (gf W (vl W (gq W) W)<|gf W (fun _=>W)<|bs hz4 fun _ hv13 hz4=>gf W (fun w47=>(C5 (A2 w47) (A2 w47) (C1 w47 hv13) W))<|gf W (fun w48=>(C9 (A2 w48) (C1 w48 hv13) W))<|gp W (K6 W) (fun _=>W) (gf W (vl W G_hit W)<|gf W (fun _=>W)<|bs hz4 fun _ hv14 hz4=>gf W (fun w52=>(C5 (A2 w52) (A2 w52) (C1 w52 hv14) W))<|gf W (fun w53=>(C9 (A2 w53) (C1 w53 hv14) W))<|gf W (fun w54=>(M3 (A2 w54) (A2 w54) W))<|sd W (N9 W W<|fun hc=>A2<|J4 hc)<|A1<|cc W hz4 (fun c7 hz4=> ?_)<|fun c7 hz4=> ?_)))))))
 refine B0<|sv W<|A1<|B2 ?_
 cases hz4
 obtain rfl:=ez4 _ rfl
 refine ⟨nofun,E6 ?_⟩
 rw [wE]at hz2
 cases hz2
 obtain rfl:=ez2 _ rfl
 refine ⟨nofun,E6 ?_⟩
 rw [wE]at h
 cases h
 exact A6 (.inr W) (B6 (B3 W) C2) (.refl _)
 refine A8<|Tu W<|B8<|sv W<|sv W<|sv W<|A1<|E4 ?_
 cases hz4
 exact ⟨W,(),(F3 W W)⟩
 refine A8<|A5<|E8 W<|sd W (B1 W (gq W) W W)<|sd W (B1 W (gq W) W W)<|sq W<|sl W (gq W) W (bs hz4 fun _ hv15 hz4=>A9 W W A3 (Yz _ _ _ _ hv15) (.inl W) (sd W (B1 W (gq W) W W)<|sd W (B1 W G_hit W W)<|sq W<|sl W (gq W) W (bs hz4 fun _ hv16 hz4=>A9 W W A3 (Yz _ _ _ _ hv16) (.inl W) (sv W<|sv W<|A1<|A5<|E8 W<|sq W<|sl W (gq W) W (sd W (D8 W)<|sv W<|sv W<|gp W (K6 W) (fun _=>W) (gf W (vl W (gq W) W)<|bs hz4 fun _ hv17 hz4=>gf W (fun w57=>(C5 (A2 w57) W (C1 w57 hv17) W))<|gf W (fun w58=>(C9 (A2 w58) (C1 w58 hv17) W))<|gp W (K6 W) (fun _=>W) (gf W (vl W (gq W) W)<|gf W (fun w61=>(M3 (A2 w61) (A2 w61) W))<|gf W (fun w62=>(HR<|A2 w62))<|gv W (P7 W) (fun _=>W) (gv W (P7 W) (fun _=>W) (gv W (P7 W) (fun w65=>(M3 (A2 w65) (A2 w65) W)) (gf W (fun w66=>(Yh (A2 w66) (fun hc=>A2<|Wo w66 hc) W))<|sd W (N9 W W<|fun hc=>A2<|J4 hc)<|sv W<|gp W (K6 W) (fun _=>W) (gf W (vl W (gq W) W)<|bs hz4 fun _ hv18 hz4=>gf W (fun w69=>(C5 (A2 w69) W (C1 w69 hv18) W))<|gf W (fun w70=>(C9 (A2 w70) (C1 w70 hv18) W))<|gp W (K6 W) (fun _=>W) (gf W (vl W (gq W) W)<|gf W (fun w73=>(M3 (A2 w73) (A2 w73) W))<|gf W (fun w74=>(HR<|A2 w74))<|gv W (P7 W) (fun _=>W) (gv W (P7 W) (fun _=>W) (gv W (P7 W) (fun w77=>(M3 (A2 w77) (A2 w77) W)) (gf W (fun w78=>(Yh (A2 w78) (fun hc=>A2<|Wo w78 hc) W))<|sd W (N9 W W<|fun hc=>A2<|J4 hc)<|A1<|cc W hz4 (fun c8 hz4=> ?_)<|fun c8 hz4=> ?_)))))))))))))))
 refine B0<|sv W<|A1<|B2 ?_
 cases hz4
 obtain rfl:=ez4 _ rfl
 refine ⟨nofun,E6 ?_⟩
 rw [wE]at hz2
 cases hz2
 obtain rfl:=ez2 _ rfl
 refine ⟨nofun,E6 ?_⟩
 rw [wE]at h
 cases h
 exact A6 (.inr W) (B6 (B3 W) C2) (.refl _)
 refine A8<|E2<|B8<|sv W<|sv W<|sv W<|A1<|E4 ?_
 cases hz4
 exact ⟨W,(),(F3 W W)⟩
 refine C8 W ?_
 cases hz4
 obtain rfl:=ez4 _ rfl
 refine ⟨nofun,C7 W<|U7 ?_⟩
 exact ⟨_,(),W,(F3 W W)⟩
 rintro _ ⟨y2,g3,rfl,q1⟩
 rw [wD]at hz2
 refine B4 q1<|B8<|sd W (B1 W (gq W) W W)<|U1 W (gq W) (K2 v5.1) W (A1<|E2<|B8<|sv W<|sv W<|sv W<|A1<|E4 ?_)
 cases hz2
 exact ⟨W,(),(F3 W W)⟩
 refine C8 W ?_
 cases hz2
 obtain rfl:=ez2 _ rfl
 refine ⟨nofun,C7 W<|U7 ?_⟩
 exact ⟨_,(),W,(F3 W W)⟩
 rintro _ ⟨y1,g1,rfl,q2⟩
 rw [wD]at h
 refine B4 q2<|B0<|bs h fun _ hv19 h=>A9 W W A3 (Yw _ hv19) (.inl W) (sv W<|A1<|B2 ?_)
 cases h
 exact A6 (.inr W) (B6 (B3 W) C2) (.refl _)
end
end Go.Abs.World
