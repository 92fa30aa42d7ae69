/-
  The functions, part 4.
-/
import Derived.Test.YtgjdiioennhoeaaGreatFns3
set_option maxRecDepth 20000
set_option maxHeartbeats 4000000
set_option linter.unusedVariables false
namespace Go.Abs.World
noncomputable section
open Go Go.Abs Go.Proofs
attribute [local irreducible] M0 Kw Fb
def Ld (p1:Map)(p2:Int)(x1:((List Int)×Int)):Option (Stp ((List Int)×Int) (List Int)):=
  cond (decide (x1.2< (p1.Lanes.length:Int))) ((B7 p1.Lanes x1.2).bind fun v1=>(Rr v1.Next p2).bind fun v2=>cond v2 ((Bo x1.1 [x1.2]).bind fun v3=>some (.go (v3,(C5 (x1.2+1))))) (some (.go (x1.1,(C5 (x1.2+1)))))) (some (.out x1.1))
def Qo (p1:Map)(p2:Int):Option (List Int):=
  (loop (Ld p1 p2) ([],0)).bind fun y1=>some y1
theorem LO(p1 p2 r)(h:Qo p1 p2=some r):PCall Tryz.prog 189 [(.agg (U5 p1)),(i64 p2)] (.list (List.map A5 r)):=by
 refine C3 (fk Tryz.func189 Tryz.ntmps189 (fun r=>if r==6 then [1002]else []) (by with_unfolding_all rfl)) (nl W) ?_
 unfold Qo at h
 refine B4 (s0:=⟨T [(0,(.d _)),(1,(.d _))],G []⟩) (F3 W W) ?_
 refine lr<|fun u1 _=>sm W<|sv W<|A1<|A9<|sv W<|A1<|A4<|A9<|sv W<|A1<|bs h fun y1 hy1 h=>E0 (fun s=> ∃g1:Nat,Sb ⟨T [(5,(oS y1 (25,g1)))],G [((25,g1),oB 3 1 A5 y1)]⟩ s) ?_ ?_
 refine A7<|E3 (Ld p1 p2) (fun (x1:((List Int)×Int)) (g2:Nat)=>⟨T [(1,(di p2)),(2,(.ptr (2,u1) 0)),(5,(oS x1.1 (25,g2))),(6,(di x1.2))],G [((2,u1),some<|.box 33 (M7 p1)),((25,g2),oB 3 1 A5 x1.1)]⟩) ([],0) 0 _ hy1 (E1 (Ck W)<|B5 G_hit (.of W)<|X0 trivial) ?_
 intro x1 g2 z1 hz1 ez1
 unfold Ld at hz1
 refine A4<|A9<|sv W<|sq W<|sl W G_hit W<|sd W (D7 W)<|sv W<|A1<|cc W hz1 (fun c1 hz1=> ?_)<|fun c1 hz1=> ?_
 refine A8<|A4<|A7<|A9<|sq W<|sl W G_hit W<|sv W<|bs hz1 fun _ hv1 hz1=>sd W (C8 W W hv1 W)<|sv W<|sd W (D6 W hv1 W)<|sv W<|bs hz1 fun _ hv2 hz1=>B1 W W A3 (AP _ _ _ hv2) (.inl W) (A1<|cc W hz1 (fun c2 hz1=> ?_)<|fun c2 hz1=> ?_)
 refine Eh fun u6 _=>B9 (oS x1.1 (25,g2)) W W (sv W<|B9 (dl A5 [x1.2]) W W (bs hz1 fun _ hv3 hz1=>V3 A5 (25,g2) x1.1 x1.2 [] _ (N3<|fun _=>W) W (gq W) hv3 (ss W<|A1<|E2<|C0<|sv W<|sv W<|sv W<|A1<|E5 ?_)))
 cases hz1
 exact ⟨W,u6,(E1 ⟨.of W, .of W,(.of (Aq<|Ba hv3).symm), .of W,trivial⟩<|sg W<|O6 G_hit trivial)⟩
 refine A8<|E2<|C0<|sv W<|sv W<|sv W<|A1<|E5 ?_
 cases hz1
 exact ⟨W,g2,(E1 (Ck W)<|B5 G_hit (.of W)<|B8 (gq W) trivial)⟩
 refine C6 W ?_
 cases hz1
 obtain rfl:=ez1 _ rfl
 refine ⟨nofun,C4 W<|Aj ?_⟩
 exact ⟨g2,(E1 ⟨.of W,trivial⟩<|B8 (gq W) trivial)⟩
 rintro _ ⟨g1,q1⟩
 refine B4 q1<|A9<|B9 (oS y1 (25,g1)) W W (B9 (oS y1 (25,g1)) W W (A1<|B0 ?_))
 cases h
 exact A6 (.inr W) (B6 (B2 W)<|Y3 G_hit) Y2
def Bj (p1:Map)(p2:(List Int))(x1:Int):Option (Stp Int (Sum Unit Int)):=
  cond (decide (x1< (p2.length:Int))) ((B7 p2 (C5 (x1 - 1))).bind fun v6=>(B7 p1.Lanes v6).bind fun v7=>(B7 p2 x1).bind fun v8=>(Rr v7.Next v8).bind fun v9=>cond (!v9) (some (.out (.inr 13))) (some (.go (C5 (x1+1))))) (some (.out (.inl ())))
def Ce (p1:Map)(p2:(List Int)):Option Int:=
  (Nb p1).bind fun v1=>cond (v1 !=0) (some v1) (((cond (!(((p2.length:Int)==0)||(decide ((p2.length:Int)>8)))) (B7 p2 0) (some default))).bind fun v2=>((cond (!((((p2.length:Int)==0)||(decide ((p2.length:Int)>8)))||(decide (v2<0)))) (B7 p2 0) (some default))).bind fun v3=>((cond (!(((((p2.length:Int)==0)||(decide ((p2.length:Int)>8)))||(decide (v2<0)))||(decide (v3≥(p1.Lanes.length:Int))))) (B7 p2 0) (some default))).bind fun v4=>((cond (!(((((p2.length:Int)==0)||(decide ((p2.length:Int)>8)))||(decide (v2<0)))||(decide (v3≥(p1.Lanes.length:Int))))) (Qo p1 v4) (some default))).bind fun v5=>cond ((((((p2.length:Int)==0)||(decide ((p2.length:Int)>8)))||(decide (v2<0)))||(decide (v3≥(p1.Lanes.length:Int))))||(decide ((v5.length:Int)>0))) (some 13) (thenS (loop (Bj p1 p2) 1) (fun _=>some 0) (fun r=>some r)))
theorem Iu(p1 p2 r)(h:Ce p1 p2=some r):PCall Tryz.prog 102 [(.agg (U5 p1)),(.list (List.map A5 p2))] (i64 r):=by
 refine C3 (fk Tryz.func102 Tryz.ntmps102 m0 (by with_unfolding_all rfl)) (nl W) ?_
 unfold Ce at h
 refine B4 (s0:=⟨T [(0,(.d _)),(1,(.d _))],G []⟩) (F3 W W) ?_
 refine lr<|fun u1 _=>sm W<|sv W<|A1<|A9<|sd W (B3 W G_hit W W)<|bs h fun _ hv1 h=>B1 W W A3 (Wd _ _ hv1) (.inl W) (sv W<|A1<|A4<|A9<|sv W<|sv W<|A1<|cc W h (fun c1 h=> ?_)<|fun c1 h=> ?_)
 refine A9<|sv W<|sv W<|A1<|B0 ?_
 cases h
 exact A6 (.inr W) (B6 (B2 W) C1) (.refl _)
 refine A8<|A4<|A4<|F4 W<|sv W<|sd W (D7 W)<|sv W<|sv W<|gf W (fun _=>W)<|gf W (fun w2=>(D7<|A2 w2))<|gf W (vb W W W)<|sd W (O2 W W<|fun hc=>A2<|J7 hc)<|sv W<|gf W (fun _=>W)<|bs h fun _ hv2 h=>gf W (fun w5=>(C8 (A2 w5) W (C2 w5 hv2) W))<|gf W (fun w6=>(D6 (A2 w6) (C2 w6 hv2) W))<|gf W (vb W W W)<|sd W (O2 W W<|fun hc=>A2<|J7 hc)<|sv W<|gf W (fun _=>W)<|bs h fun _ hv3 h=>gf W (fun w9=>(C8 (A2 w9) W (C2 w9 hv3) W))<|gf W (fun w10=>(D6 (A2 w10) (C2 w10 hv3) W))<|gp W (K5 W) (fun _=>W) (gf W (vl W G_hit W)<|gf W (fun w13=>(D7<|A2 w13))<|gf W (fun w14=>(N1 (A2 w14) (A2 w14) W))<|sd W (O2 W W<|fun hc=>A2<|J7 hc)<|sv W<|gf W (fun _=>(B3 W G_hit W W))<|gf W (fun _=>W)<|bs h fun v4 hv4 h=>gf W (fun w17=>(C8 (A2 w17) W (C2 w17 hv4) W))<|gf W (fun w18=>(D6 (A2 w18) (C2 w18 hv4) W))<|bs h fun v5 hv5 h=> ?_)
 refine O3 _ (.list (List.map A5 v5)) (K5 W) (fun w19=>⟨_,[(.d (.agg (U5 p1))),(di v4)],_,_,(by simp only [A2 w19];rfl),W,A3,LO _ _ _<|C2 w19 hv5,(.inl W)⟩) ?_
 refine gf W (fun w20=>(D7<|A2 w20))<|gf W (vb W W W)<|sd W (O2 W W<|fun hc=>A2<|J7 hc)<|A1<|cc W h (fun c2 h=> ?_)<|fun c2 h=> ?_
 refine A9<|sv W<|A1<|B0 ?_
 cases h
 exact A6 (.inr W) (B6 (B2 W) C1) (.refl _)
 refine A8<|A4<|A9<|sv W<|A1<|js h fun z1 hz1 h=>E0 (fun s=> ∃(y1:Unit) (g1:Unit),z1= .inl y1∧Sb ⟨T [],G []⟩ s) ?_ ?_
 refine A7<|E3 (Bj p1 p2) (fun (x1:Int) (g2:Unit)=>⟨T [(1,(dl A5 p2)),(2,(.ptr (2,u1) 0)),(6,(di x1))],G [((2,u1),some<|.box 33 (M7 p1))]⟩) 1 () _ hz1 (F3 W W) ?_
 intro x1 g2 z2 hz2 ez2
 unfold Bj at hz2
 refine A4<|A9<|sv W<|sv W<|sd W (D7 W)<|sv W<|A1<|cc W hz2 (fun c3 hz2=> ?_)<|fun c3 hz2=> ?_
 refine A8<|A4<|A7<|A4<|F4 W<|sq W<|sl W G_hit W<|sv W<|sv W<|sv W<|bs hz2 fun _ hv6 hz2=>sd W (C8 W W hv6 W)<|sd W (D6 W hv6 W)<|bs hz2 fun _ hv7 hz2=>sd W (C8 W W hv7 W)<|sv W<|sd W (D6 W hv7 W)<|sv W<|sv W<|bs hz2 fun _ hv8 hz2=>sd W (C8 W W hv8 W)<|sd W (D6 W hv8 W)<|bs hz2 fun v9 hv9 hz2=>B1 W W A3 (AP _ _ _ hv9) (.inl W) (B9 (.d (bo (!v9))) W W (A1<|cc W hz2 (fun c4 hz2=> ?_)<|fun c4 hz2=> ?_))
 refine A9<|sv W<|A1<|B0 ?_
 cases hz2
 obtain rfl:=ez2 _ rfl
 refine ⟨nofun,F2 ?_⟩
 rw [bT]at h
 cases h
 exact A6 (.inr W) (B6 (B2 W) C1) (.refl _)
 refine A8<|E2<|C0<|sv W<|sv W<|sv W<|A1<|E5 ?_
 cases hz2
 exact ⟨W,(),(F3 W W)⟩
 refine C6 W ?_
 cases hz2
 obtain rfl:=ez2 _ rfl
 refine ⟨nofun,C4 W<|Aj ?_⟩
 exact ⟨_,(),W,(F3 W W)⟩
 rintro _ ⟨y1,g1,rfl,q1⟩
 rw [bS]at h
 refine B4 q1<|A9<|sv W<|A1<|B0 ?_
 cases h
 exact A6 (.inr W) (B6 (B2 W) C1) (.refl _)
def Nw (p1:Map)(p2:Int):Option Int:=
  (B7 p1.Lanes p2).bind fun v1=>(Ho v1.Curve_).bind fun v2=>some v2
theorem BO(p1 p2 r)(h:Nw p1 p2=some r):PCall Tryz.prog 195 [(.agg (U5 p1)),(i64 p2)] (i64 r):=by
 refine C3 (fk Tryz.func195 Tryz.ntmps195 m0 (by with_unfolding_all rfl)) (nl W) ?_
 unfold Nw at h
 refine B4 (s0:=⟨T [(0,(.d _)),(1,(.d _))],G []⟩) (F3 W W) ?_
 refine A9<|sm W<|sv W<|A1<|A9<|sq W<|sl W G_hit W<|sv W<|bs h fun _ hv1 h=>sd W (C8 W W hv1 W)<|sv W<|sd W (D2 W hv1 W W)<|bs h fun _ hv2 h=>B1 W W A3 (Ty _ _ hv2) (.inl W) (sv W<|A1<|B0 ?_)
 cases h
 exact A6 (.inr W) (B6 (B2 W) C1) (.refl _)
def Ew (p1:Map)(p2:(List Int))(x1:((List Int)×Int×Int)):Option (Stp ((List Int)×Int×Int) ((List Int)×Int)):=
  cond (decide (x1.2.2< (p2.length:Int))) ((Bo x1.1 [x1.2.1]).bind fun v1=>(B7 p2 x1.2.2).bind fun v2=>(Nw p1 v2).bind fun v3=>some (.go (v1,(C5 (x1.2.1+v3)),(C5 (x1.2.2+1))))) (some (.out (x1.1,x1.2.1)))
def Nx (p1:Map)(p2:(List Int)):Option ((List Int)×Int):=
  (loop (Ew p1 p2) ([],0,0)).bind fun y1=>some (y1.1,y1.2)
theorem BP(p1 p2 r)(h:Nx p1 p2=some r):PCall Tryz.prog 186 [(.agg (U5 p1)),(.list (List.map A5 p2))] (.tup [(.list (List.map A5 r.1)),(i64 r.2)]):=by
 refine C3 (fk Tryz.func186 Tryz.ntmps186 (fun r=>if r==6 then [1002]else []) (by with_unfolding_all rfl)) (nl W) ?_
 unfold Nx at h
 refine B4 (s0:=⟨T [(0,(.d _)),(1,(.d _))],G []⟩) (F3 W W) ?_
 refine lr<|fun u1 _=>sm W<|sv W<|sv W<|A1<|A9<|sv W<|A1<|A9<|sv W<|A1<|A4<|A9<|sv W<|A1<|bs h fun y1 hy1 h=>E0 (fun s=> ∃g1:Nat,Sb ⟨T [(6,(oS y1.1 (18,g1))),(7,(di y1.2))],G [((18,g1),oB 2 1 A5 y1.1)]⟩ s) ?_ ?_
 refine A7<|E3 (Ew p1 p2) (fun (x1:((List Int)×Int×Int)) (g2:Nat)=>⟨T [(1,(dl A5 p2)),(2,(.ptr (2,u1) 0)),(6,(oS x1.1 (18,g2))),(7,(di x1.2.1)),(8,(di x1.2.2))],G [((2,u1),some<|.box 33 (M7 p1)),((18,g2),oB 2 1 A5 x1.1)]⟩) ([],0,0) 0 _ hy1 (E1 (Ck W)<|B5 G_hit (.of W)<|X0 trivial) ?_
 intro x1 g2 z1 hz1 ez1
 unfold Ew at hz1
 refine A4<|A9<|sv W<|sv W<|sd W (D7 W)<|sv W<|A1<|cc W hz1 (fun c1 hz1=> ?_)<|fun c1 hz1=> ?_
 refine A8<|A4<|A7<|lr<|fun u6 _=>B9 (oS x1.1 (18,g2)) W W (sv W<|B9 (dl A5 [x1.2.1]) W W (bs hz1 fun _ hv1 hz1=>V3 A5 (18,g2) x1.1 x1.2.1 [] _ (N3<|fun _=>W) W (gq W) hv1 (ss W<|A1<|F4 W<|sv W<|sd W (B3 W (gq W) W W)<|sv W<|sv W<|bs hz1 fun _ hv2 hz1=>sd W (C8 W W hv2 W)<|sd W (D6 W hv2 W)<|bs hz1 fun _ hv3 hz1=>B1 W W A3 (BO _ _ _ hv3) (.inl W) (sv W<|sv W<|A1<|E2<|C0<|sv W<|sv W<|sv W<|A1<|E5 ?_))))
 cases hz1
 exact ⟨W,u6,(E1 ⟨.of W, .of W,(.of (Aq<|Ba hv1).symm), .of W, .of W,trivial⟩<|sg W<|O6 G_hit trivial)⟩
 refine C6 W ?_
 cases hz1
 obtain rfl:=ez1 _ rfl
 refine ⟨nofun,C4 W<|Aj ?_⟩
 exact ⟨g2,(E1 (Ck W)<|B8 (gq W) trivial)⟩
 rintro _ ⟨g1,q1⟩
 refine B4 q1<|A9<|B9 (oS y1.1 (18,g1)) W W (sv W<|B9 (oS y1.1 (18,g1)) W W (sv W<|A1<|B0 ?_))
 cases h
 exact A6 (.inr W) (Po (B2 W) (B2 W) (Y3 G_hit) C1) (.tup (.cons Y2 A3))
def El (p1:Map)(p2:(List Int)):Option Int:=
  (Ce p1 p2).bind fun v1=>cond (v1 !=0) (some 0) ((Nx p1 p2).bind fun v2=>some v2.2)
theorem Te(p1 p2 r)(h:El p1 p2=some r):PCall Tryz.prog 97 [(.agg (U5 p1)),(.list (List.map A5 p2))] (i64 r):=by
 refine C3 (fk Tryz.func97 Tryz.ntmps97 m0 (by with_unfolding_all rfl)) (nl W) ?_
 unfold El at h
 refine B4 (s0:=⟨T [(0,(.d _)),(1,(.d _))],G []⟩) (F3 W W) ?_
 refine A9<|sm W<|sv W<|A1<|A4<|A9<|sd W (B3 W G_hit W W)<|sv W<|bs h fun _ hv1 h=>B1 W W A3 (Iu _ _ _ hv1) (.inl W) (sv W<|A1<|cc W h (fun c1 h=> ?_)<|fun c1 h=> ?_)
 refine A9<|sv W<|A1<|B0 ?_
 cases h
 exact A6 (.inr W) (B6 (B2 W) C1) (.refl _)
 refine A8<|A9<|sd W (B3 W G_hit W W)<|sv W<|bs h fun _ hv2 h=>B1 W W A3 (BP _ _ _ hv2) (.inl W) (sv W<|sv W<|sv W<|sv W<|sv W<|A1<|A9<|sv W<|sv W<|A1<|B0 ?_)
 cases h
 exact A6 (.inr W) (B6 (B2 W) C1) (.refl _)
def Kk (p1:Map)(p2:(List Int)):Option (List Int):=
  (Ce p1 p2).bind fun v1=>cond (v1 !=0) (some []) ((Nx p1 p2).bind fun v2=>some v2.1)
theorem Tz(p1 p2 r)(h:Kk p1 p2=some r):PCall Tryz.prog 96 [(.agg (U5 p1)),(.list (List.map A5 p2))] (.list (List.map A5 r)):=by
 refine C3 (fk Tryz.func96 Tryz.ntmps96 m0 (by with_unfolding_all rfl)) (nl W) ?_
 unfold Kk at h
 refine B4 (s0:=⟨T [(0,(.d _)),(1,(.d _))],G []⟩) (F3 W W) ?_
 refine A9<|sm W<|sv W<|A1<|A4<|A9<|sd W (B3 W G_hit W W)<|sv W<|bs h fun _ hv1 h=>B1 W W A3 (Iu _ _ _ hv1) (.inl W) (sv W<|A1<|cc W h (fun c1 h=> ?_)<|fun c1 h=> ?_)
 refine A9<|sv W<|A1<|B0 ?_
 cases h
 exact A6 (.inr W) (B6 (B2 W) C1) DLe.nil
 refine A8<|A9<|sd W (B3 W G_hit W W)<|sv W<|bs h fun _ hv2 h=>B1 W W A3 (BP _ _ _ hv2) (.inl W) (sv W<|sv W<|sv W<|sv W<|sv W<|A1<|A9<|sv W<|sv W<|A1<|B0 ?_)
 cases h
 exact A6 (.inr W) (B6 (B2 W) C1) (.refl _)
def Ig (p2:Agent)(v1:(List Int))(x1:(Int×Int)):Option (Stp (Int×Int) Int):=
  cond (decide (x1.2< (v1.length:Int))) ((B7 v1 x1.2).bind fun v2=>cond (decide (v2≤p2.S)) (some (.go (x1.2,(C5 (x1.2+1))))) (some (.go (x1.1,(C5 (x1.2+1)))))) (some (.out x1.1))
def We (p1:Map)(p2:Agent):Option (Int×Int):=
  (Kk p1 p2.Route).bind fun v1=>(loop (Ig p2 v1) (0,0)).bind fun y1=>(B7 p2.Route y1).bind fun v3=>(B7 v1 y1).bind fun v4=>some (v3,(C5 (p2.S - v4)))
theorem PX(p1 p2 r)(h:We p1 p2=some r):PCall Tryz.prog 168 [(.agg (U5 p1)),(.agg (C9 p2))] (.tup [(i64 r.1),(i64 r.2)]):=by
 refine C3 (fk Tryz.func168 Tryz.ntmps168 m0 (by with_unfolding_all rfl)) (nl W) ?_
 unfold We at h
 refine B4 (s0:=⟨T [(0,(.d _)),(1,(.d _))],G []⟩) (F3 W W) ?_
 refine lr<|fun u1 _=>sm W<|sm W<|sv W<|sv W<|A1<|A9<|sd W (B3 W (gq W) W W)<|sq W<|sl W G_hit W<|bs h fun v1 hv1 h=>B1 W W A3 (Tz _ _ _ hv1) (.inl W) (sv W<|A1<|A9<|sv W<|A1<|A4<|A9<|sv W<|A1<|bs h fun y1 hy1 h=>E0 (fun s=> ∃g1:Unit,Sb ⟨T [(3,(.ptr (3,u1) 0)),(6,(dl A5 v1)),(7,(di y1))],G [((3,u1),some<|.box 45 (X2 p2))]⟩ s) ?_ ?_)
 refine A7<|E3 (Ig p2 v1) (fun (x1:(Int×Int)) (g2:Unit)=>⟨T [(3,(.ptr (3,u1) 0)),(6,(dl A5 v1)),(7,(di x1.1)),(8,(di x1.2))],G [((3,u1),some<|.box 45 (X2 p2))]⟩) (0,0) () _ hy1 (F3 W W) ?_
 intro x1 g2 z1 hz1 ez1
 unfold Ig at hz1
 refine A4<|A9<|sv W<|sv W<|sd W (D7 W)<|sv W<|A1<|cc W hz1 (fun c1 hz1=> ?_)<|fun c1 hz1=> ?_
 refine A8<|A4<|A7<|A4<|F4 W<|sv W<|sv W<|bs hz1 fun _ hv2 hz1=>sd W (C8 W W hv2 W)<|sd W (D6 W hv2 W)<|sq W<|sl W G_hit W<|sv W<|A1<|cc W hz1 (fun c2 hz1=> ?_)<|fun c2 hz1=> ?_
 refine C0<|sv W<|sv W<|A1<|E2<|C0<|sv W<|sv W<|sv W<|A1<|E5 ?_
 cases hz1
 exact ⟨W,(),(F3 W W)⟩
 refine A8<|E2<|C0<|sv W<|sv W<|sv W<|A1<|E5 ?_
 cases hz1
 exact ⟨W,(),(F3 W W)⟩
 refine C6 W ?_
 cases hz1
 obtain rfl:=ez1 _ rfl
 refine ⟨nofun,C4 W<|Aj ?_⟩
 exact ⟨(),(F3 W W)⟩
 rintro _ ⟨g1,q1⟩
 refine B4 q1<|A4<|F4 W<|sq W<|sl W G_hit W<|sv W<|bs h fun _ hv3 h=>sd W (C8 W W hv3 W)<|sd W (D6 W hv3 W)<|sq W<|sl W G_hit W<|sv W<|sv W<|bs h fun _ hv4 h=>sd W (C8 W W hv4 W)<|sd W (D6 W hv4 W)<|sv W<|sv W<|sv W<|A1<|B0 ?_
 cases h
 exact A6 (.inr W) (Po (B2 W) (B2 W) C1 C1) (.refl _)
def Wf (p1:Map)(p2:Agent):Option Bool:=
  (El p1 p2.Route).bind fun v1=>some (decide ((C5 (p2.S - p2.Len))>v1))
theorem PY(p1 p2 r)(h:Wf p1 p2=some r):PCall Tryz.prog 169 [(.agg (U5 p1)),(.agg (C9 p2))] (bo r):=by
 refine C3 (fk Tryz.func169 Tryz.ntmps169 m0 (by with_unfolding_all rfl)) (nl W) ?_
 unfold Wf at h
 refine B4 (s0:=⟨T [(0,(.d _)),(1,(.d _))],G []⟩) (F3 W W) ?_
 refine A9<|sm W<|sn W W<|sv W<|A1<|A4<|F4 W<|sq W<|sl W G_hit W<|sq W<|sl W G_hit W<|sv W<|sd W (B3 W (gq W) W W)<|sq W<|sl W G_hit W<|bs h fun _ hv1 h=>B1 W W A3 (Te _ _ _ hv1) (.inl W) (sv W<|sv W<|A1<|B0 ?_)
 cases h
 exact A6 (.inr W) (B6 (B2 W) C1) (.refl _)
def Jg (p1:Map)(p2:State)(p3:Int):Option Int:=
  (B7 p2.Agents p3).bind fun v1=>(Ce p1 v1.Route).bind fun v2=>cond (v2 !=0) (some 13) (((cond (!(((((decide (v1.Len<300))||(decide (v1.Len>20000)))||(decide (v1.Begin<0)))||(decide (v1.Begin>1099511627776)))||(decide (v1.S<0)))) (El p1 v1.Route) (some default))).bind fun v3=>cond ((((((decide (v1.Len<300))||(decide (v1.Len>20000)))||(decide (v1.Begin<0)))||(decide (v1.Begin>1099511627776)))||(decide (v1.S<0)))||(decide (v1.S>(C5 ((C5 (v3+v1.Len))+2000))))) (some 2) ((We p1 v1).bind fun v4=>(B7 p1.Lanes v4.1).bind fun v5=>(Ki v5.Kind).bind fun v6=>cond ((decide (v1.V<0))||(decide (v1.V>v6.1))) (some 2) ((Wf p1 v1).bind fun v7=>cond (((!(v1.Gone==v7))||((decide (v1.Begin>p2.Tick))&& (v1.S !=0)))||((p3==0)&& (v1.Begin !=0))) (some 10) (some 0))))
theorem ET(p1 p2 p3 r)(h:Jg p1 p2 p3=some r):PCall Tryz.prog 77 [(.agg (U5 p1)),(.agg (Cf p2)),(i64 p3)] (i64 r):=by
 refine C3 (fk Tryz.func77 Tryz.ntmps77 m0 (by with_unfolding_all rfl)) (nl W) ?_
 unfold Jg at h
 refine B4 (s0:=⟨T [(0,(.d _)),(1,(.d _)),(2,(.d _))],G []⟩) (F3 W W) ?_
 refine A9<|sm W<|sn W W<|sv W<|A1<|A9<|sq W<|sl W G_hit W<|sv W<|bs h fun v1 hv1 h=>sd W (C8 W W hv1 W)<|sd W (D2 W hv1 W W)<|sm W<|Bc W G_hit (X2 v1) W (A1<|A4<|A9<|sd W (B3 W (gq W) W W)<|sq W<|sl W G_hit W<|bs h fun _ hv2 h=>B1 W W A3 (Iu _ _ _ hv2) (.inl W) (sv W<|A1<|cc W h (fun c1 h=> ?_)<|fun c1 h=> ?_))
 refine A9<|sv W<|A1<|B0 ?_
 cases h
 exact A6 (.inr W) (B6 (B2 W) C1) (.refl _)
 refine A8<|A4<|A4<|F4 W<|sq W<|sl W G_hit W<|sv W<|sv W<|gp W (K5 W) (fun _=>W) (gf W (vl W G_hit W)<|gf W (vb W W W)<|sd W (O2 W W<|fun hc=>A2<|J7 hc)<|sv W<|gp W (K5 W) (fun _=>W) (gf W (vl W G_hit W)<|gf W (vb W W W)<|sd W (O2 W W<|fun hc=>A2<|J7 hc)<|sv W<|gp W (K5 W) (fun _=>W) (gf W (vl W G_hit W)<|gf W (vb W W W)<|sd W (O2 W W<|fun hc=>A2<|J7 hc)<|sv W<|gp W (K5 W) (fun _=>W) (gf W (vl W G_hit W)<|gf W (vb W W W)<|sd W (O2 W W<|fun hc=>A2<|J7 hc)<|sv W<|gp W (K5 W) (fun _=>W) (gf W (vl W G_hit W)<|gf W (fun _=>(B3 W (gq W) W W))<|gp W (K5 W) (fun _=>W) (gf W (vl W G_hit W)<|bs h fun v3 hv3 h=> ?_))))))
 refine O3 _ (i64 v3) (K5 W) (fun w18=>⟨_,[(.d (.agg (U5 p1))),(dl A5 v1.Route)],_,_,(by simp only [A2 w18];rfl),W,A3,Te _ _ _<|C2 w18 hv3,(.inl W)⟩) ?_
 refine gp W (K5 W) (fun _=>W) (gf W (vl W G_hit W)<|gf W (fun w21=>(N1 (A2 w21) (A2 w21) W))<|gf W (vb W W W)<|gf W (fun w23=>(N1 (A2 w23) (A2 w23) W))<|sd W (O2 W W<|fun hc=>A2<|J7 hc)<|A1<|cc W h (fun c2 h=> ?_)<|fun c2 h=> ?_)
 refine A9<|sv W<|A1<|B0 ?_
 cases h
 exact A6 (.inr W) (B6 (B2 W) C1) (.refl _)
 refine A8<|A9<|sd W (B3 W (gq W) W W)<|sd W (B3 W G_hit W W)<|bs h fun _ hv4 h=>B1 W W A3 (PX _ _ _ hv4) (.inl W) (sv W<|sv W<|sv W<|sv W<|sv W<|A1<|A9<|sq W<|sl W (gq W) W (sv W<|bs h fun _ hv5 h=>sd W (C8 W W hv5 W)<|sv W<|sd W (D6 W hv5 W)<|bs h fun _ hv6 h=>B1 W W A3 (Tx _ _ hv6) (.inl W) (sv W<|sv W<|sv W<|sv W<|sv W<|sv W<|sv W<|A1<|A4<|A9<|sq W<|sl W G_hit W<|sv W<|sv W<|gp W (K5 W) (fun _=>W) (gf W (vl W G_hit W)<|gf W (fun _=>W)<|gf W (fun w27=>(N1 (A2 w27) (A2 w27) W))<|sd W (O2 W W<|fun hc=>A2<|J7 hc)<|A1<|cc W h (fun c3 h=> ?_)<|fun c3 h=> ?_))))
 refine A9<|sv W<|A1<|B0 ?_
 cases h
 exact A6 (.inr W) (B6 (B2 W) C1) (.refl _)
 refine A8<|A4<|A4<|F4 W<|sq W<|sl W G_hit W<|sd W (B3 W (gq W) W W)<|sd W (B3 W G_hit W W)<|bs h fun v7 hv7 h=>B1 W W A3 (PY _ _ _ hv7) (.inl W) (B9 (.d (bo (!(v1.Gone==v7)))) W W (sv W<|gp W (K5 W) (fun _=>W) (gf W (vl W G_hit W)<|gp W (K5 W) (fun _=>W) (gf W (vl W (gq W) W)<|gf W (fun w32=>(N1 (A2 w32) (A2 w32) W))<|gf W (fun w33=>(SW<|A2 w33))<|N2 _ (.ptr _ _) W (Z8 W) (fun _=>W) (gv W (Z8 W) (vl W G_hit W) (gv W (Z8 W) (vb W W W) (gf W (fun w37=>(KS (A2 w37) (fun hc=>A2<|IB w37 hc) W))<|sd W (O2 W W<|fun hc=>A2<|J7 hc)<|sv W<|gf W (fun _=>W)<|gf W (vb W W W)<|gf W (fun w40=>(SW<|A2 w40))<|N2 _ (.ptr _ _) W (Z8 W) (fun _=>W) (gv W (Z8 W) (vl W G_hit W) (gv W (Z8 W) (vb W W W) (gf W (fun w44=>(KS (A2 w44) (fun hc=>A2<|IB w44 hc) W))<|sd W (O2 W W<|fun hc=>A2<|J7 hc)<|A1<|cc W h (fun c4 h=> ?_)<|fun c4 h=> ?_))))))))))
 refine A9<|sv W<|A1<|B0 ?_
 cases h
 exact A6 (.inr W) (B6 (B2 W) C1) (.refl _)
 refine A8<|A9<|sv W<|A1<|B0 ?_
 cases h
 exact A6 (.inr W) (B6 (B2 W) C1) (.refl _)
def Jh (p2:State)(x3:Int):Option (Stp Int (Sum Unit Int)):=
  cond (decide (x3< (p2.In.length:Int))) ((B7 p2.In x3).bind fun v7=>cond ((((decide (v7.Since<0))||(decide (v7.Since>p2.Tick)))||(decide (v7.Rank<0)))||(decide (v7.Rank>100))) (some (.out (.inr 2))) (some (.go (C5 (x3+1))))) (some (.out (.inl ())))
def Ji (p1:Map)(p2:State)(x2:Int):Option (Stp Int (Sum Unit Int)):=
  cond (decide (x2< (p2.In.length:Int))) ((B7 p2.In x2).bind fun v3=>cond ((((decide (v3.Agent_<0))||(decide (v3.Agent_≥(p2.Agents.length:Int))))||(decide (v3.Zone_<0)))||(decide (v3.Zone_≥(p1.Zones.length:Int)))) (some (.out (.inr 11))) (((cond (decide (x2>0)) (B7 p2.In (C5 (x2 - 1))) (some default))).bind fun v4=>((cond ((decide (x2>0))&& (!(decide (v3.Agent_<v4.Agent_)))) (B7 p2.In (C5 (x2 - 1))) (some default))).bind fun v5=>((cond (((decide (x2>0))&& (!(decide (v3.Agent_<v4.Agent_))))&& (v3.Agent_==v5.Agent_)) (B7 p2.In (C5 (x2 - 1))) (some default))).bind fun v6=>cond ((decide (x2>0))&& ((decide (v3.Agent_<v4.Agent_))||((v3.Agent_==v5.Agent_)&& (decide (v3.Zone_≤v6.Zone_))))) (some (.out (.inr 11))) (some (.go (C5 (x2+1)))))) (some (.out (.inl ())))
def Jj (p1:Map)(p2:State)(x1:Int):Option (Stp Int (Sum Unit Int)):=
  cond (decide (x1< (p2.Agents.length:Int))) ((Jg p1 p2 x1).bind fun v2=>cond (v2 !=0) (some (.out (.inr v2))) (some (.go (C5 (x1+1))))) (some (.out (.inl ())))
def Tf (p1:Map)(p2:State):Option Int:=
  (Nb p1).bind fun v1=>cond (v1 !=0) (some v1) (cond ((decide (p2.Tick<0))||(decide (p2.Tick>1099511627776))) (some 2) (cond ((p2.Agents.length:Int)==0) (some 6) (cond (decide ((p2.Agents.length:Int)>8)) (some 8) (thenS (loop (Jj p1 p2) 0) (fun _=>thenS (loop (Ji p1 p2) 0) (fun _=>thenS (loop (Jh p2) 0) (fun _=>some 0) (fun r=>some r)) (fun r=>some r)) (fun r=>some r)))))
theorem OI(p1 p2 r)(h:Tf p1 p2=some r):PCall Tryz.prog 25 [(.agg (U5 p1)),(.agg (Cf p2))] (i64 r):=by
 refine C3 (fk Tryz.func25 Tryz.ntmps25 m0 (by with_unfolding_all rfl)) (nl W) ?_
 unfold Tf at h
 refine B4 (s0:=⟨T [(0,(.d _)),(1,(.d _))],G []⟩) (F3 W W) ?_
 refine lr<|fun u1 _=>sm W<|sm W<|sv W<|A1<|A9<|sd W (B3 W (gq W) W W)<|bs h fun _ hv1 h=>B1 W W A3 (Wd _ _ hv1) (.inl W) (sv W<|A1<|A4<|A9<|sv W<|sv W<|A1<|cc W h (fun c1 h=> ?_)<|fun c1 h=> ?_)
 refine A9<|sv W<|sv W<|A1<|B0 ?_
 cases h
 exact A6 (.inr W) (B6 (B2 W) C1) (.refl _)
 refine A8<|A4<|A9<|sq W<|sl W G_hit W<|sv W<|sv W<|gp W (K5 W) (fun _=>W) (gf W (vl W G_hit W)<|gf W (vb W W W)<|sd W (O2 W W<|fun hc=>A2<|J7 hc)<|A1<|cc W h (fun c2 h=> ?_)<|fun c2 h=> ?_)
 refine A9<|sv W<|A1<|B0 ?_
 cases h
 exact A6 (.inr W) (B6 (B2 W) C1) (.refl _)
 refine A8<|A4<|A9<|sq W<|sl W G_hit W<|sd W (D7 W)<|sv W<|A1<|cc W h (fun c3 h=> ?_)<|fun c3 h=> ?_
 refine A9<|sv W<|A1<|B0 ?_
 cases h
 exact A6 (.inr W) (B6 (B2 W) C1) (.refl _)
 refine A8<|A4<|A9<|sq W<|sl W G_hit W<|sd W (D7 W)<|sv W<|A1<|cc W h (fun c4 h=> ?_)<|fun c4 h=> ?_
 refine A9<|sv W<|A1<|B0 ?_
 cases h
 exact A6 (.inr W) (B6 (B2 W) C1) (.refl _)
 refine A8<|A4<|A9<|sv W<|A1<|js h fun z1 hz1 h=>E0 (fun s=> ∃(y1:Unit) (g1:Unit),z1= .inl y1∧Sb ⟨T [(2,(.ptr (2,u1) 0)),(3,(.ptr (3,u1) 0))],G [((2,u1),some<|.box 33 (M7 p1)),((3,u1),some<|.box 25 (L0 p2))]⟩ s) ?_ ?_
 refine A7<|E3 (Jj p1 p2) (fun (x1:Int) (g2:Unit)=>⟨T [(2,(.ptr (2,u1) 0)),(3,(.ptr (3,u1) 0)),(6,(di x1))],G [((2,u1),some<|.box 33 (M7 p1)),((3,u1),some<|.box 25 (L0 p2))]⟩) 0 () _ hz1 (F3 W W) ?_
 intro x1 g2 z2 hz2 ez2
 unfold Jj at hz2
 refine A4<|A9<|sv W<|sq W<|sl W (gq W) W (sd W (D7 W)<|sv W<|A1<|cc W hz2 (fun c5 hz2=> ?_)<|fun c5 hz2=> ?_)
 refine A8<|A4<|A7<|A9<|sd W (B3 W G_hit W W)<|sd W (B3 W (gq W) W W)<|sv W<|bs hz2 fun _ hv2 hz2=>B1 W W A3 (ET _ _ _ _ hv2) (.inl W) (sv W<|A1<|A9<|sv W<|sv W<|A1<|cc W hz2 (fun c6 hz2=> ?_)<|fun c6 hz2=> ?_)
 refine A9<|sv W<|sv W<|A1<|B0 ?_
 cases hz2
 obtain rfl:=ez2 _ rfl
 refine ⟨nofun,F2 ?_⟩
 rw [bT]at h
 cases h
 exact A6 (.inr W) (B6 (B2 W) C1) (.refl _)
 refine A8<|E2<|C0<|sv W<|sv W<|sv W<|A1<|E5 ?_
 cases hz2
 exact ⟨W,(),(F3 W W)⟩
 refine C6 W ?_
 cases hz2
 obtain rfl:=ez2 _ rfl
 refine ⟨nofun,C4 W<|Aj ?_⟩
 exact ⟨_,(),W,(F3 W W)⟩
 rintro _ ⟨y1,g1,rfl,q1⟩
 rw [bS]at h
 refine B4 q1<|A4<|A9<|sv W<|A1<|js h fun z3 hz3 h=>E0 (fun s=> ∃(y2:Unit) (g3:Unit),z3= .inl y2∧Sb ⟨T [(3,(.ptr (3,u1) 0))],G [((3,u1),some<|.box 25 (L0 p2))]⟩ s) ?_ ?_
 refine A7<|E3 (Ji p1 p2) (fun (x2:Int) (g4:Unit)=>⟨T [(2,(.ptr (2,u1) 0)),(3,(.ptr (3,u1) 0)),(7,(di x2))],G [((2,u1),some<|.box 33 (M7 p1)),((3,u1),some<|.box 25 (L0 p2))]⟩) 0 () _ hz3 (F3 W W) ?_
 intro x2 g4 z4 hz4 ez4
 unfold Ji at hz4
 refine A4<|A9<|sv W<|sq W<|sl W (gq W) W (sd W (D7 W)<|sv W<|A1<|cc W hz4 (fun c7 hz4=> ?_)<|fun c7 hz4=> ?_)
 refine A8<|A4<|A7<|A9<|sq W<|sl W (gq W) W (sv W<|bs hz4 fun v3 hv3 hz4=>sd W (C8 W W hv3 W)<|sd W (D2 W hv3 W W)<|sm W<|Bc W G_hit (BM v3) W (A1<|A4<|A9<|sq W<|sl W G_hit W<|sv W<|sv W<|gp W (K5 W) (fun _=>W) (gf W (vl W G_hit W)<|gp W (K5 W) (fun _=>W) (gf W (vl W (gq W) W)<|gf W (fun w8=>(D7<|A2 w8))<|gf W (fun w9=>(N1 (A2 w9) (A2 w9) W))<|sd W (O2 W W<|fun hc=>A2<|J7 hc)<|sv W<|gp W (K5 W) (fun _=>W) (gf W (vl W G_hit W)<|gf W (vb W W W)<|sd W (O2 W W<|fun hc=>A2<|J7 hc)<|sv W<|gp W (K5 W) (fun _=>W) (gf W (vl W G_hit W)<|gp W (K5 W) (fun _=>W) (gf W (vl W (gq W) W)<|gf W (fun w17=>(D7<|A2 w17))<|gf W (fun w18=>(N1 (A2 w18) (A2 w18) W))<|sd W (O2 W W<|fun hc=>A2<|J7 hc)<|A1<|cc W hz4 (fun c8 hz4=> ?_)<|fun c8 hz4=> ?_)))))))
 refine A9<|sv W<|A1<|B0 ?_
 cases hz4
 obtain rfl:=ez4 _ rfl
 refine ⟨nofun,F2 ?_⟩
 rw [bT]at h
 cases h
 exact A6 (.inr W) (B6 (B2 W) C1) (.refl _)
 refine A8<|A4<|F4 W<|sv W<|sv W<|sv W<|gp W (M8 W) (fun _=>W) (gt W (vl W G_hit W)<|gp W (M8 W) (fun _=>W) (gt W (vl W (gq W) W)<|gt W (fun _=>W)<|gt W (vb W W W)<|bs hz4 fun _ hv4 hz4=>gt W (fun w25=>(C8 (A2 w25) (A2 w25) (C2 w25 hv4) W)) ?_))
 refine gt W (fun w26=>(by simp only [A2 w26];rfl)) ?_
 refine gt W (fun w27=>(D6 (A2 w27) (C2 w27 hv4) W))<|gt W (fun w28=>(N1 (A2 w28) (A2 w28) W))<|gt W (fun w29=>(SW<|A2 w29))<|N2 _ (.ptr _ _) W (Js W) (fun _=>W) (gv W (Js W) (vl W G_hit W) (N2 _ (.ptr _ _) W (Js W) (fun _=>W) (gv W (Js W) (vl W (gq W) W) (gv W (Js W) (fun _=>W) (gv W (Js W) (vb W W W) (bs hz4 fun _ hv5 hz4=>gv W (Js W) (fun w36=>(C8 (A2 w36) (A2 w36) (C2 w36 hv5) W)) ?_))))))
 refine gv W (Js W) (fun w37=>(by simp only [A2 w37];rfl)) ?_
 refine gv W (Js W) (fun w38=>(D6 (A2 w38) (C2 w38 hv5) W)) (gv W (Js W) (fun w39=>(N1 (A2 w39) (A2 w39) W)) (gv W (Js W) (fun w40=>(SW<|A2 w40)) (N2 _ (.ptr _ _) W (Z8 W) (fun _=>W) (gv W (Z8 W) (vl W G_hit W) (N2 _ (.ptr _ _) W (Z8 W) (fun _=>W) (gv W (Z8 W) (vl W (gq W) W) (gv W (Z8 W) (fun _=>W) (gv W (Z8 W) (vb W W W) (bs hz4 fun _ hv6 hz4=>gv W (Z8 W) (fun w47=>(C8 (A2 w47) (A2 w47) (C2 w47 hv6) W)) ?_)))))))))
 refine gv W (Z8 W) (fun w48=>(by simp only [A2 w48];rfl)) ?_
 refine gv W (Z8 W) (fun w49=>(D6 (A2 w49) (C2 w49 hv6) W)) (gv W (Z8 W) (fun w50=>(N1 (A2 w50) (A2 w50) W)) (gv W (Js W) (fun w51=>(KS (A2 w51) (fun hc=>A2<|IB w51 hc) W)) (gt W (fun w52=>(O2 (A2 w52) W (fun hc=>A2<|IB w52<|J7 hc)))<|sa W W W<|A1<|cc W hz4 (fun c9 hz4=> ?_)<|fun c9 hz4=> ?_)))
 refine A9<|sv W<|A1<|B0 ?_
 cases hz4
 obtain rfl:=ez4 _ rfl
 refine ⟨nofun,F2 ?_⟩
 rw [bT]at h
 cases h
 exact A6 (.inr W) (B6 (B2 W) C1) (.refl _)
 refine A8<|E2<|C0<|sv W<|sv W<|sv W<|A1<|E5 ?_
 cases hz4
 exact ⟨W,(),(F3 W W)⟩
 refine C6 W ?_
 cases hz4
 obtain rfl:=ez4 _ rfl
 refine ⟨nofun,C4 W<|Aj ?_⟩
 exact ⟨_,(),W,(F3 W W)⟩
 rintro _ ⟨y2,g3,rfl,q2⟩
 rw [bS]at h
 refine B4 q2<|A4<|A9<|sv W<|A1<|js h fun z5 hz5 h=>E0 (fun s=> ∃(y3:Unit) (g5:Unit),z5= .inl y3∧Sb ⟨T [],G []⟩ s) ?_ ?_
 refine A7<|E3 (Jh p2) (fun (x3:Int) (g6:Unit)=>⟨T [(3,(.ptr (3,u1) 0)),(9,(di x3))],G [((3,u1),some<|.box 25 (L0 p2))]⟩) 0 () _ hz5 (F3 W W) ?_
 intro x3 g6 z6 hz6 ez6
 unfold Jh at hz6
 refine A4<|A9<|sv W<|sq W<|sl W G_hit W<|sd W (D7 W)<|sv W<|A1<|cc W hz6 (fun c10 hz6=> ?_)<|fun c10 hz6=> ?_
 refine A8<|A4<|A7<|A9<|sq W<|sl W G_hit W<|sv W<|bs hz6 fun v7 hv7 hz6=>sd W (C8 W W hv7 W)<|sd W (D2 W hv7 W W)<|sm W<|Bc W G_hit (BM v7) W (A1<|A9<|sq W<|sl W G_hit W<|sv W<|sv W<|gp W (K5 W) (fun _=>W) (gf W (vl W G_hit W)<|gp W (K5 W) (fun _=>W) (gf W (vl W (gq W) W)<|gf W (fun w57=>(N1 (A2 w57) (A2 w57) W))<|sd W (O2 W W<|fun hc=>A2<|J7 hc)<|sv W<|gp W (K5 W) (fun _=>W) (gf W (vl W G_hit W)<|gf W (vb W W W)<|sd W (O2 W W<|fun hc=>A2<|J7 hc)<|sv W<|gp W (K5 W) (fun _=>W) (gf W (vl W G_hit W)<|gf W (vb W W W)<|sd W (O2 W W<|fun hc=>A2<|J7 hc)<|A1<|cc W hz6 (fun c11 hz6=> ?_)<|fun c11 hz6=> ?_)))))
 refine A9<|sv W<|A1<|B0 ?_
 cases hz6
 obtain rfl:=ez6 _ rfl
 refine ⟨nofun,F2 ?_⟩
 rw [bT]at h
 cases h
 exact A6 (.inr W) (B6 (B2 W) C1) (.refl _)
 refine A8<|E2<|C0<|sv W<|sv W<|sv W<|A1<|E5 ?_
 cases hz6
 exact ⟨W,(),(F3 W W)⟩
 refine C6 W ?_
 cases hz6
 obtain rfl:=ez6 _ rfl
 refine ⟨nofun,C4 W<|Aj ?_⟩
 exact ⟨_,(),W,(F3 W W)⟩
 rintro _ ⟨y3,g5,rfl,q3⟩
 rw [bS]at h
 refine B4 q3<|A9<|sv W<|A1<|B0 ?_
 cases h
 exact A6 (.inr W) (B6 (B2 W) C1) (.refl _)
def Nc (p1:State)(p2:Int):Option Bool:=
  ((cond ((decide (p2≥0))&& (decide (p2< (p1.Agents.length:Int)))) (B7 p1.Agents p2) (some default))).bind fun v1=>((cond (((decide (p2≥0))&& (decide (p2< (p1.Agents.length:Int))))&& (decide (v1.Begin≤p1.Tick))) (B7 p1.Agents p2) (some default))).bind fun v2=>some ((((decide (p2≥0))&& (decide (p2< (p1.Agents.length:Int))))&& (decide (v1.Begin≤p1.Tick)))&& (!v2.Gone))
theorem Wg(p1 p2 r)(h:Nc p1 p2=some r):PCall Tryz.prog 39 [(.agg (Cf p1)),(i64 p2)] (bo r):=by
 refine C3 (fk Tryz.func39 Tryz.ntmps39 m0 (by with_unfolding_all rfl)) (nl W) ?_
 unfold Nc at h
 refine B4 (s0:=⟨T [(0,(.d _)),(1,(.d _))],G []⟩) (F3 W W) ?_
 refine A9<|sm W<|sv W<|A1<|A4<|F4 W<|sv W<|sv W<|sv W<|gt W (fun _=>W)<|gp W (M8 W) (fun _=>W) (gt W (vl W G_hit W)<|gt W (fun w4=>(D7<|A2 w4))<|gt W (fun w5=>(N1 (A2 w5) (A2 w5) W))<|sa W W W<|sv W<|gp W (M8 W) (fun _=>W) (gt W (vl W G_hit W)<|gt W (fun _=>W)<|bs h fun _ hv1 h=>gt W (fun w9=>(C8 (A2 w9) (A2 w9) (C2 w9 hv1) W)) ?_))
 refine gt W (fun w10=>(by simp only [A2 w10];rfl)) ?_
 refine gt W (fun w11=>(D6 (A2 w11) (C2 w11 hv1) W))<|gp W (M8 W) (fun _=>W) (gt W (vl W G_hit W)<|gt W (fun w14=>(N1 (A2 w14) (A2 w14) W))<|sa W W W<|sv W<|gp W (M8 W) (fun _=>W) (gt W (vl W G_hit W)<|gt W (fun _=>W)<|bs h fun v2 hv2 h=>gt W (fun w18=>(C8 (A2 w18) (A2 w18) (C2 w18 hv2) W)) ?_))
 refine gt W (fun w19=>(by simp only [A2 w19];rfl)) ?_
 refine gt W (fun w20=>(D6 (A2 w20) (C2 w20 hv2) W)) ?_
 refine N2 _ (.d (bo (!v2.Gone))) W (M8 W) (fun w21=>(by simp only [A2 w21];rfl)) ?_
 refine sa W W W<|sv W<|A1<|B0 ?_
 cases h
 exact A6 (.inr W) (B6 (B2 W) C1) (.refl _)
def Pf (p1:Agent):Option Bool:=
  some ((((decide (p1.S≥0))&& (decide (p1.S≤1099511627776)))&& (decide (p1.Len≥0)))&& (decide (p1.Len≤1099511627776)))
theorem Yo(p1 r)(h:Pf p1=some r):PCall Tryz.prog 133 [(.agg (C9 p1))] (bo r):=by
 refine C3 (fk Tryz.func133 Tryz.ntmps133 m0 (by with_unfolding_all rfl)) (nl W) ?_
 unfold Pf at h
 refine B4 (s0:=⟨T [(0,(.d _))],G []⟩) (F3 W W) ?_
 refine A9<|sm W<|sv W<|A1<|A9<|sq W<|sl W G_hit W<|sv W<|sv W<|gp W (M8 W) (fun _=>W) (gt W (vl W G_hit W)<|gt W (vb W W W)<|sa W W W<|sv W<|gp W (M8 W) (fun _=>W) (gt W (vl W G_hit W)<|gt W (vb W W W)<|sa W W W<|sv W<|gp W (M8 W) (fun _=>W) (gt W (vl W G_hit W)<|gt W (vb W W W)<|sa W W W<|sv W<|A1<|B0 ?_)))
 cases h
 exact A6 (.inr W) (B6 (B2 W) C1) (.refl _)
def Z1 (x5:((List Pass)×Int)):Option (Stp ((List Pass)×Int) (List Pass)):=
  ((cond (decide (x5.2>0)) (B7 x5.1 x5.2) (some default))).bind fun v9=>((cond (decide (x5.2>0)) (B7 x5.1 (C5 (x5.2 - 1))) (some default))).bind fun v10=>((cond ((decide (x5.2>0))&& (!(decide (v9.From<v10.From)))) (B7 x5.1 x5.2) (some default))).bind fun v11=>((cond ((decide (x5.2>0))&& (!(decide (v9.From<v10.From)))) (B7 x5.1 (C5 (x5.2 - 1))) (some default))).bind fun v12=>((cond (((decide (x5.2>0))&& (!(decide (v9.From<v10.From))))&& (v11.From==v12.From)) (B7 x5.1 x5.2) (some default))).bind fun v13=>((cond (((decide (x5.2>0))&& (!(decide (v9.From<v10.From))))&& (v11.From==v12.From)) (B7 x5.1 (C5 (x5.2 - 1))) (some default))).bind fun v14=>cond ((decide (x5.2>0))&& ((decide (v9.From<v10.From))||((v11.From==v12.From)&& (decide (v13.Zone_<v14.Zone_))))) ((B7 x5.1 (C5 (x5.2 - 1))).bind fun v15=>(B7 x5.1 x5.2).bind fun v16=>(B7 x5.1 x5.2).bind fun v17=>(B7 (Mo x5.1 x5.2 v15) (C5 (x5.2 - 1))).bind fun v18=>some (.go ((Mo (Mo x5.1 x5.2 v15) (C5 (x5.2 - 1)) v16),(C5 (x5.2 - 1))))) (some (.out x5.1))
def Cz (x4:((List Pass)×Int)):Option (Stp ((List Pass)×Int) (List Pass)):=
  cond (decide (x4.2< (x4.1.length:Int))) ((loop (Z1) (x4.1,x4.2)).bind fun y5=>some (.go (y5,(C5 (x4.2+1))))) (some (.out x4.1))
def Da (p1:Map)(p2:(List Int))(v1:(List Int))(x1:((List Pass)×Int))(x2:((List Pass)×Int))(x3:((List Pass)×Int)):Option (Stp ((List Pass)×Int) (List Pass)):=
  (B7 p1.Zones x2.2).bind fun v2=>cond (decide (x3.2< (v2.Parts.length:Int))) ((B7 p1.Zones x2.2).bind fun v3=>(B7 v3.Parts x3.2).bind fun v4=>(B7 p2 x1.2).bind fun v5=>cond (v4.Lane_==v5) ((B7 v1 x1.2).bind fun v6=>(B7 v1 x1.2).bind fun v7=>(Bo x3.1 [(Pass.mk x2.2 x3.2 (C5 (v6+v4.From)) (C5 (v7+v4.To)))]).bind fun v8=>some (.go (v8,(C5 (x3.2+1))))) (some (.go (x3.1,(C5 (x3.2+1)))))) (some (.out x3.1))
def Db (p1:Map)(p2:(List Int))(v1:(List Int))(x1:((List Pass)×Int))(x2:((List Pass)×Int)):Option (Stp ((List Pass)×Int) (List Pass)):=
  cond (decide (x2.2< (p1.Zones.length:Int))) ((loop (Da p1 p2 v1 x1 x2) (x2.1,0)).bind fun y3=>some (.go (y3,(C5 (x2.2+1))))) (some (.out x2.1))
def Bw (p1:Map)(p2:(List Int))(v1:(List Int))(x1:((List Pass)×Int)):Option (Stp ((List Pass)×Int) (List Pass)):=
  cond (decide (x1.2< (v1.length:Int))) ((loop (Db p1 p2 v1 x1) (x1.1,0)).bind fun y2=>some (.go (y2,(C5 (x1.2+1))))) (some (.out x1.1))
def Hp (p1:Map)(p2:(List Int)):Option (List Pass):=
  (Kk p1 p2).bind fun v1=>(loop (Bw p1 p2 v1) ([],0)).bind fun y1=>(loop (Cz) (y1,1)).bind fun y4=>some y4
theorem LP(p1 p2 r)(h:Hp p1 p2=some r):PCall Tryz.prog 176 [(.agg (U5 p1)),(.list (List.map A5 p2))] (.list (List.map T4 r)):=by
 refine C3 (fk Tryz.func176 Tryz.ntmps176 (fun r=>if r==14 then [1018]else []) (by with_unfolding_all rfl)) (nl W) ?_
 unfold Hp at h
 refine B4 (s0:=⟨T [(0,(.d _)),(1,(.d _))],G []⟩) (F3 W W) ?_
 refine lr<|fun u1 _=>sm W<|sv W<|A1<|A9<|sv W<|A1<|A9<|sd W (B3 W G_hit W W)<|sv W<|bs h fun v1 hv1 h=>B1 W W A3 (Tz _ _ _ hv1) (.inl W) (sv W<|A1<|A4<|A9<|sv W<|A1<|bs h fun y1 hy1 h=>E0 (fun s=> ∃g1:Nat,Sb ⟨T [(5,(oS y1 (75,g1)))],G [((75,g1),oB 229 4 T4 y1)]⟩ s) ?_ ?_)
 refine A7<|E3 (Bw p1 p2 v1) (fun (x1:((List Pass)×Int)) (g2:Nat)=>⟨T [(1,(dl A5 p2)),(2,(.ptr (2,u1) 0)),(5,(oS x1.1 (75,g2))),(6,(dl A5 v1)),(7,(di x1.2))],G [((2,u1),some<|.box 33 (M7 p1)),((75,g2),oB 229 4 T4 x1.1)]⟩) ([],0) 0 _ hy1 (E1 (Ck W)<|B5 G_hit (.of W)<|X0 trivial) ?_
 intro x1 g2 z1 hz1 ez1
 unfold Bw at hz1
 refine A4<|A9<|sv W<|sv W<|sd W (D7 W)<|sv W<|A1<|cc W hz1 (fun c1 hz1=> ?_)<|fun c1 hz1=> ?_
 refine A8<|A4<|A7<|A9<|sv W<|A1<|bs hz1 fun y2 hy2 hz1=>E0 (fun s=> ∃g3:Nat,Sb ⟨T [(1,(dl A5 p2)),(2,(.ptr (2,u1) 0)),(5,(oS y2 (75,g3))),(6,(dl A5 v1)),(7,(di x1.2))],G [((2,u1),some<|.box 33 (M7 p1)),((75,g3),oB 229 4 T4 y2)]⟩ s) ?_ ?_
 refine A7<|E3 (Db p1 p2 v1 x1) (fun (x2:((List Pass)×Int)) (g4:Nat)=>⟨T [(1,(dl A5 p2)),(2,(.ptr (2,u1) 0)),(5,(oS x2.1 (75,g4))),(6,(dl A5 v1)),(7,(di x1.2)),(8,(di x2.2))],G [((2,u1),some<|.box 33 (M7 p1)),((75,g4),oB 229 4 T4 x2.1)]⟩) (x1.1,0) g2 _ hy2 (E1 (Ck W)<|B5 G_hit (.of W)<|B8 (gq W) trivial) ?_
 intro x2 g4 z2 hz2 ez2
 unfold Db at hz2
 refine A4<|A9<|sv W<|sq W<|sl W G_hit W<|sd W (D7 W)<|sv W<|A1<|cc W hz2 (fun c2 hz2=> ?_)<|fun c2 hz2=> ?_
 refine A8<|A4<|A7<|A9<|sv W<|A1<|bs hz2 fun y3 hy3 hz2=>E0 (fun s=> ∃g5:Nat,Sb ⟨T [(1,(dl A5 p2)),(2,(.ptr (2,u1) 0)),(5,(oS y3 (75,g5))),(6,(dl A5 v1)),(7,(di x1.2)),(8,(di x2.2))],G [((2,u1),some<|.box 33 (M7 p1)),((75,g5),oB 229 4 T4 y3)]⟩ s) ?_ ?_
 refine A7<|E3 (Da p1 p2 v1 x1 x2) (fun (x3:((List Pass)×Int)) (g6:Nat)=>⟨T [(1,(dl A5 p2)),(2,(.ptr (2,u1) 0)),(5,(oS x3.1 (75,g6))),(6,(dl A5 v1)),(7,(di x1.2)),(8,(di x2.2)),(9,(di x3.2))],G [((2,u1),some<|.box 33 (M7 p1)),((75,g6),oB 229 4 T4 x3.1)]⟩) (x2.1,0) g4 _ hy3 (E1 (Ck W)<|B5 G_hit (.of W)<|B8 (gq W) trivial) ?_
 intro x3 g6 z3 hz3 ez3
 unfold Da at hz3
 refine A4<|A9<|sv W<|sq W<|sl W G_hit W<|sv W<|bs hz3 fun _ hv2 hz3=>sd W (C8 W W hv2 W)<|sv W<|sd W (D6 W hv2 W)<|sd W (D7 W)<|sv W<|A1<|cc W hz3 (fun c3 hz3=> ?_)<|fun c3 hz3=> ?_
 refine A8<|A4<|A7<|A9<|sq W<|sl W G_hit W<|sv W<|bs hz3 fun _ hv3 hz3=>sd W (C8 W W hv3 W)<|sv W<|sd W (D6 W hv3 W)<|sv W<|bs hz3 fun v4 hv4 hz3=>sd W (C8 W W hv4 W)<|sd W (D2 W hv4 W W)<|sm W<|Bc W G_hit (FA v4) W (A1<|A4<|F4 W<|sq W<|sl W G_hit W<|sv W<|sv W<|bs hz3 fun _ hv5 hz3=>sd W (C8 W W hv5 W)<|sd W (D6 W hv5 W)<|sv W<|A1<|cc W hz3 (fun c4 hz3=> ?_)<|fun c4 hz3=> ?_)
 refine Rk W fun u12 _=>B9 (oS x3.1 (75,g6)) W W (sv W<|sv W<|sv W<|sv W<|bs hz3 fun v6 hv6 hz3=>sd W (C8 W W hv6 W)<|sd W (D6 W hv6 W)<|sq W<|sl W G_hit W<|sv W<|sv W<|sv W<|bs hz3 fun v7 hv7 hz3=>sd W (C8 W W hv7 W)<|sd W (D6 W hv7 W)<|sq W<|sl W G_hit W<|sv W<|sv W<|B9 (dl T4 [(Pass.mk x2.2 x3.2 (C5 (v6+v4.From))<|C5 (v7+v4.To))]) W W (bs hz3 fun _ hv8 hz3=>V3 T4 (75,g6) x3.1 (Pass.mk x2.2 x3.2 (C5 (v6+v4.From))<|C5 (v7+v4.To)) [] _ (N3<|fun _=>W) W (gq W) hv8 (ss W<|A1<|E2<|C0<|sv W<|sv W<|sv W<|A1<|E5 ?_)))
 cases hz3
 exact ⟨W,u12,(E1 ⟨.of W, .of W,(.of (Aq<|Ba hv8).symm), .of W, .of W, .of W, .of W,trivial⟩<|sg W<|O6 G_hit trivial)⟩
 refine A8<|E2<|C0<|sv W<|sv W<|sv W<|A1<|E5 ?_
 cases hz3
 exact ⟨W,g6,(E1 (Ck W)<|sg W<|B8 (gq W) trivial)⟩
 refine C6 W ?_
 cases hz3
 obtain rfl:=ez3 _ rfl
 refine ⟨nofun,C4 W<|Aj ?_⟩
 exact ⟨g6,(E1 (Ck W)<|B5 G_hit (.of W)<|B8 (gq W) trivial)⟩
 rintro _ ⟨g5,q1⟩
 refine E2<|B4 q1<|C0<|sv W<|sv W<|sv W<|A1<|E5 ?_
 cases hz2
 exact ⟨W,g5,(E1 (Ck W)<|B5 G_hit (.of W)<|B8 (gq W) trivial)⟩
 refine C6 W ?_
 cases hz2
 obtain rfl:=ez2 _ rfl
 refine ⟨nofun,C4 W<|Aj ?_⟩
 exact ⟨g4,(E1 (Ck W)<|B5 G_hit (.of W)<|B8 (gq W) trivial)⟩
 rintro _ ⟨g3,q2⟩
 refine E2<|B4 q2<|C0<|sv W<|sv W<|sv W<|A1<|E5 ?_
 cases hz1
 exact ⟨W,g3,(E1 (Ck W)<|B5 G_hit (.of W)<|B8 (gq W) trivial)⟩
 refine C6 W ?_
 cases hz1
 obtain rfl:=ez1 _ rfl
 refine ⟨nofun,C4 W<|Aj ?_⟩
 exact ⟨g2,(E1 ⟨.of W,trivial⟩<|B8 (gq W) trivial)⟩
 rintro _ ⟨g1,q3⟩
 refine B4 q3<|A4<|A9<|sv W<|A1<|bs h fun y4 hy4 h=>E0 (fun s=> ∃g7:Nat,Sb ⟨T [(5,(oS y4 (75,g7)))],G [((75,g7),oB 229 4 T4 y4)]⟩ s) ?_ ?_
 refine A7<|E3 (Cz) (fun (x4:((List Pass)×Int)) (g8:Nat)=>⟨T [(5,(oS x4.1 (75,g8))),(11,(di x4.2))],G [((75,g8),oB 229 4 T4 x4.1)]⟩) (y1,1) g1 _ hy4 (E1 (Ck W)<|B8 G_hit trivial) ?_
 intro x4 g8 z4 hz4 ez4
 unfold Cz at hz4
 refine A4<|A9<|sv W<|B9 (oS x4.1 (75,g8)) W W (sd W (oY (f:=T4) W G_hit)<|sv W<|A1<|cc W hz4 (fun c5 hz4=> ?_)<|fun c5 hz4=> ?_)
 refine A8<|A4<|A7<|A9<|sv W<|sv W<|A1<|bs hz4 fun y5 hy5 hz4=>E0 (fun s=> ∃g9:Nat,Sb ⟨T [(5,(oS y5 (75,g9))),(11,(di x4.2))],G [((75,g9),oB 229 4 T4 y5)]⟩ s) ?_ ?_
 refine A7<|E3 (Z1) (fun (x5:((List Pass)×Int)) (g10:Nat)=>⟨T [(5,(oS x5.1 (75,g10))),(11,(di x4.2)),(12,(di x5.2))],G [((75,g10),oB 229 4 T4 x5.1)]⟩) (x4.1,x4.2) g8 _ hy5 (E1 (Ck W)<|B8 G_hit trivial) ?_
 intro x5 g10 z5 hz5 ez5
 unfold Z1 at hz5
 refine A4<|A4<|F4 W<|sv W<|sv W<|sv W<|N2 _ (oS x5.1 (75,g10)) W (M8 W) (fun _=>W) (gt W (fun _=>W)<|bs hz5 fun _ hv9 hz5=>N2 _ (.aptr _ _ _ _) W (M8 W) (fun w3=>(Tn (A2 w3) (A2 w3) G_hit (C2 w3 hv9))) ?_)
 refine N2 _ (.aptr _ _ _ _) W (M8 W) (fun w4=>(by simp only [A2 w4];rfl)) ?_
 refine gt W (fun w5=>(Sj (A2 w5) (Jz G_hit<|Gm<|C2 w5 hv9) (C2 w5 hv9) W))<|N2 _ (oS x5.1 (75,g10)) W (M8 W) (fun _=>W) (gt W (fun _=>W)<|gt W (vb W W W)<|bs hz5 fun _ hv10 hz5=>N2 _ (.aptr _ _ _ _) W (M8 W) (fun w9=>(Tn (A2 w9) (A2 w9) G_hit (C2 w9 hv10))) ?_)
 refine N2 _ (.aptr _ _ _ _) W (M8 W) (fun w10=>(by simp only [A2 w10];rfl)) ?_
 refine gt W (fun w11=>(Sj (A2 w11) (Jz G_hit<|Gm<|C2 w11 hv10) (C2 w11 hv10) W))<|gt W (fun w12=>(N1 (A2 w12) (A2 w12) W))<|gt W (fun w13=>(SW<|A2 w13))<|N2 _ (oS x5.1 (75,g10)) W (Js W) (fun _=>W) (gv W (Js W) (fun _=>W) (bs hz5 fun _ hv11 hz5=>N2 _ (.aptr _ _ _ _) W (Js W) (fun w16=>(Tn (A2 w16) (A2 w16) G_hit (C2 w16 hv11))) ?_))
 refine N2 _ (.aptr _ _ _ _) W (Js W) (fun w17=>(by simp only [A2 w17];rfl)) ?_
 refine gv W (Js W) (fun w18=>(Sj (A2 w18) (Jz G_hit<|Gm<|C2 w18 hv11) (C2 w18 hv11) W)) (N2 _ (oS x5.1 (75,g10)) W (Js W) (fun _=>W) (gv W (Js W) (fun _=>W) (gv W (Js W) (vb W W W) (bs hz5 fun _ hv12 hz5=>N2 _ (.aptr _ _ _ _) W (Js W) (fun w22=>(Tn (A2 w22) (A2 w22) G_hit (C2 w22 hv12))) ?_))))
 refine N2 _ (.aptr _ _ _ _) W (Js W) (fun w23=>(by simp only [A2 w23];rfl)) ?_
 refine gv W (Js W) (fun w24=>(Sj (A2 w24) (Jz G_hit<|Gm<|C2 w24 hv12) (C2 w24 hv12) W)) (gv W (Js W) (fun w25=>(N1 (A2 w25) (A2 w25) W)) (gv W (Js W) (fun w26=>(SW<|A2 w26)) (N2 _ (oS x5.1 (75,g10)) W (Z8 W) (fun _=>W) (gv W (Z8 W) (fun _=>W) (bs hz5 fun _ hv13 hz5=>N2 _ (.aptr _ _ _ _) W (Z8 W) (fun w29=>(Tn (A2 w29) (A2 w29) G_hit (C2 w29 hv13))) ?_)))))
 refine N2 _ (.aptr _ _ _ _) W (Z8 W) (fun w30=>(by simp only [A2 w30];rfl)) ?_
 refine gv W (Z8 W) (fun w31=>(Sj (A2 w31) (Jz G_hit<|Gm<|C2 w31 hv13) (C2 w31 hv13) W)) (N2 _ (oS x5.1 (75,g10)) W (Z8 W) (fun _=>W) (gv W (Z8 W) (fun _=>W) (gv W (Z8 W) (vb W W W) (bs hz5 fun _ hv14 hz5=>N2 _ (.aptr _ _ _ _) W (Z8 W) (fun w35=>(Tn (A2 w35) (A2 w35) G_hit (C2 w35 hv14))) ?_))))
 refine N2 _ (.aptr _ _ _ _) W (Z8 W) (fun w36=>(by simp only [A2 w36];rfl)) ?_
 refine gv W (Z8 W) (fun w37=>(Sj (A2 w37) (Jz G_hit<|Gm<|C2 w37 hv14) (C2 w37 hv14) W)) (gv W (Z8 W) (fun w38=>(N1 (A2 w38) (A2 w38) W)) (gv W (Js W) (fun w39=>(KS (A2 w39) (fun hc=>A2<|IB w39 hc) W)) (gt W (fun w40=>(O2 (A2 w40) W (fun hc=>A2<|IB w40<|J7 hc)))<|sa W W W<|A1<|cc W hz5 (fun c6 hz5=> ?_)<|fun c6 hz5=> ?_)))
 refine A8<|A4<|A7<|F4 W<|B9 (oS x5.1 (75,g10)) W W (sv W<|B9 (oS x5.1 (75,g10)) W W (sv W<|sv W<|B9 (oS x5.1 (75,g10)) W W (sv W<|sv W<|bs hz5 fun v15 hv15 hz5=>B9 (.aptr _ _ _ _) W (Tn W W G_hit hv15) (sd W (Sx W (Jz G_hit<|Gm hv15) hv15 W W)<|B9 (oS x5.1 (75,g10)) W W (sv W<|bs hz5 fun v16 hv16 hz5=>B9 (.aptr _ _ _ _) W (Tn W W G_hit hv16) (sd W (Sx W (Jz G_hit<|Gm hv16) hv16 W W)<|bs hz5 fun _ hv17 hz5=>B9 (.aptr _ _ _ _) W (Tn W W G_hit hv17) ?_))))))
 rw [Aq (Gm hv17)]
 refine Sw T4 _ _ _ (x5.2) _ v15 (T4 v15) W W W (Jz G_hit<|Gm hv17) hv17 (nl W) W (bs hz5 fun _ hv18 hz5=>B9 (.aptr _ _ _ _) W (Mp W W G_hit hv18) (Sw T4 _ _ _ ((C5 (x5.2 - 1))) _ v16 (T4 v16) W W W G_hit hv18 (nl W) W (A1<|E2<|C0<|sv W<|sv W<|sv W<|A1<|E5 ?_)))
 cases hz5
 exact ⟨W,g10,(E1 ⟨(.of (Aq<|EG<|EG<|Gm hv17).symm), .of W, .of W,trivial⟩<|O6 G_hit trivial)⟩
 refine C6 W ?_
 cases hz5
 obtain rfl:=ez5 _ rfl
 refine ⟨nofun,C4 W<|Aj ?_⟩
 exact ⟨g10,(E1 (Ck W)<|B8 G_hit trivial)⟩
 rintro _ ⟨g9,q4⟩
 refine E2<|B4 q4<|C0<|sv W<|sv W<|sv W<|A1<|E5 ?_
 cases hz4
 exact ⟨W,g9,(E1 (Ck W)<|B8 G_hit trivial)⟩
 refine C6 W ?_
 cases hz4
 obtain rfl:=ez4 _ rfl
 refine ⟨nofun,C4 W<|Aj ?_⟩
 exact ⟨g8,(E1 ⟨.of W,trivial⟩<|B8 G_hit trivial)⟩
 rintro _ ⟨g7,q5⟩
 refine B4 q5<|A9<|B9 (oS y4 (75,g7)) W W (B9 (oS y4 (75,g7)) W W (A1<|B0 ?_))
 cases h
 exact A6 (.inr W) (B6 (B2 W)<|Y3 G_hit) Y2
def Ft (p2:Agent)(p3:Agent)(p4:Int)(v3:(List Pass))(x1:Int):Option (Stp Int (Sum Unit Bool)):=
  cond (decide (x1< (v3.length:Int))) ((B7 v3 x1).bind fun v4=>((cond (v4.Zone_==p4) (B7 v3 x1) (some default))).bind fun v5=>((cond ((v4.Zone_==p4)&& (decide ((C5 (p2.S - p2.Len))≤v5.To))) (B7 v3 x1) (some default))).bind fun v6=>cond (((v4.Zone_==p4)&& (decide ((C5 (p2.S - p2.Len))≤v5.To)))&& (decide (p3.S≥v6.From))) (some (.out (.inr true))) (some (.go (C5 (x1+1))))) (some (.out (.inl ())))
def Ih (p1:Map)(p2:Agent)(p3:Agent)(p4:Int):Option Bool:=
  (Pf p2).bind fun v1=>((cond (!(!v1)) (Pf p3) (some default))).bind fun v2=>cond ((!v1)||(!v2)) (some false) ((Hp p1 p2.Route).bind fun v3=>thenS (loop (Ft p2 p3 p4 v3) 0) (fun _=>some false) (fun r=>some r))
theorem Rs(p1 p2 p3 p4 r)(h:Ih p1 p2 p3 p4=some r):PCall Tryz.prog 83 [(.agg (U5 p1)),(.agg (C9 p2)),(.agg (C9 p3)),(i64 p4)] (bo r):=by
 refine C3 (fk Tryz.func83 Tryz.ntmps83 m0 (by with_unfolding_all rfl)) (nl W) ?_
 unfold Ih at h
 refine B4 (s0:=⟨T [(0,(.d _)),(1,(.d _)),(2,(.d _)),(3,(.d _))],G []⟩) (F3 W W) ?_
 refine lr<|fun u1 _=>sm W<|sm W<|sn W W<|sv W<|A1<|A4<|A9<|sd W (B3 W (gq W) W W)<|bs h fun v1 hv1 h=>B1 W W A3 (Yo _ _ hv1) (.inl W) (B9 (.d (bo (!v1))) W W (sv W<|gf W (fun _=>(B3 W G_hit W W))<|bs h fun v2 hv2 h=> ?_))
 refine O3 _ (bo v2) (K5 W) (fun w2=>⟨_,[(.d (.agg (C9 p3)))],_,_,(by simp only [A2 w2];rfl),W,A3,Yo _ _<|C2 w2 hv2,(.inl W)⟩) ?_
 refine N2 _ (.d (bo (!v2))) W (K5 W) (fun w3=>(by simp only [A2 w3];rfl)) ?_
 refine sd W (O2 W W<|fun hc=>A2<|J7 hc)<|A1<|cc W h (fun c1 h=> ?_)<|fun c1 h=> ?_
 refine A9<|sv W<|A1<|B0 ?_
 cases h
 exact A6 (.inr W) (B6 (B2 W) C1) (.refl _)
 refine A8<|A9<|sd W (B3 W (gq W) W W)<|sq W<|sl W (gq W) W (bs h fun v3 hv3 h=>B1 W W A3 (LP _ _ _ hv3) (.inl W) (sv W<|A1<|A4<|A9<|sv W<|A1<|js h fun z1 hz1 h=>E0 (fun s=> ∃(y1:Unit) (g1:Unit),z1= .inl y1∧Sb ⟨T [],G []⟩ s) ?_ ?_))
 refine A7<|E3 (Ft p2 p3 p4 v3) (fun (x1:Int) (g2:Unit)=>⟨T [(3,(di p4)),(5,(.ptr (5,u1) 0)),(6,(.ptr (6,u1) 0)),(9,(dl T4 v3)),(10,(di x1))],G [((5,u1),some<|.box 45 (X2 p2)),((6,u1),some<|.box 45 (X2 p3))]⟩) 0 () _ hz1 (F3 W W) ?_
 intro x1 g2 z2 hz2 ez2
 unfold Ft at hz2
 refine A4<|A9<|sv W<|sv W<|sd W (D7 W)<|sv W<|A1<|cc W hz2 (fun c2 hz2=> ?_)<|fun c2 hz2=> ?_
 refine A8<|A4<|A7<|A4<|F4 W<|sv W<|sv W<|bs hz2 fun _ hv4 hz2=>sd W (C8 W W hv4 W)<|sv W<|sd W (D6 W hv4 W)<|sv W<|sv W<|sv W<|gp W (M8 W) (fun _=>W) (gt W (vl W G_hit W)<|gp W (M8 W) (fun _=>W) (gt W (vl W G_hit W)<|gt W (fun w8=>(N1 (A2 w8) (A2 w8) W))<|gt W (fun _=>W)<|gt W (fun _=>W)<|bs hz2 fun _ hv5 hz2=>gt W (fun w11=>(C8 (A2 w11) (A2 w11) (C2 w11 hv5) W)) ?_))
 refine gt W (fun w12=>(by simp only [A2 w12];rfl)) ?_
 refine gt W (fun w13=>(D6 (A2 w13) (C2 w13 hv5) W))<|gt W (fun w14=>(N1 (A2 w14) (A2 w14) W))<|sa W W W<|sv W<|gp W (M8 W) (fun _=>W) (gt W (vl W (gq W) W)<|gt W (fun _=>W)<|gt W (fun _=>W)<|bs hz2 fun _ hv6 hz2=>gt W (fun w19=>(C8 (A2 w19) (A2 w19) (C2 w19 hv6) W)) ?_)
 refine gt W (fun w20=>(by simp only [A2 w20];rfl)) ?_
 refine gt W (fun w21=>(D6 (A2 w21) (C2 w21 hv6) W))<|gt W (fun w22=>(N1 (A2 w22) (A2 w22) W))<|sa W W W<|A1<|cc W hz2 (fun c3 hz2=> ?_)<|fun c3 hz2=> ?_
 refine A9<|sv W<|A1<|B0 ?_
 cases hz2
 obtain rfl:=ez2 _ rfl
 refine ⟨nofun,F2 ?_⟩
 rw [bT]at h
 cases h
 exact A6 (.inr W) (B6 (B2 W) C1) (.refl _)
 refine A8<|E2<|C0<|sv W<|sv W<|sv W<|A1<|E5 ?_
 cases hz2
 exact ⟨W,(),(F3 W W)⟩
 refine C6 W ?_
 cases hz2
 obtain rfl:=ez2 _ rfl
 refine ⟨nofun,C4 W<|Aj ?_⟩
 exact ⟨_,(),W,(F3 W W)⟩
 rintro _ ⟨y1,g1,rfl,q1⟩
 rw [bS]at h
 refine B4 q1<|A9<|sv W<|A1<|B0 ?_
 cases h
 exact A6 (.inr W) (B6 (B2 W) C1) (.refl _)
def Ii (p1:Zone)(p2:Int)(x1:Int):Option (Stp Int (Sum Unit (Part×Bool))):=
  cond (decide (x1< (p1.Parts.length:Int))) ((B7 p1.Parts x1).bind fun v1=>cond (v1.Lane_==p2) ((B7 p1.Parts x1).bind fun v2=>some (.out (.inr (v2,true)))) (some (.go (C5 (x1+1))))) (some (.out (.inl ())))
def AQ (p1:Zone)(p2:Int):Option (Part×Bool):=
  thenS (loop (Ii p1 p2) 0) (fun _=>some ((Part.mk 0 0 0 0),false)) (fun r=>some r)
theorem PZ(p1 p2 r)(h:AQ p1 p2=some r):PCall Tryz.prog 103 [(.agg [(.list (List.map Dp p1.Parts)),(i64 p1.Signal_)]),(i64 p2)] (.tup [(.agg (Dp r.1)),(bo r.2)]):=by
 refine C3 (fk Tryz.func103 Tryz.ntmps103 m0 (by with_unfolding_all rfl)) (nl W) ?_
 unfold AQ at h
 refine B4 (s0:=⟨T [(0,(.d _)),(1,(.d _))],G []⟩) (F3 W W) ?_
 refine lr<|fun u1 _=>sm W<|sm W<|sv W<|A1<|A4<|A9<|sv W<|A1<|js h fun z1 hz1 h=>E0 (fun s=> ∃(y1:Unit) (g1:Unit),z1= .inl y1∧Sb ⟨T [(4,(.ptr (4,u1) 0))],G [((4,u1),some<|.box 114 (zs 4))]⟩ s) ?_ ?_
 refine A7<|E3 (Ii p1 p2) (fun (x1:Int) (g2:Unit)=>⟨T [(1,(di p2)),(2,(.ptr (2,u1) 0)),(4,(.ptr (4,u1) 0)),(6,(di x1))],G [((2,u1),some<|.box 117 [(dl Dp p1.Parts),(di p1.Signal_)]),((4,u1),some<|.box 114 (zs 4))]⟩) 0 () _ hz1 (F3 W W) ?_
 intro x1 g2 z2 hz2 ez2
 unfold Ii at hz2
 refine A4<|A9<|sv W<|sq W<|sl W G_hit W<|sd W (D7 W)<|sv W<|A1<|cc W hz2 (fun c1 hz2=> ?_)<|fun c1 hz2=> ?_
 refine A8<|A4<|A7<|A9<|sq W<|sl W G_hit W<|sv W<|bs hz2 fun _ hv1 hz2=>sd W (C8 W W hv1 W)<|sv W<|sd W (D6 W hv1 W)<|sv W<|sv W<|A1<|cc W hz2 (fun c2 hz2=> ?_)<|fun c2 hz2=> ?_
 refine A9<|sq W<|sl W G_hit W<|sv W<|bs hz2 fun v2 hv2 hz2=>sd W (C8 W W hv2 W)<|sd W (D2 W hv2 W W)<|Bc W (gq W) (FA v2) W (sv W<|A1<|B0 ?_)
 cases hz2
 obtain rfl:=ez2 _ rfl
 refine ⟨nofun,F2 ?_⟩
 rw [bT]at h
 cases h
 exact A6 (.inr W) (Po (L4 W G_hit (nl W) W) (B2 W) C1 C1) (.refl _)
 refine A8<|E2<|C0<|sv W<|sv W<|sv W<|A1<|E5 ?_
 cases hz2
 exact ⟨W,(),(F3 W W)⟩
 refine C6 W ?_
 cases hz2
 obtain rfl:=ez2 _ rfl
 refine ⟨nofun,C4 W<|Aj ?_⟩
 exact ⟨_,(),W,(F3 W W)⟩
 rintro _ ⟨y1,g1,rfl,q1⟩
 rw [bS]at h
 refine B4 q1<|A9<|sv W<|Bc W G_hit (zs 4) W (sv W<|A1<|B0 ?_)
 cases h
 exact A6 (.inr W) (Po (L4 W G_hit (nl W) W) (B2 W) C1 C1) (.refl _)
def Nd (p1:Map)(p2:(List Int))(p3:Int)(x1:Int):Option (Stp Int (Sum Unit Int)):=
  cond (decide (x1< (p2.length:Int))) ((B7 p1.Zones p3).bind fun v2=>(B7 p2 x1).bind fun v3=>(AQ v2 v3).bind fun v4=>cond v4.2 (some (.out (.inr x1))) (some (.go (C5 (x1+1))))) (some (.out (.inl ())))
def Nf (p1:Map)(p2:(List Int))(p3:Int):Option Int:=
  (Ce p1 p2).bind fun v1=>cond (((v1 !=0)||(decide (p3<0)))||(decide (p3≥(p1.Zones.length:Int)))) (some (-1)) (thenS (loop (Nd p1 p2 p3) 0) (fun _=>some (-1)) (fun r=>some r))
theorem Wh(p1 p2 p3 r)(h:Nf p1 p2 p3=some r):PCall Tryz.prog 44 [(.agg (U5 p1)),(.list (List.map A5 p2)),(i64 p3)] (i64 r):=by
 refine C3 (fk Tryz.func44 Tryz.ntmps44 m0 (by with_unfolding_all rfl)) (nl W) ?_
 unfold Nf at h
 refine B4 (s0:=⟨T [(0,(.d _)),(1,(.d _)),(2,(.d _))],G []⟩) (F3 W W) ?_
 refine lr<|fun u1 _=>sm W<|sv W<|A1<|A4<|A9<|sd W (B3 W G_hit W W)<|sv W<|bs h fun _ hv1 h=>B1 W W A3 (Iu _ _ _ hv1) (.inl W) (sv W<|sv W<|gf W (fun _=>W)<|gf W (vb W W W)<|sd W (O2 W W<|fun hc=>A2<|J7 hc)<|sv W<|gf W (fun _=>W)<|gp W (K5 W) (fun _=>W) (gf W (vl W G_hit W)<|gf W (fun w6=>(D7<|A2 w6))<|gf W (fun w7=>(N1 (A2 w7) (A2 w7) W))<|sd W (O2 W W<|fun hc=>A2<|J7 hc)<|A1<|cc W h (fun c1 h=> ?_)<|fun c1 h=> ?_))
 refine A9<|sv W<|A1<|B0 ?_
 cases h
 exact A6 (.inr W) (B6 (B2 W) C1) (.refl _)
 refine A8<|A4<|A9<|sv W<|A1<|js h fun z1 hz1 h=>E0 (fun s=> ∃(y1:Unit) (g1:Unit),z1= .inl y1∧Sb ⟨T [],G []⟩ s) ?_ ?_
 refine A7<|E3 (Nd p1 p2 p3) (fun (x1:Int) (g2:Unit)=>⟨T [(1,(dl A5 p2)),(2,(di p3)),(3,(.ptr (3,u1) 0)),(7,(di x1))],G [((3,u1),some<|.box 33 (M7 p1))]⟩) 0 () _ hz1 (F3 W W) ?_
 intro x1 g2 z2 hz2 ez2
 unfold Nd at hz2
 refine A4<|A9<|sv W<|sv W<|sd W (D7 W)<|sv W<|A1<|cc W hz2 (fun c2 hz2=> ?_)<|fun c2 hz2=> ?_
 refine A8<|A4<|A7<|A4<|F4 W<|sq W<|sl W G_hit W<|sv W<|bs hz2 fun _ hv2 hz2=>sd W (C8 W W hv2 W)<|sd W (D2 W hv2 W W)<|sv W<|sv W<|bs hz2 fun _ hv3 hz2=>sd W (C8 W W hv3 W)<|sd W (D6 W hv3 W)<|bs hz2 fun v4 hv4 hz2=>B1 W W A3 (PZ _ _ _ hv4) (.inl W) (sv W<|sv W<|sv W<|sm W<|Bc W G_hit (FA v4.1) W (sv W<|A1<|A9<|sv W<|A1<|cc W hz2 (fun c3 hz2=> ?_)<|fun c3 hz2=> ?_))
 refine A9<|sv W<|sv W<|A1<|B0 ?_
 cases hz2
 obtain rfl:=ez2 _ rfl
 refine ⟨nofun,F2 ?_⟩
 rw [bT]at h
 cases h
 exact A6 (.inr W) (B6 (B2 W) C1) (.refl _)
 refine A8<|E2<|C0<|sv W<|sv W<|sv W<|A1<|E5 ?_
 cases hz2
 exact ⟨W,(),(F3 W W)⟩
 refine C6 W ?_
 cases hz2
 obtain rfl:=ez2 _ rfl
 refine ⟨nofun,C4 W<|Aj ?_⟩
 exact ⟨_,(),W,(F3 W W)⟩
 rintro _ ⟨y1,g1,rfl,q1⟩
 rw [bS]at h
 refine B4 q1<|A9<|sv W<|A1<|B0 ?_
 cases h
 exact A6 (.inr W) (B6 (B2 W) C1) (.refl _)
def Rt (p1:Map)(p2:Int):Option Bool:=
  ((cond ((decide (p2≥0))&& (decide (p2< (p1.Lanes.length:Int)))) (Nb p1) (some default))).bind fun v1=>some (((decide (p2≥0))&& (decide (p2< (p1.Lanes.length:Int))))&& (v1==0))
theorem FJ(p1 p2 r)(h:Rt p1 p2=some r):PCall Tryz.prog 98 [(.agg (U5 p1)),(i64 p2)] (bo r):=by
 refine C3 (fk Tryz.func98 Tryz.ntmps98 m0 (by with_unfolding_all rfl)) (nl W) ?_
 unfold Rt at h
 refine B4 (s0:=⟨T [(0,(.d _)),(1,(.d _))],G []⟩) (F3 W W) ?_
 refine A9<|sm W<|sv W<|A1<|A9<|sv W<|sv W<|sv W<|gt W (fun _=>W)<|gp W (M8 W) (fun _=>W) (gt W (vl W G_hit W)<|gt W (fun w4=>(D7<|A2 w4))<|gt W (fun w5=>(N1 (A2 w5) (A2 w5) W))<|sa W W W<|sv W<|gt W (fun _=>(B3 W G_hit W W))<|bs h fun v1 hv1 h=> ?_)
 refine O3 _ (i64 v1) (M8 W) (fun w7=>⟨_,[(.d (.agg (U5 p1)))],_,_,(by simp only [A2 w7];rfl),W,A3,Wd _ _<|C2 w7 hv1,(.inl W)⟩) ?_
 refine gt W (vb W W W)<|sa W W W<|sv W<|A1<|B0 ?_
 cases h
 exact A6 (.inr W) (B6 (B2 W) C1) (.refl _)
def Cw (p1:Signal)(p2:Int)(x2:(Int×Int)):Option (Stp (Int×Int) (Sum Unit Bool)):=
  cond (decide (x2.2< (p1.Phases.length:Int))) ((B7 p1.Phases x2.2).bind fun v5=>cond (decide (x2.1<v5.Ticks)) ((B7 p1.Phases x2.2).bind fun v6=>(Rr v6.Green p2).bind fun v7=>some (.out (.inr v7))) ((B7 p1.Phases x2.2).bind fun v8=>some (.go ((C5 (x2.1 - v8.Ticks)),(C5 (x2.2+1)))))) (some (.out (.inl ())))
def Ef (p1:Signal)(x1:(Int×Int)):Option (Stp (Int×Int) Int):=
  cond (decide (x1.2< (p1.Phases.length:Int))) ((B7 p1.Phases x1.2).bind fun v1=>some (.go ((C5 (x1.1+v1.Ticks)),(C5 (x1.2+1))))) (some (.out x1.1))
def Tg (p1:Signal)(p2:Int)(p3:Int):Option Bool:=
  (loop (Ef p1) (0,0)).bind fun y1=>(ER p1.Offset y1).bind fun v2=>(ER p3 y1).bind fun v3=>(ER (C5 (v2+v3)) y1).bind fun v4=>thenS (loop (Cw p1 p2) (v4,0)) (fun _=>some false) (fun r=>some r)
theorem OJ(p1 p2 p3 r)(h:Tg p1 p2 p3=some r):PCall Tryz.prog 187 [(.agg [(i64 p1.Offset),(.list (List.map Dg p1.Phases))]),(i64 p2),(i64 p3)] (bo r):=by
 refine C3 (fk Tryz.func187 Tryz.ntmps187 m0 (by with_unfolding_all rfl)) (nl W) ?_
 unfold Tg at h
 refine B4 (s0:=⟨T [(0,(.d _)),(1,(.d _)),(2,(.d _))],G []⟩) (F3 W W) ?_
 refine lr<|fun u1 _=>sm W<|sv W<|A1<|A9<|sv W<|A1<|A4<|A9<|sv W<|A1<|bs h fun y1 hy1 h=>E0 (fun s=> ∃g1:Unit,Sb ⟨T [(1,(di p2)),(2,(di p3)),(3,(.ptr (3,u1) 0)),(7,(di y1))],G [((3,u1),some<|.box 120 [(di p1.Offset),(dl Dg p1.Phases)])]⟩ s) ?_ ?_
 refine A7<|E3 (Ef p1) (fun (x1:(Int×Int)) (g2:Unit)=>⟨T [(1,(di p2)),(2,(di p3)),(3,(.ptr (3,u1) 0)),(7,(di x1.1)),(8,(di x1.2))],G [((3,u1),some<|.box 120 [(di p1.Offset),(dl Dg p1.Phases)])]⟩) (0,0) () _ hy1 (F3 W W) ?_
 intro x1 g2 z1 hz1 ez1
 unfold Ef at hz1
 refine A4<|A9<|sv W<|sq W<|sl W G_hit W<|sd W (D7 W)<|sv W<|A1<|cc W hz1 (fun c1 hz1=> ?_)<|fun c1 hz1=> ?_
 refine A8<|A4<|A7<|C0<|sv W<|sq W<|sl W G_hit W<|sv W<|bs hz1 fun _ hv1 hz1=>sd W (C8 W W hv1 W)<|sv W<|sd W (D6 W hv1 W)<|sv W<|sv W<|A1<|E2<|C0<|sv W<|sv W<|sv W<|A1<|E5 ?_
 cases hz1
 exact ⟨W,(),(F3 W W)⟩
 refine C6 W ?_
 cases hz1
 obtain rfl:=ez1 _ rfl
 refine ⟨nofun,C4 W<|Aj ?_⟩
 exact ⟨(),(F3 W W)⟩
 rintro _ ⟨g1,q1⟩
 refine B4 q1<|A4<|F4 W<|sq W<|sl W G_hit W<|sv W<|bs h fun _ hv2 h=>sd W (NP W W hv2)<|sv W<|sv W<|bs h fun _ hv3 h=>sd W (NP W W hv3)<|sv W<|sv W<|bs h fun v4 hv4 h=>sd W (NP W W hv4)<|sv W<|A1<|A4<|A9<|sv W<|A1<|js h fun z2 hz2 h=>E0 (fun s=> ∃(y2:Unit) (g3:Unit),z2= .inl y2∧Sb ⟨T [],G []⟩ s) ?_ ?_
 refine A7<|E3 (Cw p1 p2) (fun (x2:(Int×Int)) (g4:Unit)=>⟨T [(1,(di p2)),(3,(.ptr (3,u1) 0)),(9,(di x2.1)),(10,(di x2.2))],G [((3,u1),some<|.box 120 [(di p1.Offset),(dl Dg p1.Phases)])]⟩) (v4,0) () _ hz2 (F3 W W) ?_
 intro x2 g4 z3 hz3 ez3
 unfold Cw at hz3
 refine A4<|A9<|sv W<|sq W<|sl W G_hit W<|sd W (D7 W)<|sv W<|A1<|cc W hz3 (fun c2 hz3=> ?_)<|fun c2 hz3=> ?_
 refine A8<|A4<|A7<|A4<|A9<|sv W<|sq W<|sl W G_hit W<|sv W<|bs hz3 fun _ hv5 hz3=>sd W (C8 W W hv5 W)<|sv W<|sd W (D6 W hv5 W)<|sv W<|A1<|cc W hz3 (fun c3 hz3=> ?_)<|fun c3 hz3=> ?_
 refine A9<|sq W<|sl W G_hit W<|sv W<|bs hz3 fun _ hv6 hz3=>sd W (C8 W W hv6 W)<|sv W<|sd W (D6 W hv6 W)<|sv W<|bs hz3 fun _ hv7 hz3=>B1 W W A3 (AP _ _ _ hv7) (.inl W) (sv W<|A1<|B0 ?_)
 cases hz3
 obtain rfl:=ez3 _ rfl
 refine ⟨nofun,F2 ?_⟩
 rw [bT]at h
 cases h
 exact A6 (.inr W) (B6 (B2 W) C1) (.refl _)
 refine A8<|C0<|sv W<|sq W<|sl W G_hit W<|sv W<|bs hz3 fun _ hv8 hz3=>sd W (C8 W W hv8 W)<|sv W<|sd W (D6 W hv8 W)<|sv W<|sv W<|A1<|E2<|C0<|sv W<|sv W<|sv W<|A1<|E5 ?_
 cases hz3
 exact ⟨W,(),(F3 W W)⟩
 refine C6 W ?_
 cases hz3
 obtain rfl:=ez3 _ rfl
 refine ⟨nofun,C4 W<|Aj ?_⟩
 exact ⟨_,(),W,(F3 W W)⟩
 rintro _ ⟨y2,g3,rfl,q2⟩
 rw [bS]at h
 refine B4 q2<|A9<|sv W<|A1<|B0 ?_
 cases h
 exact A6 (.inr W) (B6 (B2 W) C1) (.refl _)
def Th (p1:Map)(p2:Int)(p3:Int)(p4:Int):Option Bool:=
  (Rt p1 p3).bind fun v1=>((cond (((v1&& (decide (p2≥0)))&& (decide (p2< (p1.Signals.length:Int))))&& (decide (p4≥0))) (B7 p1.Signals p2) (some default))).bind fun v2=>((cond (((v1&& (decide (p2≥0)))&& (decide (p2< (p1.Signals.length:Int))))&& (decide (p4≥0))) (Tg v2 p3 p4) (some default))).bind fun v3=>some ((((v1&& (decide (p2≥0)))&& (decide (p2< (p1.Signals.length:Int))))&& (decide (p4≥0)))&&v3)
theorem OK(p1 p2 p3 p4 r)(h:Th p1 p2 p3 p4=some r):PCall Tryz.prog 177 [(.agg (U5 p1)),(i64 p2),(i64 p3),(i64 p4)] (bo r):=by
 refine C3 (fk Tryz.func177 Tryz.ntmps177 m0 (by with_unfolding_all rfl)) (nl W) ?_
 unfold Th at h
 refine B4 (s0:=⟨T [(0,(.d _)),(1,(.d _)),(2,(.d _)),(3,(.d _))],G []⟩) (F3 W W) ?_
 refine A9<|sm W<|sv W<|A1<|A9<|sd W (B3 W G_hit W W)<|sv W<|bs h fun _ hv1 h=>B1 W W A3 (FJ _ _ _ hv1) (.inl W) (sv W<|gt W (fun _=>W)<|gt W (vb W W W)<|sa W W W<|sv W<|gt W (fun _=>W)<|gp W (M8 W) (fun _=>W) (gt W (vl W G_hit W)<|gt W (fun w6=>(D7<|A2 w6))<|gt W (fun w7=>(N1 (A2 w7) (A2 w7) W))<|sa W W W<|sv W<|gt W (fun _=>W)<|gt W (vb W W W)<|sa W W W<|sv W<|gp W (M8 W) (fun _=>W) (gt W (vl W G_hit W)<|gt W (fun _=>W)<|bs h fun v2 hv2 h=>gt W (fun w13=>(C8 (A2 w13) (A2 w13) (C2 w13 hv2) W))<|gt W (fun w14=>(D2 (A2 w14) (C2 w14 hv2) W W))<|gt W (fun _=>W)<|gt W (fun _=>W)<|bs h fun v3 hv3 h=> ?_)))
 refine O3 _ (bo v3) (M8 W) (fun w17=>⟨_,[(.d (.agg [(i64 v2.Offset),(.list (List.map Dg v2.Phases))])),(di p3),(di p4)],_,_,(by simp only [A2 w17];rfl),W,A3,OJ _ _ _ _<|C2 w17 hv3,(.inl W)⟩) ?_
 refine sa W W W<|sv W<|A1<|B0 ?_
 cases h
 exact A6 (.inr W) (B6 (B2 W) C1) (.refl _)
def Ij (p2:Agent)(v1:Int)(v2:Zone)(x1:Int):Option (Stp Int (Sum Unit Int)):=
  cond (decide (x1< (v2.Parts.length:Int))) ((B7 v2.Parts x1).bind fun v5=>(B7 p2.Route v1).bind fun v6=>cond (v5.Lane_==v6) ((B7 v2.Parts x1).bind fun v7=>some (.out (.inr v7.Rank))) (some (.go (C5 (x1+1))))) (some (.out (.inl ())))
def Wi (p1:Map)(p2:Agent)(p3:Int)(p4:Int):Option Int:=
  (Nf p1 p2.Route p3).bind fun v1=>cond (decide (v1<0)) (some 0) ((B7 p1.Zones p3).bind fun v2=>cond (decide (v2.Signal_>0)) ((B7 p2.Route v1).bind fun v3=>(Th p1 (C5 (v2.Signal_ - 1)) v3 p4).bind fun v4=>cond v4 (some 2) (some 0)) (thenS (loop (Ij p2 v1 v2) 0) (fun _=>some 0) (fun r=>some r)))
theorem QA(p1 p2 p3 p4 r)(h:Wi p1 p2 p3 p4=some r):PCall Tryz.prog 84 [(.agg (U5 p1)),(.agg (C9 p2)),(i64 p3),(i64 p4)] (i64 r):=by
 refine C3 (fk Tryz.func84 Tryz.ntmps84 m0 (by with_unfolding_all rfl)) (nl W) ?_
 unfold Wi at h
 refine B4 (s0:=⟨T [(0,(.d _)),(1,(.d _)),(2,(.d _)),(3,(.d _))],G []⟩) (F3 W W) ?_
 refine lr<|fun u1 _=>sm W<|sm W<|sv W<|A1<|A9<|sd W (B3 W (gq W) W W)<|sq W<|sl W G_hit W<|sv W<|bs h fun v1 hv1 h=>B1 W W A3 (Wh _ _ _ _ hv1) (.inl W) (sv W<|A1<|A4<|A9<|sv W<|sv W<|A1<|cc W h (fun c1 h=> ?_)<|fun c1 h=> ?_)
 refine A9<|sv W<|A1<|B0 ?_
 cases h
 exact A6 (.inr W) (B6 (B2 W) C1) (.refl _)
 refine A8<|lr<|fun u5 _=>sq W<|sl W (gq W) W (sv W<|bs h fun v2 hv2 h=>sd W (C8 W W hv2 W)<|sd W (D2 W hv2 W W)<|sm W<|Bc W G_hit [(dl Dp v2.Parts),(di v2.Signal_)] W (A1<|A4<|A9<|sq W<|sl W G_hit W<|sv W<|A1<|cc W h (fun c2 h=> ?_)<|fun c2 h=> ?_))
 refine A4<|A4<|F4 W<|sd W (B3 W (gq W) W W)<|sq W<|sl W G_hit W<|sv W<|sq W<|sl W (gq W) W (sv W<|bs h fun _ hv3 h=>sd W (C8 W W hv3 W)<|sd W (D6 W hv3 W)<|sv W<|bs h fun _ hv4 h=>B1 W W A3 (OK _ _ _ _ _ hv4) (.inl W) (A1<|cc W h (fun c3 h=> ?_)<|fun c3 h=> ?_))
 refine A9<|sv W<|A1<|B0 ?_
 cases h
 exact A6 (.inr W) (B6 (B2 W) C1) (.refl _)
 refine A8<|A9<|sv W<|A1<|B0 ?_
 cases h
 exact A6 (.inr W) (B6 (B2 W) C1) (.refl _)
 refine A8<|A4<|A9<|sv W<|A1<|js h fun z1 hz1 h=>E0 (fun s=> ∃(y1:Unit) (g1:Unit),z1= .inl y1∧Sb ⟨T [],G []⟩ s) ?_ ?_
 refine A7<|E3 (Ij p2 v1 v2) (fun (x1:Int) (g2:Unit)=>⟨T [(5,(.ptr (5,u1) 0)),(9,(di v1)),(10,(.ptr (10,u5) 0)),(11,(di x1))],G [((5,u1),some<|.box 45 (X2 p2)),((10,u5),some<|.box 117 [(dl Dp v2.Parts),(di v2.Signal_)])]⟩) 0 () _ hz1 (F3 W W) ?_
 intro x1 g2 z2 hz2 ez2
 unfold Ij at hz2
 refine A4<|A9<|sv W<|sq W<|sl W (gq W) W (sd W (D7 W)<|sv W<|A1<|cc W hz2 (fun c4 hz2=> ?_)<|fun c4 hz2=> ?_)
 refine A8<|A4<|A7<|A4<|F4 W<|sq W<|sl W (gq W) W (sv W<|bs hz2 fun _ hv5 hz2=>sd W (C8 W W hv5 W)<|sv W<|sd W (D6 W hv5 W)<|sq W<|sl W G_hit W<|sv W<|bs hz2 fun _ hv6 hz2=>sd W (C8 W W hv6 W)<|sd W (D6 W hv6 W)<|sv W<|A1<|cc W hz2 (fun c5 hz2=> ?_)<|fun c5 hz2=> ?_)
 refine A9<|sq W<|sl W (gq W) W (sv W<|bs hz2 fun _ hv7 hz2=>sd W (C8 W W hv7 W)<|sv W<|sd W (D6 W hv7 W)<|sv W<|A1<|B0 ?_)
 cases hz2
 obtain rfl:=ez2 _ rfl
 refine ⟨nofun,F2 ?_⟩
 rw [bT]at h
 cases h
 exact A6 (.inr W) (B6 (B2 W) C1) (.refl _)
 refine A8<|E2<|C0<|sv W<|sv W<|sv W<|A1<|E5 ?_
 cases hz2
 exact ⟨W,(),(F3 W W)⟩
 refine C6 W ?_
 cases hz2
 obtain rfl:=ez2 _ rfl
 refine ⟨nofun,C4 W<|Aj ?_⟩
 exact ⟨_,(),W,(F3 W W)⟩
 rintro _ ⟨y1,g1,rfl,q1⟩
 rw [bS]at h
 refine B4 q1<|A9<|sv W<|A1<|B0 ?_
 cases h
 exact A6 (.inr W) (B6 (B2 W) C1) (.refl _)
def Ru (p1:State)(x1:(Int×State)):Option (Stp (Int×State) State):=
  cond (decide (x1.1< (p1.Agents.length:Int))) ((B7 p1.Agents x1.1).bind fun v2=>(Bo ([]:List Int) v2.Route).bind fun v3=>(Bo x1.2.Agents [(Agent.mk v3 v2.S v2.V v2.Len v2.Begin v2.Obey v2.Gone)]).bind fun v4=>some (.go ((C5 (x1.1+1)),(State.mk x1.2.Tick v4 x1.2.In)))) (some (.out x1.2))
def Sl (p1:State):Option State:=
  (Bo ([]:List Stay) p1.In).bind fun v1=>(loop (Ru p1) (0,(State.mk p1.Tick [] v1))).bind fun y1=>some y1
theorem JY(p1 r)(h:Sl p1=some r):MCall Tryz.prog 23 [(.d (.agg (Cf p1)))] [] (Bg [(di r.Tick),(oS r.Agents (800000,0)),(oS r.In (800001,0))]) [] [oB 45 7 C9 r.Agents,oB 127 4 J8 r.In]:=by
 refine TA (fk Tryz.func23 Tryz.ntmps23 (fun r=>if r==7 then [1003]else []) (by with_unfolding_all rfl)) (by generalize r.Agents=x1;generalize r.In=x2;cases x1<;>cases x2<;>rfl) (nl W) ?_
 unfold Sl at h
 refine B4 (s0:=⟨T [(0,(.d _))],G []⟩) (F3 W W) ?_
 refine lr<|fun u1 _=>sm W<|sm W<|A1<|A4<|AA fun u2 hu2=>X1 (.ptr _ _) W W (X1 (.d _) W (T6 W (gq W) W) (X1 (.ptr _ _) W W (X1 (.d _) W (T6 W (gq W) W) (bs h fun v1 hv1 h=>cX J8 p1.In _ (N3<|fun _=>W) W hv1 (GA hu2) ?_))))
 refine X1 (Bg [(di p1.Tick),(.d .nilS),(oS v1 (10,u2))]) W (by generalize v1=x1;cases x1<;>rfl) ?_
 refine NR (.ptr _ _) (.box _ _) W W (AB _ _ _ _ _ (Bb _) W W G_hit (nl W) [(di p1.Tick),(.d .nilS),(oS v1 (10,u2))] W (NQ<|qN (fun q=>⟨⟨by first|rfl|((generalize v1=l0;cases l0)<;>rfl),q⟩,⟨by first|rfl|((generalize v1=l0;cases l0)<;>rfl),q⟩⟩) ?_))
 refine A4<|A9<|sv W<|A1<|bs h fun y1 hy1 h=>E0 (fun s=> ∃g1:(Nat×Nat),Sb ⟨T [(2,(.ptr (2,u1) 0)),(3,(.ptr (3,u2) 0))],G [((2,u1),some<|.box 25 [(di 0),(.d .nilS),(.d .nilS)]),((3,u2),some<|.box 25 [(di y1.Tick),(oS y1.Agents (32,g1.1)),(oS y1.In (10,g1.2))]),((32,g1.1),oB 45 7 C9 y1.Agents),((10,g1.2),oB 127 4 J8 y1.In)]⟩ s) ?_ ?_
 refine A7<|E3 (Ru p1) (fun (x1:(Int×State)) (g2:(Nat×Nat))=>⟨T [(1,(.ptr (1,u1) 0)),(2,(.ptr (2,u1) 0)),(3,(.ptr (3,u2) 0)),(4,(di x1.1))],G [((1,u1),some<|.box 25 (L0 p1)),((2,u1),some<|.box 25 [(di 0),(.d .nilS),(.d .nilS)]),((3,u2),some<|.box 25 [(di x1.2.Tick),(oS x1.2.Agents (32,g2.1)),(oS x1.2.In (10,g2.2))]),((32,g2.1),oB 45 7 C9 x1.2.Agents),((10,g2.2),oB 127 4 J8 x1.2.In)]⟩) (0,(State.mk p1.Tick [] v1)) (0,u2) _ hy1 (E1 (Ck W)<|sg W<|sg W<|B5 G_hit (.of W)<|X0<|B8 (gq W) trivial) ?_
 intro x1 g2 z1 hz1 ez1
 unfold Ru at hz1
 refine A4<|A9<|sv W<|sq W<|sl W G_hit W<|sd W (D7 W)<|sv W<|A1<|cc W hz1 (fun c1 hz1=> ?_)<|fun c1 hz1=> ?_
 refine A8<|A4<|A7<|lr<|fun u5 _=>sq W<|sl W G_hit W<|sv W<|bs hz1 fun v2 hv2 hz1=>sd W (C8 W W hv2 W)<|sd W (D2 W hv2 W W)<|sm W<|Bc W G_hit (X2 v2) W (A1<|lr<|fun u6 hu6=>sq W<|sl W G_hit W<|bs hz1 fun v3 hv3 hz1=>cW A5 (26,u6) ([]:List Int) v2.Route _ (N3<|fun _=>W) W (GA hu6) hv3 (GA hu6) (sq W<|Me _ _ _ _ _ (cV _ _) W W (gq W) (nl W) ((X2 v2).set 0 (oS v3 (26,u6))) W (A1<|qM [(26,u6)] [(1,(.ptr (1,u1) 0)),(2,(.ptr (2,u1) 0)),(3,(.ptr (3,u2) 0)),(4,(di x1.1)),(5,(.ptr (5,u5) 0)),(12,(di x1.1)),(13,(.ptr (1,u1) 1)),(14,(dl C9 p1.Agents)),(15,(di (p1.Agents.length:Int))),(16,(.d (bo<|decide (x1.1< (p1.Agents.length:Int))))),(19,(.ptr (1,u1) 1)),(20,(dl C9 p1.Agents)),(21,(di x1.1)),(22,(.d (.lp (List.map C9 p1.Agents) (x1.1).toNat 0))),(23,(.d (.agg (C9 v2)))),(24,(.ptr (5,u5) 0)),(25,(dl A5 v2.Route)),(26,(dl A5 v3)),(27,(.ptr (5,u5) 0))] [((5,u5),some<|.box 45 ((X2 v2).set 0 (dl A5 v3))),((1,u1),some<|.box 25 (L0 p1)),((2,u1),some<|.box 25 [(di 0),(.d .nilS),(.d .nilS)]),((3,u2),some<|.box 25 [(di x1.2.Tick),(oS x1.2.Agents (32,g2.1)),(oS x1.2.In (10,g2.2))]),((32,g2.1),oB 45 7 C9 x1.2.Agents),((10,g2.2),oB 127 4 J8 x1.2.In)] ⟨Gr W,Gr W,Gr W,Gr W,Gr W,Gr W,Gr W,Gr W,Gr W,Gr W,Gr W,Gr W,Gr W,Gr W,Gr W,Gr W,Gr W,(mP (Y3<|VF (.head _)<|gq W) Y2),Gr W,trivial⟩ (aI G_hit (Oy (Qd W) AG) (.cons (mP (Y3<|VF (.head _)<|gq W) Y2) (.cons (Gr W) (.cons (Gr W) (.cons (Gr W) (.cons (Gr W) (.cons (Gr W) (.cons (Gr W) .nil))))))) (NY (gq W) (Oy (Qd W) AG) (NY (gq W) (Oy (Qd W) AG) (NY (gq W) (Oy (Qd W) AG) (iC (gq W) (Oy (Qd W) AG) (iC (gq W) (Oy (Qd W) AG) trivial)))))) (Eh fun u7 _=>sq W<|B9 (oS x1.2.Agents (32,g2.1)) W (T6 W (gq W) W) (sd W (B3 W G_hit W W)<|B9 (dl C9 [(Agent.mk v3 v2.S v2.V v2.Len v2.Begin v2.Obey v2.Gone)]) W W (bs hz1 fun _ hv4 hz1=>V3 C9 (32,g2.1) x1.2.Agents (Agent.mk v3 v2.S v2.V v2.Len v2.Begin v2.Obey v2.Gone) [] _ (N3<|fun _=>W) W (gq W) hv4 (sq W<|Bc W (gq W) [(di x1.2.Tick),(.sl (32,u7)),(oS x1.2.In (10,g2.2))] W (A1<|E2<|C0<|sv W<|sv W<|sv W<|A1<|E5 ?_))))))))
 cases hz1
 exact ⟨W,(u7,g2.2),(E1 (Ck W)<|sg W<|sg W<|B5 G_hit (.box (cv<|.cons (.of (Aq<|Ba hv4).symm) cw))<|O6 (gq W)<|B8 (gq W) trivial)⟩
 refine C6 W ?_
 cases hz1
 obtain rfl:=ez1 _ rfl
 refine ⟨nofun,C4 W<|Aj ?_⟩
 exact ⟨(g2.1,g2.2),(E1 (Ck W)<|sg W<|sg W<|B8 (gq W)<|B8 (gq W) trivial)⟩
 rintro _ ⟨g1,q1⟩
 refine B4 q1<|A9<|B9 (Bg [(di y1.Tick),(oS y1.Agents (32,g1.1)),(oS y1.In (10,g1.2))]) W (B3 W (gq W) W W) (Me _ _ _ _ _ (Bb _) W W G_hit (nl W) [(di y1.Tick),(oS y1.Agents (32,g1.1)),(oS y1.In (10,g1.2))] W (A1<|B0 ?_))
 obtain rfl:=(lD h)
 exact hO (v1:=(Bg [(di y1.Tick),(oS y1.Agents (32,g1.1)),(oS y1.In (10,g1.2))])) (.inr W) (VC<|L4 W G_hit (Nat.le_of_ble_eq_true W) W) (.of W) [((32,g1.1),oB 45 7 C9 y1.Agents),((10,g1.2),oB 127 4 J8 y1.In)] (B8 (gq W)<|B8 (gq W) trivial) (aD [(32,g1.1),(10,g1.2)] (by generalize y1.Agents=x1;generalize y1.In=x2;cases x1<;>cases x2<;>rfl) trivial ⟨(G_hit).trans oB_ren.symm,((gq W)).trans oB_ren.symm,trivial⟩ W (List.forall_mem_cons.2 ⟨fun i hi=>MG W hi,(List.forall_mem_cons.2 ⟨fun i hi=>MG W hi,(fun _ h=>nomatch h)⟩)⟩) (pV<|Qd W))
def Qp (p1:Map)(p2:Int):Option Int:=
  (Rt p1 p2).bind fun v1=>cond (!v1) (some 0) ((Nw p1 p2).bind fun v2=>some v2)
theorem LQ(p1 p2 r)(h:Qp p1 p2=some r):PCall Tryz.prog 126 [(.agg (U5 p1)),(i64 p2)] (i64 r):=by
 refine C3 (fk Tryz.func126 Tryz.ntmps126 m0 (by with_unfolding_all rfl)) (nl W) ?_
 unfold Qp at h
 refine B4 (s0:=⟨T [(0,(.d _)),(1,(.d _))],G []⟩) (F3 W W) ?_
 refine A9<|sm W<|sv W<|A1<|A4<|A9<|sd W (B3 W G_hit W W)<|sv W<|bs h fun v1 hv1 h=>B1 W W A3 (FJ _ _ _ hv1) (.inl W) (B9 (.d (bo (!v1))) W W (A1<|cc W h (fun c1 h=> ?_)<|fun c1 h=> ?_))
 refine A9<|sv W<|A1<|B0 ?_
 cases h
 exact A6 (.inr W) (B6 (B2 W) C1) (.refl _)
 refine A8<|A9<|sd W (B3 W G_hit W W)<|sv W<|bs h fun _ hv2 h=>B1 W W A3 (BO _ _ _ hv2) (.inl W) (sv W<|A1<|B0 ?_)
 cases h
 exact A6 (.inr W) (B6 (B2 W) C1) (.refl _)
def Lq (p1:Map)(p2:Agent)(v2:(List Int))(x1:((List Span)×Int)):Option (Stp ((List Span)×Int) (List Span)):=
  cond (decide (x1.2< (v2.length:Int))) ((B7 v2 x1.2).bind fun v3=>(B7 v2 x1.2).bind fun v4=>(B7 p2.Route x1.2).bind fun v5=>(Qp p1 v5).bind fun v6=>cond (decide ((Us true 0 (C5 ((C5 (p2.S - p2.Len)) - v3)))≤(Us false (C5 (p2.S - v4)) v6))) ((B7 p2.Route x1.2).bind fun v7=>(Bo x1.1 [(Span.mk v7 (Us true 0 (C5 ((C5 (p2.S - p2.Len)) - v3))) (Us false (C5 (p2.S - v4)) v6))]).bind fun v8=>some (.go (v8,(C5 (x1.2+1))))) (some (.go (x1.1,(C5 (x1.2+1)))))) (some (.out x1.1))
def Rv (p1:Map)(p2:Agent):Option (List Span):=
  (Pf p2).bind fun v1=>cond (!v1) (some []) ((Kk p1 p2.Route).bind fun v2=>(loop (Lq p1 p2 v2) ([],0)).bind fun y1=>some y1)
theorem FK(p1 p2 r)(h:Rv p1 p2=some r):PCall Tryz.prog 63 [(.agg (U5 p1)),(.agg (C9 p2))] (.list (List.map Ez r)):=by
 refine C3 (fk Tryz.func63 Tryz.ntmps63 (fun r=>if r==10 then [1009]else []) (by with_unfolding_all rfl)) (nl W) ?_
 unfold Rv at h
 refine B4 (s0:=⟨T [(0,(.d _)),(1,(.d _))],G []⟩) (F3 W W) ?_
 refine lr<|fun u1 _=>sm W<|sm W<|sv W<|A1<|A9<|sv W<|A1<|A4<|A9<|sd W (B3 W G_hit W W)<|bs h fun v1 hv1 h=>B1 W W A3 (Yo _ _ hv1) (.inl W) (B9 (.d (bo (!v1))) W W (A1<|cc W h (fun c1 h=> ?_)<|fun c1 h=> ?_))
 refine A9<|sv W<|A1<|B0 ?_
 cases h
 exact A6 (.inr W) (B6 (B2 W) C1) DLe.nil
 refine A8<|A9<|sd W (B3 W (gq W) W W)<|sq W<|sl W G_hit W<|bs h fun v2 hv2 h=>B1 W W A3 (Tz _ _ _ hv2) (.inl W) (sv W<|A1<|A4<|A9<|sv W<|A1<|bs h fun y1 hy1 h=>E0 (fun s=> ∃g1:Nat,Sb ⟨T [(5,(oS y1 (62,g1)))],G [((62,g1),oB 93 3 Ez y1)]⟩ s) ?_ ?_)
 refine A7<|E3 (Lq p1 p2 v2) (fun (x1:((List Span)×Int)) (g2:Nat)=>⟨T [(2,(.ptr (2,u1) 0)),(3,(.ptr (3,u1) 0)),(5,(oS x1.1 (62,g2))),(6,(dl A5 v2)),(7,(di x1.2))],G [((2,u1),some<|.box 33 (M7 p1)),((3,u1),some<|.box 45 (X2 p2)),((62,g2),oB 93 3 Ez x1.1)]⟩) ([],0) 0 _ hy1 (E1 (Ck W)<|sg W<|B5 G_hit (.of W)<|X0 trivial) ?_
 intro x1 g2 z1 hz1 ez1
 unfold Lq at hz1
 refine A4<|A9<|sv W<|sv W<|sd W (D7 W)<|sv W<|A1<|cc W hz1 (fun c2 hz1=> ?_)<|fun c2 hz1=> ?_
 refine A8<|A4<|A7<|A4<|F4 W<|sq W<|sl W (gq W) W (sq W<|sl W (gq W) W (sv W<|sv W<|sv W<|bs hz1 fun v3 hv3 hz1=>sd W (C8 W W hv3 W)<|sd W (D6 W hv3 W)<|sv W<|sv W<|sq W<|sl W (gq W) W (sv W<|sv W<|bs hz1 fun v4 hv4 hz1=>sd W (C8 W W hv4 W)<|sd W (D6 W hv4 W)<|sv W<|sd W (B3 W G_hit W W)<|sq W<|sl W (gq W) W (sv W<|bs hz1 fun _ hv5 hz1=>sd W (C8 W W hv5 W)<|sd W (D6 W hv5 W)<|bs hz1 fun v6 hv6 hz1=>B1 W W A3 (LQ _ _ _ hv6) (.inl W) (sv W<|sv W<|sv W<|A1<|A9<|sv W<|sv W<|sv W<|A1<|cc W hz1 (fun c3 hz1=> ?_)<|fun c3 hz1=> ?_)))))
 refine Eh fun u10 _=>B9 (oS x1.1 (62,g2)) W W (sq W<|sl W (gq W) W (sv W<|bs hz1 fun v7 hv7 hz1=>sd W (C8 W W hv7 W)<|sd W (D6 W hv7 W)<|sv W<|sv W<|sv W<|B9 (dl Ez [(Span.mk v7 (Us true 0<|C5 ((C5 (p2.S - p2.Len)) - v3))<|Us false (C5 (p2.S - v4)) v6)]) W W (bs hz1 fun _ hv8 hz1=>V3 Ez (62,g2) x1.1 (Span.mk v7 (Us true 0<|C5 ((C5 (p2.S - p2.Len)) - v3))<|Us false (C5 (p2.S - v4)) v6) [] _ (N3<|fun _=>W) W (gq W) hv8 (ss W<|A1<|E2<|C0<|sv W<|sv W<|sv W<|A1<|E5 ?_))))
 cases hz1
 exact ⟨W,u10,(E1 ⟨.of W, .of W,(.of (Aq<|Ba hv8).symm), .of W, .of W,trivial⟩<|sg W<|sg W<|O6 G_hit trivial)⟩
 refine A8<|E2<|C0<|sv W<|sv W<|sv W<|A1<|E5 ?_
 cases hz1
 exact ⟨W,g2,(E1 (Ck W)<|B5 G_hit (.of W)<|sg W<|B8 (gq W) trivial)⟩
 refine C6 W ?_
 cases hz1
 obtain rfl:=ez1 _ rfl
 refine ⟨nofun,C4 W<|Aj ?_⟩
 exact ⟨g2,(E1 ⟨.of W,trivial⟩<|B8 (gq W) trivial)⟩
 rintro _ ⟨g1,q1⟩
 refine B4 q1<|A9<|B9 (oS y1 (62,g1)) W W (B9 (oS y1 (62,g1)) W W (A1<|B0 ?_))
 cases h
 exact A6 (.inr W) (B6 (B2 W)<|Y3 G_hit) Y2
def Em (v1:(List Span))(v2:(List Span))(x1:Int)(x2:Int):Option (Stp Int (Sum Unit Bool)):=
  cond (decide (x2< (v2.length:Int))) ((B7 v1 x1).bind fun v3=>(B7 v2 x2).bind fun v4=>((cond (v3.Lane_==v4.Lane_) (B7 v1 x1) (some default))).bind fun v5=>((cond (v3.Lane_==v4.Lane_) (B7 v2 x2) (some default))).bind fun v6=>((cond ((v3.Lane_==v4.Lane_)&& (decide (v5.From≤v6.To))) (B7 v2 x2) (some default))).bind fun v7=>((cond ((v3.Lane_==v4.Lane_)&& (decide (v5.From≤v6.To))) (B7 v1 x1) (some default))).bind fun v8=>cond (((v3.Lane_==v4.Lane_)&& (decide (v5.From≤v6.To)))&& (decide (v7.From≤v8.To))) (some (.out (.inr true))) (some (.go (C5 (x2+1))))) (some (.out (.inl ())))
def En (v1:(List Span))(v2:(List Span))(x1:Int):Option (Stp Int (Sum Unit Bool)):=
  cond (decide (x1< (v1.length:Int))) (thenS (loop (Em v1 v2 x1) 0) (fun _=>some (.go (C5 (x1+1)))) (fun r=>some (.out (.inr r)))) (some (.out (.inl ())))
def Ng (p1:Map)(p2:Agent)(p3:Agent):Option Bool:=
  (Rv p1 p2).bind fun v1=>(Rv p1 p3).bind fun v2=>thenS (loop (En v1 v2) 0) (fun _=>some false) (fun r=>some r)
theorem IS(p1 p2 p3 r)(h:Ng p1 p2 p3=some r):PCall Tryz.prog 85 [(.agg (U5 p1)),(.agg (C9 p2)),(.agg (C9 p3))] (bo r):=by
 refine C3 (fk Tryz.func85 Tryz.ntmps85 m0 (by with_unfolding_all rfl)) (nl W) ?_
 unfold Ng at h
 refine B4 (s0:=⟨T [(0,(.d _)),(1,(.d _)),(2,(.d _))],G []⟩) (F3 W W) ?_
 refine A9<|sm W<|sn W W<|sm W<|sv W<|A1<|A4<|F4 W<|sd W (B3 W (gq W) W W)<|sd W (B3 W (gq W) W W)<|bs h fun v1 hv1 h=>B1 W W A3 (FK _ _ _ hv1) (.inl W) (sd W (B3 W (gq W) W W)<|sd W (B3 W G_hit W W)<|bs h fun v2 hv2 h=>B1 W W A3 (FK _ _ _ hv2) (.inl W) (sv W<|sv W<|A1<|A4<|A9<|sv W<|A1<|js h fun z1 hz1 h=>E0 (fun s=> ∃(y1:Unit) (g1:Unit),z1= .inl y1∧Sb ⟨T [],G []⟩ s) ?_ ?_))
 refine A7<|E3 (En v1 v2) (fun (x1:Int) (g2:Unit)=>⟨T [(7,(dl Ez v1)),(8,(dl Ez v2)),(9,(di x1))],G []⟩) 0 () _ hz1 (F3 W W) ?_
 intro x1 g2 z2 hz2 ez2
 unfold En at hz2
 refine A4<|A9<|sv W<|sv W<|sd W (D7 W)<|sv W<|A1<|cc W hz2 (fun c1 hz2=> ?_)<|fun c1 hz2=> ?_
 refine A8<|A4<|A7<|A9<|sv W<|A1<|js hz2 fun z3 hz3 hz2=>E0 (fun s=> ∃(y2:Unit) (g3:Unit),z3= .inl y2∧Sb ⟨T [(7,(dl Ez v1)),(8,(dl Ez v2)),(9,(di x1))],G []⟩ s) ?_ ?_
 refine A7<|E3 (Em v1 v2 x1) (fun (x2:Int) (g4:Unit)=>⟨T [(7,(dl Ez v1)),(8,(dl Ez v2)),(9,(di x1)),(10,(di x2))],G []⟩) 0 () _ hz3 (F3 W W) ?_
 intro x2 g4 z4 hz4 ez4
 unfold Em at hz4
 refine A4<|A9<|sv W<|sv W<|sd W (D7 W)<|sv W<|A1<|cc W hz4 (fun c2 hz4=> ?_)<|fun c2 hz4=> ?_
 refine A8<|A4<|A7<|A4<|F4 W<|sv W<|sv W<|bs hz4 fun _ hv3 hz4=>sd W (C8 W W hv3 W)<|sv W<|sd W (D6 W hv3 W)<|sv W<|sv W<|bs hz4 fun _ hv4 hz4=>sd W (C8 W W hv4 W)<|sv W<|sd W (D6 W hv4 W)<|sv W<|sv W<|gt W (fun _=>W)<|gt W (fun _=>W)<|bs hz4 fun _ hv5 hz4=>gt W (fun w3=>(C8 (A2 w3) (A2 w3) (C2 w3 hv5) W)) ?_
 refine gt W (fun w4=>(by simp only [A2 w4];rfl)) ?_
 refine gt W (fun w5=>(D6 (A2 w5) (C2 w5 hv5) W))<|gt W (fun _=>W)<|gt W (fun _=>W)<|bs hz4 fun _ hv6 hz4=>gt W (fun w8=>(C8 (A2 w8) (A2 w8) (C2 w8 hv6) W)) ?_
 refine gt W (fun w9=>(by simp only [A2 w9];rfl)) ?_
 refine gt W (fun w10=>(D6 (A2 w10) (C2 w10 hv6) W))<|gt W (fun w11=>(N1 (A2 w11) (A2 w11) W))<|sa W W W<|sv W<|gt W (fun _=>W)<|gt W (fun _=>W)<|bs hz4 fun _ hv7 hz4=>gt W (fun w14=>(C8 (A2 w14) (A2 w14) (C2 w14 hv7) W)) ?_
 refine gt W (fun w15=>(by simp only [A2 w15];rfl)) ?_
 refine gt W (fun w16=>(D6 (A2 w16) (C2 w16 hv7) W))<|gt W (fun _=>W)<|gt W (fun _=>W)<|bs hz4 fun _ hv8 hz4=>gt W (fun w19=>(C8 (A2 w19) (A2 w19) (C2 w19 hv8) W)) ?_
 refine gt W (fun w20=>(by simp only [A2 w20];rfl)) ?_
 refine gt W (fun w21=>(D6 (A2 w21) (C2 w21 hv8) W))<|gt W (fun w22=>(N1 (A2 w22) (A2 w22) W))<|sa W W W<|A1<|cc W hz4 (fun c3 hz4=> ?_)<|fun c3 hz4=> ?_
 refine A9<|sv W<|A1<|B0 ?_
 cases hz4
 obtain rfl:=ez4 _ rfl
 refine ⟨nofun,F2 ?_⟩
 rw [bT]at hz2
 cases hz2
 obtain rfl:=ez2 _ rfl
 refine ⟨nofun,F2 ?_⟩
 rw [bT]at h
 cases h
 exact A6 (.inr W) (B6 (B2 W) C1) (.refl _)
 refine A8<|E2<|C0<|sv W<|sv W<|sv W<|A1<|E5 ?_
 cases hz4
 exact ⟨W,(),(F3 W W)⟩
 refine C6 W ?_
 cases hz4
 obtain rfl:=ez4 _ rfl
 refine ⟨nofun,C4 W<|Aj ?_⟩
 exact ⟨_,(),W,(F3 W W)⟩
 rintro _ ⟨y2,g3,rfl,q1⟩
 rw [bS]at hz2
 refine E2<|B4 q1<|C0<|sv W<|sv W<|sv W<|A1<|E5 ?_
 cases hz2
 exact ⟨W,(),(F3 W W)⟩
 refine C6 W ?_
 cases hz2
 obtain rfl:=ez2 _ rfl
 refine ⟨nofun,C4 W<|Aj ?_⟩
 exact ⟨_,(),W,(F3 W W)⟩
 rintro _ ⟨y1,g1,rfl,q2⟩
 rw [bS]at h
 refine B4 q2<|A9<|sv W<|A1<|B0 ?_
 cases h
 exact A6 (.inr W) (B6 (B2 W) C1) (.refl _)
def Jk (p1:Map)(p2:State)(p3:State)(p4:Int)(p5:Int)(x1:((List Int)×Int)):Option (Stp ((List Int)×Int) (List Int)):=
  cond (decide (x1.2< (p1.Zones.length:Int))) ((B7 p2.Agents p4).bind fun v1=>(B7 p2.Agents p5).bind fun v2=>(B7 p3.Agents p4).bind fun v3=>(Ih p1 v1 v3 x1.2).bind fun v4=>((cond (!(!v4)) (B7 p3.Agents p5) (some default))).bind fun v5=>((cond (!(!v4)) (Ih p1 v2 v5 x1.2) (some default))).bind fun v6=>cond ((!v4)||(!v6)) (some (.go (x1.1,(C5 (x1.2+1))))) ((Nf p1 v1.Route x1.2).bind fun v7=>(B7 v1.Route v7).bind fun v8=>(Nf p1 v2.Route x1.2).bind fun v9=>(B7 v2.Route v9).bind fun v10=>cond (v8 !=v10) ((Bo x1.1 [x1.2]).bind fun v11=>some (.go (v11,(C5 (x1.2+1))))) (some (.go (x1.1,(C5 (x1.2+1))))))) (some (.out x1.1))
def Ti (p1:Map)(p2:State)(p3:State)(p4:Int)(p5:Int):Option (List Int):=
  (loop (Jk p1 p2 p3 p4 p5) ([],0)).bind fun y1=>some y1
theorem OL(p1 p2 p3 p4 p5 r)(h:Ti p1 p2 p3 p4 p5=some r):PCall Tryz.prog 86 [(.agg (U5 p1)),(.agg (Cf p2)),(.agg (Cf p3)),(i64 p4),(i64 p5)] (.list (List.map A5 r)):=by
 refine C3 (fk Tryz.func86 Tryz.ntmps86 (fun r=>if r==8 then [1002]else []) (by with_unfolding_all rfl)) (nl W) ?_
 unfold Ti at h
 refine B4 (s0:=⟨T [(0,(.d _)),(1,(.d _)),(2,(.d _)),(3,(.d _)),(4,(.d _))],G []⟩) (F3 W W) ?_
 refine lr<|fun u1 _=>sm W<|sm W<|sn W W<|sv W<|A1<|A9<|sv W<|A1<|A4<|A9<|sv W<|A1<|bs h fun y1 hy1 h=>E0 (fun s=> ∃g1:Nat,Sb ⟨T [(11,(oS y1 (76,g1)))],G [((76,g1),oB 3 1 A5 y1)]⟩ s) ?_ ?_
 refine A7<|E3 (Jk p1 p2 p3 p4 p5) (fun (x1:((List Int)×Int)) (g2:Nat)=>⟨T [(3,(di p4)),(4,(di p5)),(5,(.ptr (5,u1) 0)),(6,(.ptr (6,u1) 0)),(7,(.ptr (7,u1) 0)),(11,(oS x1.1 (76,g2))),(12,(di x1.2))],G [((5,u1),some<|.box 33 (M7 p1)),((6,u1),some<|.box 25 (L0 p2)),((7,u1),some<|.box 25 (L0 p3)),((76,g2),oB 3 1 A5 x1.1)]⟩) ([],0) 0 _ hy1 (E1 (Ck W)<|sg W<|sg W<|B5 G_hit (.of W)<|X0 trivial) ?_
 intro x1 g2 z1 hz1 ez1
 unfold Jk at hz1
 refine A4<|A9<|sv W<|sq W<|sl W G_hit W<|sd W (D7 W)<|sv W<|A1<|cc W hz1 (fun c1 hz1=> ?_)<|fun c1 hz1=> ?_
 refine A8<|A4<|A7<|A4<|AA fun _ _=>X1 (.ptr _ _) W W (X1 (.d _) W (T6 W (gq W) W) (X1 (.d _) W W (bs hz1 fun v1 hv1 hz1=>X1 (.d _) W (C8 W W hv1 W) (X1 (.d _) W (D2 W hv1 W W) (X1 (.ptr _ _) W W (X1 (.d _) W (T6 W (gq W) W) (X1 (.d _) W W (bs hz1 fun v2 hv2 hz1=>X1 (.d _) W (C8 W W hv2 W) (X1 (.d _) W (D2 W hv2 W W) (NR (.ptr _ _) (.box _ _) W W (NR (.ptr _ _) (.box _ _) W W (AB _ _ _ _ _ W W W (gq W) (nl W) (X2 v1) W (AB _ _ _ _ _ W W W (gq W) (nl W) (X2 v2) W (NQ ⟨W,?_⟩))))))))))))))
 refine A4<|A4<|F4 W<|sd W (B3 W (gq W) W W)<|sd W (B3 W (gq W) W W)<|sq W<|sl W (gq W) W (sv W<|bs hz1 fun _ hv3 hz1=>sd W (C8 W W hv3 W)<|sd W (D2 W hv3 W W)<|sv W<|bs hz1 fun v4 hv4 hz1=>B1 W W A3 (Rs _ _ _ _ _ hv4) (.inl W) (B9 (.d (bo (!v4))) W W (sv W<|gf W (fun _=>(B3 W (gq W) W W))<|gf W (fun _=>(B3 W G_hit W W))<|gp W (K5 W) (fun _=>W) (gf W (vl W (gq W) W)<|gf W (fun _=>W)<|bs hz1 fun v5 hv5 hz1=>gf W (fun w6=>(C8 (A2 w6) (A2 w6) (C2 w6 hv5) W))<|gf W (fun w7=>(D2 (A2 w7) (C2 w7 hv5) W W))<|gf W (fun _=>W)<|bs hz1 fun v6 hv6 hz1=> ?_))))
 refine O3 _ (bo v6) (K5 W) (fun w9=>⟨_,[(.d (.agg (U5 p1))),(.d (.agg (C9 v2))),(.d (.agg (C9 v5))),(di x1.2)],_,_,(by simp only [A2 w9];rfl),W,A3,Rs _ _ _ _ _<|C2 w9 hv6,(.inl W)⟩) ?_
 refine N2 _ (.d (bo (!v6))) W (K5 W) (fun w10=>(by simp only [A2 w10];rfl)) ?_
 refine sd W (O2 W W<|fun hc=>A2<|J7 hc)<|A1<|cc W hz1 (fun c2 hz1=> ?_)<|fun c2 hz1=> ?_
 refine Zz W<|C0<|sv W<|sv W<|sv W<|A1<|E5 ?_
 cases hz1
 exact ⟨W,g2,(E1 (Ck W)<|sg W<|sg W<|sg W<|B8 (gq W) trivial)⟩
 refine A8<|A4<|F4 W<|sq W<|sl W (gq W) W (sd W (B3 W (gq W) W W)<|sq W<|sl W (gq W) W (sv W<|bs hz1 fun _ hv7 hz1=>B1 W W A3 (Wh _ _ _ _ hv7) (.inl W) (bs hz1 fun _ hv8 hz1=>sd W (C8 W W hv8 W)<|sd W (D6 W hv8 W)<|sq W<|sl W G_hit W<|sd W (B3 W (gq W) W W)<|sq W<|sl W G_hit W<|sv W<|bs hz1 fun _ hv9 hz1=>B1 W W A3 (Wh _ _ _ _ hv9) (.inl W) (bs hz1 fun _ hv10 hz1=>sd W (C8 W W hv10 W)<|sd W (D6 W hv10 W)<|sv W<|A1<|cc W hz1 (fun c3 hz1=> ?_)<|fun c3 hz1=> ?_))))
 refine Eh fun u9 _=>B9 (oS x1.1 (76,g2)) W W (sv W<|B9 (dl A5 [x1.2]) W W (bs hz1 fun _ hv11 hz1=>V3 A5 (76,g2) x1.1 x1.2 [] _ (N3<|fun _=>W) W (gq W) hv11 (ss W<|A1<|E2<|C0<|sv W<|sv W<|sv W<|A1<|E5 ?_)))
 cases hz1
 exact ⟨W,u9,(E1 ⟨.of W, .of W, .of W, .of W, .of W,(.of (Aq<|Ba hv11).symm), .of W,trivial⟩<|sg W<|sg W<|sg W<|O6 G_hit trivial)⟩
 refine A8<|E2<|C0<|sv W<|sv W<|sv W<|A1<|E5 ?_
 cases hz1
 exact ⟨W,g2,(E1 (Ck W)<|sg W<|sg W<|sg W<|B8 (gq W) trivial)⟩
 refine C6 W ?_
 cases hz1
 obtain rfl:=ez1 _ rfl
 refine ⟨nofun,C4 W<|Aj ?_⟩
 exact ⟨g2,(E1 ⟨.of W,trivial⟩<|B8 (gq W) trivial)⟩
 rintro _ ⟨g1,q1⟩
 refine B4 q1<|A9<|B9 (oS y1 (76,g1)) W W (B9 (oS y1 (76,g1)) W W (A1<|B0 ?_))
 cases h
 exact A6 (.inr W) (B6 (B2 W)<|Y3 G_hit) Y2
def Kl (p1:Map)(p2:(List Agent))(x4:(Int×State))(x5:Int):Option (Stp Int (Sum Unit (State×Int))):=
  cond (decide (x5< (p2.length:Int))) ((Nc x4.2 x4.1).bind fun v11=>((cond (!(!v11)) (Nc x4.2 x5) (some default))).bind fun v12=>cond ((!v11)||(!v12)) (some (.go (C5 (x5+1)))) ((B7 p2 x4.1).bind fun v13=>(B7 p2 x5).bind fun v14=>(Ng p1 v13 v14).bind fun v15=>((cond (!v15) (Ti p1 x4.2 x4.2 x4.1 x5) (some default))).bind fun v16=>cond (v15||(decide ((v16.length:Int)>0))) (some (.out (.inr ((State.mk 0 [] []),12)))) (some (.go (C5 (x5+1)))))) (some (.out (.inl ())))
def Hq (p1:Map)(p2:(List Agent))(x4:(Int×State)):Option (Stp (Int×State) (Sum State (State×Int))):=
  cond (decide (x4.1< (p2.length:Int))) (thenS (loop (Kl p1 p2 x4) (C5 (x4.1+1))) (fun _=>some (.go ((C5 (x4.1+1)),x4.2))) (fun r=>some (.out (.inr r)))) (some (.out (.inl x4.2)))
def Km (p1:Map)(p2:(List Agent))(x2:(Int×State))(x3:(Int×State)):Option (Stp (Int×State) State):=
  ((cond (decide (x3.1< (p1.Zones.length:Int))) (Nc x3.2 x2.1) (some default))).bind fun v4=>cond ((decide (x3.1< (p1.Zones.length:Int)))&&v4) ((B7 p2 x2.1).bind fun v5=>(B7 p2 x2.1).bind fun v6=>(Ih p1 v5 v6 x3.1).bind fun v7=>cond v7 ((B7 p2 x2.1).bind fun v8=>(Wi p1 v8 x3.1 0).bind fun v9=>(Bo x3.2.In [(Stay.mk x2.1 x3.1 0 v9)]).bind fun v10=>some (.go ((C5 (x3.1+1)),(State.mk x3.2.Tick x3.2.Agents v10)))) (some (.go ((C5 (x3.1+1)),x3.2)))) (some (.out x3.2))
def Kn (p1:Map)(p2:(List Agent))(x2:(Int×State)):Option (Stp (Int×State) State):=
  cond (decide (x2.1< (p2.length:Int))) ((loop (Km p1 p2 x2) (0,x2.2)).bind fun y3=>some (.go ((C5 (x2.1+1)),y3))) (some (.out x2.2))
def Ny (p2:(List Agent))(x1:Int):Option (Stp Int (Sum Unit (State×Int))):=
  cond (decide (x1< (p2.length:Int))) ((B7 p2 x1).bind fun v3=>cond v3.Gone (some (.out (.inr ((State.mk 0 [] []),10)))) (some (.go (C5 (x1+1))))) (some (.out (.inl ())))
def Zj (p1:Map)(p2:(List Agent)):Option (State×Int):=
  (Sl (State.mk 0 p2 [])).bind fun v1=>(Tf p1 v1).bind fun v2=>cond (v2 !=0) (some ((State.mk 0 [] []),v2)) (thenS (loop (Ny p2) 0) (fun _=>(loop (Kn p1 p2) (0,v1)).bind fun y2=>thenS (loop (Hq p1 p2) (0,y2)) (fun y4=>some (y4,0)) (fun r=>some r)) (fun r=>some r))
theorem TH(p1 p2 r)(h:Zj p1 p2=some r):PCall Tryz.prog 28 [(.agg (U5 p1)),(.list (List.map C9 p2))] (.tup [(.agg (Cf r.1)),(i64 r.2)]):=by
 refine C3 (fk Tryz.func28 Tryz.ntmps28 (fun r=>if r==1 then [1001002]else if r==17 then [1012]else []) (by with_unfolding_all rfl)) (nl W) ?_
 unfold Zj at h
 refine B4 (s0:=⟨T [(0,(.d _)),(1,(.d _))],G []⟩) (F3 W W) ?_
 refine lr<|fun u1 _=>sm W<|sm W<|sv W<|A1<|lr<|fun u2 _=>sv W<|sv W<|bs h fun v1 hv1 h=> ?_
 refine JR (v:=Bg [(di v1.Tick),(oS v1.Agents (10010020,u2)),(oS v1.In (10010021,u2))]) (us:= [(10010020,u2),(10010021,u2)]) (iA (JY _ _ hv1) [] [] _ (((10010021,u2),oB 127 4 J8 v1.In)::(((10010020,u2),oB 45 7 C9 v1.Agents)::_)) W (.cons (DLe.d<|.agg (ca W<|ca W<|.cons ⟨DLe.nil,W⟩ .nil)) .nil) W Ky trivial (fun _ h=>h) List.nodup_nil (by generalize v1.Agents=x1;generalize v1.In=x2;cases x1<;>cases x2<;>rfl) W (NX<|NX (W)) W) ?_
 refine sn W W<|Me _ _ _ _ _ (Bb _) W W G_hit (nl W) [(di v1.Tick),(oS v1.Agents (10010020,u2)),(oS v1.In (10010021,u2))] W (A1<|A9<|sd W (B3 W (gq W) W W)<|B9 (Bg [(di v1.Tick),(oS v1.Agents (10010020,u2)),(oS v1.In (10010021,u2))]) W (B3 W G_hit W W) (bs h fun _ hv2 h=>B1 W (rD<|E7 (Qa<|rD<|E7 (Y3<|gq W)<|E7 (Y3<|gq W) G2) G2) (.cons (.refl _) (.cons (.agg (ca W<|.cons ⟨Y2,W⟩ (.cons ⟨Y2,W⟩ .nil))) .nil)) (OI _ _ _ hv2) (.inr W) (sv W<|A1<|A4<|A9<|sv W<|sv W<|A1<|cc W h (fun c1 h=> ?_)<|fun c1 h=> ?_)))
 refine A9<|sv W<|sv W<|Bc W (gq W) [(di 0),(.d .nilS),(.d .nilS)] W (sv W<|A1<|B0 ?_)
 cases h
 exact A6 (.inr W) (Po (L4 W G_hit (nl W) W) (B2 W) C1 C1) (.tup (.cons (.agg (ca W<|.cons ⟨DLe.nil,W⟩ (.cons ⟨DLe.nil,W⟩ .nil))) A3))
 refine A8<|A4<|A9<|sv W<|A1<|js h fun z1 hz1 h=>E0 (fun s=> ∃(y1:Unit) (g1:Unit),z1= .inl y1∧Sb ⟨T [(1,(dl C9 p2)),(2,(.ptr (2,u1) 0)),(4,(.ptr (4,u1) 0)),(6,(.ptr (6,u2) 0))],G [((2,u1),some<|.box 33 (M7 p1)),((4,u1),some<|.box 25 [(di 0),(.d .nilS),(.d .nilS)]),((6,u2),some<|.box 25 [(di v1.Tick),(oS v1.Agents (10010020,u2)),(oS v1.In (10010021,u2))]),((10010020,u2),oB 45 7 C9 v1.Agents),((10010021,u2),oB 127 4 J8 v1.In)]⟩ s) ?_ ?_
 refine A7<|E3 (Ny p2) (fun (x1:Int) (g2:Unit)=>⟨T [(1,(dl C9 p2)),(2,(.ptr (2,u1) 0)),(4,(.ptr (4,u1) 0)),(6,(.ptr (6,u2) 0)),(8,(di x1))],G [((2,u1),some<|.box 33 (M7 p1)),((4,u1),some<|.box 25 [(di 0),(.d .nilS),(.d .nilS)]),((6,u2),some<|.box 25 [(di v1.Tick),(oS v1.Agents (10010020,u2)),(oS v1.In (10010021,u2))]),((10010020,u2),oB 45 7 C9 v1.Agents),((10010021,u2),oB 127 4 J8 v1.In)]⟩) 0 () _ hz1 (E1 (Ck W)<|sg W<|sg W<|B5 G_hit (.of W)<|B8 (gq W)<|B8 (gq W) trivial) ?_
 intro x1 g2 z2 hz2 ez2
 unfold Ny at hz2
 refine A4<|A9<|sv W<|sv W<|sd W (D7 W)<|sv W<|A1<|cc W hz2 (fun c2 hz2=> ?_)<|fun c2 hz2=> ?_
 refine A8<|A4<|A7<|A9<|sv W<|sv W<|bs hz2 fun _ hv3 hz2=>sd W (C8 W W hv3 W)<|sv W<|sd W (D6 W hv3 W)<|A1<|cc W hz2 (fun c3 hz2=> ?_)<|fun c3 hz2=> ?_
 refine A9<|sv W<|Bc W (gq W) [(di 0),(.d .nilS),(.d .nilS)] W (sv W<|A1<|B0 ?_)
 cases hz2
 obtain rfl:=ez2 _ rfl
 refine ⟨nofun,F2 ?_⟩
 rw [bT]at h
 cases h
 exact A6 (.inr W) (Po (L4 W G_hit (nl W) W) (B2 W) C1 C1) (.tup (.cons (.agg (ca W<|.cons ⟨DLe.nil,W⟩ (.cons ⟨DLe.nil,W⟩ .nil))) A3))
 refine A8<|E2<|C0<|sv W<|sv W<|sv W<|A1<|E5 ?_
 cases hz2
 exact ⟨W,(),(E1 (Ck W)<|B5 G_hit (.of W)<|sg W<|sg W<|B8 (gq W)<|B8 (gq W) trivial)⟩
 refine C6 W ?_
 cases hz2
 obtain rfl:=ez2 _ rfl
 refine ⟨nofun,C4 W<|Aj ?_⟩
 exact ⟨_,(),W,(E1 (Ck W)<|B5 G_hit (.of W)<|sg W<|sg W<|B8 (gq W)<|B8 (gq W) trivial)⟩
 rintro _ ⟨y1,g1,rfl,q1⟩
 rw [bS]at h
 refine B4 q1<|A4<|A9<|sv W<|A1<|bs h fun y2 hy2 h=>E0 (fun s=> ∃g3:(Nat× ({d:Nat // d∈ [77,10010021]}×Nat)),Sb ⟨T [(1,(dl C9 p2)),(2,(.ptr (2,u1) 0)),(4,(.ptr (4,u1) 0)),(6,(.ptr (6,u2) 0))],G [((2,u1),some<|.box 33 (M7 p1)),((4,u1),some<|.box 25 [(di 0),(.d .nilS),(.d .nilS)]),((6,u2),some<|.box 25 [(di y2.Tick),(oS y2.Agents (10010020,g3.1)),(oS y2.In (g3.2.1.val,g3.2.2))]),((10010020,g3.1),oB 45 7 C9 y2.Agents),((g3.2.1.val,g3.2.2),oB 127 4 J8 y2.In)]⟩ s) ?_ ?_
 refine A7<|E3 (Kn p1 p2) (fun (x2:(Int×State)) (g4:(Nat× ({d:Nat // d∈ [77,10010021]}×Nat)))=>⟨T [(1,(dl C9 p2)),(2,(.ptr (2,u1) 0)),(4,(.ptr (4,u1) 0)),(6,(.ptr (6,u2) 0)),(9,(di x2.1))],G [((2,u1),some<|.box 33 (M7 p1)),((4,u1),some<|.box 25 [(di 0),(.d .nilS),(.d .nilS)]),((6,u2),some<|.box 25 [(di x2.2.Tick),(oS x2.2.Agents (10010020,g4.1)),(oS x2.2.In (g4.2.1.val,g4.2.2))]),((10010020,g4.1),oB 45 7 C9 x2.2.Agents),((g4.2.1.val,g4.2.2),oB 127 4 J8 x2.2.In)]⟩) (0,v1) (u2,(⟨10010021, .tail _ (.head _)⟩,u2)) _ hy2 (E1 (Ck W)<|B5 G_hit (.of W)<|sg W<|sg W<|B8 (gq W)<|B8 (gq W) trivial) ?_
 intro x2 g4 z3 hz3 ez3
 unfold Kn at hz3
 refine A4<|A9<|sv W<|sv W<|sd W (D7 W)<|sv W<|A1<|cc W hz3 (fun c4 hz3=> ?_)<|fun c4 hz3=> ?_
 refine A8<|A4<|A7<|A9<|sv W<|A1<|bs hz3 fun y3 hy3 hz3=>E0 (fun s=> ∃g5:(Nat× ({d:Nat // d∈ [77,10010021]}×Nat)),Sb ⟨T [(1,(dl C9 p2)),(2,(.ptr (2,u1) 0)),(4,(.ptr (4,u1) 0)),(6,(.ptr (6,u2) 0)),(9,(di x2.1))],G [((2,u1),some<|.box 33 (M7 p1)),((4,u1),some<|.box 25 [(di 0),(.d .nilS),(.d .nilS)]),((6,u2),some<|.box 25 [(di y3.Tick),(oS y3.Agents (10010020,g5.1)),(oS y3.In (g5.2.1.val,g5.2.2))]),((10010020,g5.1),oB 45 7 C9 y3.Agents),((g5.2.1.val,g5.2.2),oB 127 4 J8 y3.In)]⟩ s) ?_ ?_
 refine A7<|E3 (Km p1 p2 x2) (fun (x3:(Int×State)) (g6:(Nat× ({d:Nat // d∈ [77,10010021]}×Nat)))=>⟨T [(1,(dl C9 p2)),(2,(.ptr (2,u1) 0)),(4,(.ptr (4,u1) 0)),(6,(.ptr (6,u2) 0)),(9,(di x2.1)),(10,(di x3.1))],G [((2,u1),some<|.box 33 (M7 p1)),((4,u1),some<|.box 25 [(di 0),(.d .nilS),(.d .nilS)]),((6,u2),some<|.box 25 [(di x3.2.Tick),(oS x3.2.Agents (10010020,g6.1)),(oS x3.2.In (g6.2.1.val,g6.2.2))]),((10010020,g6.1),oB 45 7 C9 x3.2.Agents),((g6.2.1.val,g6.2.2),oB 127 4 J8 x3.2.In)]⟩) (0,x2.2) (g4.1,(g4.2.1,g4.2.2)) _ hy3 (E1 (Ck W)<|B5 G_hit (.of W)<|sg W<|sg W<|B8 (gq W)<|B8 (AF g4.2.1.property 4 W G_hit) trivial) ?_
 intro x3 g6 z4 hz4 ez4
 unfold Km at hz4
 refine A4<|A9<|sv W<|sq W<|sl W G_hit W<|sd W (D7 W)<|sv W<|sv W<|N2 _ (Bg [(di x3.2.Tick),(oS x3.2.Agents (10010020,g6.1)),(oS x3.2.In (g6.2.1.val,g6.2.2))]) W (M8 W) (fun _=>(B3 W (gq W) W W)) (gt W (fun _=>W)<|bs hz4 fun v4 hv4 hz4=> ?_)
 refine O3 _ (bo v4) (M8 W) (fun w3=>⟨_,[(Bg [(di x3.2.Tick),(oS x3.2.Agents (10010020,g6.1)),(oS x3.2.In (g6.2.1.val,g6.2.2))]),(di x2.1)],_,_,(by simp only [A2 w3];rfl),(E7 (Qa<|rD<|E7 (Y3<|gq W)<|E7 (Y3<|AF g6.2.1.property 4 W G_hit) G2)<|rD G2),(.cons (.agg (ca W<|.cons ⟨Y2,W⟩ (.cons ⟨Y2,W⟩ .nil))) A3),Wg _ _ _<|C2 w3 hv4,(.inr W)⟩) ?_
 refine sa W W W<|A1<|cc W hz4 (fun c5 hz4=> ?_)<|fun c5 hz4=> ?_
 refine A8<|A4<|A7<|A4<|F4 W<|sd W (B3 W G_hit W W)<|sv W<|sv W<|bs hz4 fun _ hv5 hz4=>sd W (C8 W W hv5 W)<|sd W (D2 W hv5 W W)<|sv W<|sv W<|bs hz4 fun _ hv6 hz4=>sd W (C8 W W hv6 W)<|sd W (D2 W hv6 W W)<|sv W<|bs hz4 fun _ hv7 hz4=>B1 W W A3 (Rs _ _ _ _ _ hv7) (.inl W) (A1<|cc W hz4 (fun c6 hz4=> ?_)<|fun c6 hz4=> ?_)
 refine Rk W fun u16 _=>sq W<|B9 (oS x3.2.In (g6.2.1.val,g6.2.2)) W (T6 W (gq W) W) (sv W<|sv W<|sd W (B3 W G_hit W W)<|sv W<|sv W<|bs hz4 fun _ hv8 hz4=>sd W (C8 W W hv8 W)<|sd W (D2 W hv8 W W)<|sv W<|bs hz4 fun v9 hv9 hz4=>B1 W W A3 (QA _ _ _ _ _ hv9) (.inl W) (sv W<|B9 (dl J8 [(Stay.mk x2.1 x3.1 0 v9)]) W W (bs hz4 fun _ hv10 hz4=>V3 J8 (g6.2.1.val,g6.2.2) x3.2.In (Stay.mk x2.1 x3.1 0 v9) [] _ (N3<|fun _=>W) W (F9 (IG g6.2.1.property W)<|F9 (IG g6.2.1.property W)<|F9 (IG g6.2.1.property W)<|F9 (IG g6.2.1.property W) G_hit) hv10 (sq W<|Me _ _ _ _ _ W W W (F9 W<|F9 (HD g6.2.1.property W)<|gq W) (nl W) [(di x3.2.Tick),(oS x3.2.Agents (10010020,g6.1)),(.sl (77,u16))] W (A1<|E2<|C0<|sv W<|sv W<|sv W<|A1<|E5 ?_)))))
 cases hz4
 exact ⟨W,(g6.1,(⟨77, .head _⟩,u16)),(E1 (Ck W)<|B5 (BK 2 W<|F9 (HD g6.2.1.property W) G_hit) (.of W) (B5 (BK 2 W<|F9 (HD g6.2.1.property W)<|gq W) (.of W) (B5 G_hit (.box (cv<|cv<|.cons (.of (Aq<|Ba hv10).symm) .nil))<|B8 (BK 2 W<|F9 (HD g6.2.1.property W)<|gq W)<|O6 (gq W) trivial)))⟩
 refine A8<|E2<|C0<|sv W<|sv W<|sv W<|A1<|E5 ?_
 cases hz4
 exact ⟨W,(g6.1,(g6.2.1,g6.2.2)),(E1 (Ck W)<|B5 G_hit (.of W)<|sg W<|sg W<|B8 (gq W)<|B8 (AF g6.2.1.property 4 W G_hit) trivial)⟩
 refine C6 W ?_
 cases hz4
 obtain rfl:=ez4 _ rfl
 refine ⟨nofun,C4 W<|Aj ?_⟩
 exact ⟨(g6.1,(g6.2.1,g6.2.2)),(E1 (Ck W)<|B5 G_hit (.of W)<|sg W<|sg W<|B8 (gq W)<|B8 (AF g6.2.1.property 4 W G_hit) trivial)⟩
 rintro _ ⟨g5,q2⟩
 refine E2<|B4 q2<|C0<|sv W<|sv W<|sv W<|A1<|E5 ?_
 cases hz3
 exact ⟨W,(g5.1,(g5.2.1,g5.2.2)),(E1 (Ck W)<|B5 G_hit (.of W)<|sg W<|sg W<|B8 (gq W)<|B8 (AF g5.2.1.property 4 W G_hit) trivial)⟩
 refine C6 W ?_
 cases hz3
 obtain rfl:=ez3 _ rfl
 refine ⟨nofun,C4 W<|Aj ?_⟩
 exact ⟨(g4.1,(g4.2.1,g4.2.2)),(E1 (Ck W)<|B5 G_hit (.of W)<|sg W<|sg W<|B8 (gq W)<|B8 (AF g4.2.1.property 4 W G_hit) trivial)⟩
 rintro _ ⟨g3,q3⟩
 refine B4 q3<|A4<|A9<|sv W<|A1<|js h fun z5 hz5 h=>E0 (fun s=> ∃(y4:State) (g7:Unit),z5= .inl y4∧Sb ⟨T [(4,(.ptr (4,u1) 0)),(6,(.ptr (6,u2) 0))],G [((4,u1),some<|.box 25 [(di 0),(.d .nilS),(.d .nilS)]),((6,u2),some<|.box 25 (L0 y4))]⟩ s) ?_ ?_
 refine A7<|qM [(10010020,g3.1),(g3.2.1.val,g3.2.2)] [(1,(dl C9 p2)),(2,(.ptr (2,u1) 0)),(4,(.ptr (4,u1) 0)),(6,(.ptr (6,u2) 0)),(11,(di 0))] [((2,u1),some<|.box 33 (M7 p1)),((4,u1),some<|.box 25 [(di 0),(.d .nilS),(.d .nilS)]),((6,u2),some<|.box 25 (L0 y2))] ⟨Gr W,Gr W,Gr W,Gr W,Gr W,trivial⟩ (NY G_hit (Oy (Qd W)<|Oy (Qd<|HD g3.2.1.property W) AG)<|NY (gq W) (Oy (Qd W)<|Oy (Qd<|HD g3.2.1.property W) AG) (aI (gq W) (Oy (Qd W)<|Oy (Qd<|HD g3.2.1.property W) AG) (.cons (Gr W) (.cons (mP (Y3<|VF (.head _)<|gq W) Y2) (.cons (mP (Y3<|VF (.tail _ (.head _))<|F9 (IG g3.2.1.property W)<|F9 (IG g3.2.1.property W)<|F9 (IG g3.2.1.property W)<|F9 (IG g3.2.1.property W) G_hit) Y2) .nil))) trivial)) (E3 (Hq p1 p2) (fun (x4:(Int×State)) (g8:Unit)=>⟨T [(1,(dl C9 p2)),(2,(.ptr (2,u1) 0)),(4,(.ptr (4,u1) 0)),(6,(.ptr (6,u2) 0)),(11,(di x4.1))],G [((2,u1),some<|.box 33 (M7 p1)),((4,u1),some<|.box 25 [(di 0),(.d .nilS),(.d .nilS)]),((6,u2),some<|.box 25 (L0 x4.2))]⟩) (0,y2) () _ hz5 (F3 W W) ?_)
 intro x4 g8 z6 hz6 ez6
 unfold Hq at hz6
 refine A4<|A9<|sv W<|sv W<|sd W (D7 W)<|sv W<|A1<|cc W hz6 (fun c7 hz6=> ?_)<|fun c7 hz6=> ?_
 refine A8<|A4<|A7<|A9<|sv W<|sv W<|sv W<|A1<|js hz6 fun z7 hz7 hz6=>E0 (fun s=> ∃(y5:Unit) (g9:Unit),z7= .inl y5∧Sb ⟨T [(1,(dl C9 p2)),(2,(.ptr (2,u1) 0)),(4,(.ptr (4,u1) 0)),(6,(.ptr (6,u2) 0)),(11,(di x4.1))],G [((2,u1),some<|.box 33 (M7 p1)),((4,u1),some<|.box 25 [(di 0),(.d .nilS),(.d .nilS)]),((6,u2),some<|.box 25 (L0 x4.2))]⟩ s) ?_ ?_
 refine A7<|E3 (Kl p1 p2 x4) (fun (x5:Int) (g10:Unit)=>⟨T [(1,(dl C9 p2)),(2,(.ptr (2,u1) 0)),(4,(.ptr (4,u1) 0)),(6,(.ptr (6,u2) 0)),(11,(di x4.1)),(12,(di x5))],G [((2,u1),some<|.box 33 (M7 p1)),((4,u1),some<|.box 25 [(di 0),(.d .nilS),(.d .nilS)]),((6,u2),some<|.box 25 (L0 x4.2))]⟩) (C5 (x4.1+1)) () _ hz7 (F3 W W) ?_
 intro x5 g10 z8 hz8 ez8
 unfold Kl at hz8
 refine A4<|A9<|sv W<|sv W<|sd W (D7 W)<|sv W<|A1<|cc W hz8 (fun c8 hz8=> ?_)<|fun c8 hz8=> ?_
 refine A8<|A4<|A7<|A4<|A9<|sd W (B3 W (gq W) W W)<|sv W<|bs hz8 fun v11 hv11 hz8=>B1 W W A3 (Wg _ _ _ hv11) (.inl W) (B9 (.d (bo (!v11))) W W (sv W<|gf W (fun _=>(B3 W (gq W) W W))<|gf W (fun _=>W)<|bs hz8 fun v12 hv12 hz8=> ?_))
 refine O3 _ (bo v12) (K5 W) (fun w6=>⟨_,[(.d (.agg (Cf x4.2))),(di x5)],_,_,(by simp only [A2 w6];rfl),W,A3,Wg _ _ _<|C2 w6 hv12,(.inl W)⟩) ?_
 refine N2 _ (.d (bo (!v12))) W (K5 W) (fun w7=>(by simp only [A2 w7];rfl)) ?_
 refine sd W (O2 W W<|fun hc=>A2<|J7 hc)<|A1<|cc W hz8 (fun c9 hz8=> ?_)<|fun c9 hz8=> ?_
 refine Zz W<|C0<|sv W<|sv W<|sv W<|A1<|E5 ?_
 cases hz8
 exact ⟨W,(),(F3 W W)⟩
 refine A8<|A4<|F4 W<|sd W (B3 W G_hit W W)<|sv W<|sv W<|bs hz8 fun _ hv13 hz8=>sd W (C8 W W hv13 W)<|sd W (D2 W hv13 W W)<|sv W<|sv W<|bs hz8 fun _ hv14 hz8=>sd W (C8 W W hv14 W)<|sd W (D2 W hv14 W W)<|bs hz8 fun _ hv15 hz8=>B1 W W A3 (IS _ _ _ _ hv15) (.inl W) (sv W<|gf W (fun _=>(B3 W G_hit W W))<|gf W (fun _=>(B3 W (gq W) W W))<|gf W (fun _=>(B3 W (gq W) W W))<|gf W (fun _=>W)<|gf W (fun _=>W)<|bs hz8 fun v16 hv16 hz8=> ?_)
 refine O3 _ (.list (List.map A5 v16)) (K5 W) (fun w13=>⟨_,[(.d (.agg (U5 p1))),(.d (.agg (Cf x4.2))),(.d (.agg (Cf x4.2))),(di x4.1),(di x5)],_,_,(by simp only [A2 w13];rfl),W,A3,OL _ _ _ _ _ _<|C2 w13 hv16,(.inl W)⟩) ?_
 refine gf W (fun w14=>(D7<|A2 w14))<|gf W (vb W W W)<|sd W (O2 W W<|fun hc=>A2<|J7 hc)<|A1<|cc W hz8 (fun c10 hz8=> ?_)<|fun c10 hz8=> ?_
 refine A9<|sv W<|Bc W (gq W) [(di 0),(.d .nilS),(.d .nilS)] W (sv W<|A1<|B0 ?_)
 cases hz8
 obtain rfl:=ez8 _ rfl
 refine ⟨nofun,F2 ?_⟩
 rw [bT]at hz6
 cases hz6
 obtain rfl:=ez6 _ rfl
 refine ⟨nofun,F2 ?_⟩
 rw [bT]at h
 cases h
 exact A6 (.inr W) (Po (L4 W G_hit (nl W) W) (B2 W) C1 C1) (.tup (.cons (.agg (ca W<|.cons ⟨DLe.nil,W⟩ (.cons ⟨DLe.nil,W⟩ .nil))) A3))
 refine A8<|E2<|C0<|sv W<|sv W<|sv W<|A1<|E5 ?_
 cases hz8
 exact ⟨W,(),(F3 W W)⟩
 refine C6 W ?_
 cases hz8
 obtain rfl:=ez8 _ rfl
 refine ⟨nofun,C4 W<|Aj ?_⟩
 exact ⟨_,(),W,(F3 W W)⟩
 rintro _ ⟨y5,g9,rfl,q4⟩
 rw [bS]at hz6
 refine E2<|B4 q4<|C0<|sv W<|sv W<|sv W<|A1<|E5 ?_
 cases hz6
 exact ⟨W,(),(F3 W W)⟩
 refine C6 W ?_
 cases hz6
 obtain rfl:=ez6 _ rfl
 refine ⟨nofun,C4 W<|Aj ?_⟩
 exact ⟨_,(),W,(F3 W W)⟩
 rintro _ ⟨y4,g7,rfl,q5⟩
 rw [bS]at h
 refine B4 q5<|A9<|sd W (B3 W (gq W) W W)<|Bc W G_hit (L0 y4) W (sv W<|A1<|B0 ?_)
 cases h
 exact A6 (.inr W) (Po (L4 W G_hit (nl W) W) (B2 W) C1 C1) (.refl _)
def Lr (p1:State)(p2:State)(x3:Int):Option (Stp Int (Sum Unit Bool)):=
  cond (decide (x3< (p1.In.length:Int))) ((B7 p1.In x3).bind fun v5=>(B7 p2.In x3).bind fun v6=>cond (!(v5.Agent_==v6.Agent_&& (v5.Zone_==v6.Zone_&& (v5.Since==v6.Since&& (v5.Rank==v6.Rank&&true))))) (some (.out (.inr false))) (some (.go (C5 (x3+1))))) (some (.out (.inl ())))
def Ik (v1:Agent)(v2:Agent)(x2:Int):Option (Stp Int (Sum Unit Bool)):=
  cond (decide (x2< (v1.Route.length:Int))) ((B7 v1.Route x2).bind fun v3=>(B7 v2.Route x2).bind fun v4=>cond (v3 !=v4) (some (.out (.inr false))) (some (.go (C5 (x2+1))))) (some (.out (.inl ())))
def Ls (p1:State)(p2:State)(x1:Int):Option (Stp Int (Sum Unit Bool)):=
  cond (decide (x1< (p1.Agents.length:Int))) ((B7 p1.Agents x1).bind fun v1=>(B7 p2.Agents x1).bind fun v2=>cond ((((((((v1.Route.length:Int) !=(v2.Route.length:Int))||(v1.S !=v2.S))||(v1.V !=v2.V))||(v1.Len !=v2.Len))||(v1.Begin !=v2.Begin))||(!(v1.Obey==v2.Obey)))||(!(v1.Gone==v2.Gone))) (some (.out (.inr false))) (thenS (loop (Ik v1 v2) 0) (fun _=>some (.go (C5 (x1+1)))) (fun r=>some (.out (.inr r))))) (some (.out (.inl ())))
def Wj (p1:State)(p2:State):Option Bool:=
  cond (((p1.Tick !=p2.Tick)||((p1.Agents.length:Int) !=(p2.Agents.length:Int)))||((p1.In.length:Int) !=(p2.In.length:Int))) (some false) (thenS (loop (Ls p1 p2) 0) (fun _=>thenS (loop (Lr p1 p2) 0) (fun _=>some true) (fun r=>some r)) (fun r=>some r))
theorem QB(p1 p2 r)(h:Wj p1 p2=some r):PCall Tryz.prog 26 [(.agg (Cf p1)),(.agg (Cf p2))] (bo r):=by
 refine C3 (fk Tryz.func26 Tryz.ntmps26 m0 (by with_unfolding_all rfl)) (nl W) ?_
 unfold Wj at h
 refine B4 (s0:=⟨T [(0,(.d _)),(1,(.d _))],G []⟩) (F3 W W) ?_
 refine lr<|fun u1 _=>sm W<|sm W<|sv W<|A1<|A4<|A9<|sq W<|sl W (gq W) W (sq W<|sl W G_hit W<|sv W<|sv W<|gp W (K5 W) (fun _=>W) (gf W (vl W (gq W) W)<|gf W (fun w3=>(D7<|A2 w3))<|gp W (K5 W) (fun _=>W) (gf W (vl W G_hit W)<|gf W (fun w6=>(D7<|A2 w6))<|gf W (fun w7=>(N1 (A2 w7) (A2 w7) W))<|sd W (O2 W W<|fun hc=>A2<|J7 hc)<|sv W<|gp W (K5 W) (fun _=>W) (gf W (vl W (gq W) W)<|gf W (fun w10=>(D7<|A2 w10))<|gp W (K5 W) (fun _=>W) (gf W (vl W G_hit W)<|gf W (fun w13=>(D7<|A2 w13))<|gf W (fun w14=>(N1 (A2 w14) (A2 w14) W))<|sd W (O2 W W<|fun hc=>A2<|J7 hc)<|A1<|cc W h (fun c1 h=> ?_)<|fun c1 h=> ?_)))))
 refine A9<|sv W<|A1<|B0 ?_
 cases h
 exact A6 (.inr W) (B6 (B2 W) C1) (.refl _)
 refine A8<|A4<|A9<|sv W<|A1<|js h fun z1 hz1 h=>E0 (fun s=> ∃(y1:Unit) (g1:Unit),z1= .inl y1∧Sb ⟨T [(2,(.ptr (2,u1) 0)),(3,(.ptr (3,u1) 0))],G [((2,u1),some<|.box 25 (L0 p1)),((3,u1),some<|.box 25 (L0 p2))]⟩ s) ?_ ?_
 refine A7<|E3 (Ls p1 p2) (fun (x1:Int) (g2:Unit)=>⟨T [(2,(.ptr (2,u1) 0)),(3,(.ptr (3,u1) 0)),(5,(di x1))],G [((2,u1),some<|.box 25 (L0 p1)),((3,u1),some<|.box 25 (L0 p2))]⟩) 0 () _ hz1 (F3 W W) ?_
 intro x1 g2 z2 hz2 ez2
 unfold Ls at hz2
 refine A4<|A9<|sv W<|sq W<|sl W G_hit W<|sd W (D7 W)<|sv W<|A1<|cc W hz2 (fun c2 hz2=> ?_)<|fun c2 hz2=> ?_
 refine A8<|A4<|A7<|A4<|AA fun u6 _=>X1 (.ptr _ _) W W (X1 (.d _) W (T6 W G_hit W) (X1 (.d _) W W (bs hz2 fun v1 hv1 hz2=>X1 (.d _) W (C8 W W hv1 W) (X1 (.d _) W (D2 W hv1 W W) (X1 (.ptr _ _) W W (X1 (.d _) W (T6 W (gq W) W) (X1 (.d _) W W (bs hz2 fun v2 hv2 hz2=>X1 (.d _) W (C8 W W hv2 W) (X1 (.d _) W (D2 W hv2 W W) (NR (.ptr _ _) (.box _ _) W W (NR (.ptr _ _) (.box _ _) W W (AB _ _ _ _ _ W W W (gq W) (nl W) (X2 v1) W (AB _ _ _ _ _ W W W (gq W) (nl W) (X2 v2) W (NQ ⟨W,?_⟩))))))))))))))
 refine A4<|A9<|sq W<|sl W (gq W) W (sd W (D7 W)<|sq W<|sl W G_hit W<|sd W (D7 W)<|sv W<|sv W<|gp W (K5 W) (fun _=>W) (gf W (vl W (gq W) W)<|gp W (K5 W) (fun _=>W) (gf W (vl W G_hit W)<|gf W (fun w19=>(N1 (A2 w19) (A2 w19) W))<|sd W (O2 W W<|fun hc=>A2<|J7 hc)<|sv W<|gp W (K5 W) (fun _=>W) (gf W (vl W (gq W) W)<|gp W (K5 W) (fun _=>W) (gf W (vl W G_hit W)<|gf W (fun w24=>(N1 (A2 w24) (A2 w24) W))<|sd W (O2 W W<|fun hc=>A2<|J7 hc)<|sv W<|gp W (K5 W) (fun _=>W) (gf W (vl W (gq W) W)<|gp W (K5 W) (fun _=>W) (gf W (vl W G_hit W)<|gf W (fun w29=>(N1 (A2 w29) (A2 w29) W))<|sd W (O2 W W<|fun hc=>A2<|J7 hc)<|sv W<|gp W (K5 W) (fun _=>W) (gf W (vl W (gq W) W)<|gp W (K5 W) (fun _=>W) (gf W (vl W G_hit W)<|gf W (fun w34=>(N1 (A2 w34) (A2 w34) W))<|sd W (O2 W W<|fun hc=>A2<|J7 hc)<|sv W<|gp W (K5 W) (fun _=>W) (gf W (vl W (gq W) W)<|gp W (K5 W) (fun _=>W) (gf W (vl W G_hit W) ?_)))))))))))
 refine N2 _ (.d (bo (!(v1.Obey==v2.Obey)))) W (K5 W) (fun w39=>(by simp only [A2 w39];rfl)) ?_
 refine sd W (O2 W W<|fun hc=>A2<|J7 hc)<|sv W<|gp W (K5 W) (fun _=>W) (gf W (vl W (gq W) W)<|gp W (K5 W) (fun _=>W) (gf W (vl W G_hit W) ?_))
 refine N2 _ (.d (bo (!(v1.Gone==v2.Gone)))) W (K5 W) (fun w44=>(by simp only [A2 w44];rfl)) ?_
 refine sd W (O2 W W<|fun hc=>A2<|J7 hc)<|A1<|cc W hz2 (fun c3 hz2=> ?_)<|fun c3 hz2=> ?_
 refine A9<|sv W<|A1<|B0 ?_
 cases hz2
 obtain rfl:=ez2 _ rfl
 refine ⟨nofun,F2 ?_⟩
 rw [bT]at h
 cases h
 exact A6 (.inr W) (B6 (B2 W) C1) (.refl _)
 refine A8<|A9<|sv W<|A1<|js hz2 fun z3 hz3 hz2=>E0 (fun s=> ∃(y2:Unit) (g3:Unit),z3= .inl y2∧Sb ⟨T [(2,(.ptr (2,u1) 0)),(3,(.ptr (3,u1) 0)),(5,(di x1))],G [((2,u1),some<|.box 25 (L0 p1)),((3,u1),some<|.box 25 (L0 p2))]⟩ s) ?_ ?_
 refine A7<|E3 (Ik v1 v2) (fun (x2:Int) (g4:Unit)=>⟨T [(2,(.ptr (2,u1) 0)),(3,(.ptr (3,u1) 0)),(5,(di x1)),(6,(.ptr (6,u6) 0)),(7,(.ptr (7,u6) 0)),(8,(di x2))],G [((2,u1),some<|.box 25 (L0 p1)),((3,u1),some<|.box 25 (L0 p2)),((6,u6),some<|.box 45 (X2 v1)),((7,u6),some<|.box 45 (X2 v2))]⟩) 0 () _ hz3 (F3 W W) ?_
 intro x2 g4 z4 hz4 ez4
 unfold Ik at hz4
 refine A4<|A9<|sv W<|sq W<|sl W (gq W) W (sd W (D7 W)<|sv W<|A1<|cc W hz4 (fun c4 hz4=> ?_)<|fun c4 hz4=> ?_)
 refine A8<|A4<|A7<|A4<|F4 W<|sq W<|sl W (gq W) W (sv W<|bs hz4 fun _ hv3 hz4=>sd W (C8 W W hv3 W)<|sd W (D6 W hv3 W)<|sq W<|sl W (gq W) W (sv W<|bs hz4 fun _ hv4 hz4=>sd W (C8 W W hv4 W)<|sd W (D6 W hv4 W)<|sv W<|A1<|cc W hz4 (fun c5 hz4=> ?_)<|fun c5 hz4=> ?_))
 refine A9<|sv W<|A1<|B0 ?_
 cases hz4
 obtain rfl:=ez4 _ rfl
 refine ⟨nofun,F2 ?_⟩
 rw [bT]at hz2
 cases hz2
 obtain rfl:=ez2 _ rfl
 refine ⟨nofun,F2 ?_⟩
 rw [bT]at h
 cases h
 exact A6 (.inr W) (B6 (B2 W) C1) (.refl _)
 refine A8<|E2<|C0<|sv W<|sv W<|sv W<|A1<|E5 ?_
 cases hz4
 exact ⟨W,(),(F3 W W)⟩
 refine C6 W ?_
 cases hz4
 obtain rfl:=ez4 _ rfl
 refine ⟨nofun,C4 W<|Aj ?_⟩
 exact ⟨_,(),W,(F3 W W)⟩
 rintro _ ⟨y2,g3,rfl,q1⟩
 rw [bS]at hz2
 refine E2<|B4 q1<|C0<|sv W<|sv W<|sv W<|A1<|E5 ?_
 cases hz2
 exact ⟨W,(),(F3 W W)⟩
 refine C6 W ?_
 cases hz2
 obtain rfl:=ez2 _ rfl
 refine ⟨nofun,C4 W<|Aj ?_⟩
 exact ⟨_,(),W,(F3 W W)⟩
 rintro _ ⟨y1,g1,rfl,q2⟩
 rw [bS]at h
 refine B4 q2<|A4<|A9<|sv W<|A1<|js h fun z5 hz5 h=>E0 (fun s=> ∃(y3:Unit) (g5:Unit),z5= .inl y3∧Sb ⟨T [],G []⟩ s) ?_ ?_
 refine A7<|E3 (Lr p1 p2) (fun (x3:Int) (g6:Unit)=>⟨T [(2,(.ptr (2,u1) 0)),(3,(.ptr (3,u1) 0)),(9,(di x3))],G [((2,u1),some<|.box 25 (L0 p1)),((3,u1),some<|.box 25 (L0 p2))]⟩) 0 () _ hz5 (F3 W W) ?_
 intro x3 g6 z6 hz6 ez6
 unfold Lr at hz6
 refine A4<|A9<|sv W<|sq W<|sl W G_hit W<|sd W (D7 W)<|sv W<|A1<|cc W hz6 (fun c6 hz6=> ?_)<|fun c6 hz6=> ?_
 refine A8<|A4<|A7<|A4<|F4 W<|sq W<|sl W G_hit W<|sv W<|bs hz6 fun v5 hv5 hz6=>sd W (C8 W W hv5 W)<|sd W (D2 W hv5 W W)<|sq W<|sl W (gq W) W (sv W<|bs hz6 fun v6 hv6 hz6=>sd W (C8 W W hv6 W)<|sd W (D2 W hv6 W W)<|B9 (.d (bo (!(v5.Agent_==v6.Agent_&& (v5.Zone_==v6.Zone_&& (v5.Since==v6.Since&& (v5.Rank==v6.Rank&&true))))))) W W (A1<|cc W hz6 (fun c7 hz6=> ?_)<|fun c7 hz6=> ?_))
 refine A9<|sv W<|A1<|B0 ?_
 cases hz6
 obtain rfl:=ez6 _ rfl
 refine ⟨nofun,F2 ?_⟩
 rw [bT]at h
 cases h
 exact A6 (.inr W) (B6 (B2 W) C1) (.refl _)
 refine A8<|E2<|C0<|sv W<|sv W<|sv W<|A1<|E5 ?_
 cases hz6
 exact ⟨W,(),(F3 W W)⟩
 refine C6 W ?_
 cases hz6
 obtain rfl:=ez6 _ rfl
 refine ⟨nofun,C4 W<|Aj ?_⟩
 exact ⟨_,(),W,(F3 W W)⟩
 rintro _ ⟨y3,g5,rfl,q3⟩
 rw [bS]at h
 refine B4 q3<|A9<|sv W<|A1<|B0 ?_
 cases h
 exact A6 (.inr W) (B6 (B2 W) C1) (.refl _)
def Mg (p1:Int)(p2:(List Agent)):Option Bool:=
  (Sz (State.mk 0 p2 [])).bind fun v1=>cond (!v1) ((Jv).bind fun v2=>some v2) ((EJ p1).bind fun v3=>(Nt v3 p2).bind fun v4=>(Zj v3 p2).bind fun v5=>((cond (v4.2==v5.2) (Wj v4.1 v5.1) (some default))).bind fun v6=>((cond ((v4.2==v5.2)&&v6) (Jv) (some default))).bind fun v7=>some (((v4.2==v5.2)&&v6)&&v7))
theorem DL(p1 p2 r)(h:Mg p1 p2=some r):PCall Tryz.prog 4 [(i64 p1),(.list (List.map C9 p2))] (bo r):=by
 refine C3 (fk Tryz.func4 Tryz.ntmps4 m0 (by with_unfolding_all rfl)) (nl W) ?_
 unfold Mg at h
 refine B4 (s0:=⟨T [(0,(.d _)),(1,(.d _))],G []⟩) (F3 W W) ?_
 refine A9<|sv W<|A1<|A4<|A9<|sv W<|sv W<|bs h fun v1 hv1 h=>B1 W W (.cons (.agg (ca W<|ca W<|.cons ⟨DLe.nil,W⟩ .nil)) .nil) (NZ _ _ hv1) (.inl W) (B9 (.d (bo (!v1))) W W (A1<|cc W h (fun c1 h=> ?_)<|fun c1 h=> ?_))
 refine A9<|bs h fun _ hv2 h=>B1 W W A3 (DI _ hv2) (.inl W) (sv W<|A1<|B0 ?_)
 cases h
 exact A6 (.inr W) (B6 (B2 W) C1) (.refl _)
 refine A8<|A9<|sv W<|bs h fun v3 hv3 h=>B1 W W A3 (YK _ _ hv3) (.inl W) (sm W<|Bc W G_hit (M7 v3) W (A1<|A9<|sd W (B3 W G_hit W W)<|sv W<|bs h fun v4 hv4 h=>B1 W W A3 (IP _ _ _ hv4) (.inl W) (sv W<|sv W<|sv W<|sm W<|Bc W G_hit (L0 v4.1) W (sv W<|A1<|A9<|sd W (B3 W (gq W) W W)<|sv W<|bs h fun v5 hv5 h=>B1 W W A3 (TH _ _ _ hv5) (.inl W) (sv W<|sv W<|sv W<|sm W<|Bc W G_hit (L0 v5.1) W (sv W<|A1<|A9<|sv W<|sv W<|sv W<|sv W<|gt W (fun _=>(B3 W (gq W) W W))<|gt W (fun _=>(B3 W G_hit W W))<|bs h fun v6 hv6 h=> ?_))))))
 refine O3 _ (bo v6) (M8 W) (fun w3=>⟨_,[(.d (.agg (Cf v4.1))),(.d (.agg (Cf v5.1)))],_,_,(by simp only [A2 w3];rfl),W,A3,QB _ _ _<|C2 w3 hv6,(.inl W)⟩) ?_
 refine sa W W W<|sv W<|bs h fun v7 hv7 h=>O3 _ (bo v7) (M8 W) (fun w4=>⟨_,_,_,_,W,W,A3,DI _<|C2 w4 hv7,(.inl W)⟩) (sa W W W<|sv W<|A1<|B0 ?_)
 cases h
 exact A6 (.inr W) (B6 (B2 W) C1) (.refl _)
end
end Go.Abs.World
