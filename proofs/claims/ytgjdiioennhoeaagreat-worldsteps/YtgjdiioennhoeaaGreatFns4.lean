/-
  The functions, part 4.
-/
import Derived.Test.YtgjdiioennhoeaaGreatFns3
set_option maxRecDepth 20000
set_option maxHeartbeats 4000000
set_option linter.unusedVariables false
namespace Go.Abs.World
noncomputable section
open Go Go.Abs Go.Proofs
attribute [local irreducible] M5 Kb Fu
def Kn (p1:Map)(x4:(Int×Int)):Option (Stp (Int×Int) Int):=
  cond ((decide (x4.2< (p1.Works.length:Int)))&& (x4.1==0)) ((B7 p1.Works x4.2).bind fun v8=>(Mu p1 v8).bind fun v9=>some (.go (v9,(C3 (x4.2+1))))) (some (.out x4.1))
def Ko (p1:Map)(x3:(Int×Int)):Option (Stp (Int×Int) Int):=
  cond ((decide (x3.2< (p1.Zones.length:Int)))&& (x3.1==0)) ((B7 p1.Zones x3.2).bind fun v6=>(Mt p1 v6).bind fun v7=>some (.go (v7,(C3 (x3.2+1))))) (some (.out x3.1))
def Kp (p1:Map)(x2:(Int×Int)):Option (Stp (Int×Int) Int):=
  cond ((decide (x2.2< (p1.Signals.length:Int)))&& (x2.1==0)) ((B7 p1.Signals x2.2).bind fun v4=>(Iu p1 v4).bind fun v5=>some (.go (v5,(C3 (x2.2+1))))) (some (.out x2.1))
def Hg (p1:Map)(x1:Int):Option (Stp Int (Sum Unit Int)):=
  cond (decide (x1< (p1.Lanes.length:Int))) ((Mr p1 x1).bind fun v2=>cond (v2 !=0) (some (.out (.inr v2))) (some (.go (C3 (x1+1))))) (some (.out (.inl ())))
def Ol (p1:Map):Option Int:=
  (Fy p1.Version 0 1099511627776).bind fun v1=>cond (!v1) (some 2) (cond ((p1.Lanes.length:Int)==0) (some 6) (cond ((((decide ((p1.Lanes.length:Int)>12))||(decide ((p1.Zones.length:Int)>12)))||(decide ((p1.Signals.length:Int)>4)))||(decide ((p1.Works.length:Int)>8))) (some 8) (thenS (loop (Hg p1) 0) (fun _=>(Ms p1).bind fun v3=>(loop (Kp p1) (v3,0)).bind fun y2=>(loop (Ko p1) (y2,0)).bind fun y3=>(loop (Kn p1) (y3,0)).bind fun y4=>some y4) (fun r=>some r))))
theorem Ye(p1 r)(h:Ol p1=some r):PCall Tryz.prog 76 [(.agg (S3 p1))] (i64 r):=by
 refine C4 (fk Tryz.func76 Tryz.ntmps76 m0 (by with_unfolding_all rfl)) (nl W) ?_
 unfold Ol at h
 refine B5 (s0:=⟨T [(0,(.d _))],G []⟩) (F0 W W) ?_
 refine lr<|fun u1 _=>sm W<|sv W<|A1<|A5<|A9<|sq W<|sl W G_hit W<|bs h fun v1 hv1 h=>B3 W W A3 (Ic _ _ _ _ hv1) (.inl W) (C0 (.d (bo (!v1))) W W (A1<|cc W h (fun c1 h=> ?_)<|fun c1 h=> ?_))
 refine A9<|sv W<|A1<|B0 ?_
 cases h
 exact A6 (.inr W) (B6 (B2 W) C2) (.refl _)
 refine A8<|A5<|A9<|sq W<|sl W G_hit W<|sd W (D5 W)<|sv W<|A1<|cc W h (fun c2 h=> ?_)<|fun c2 h=> ?_
 refine A9<|sv W<|A1<|B0 ?_
 cases h
 exact A6 (.inr W) (B6 (B2 W) C2) (.refl _)
 refine A8<|A5<|A9<|sq W<|sl W G_hit W<|sd W (D5 W)<|sv W<|sv W<|gp W (J9 W) (fun _=>W) (gf W (vl W G_hit W)<|gf W (fun w3=>(D5<|A2 w3))<|gf W (vb W W W)<|sd W (N7 W W<|fun hc=>A2<|I7 hc)<|sv W<|gp W (J9 W) (fun _=>W) (gf W (vl W G_hit W)<|gf W (fun w7=>(D5<|A2 w7))<|gf W (vb W W W)<|sd W (N7 W W<|fun hc=>A2<|I7 hc)<|sv W<|gp W (J9 W) (fun _=>W) (gf W (vl W G_hit W)<|gf W (fun w11=>(D5<|A2 w11))<|gf W (vb W W W)<|sd W (N7 W W<|fun hc=>A2<|I7 hc)<|A1<|cc W h (fun c3 h=> ?_)<|fun c3 h=> ?_)))
 refine A9<|sv W<|A1<|B0 ?_
 cases h
 exact A6 (.inr W) (B6 (B2 W) C2) (.refl _)
 refine A8<|A5<|A9<|sv W<|A1<|js h fun z1 hz1 h=>D8 (fun s=> ∃(y1:Unit) (g1:Unit),z1= .inl y1∧Sb ⟨T [(1,(.ptr (1,u1) 0))],G [((1,u1),some<|.box 33 (M7 p1))]⟩ s) ?_ ?_
 refine A7<|E2 (Hg p1) (fun (x1:Int) (g2:Unit)=>⟨T [(1,(.ptr (1,u1) 0)),(3,(di x1))],G [((1,u1),some<|.box 33 (M7 p1))]⟩) 0 () _ hz1 (F0 W W) ?_
 intro x1 g2 z2 hz2 ez2
 unfold Hg at hz2
 refine A5<|A9<|sv W<|sq W<|sl W G_hit W<|sd W (D5 W)<|sv W<|A1<|cc W hz2 (fun c4 hz2=> ?_)<|fun c4 hz2=> ?_
 refine A8<|A5<|A7<|A9<|sd W (B1 W G_hit W W)<|sv W<|bs hz2 fun _ hv2 hz2=>B3 W W A3 (JJ _ _ _ hv2) (.inl W) (sv W<|A1<|A9<|sv W<|sv W<|A1<|cc W hz2 (fun c5 hz2=> ?_)<|fun c5 hz2=> ?_)
 refine A9<|sv W<|sv W<|A1<|B0 ?_
 cases hz2
 obtain rfl:=ez2 _ rfl
 refine ⟨nofun,F2 ?_⟩
 rw [bY]at h
 cases h
 exact A6 (.inr W) (B6 (B2 W) C2) (.refl _)
 refine A8<|E4<|C1<|sv W<|sv W<|sv W<|A1<|E3 ?_
 cases hz2
 exact ⟨W,(),(F0 W W)⟩
 refine C9 W ?_
 cases hz2
 obtain rfl:=ez2 _ rfl
 refine ⟨nofun,C6 W<|Y7 ?_⟩
 exact ⟨_,(),W,(F0 W W)⟩
 rintro _ ⟨y1,g1,rfl,q1⟩
 rw [bX]at h
 refine B5 q1<|A9<|sd W (B1 W G_hit W W)<|bs h fun v3 hv3 h=>B3 W W A3 (JK _ _ hv3) (.inl W) (sv W<|A1<|A5<|A9<|sv W<|A1<|bs h fun y2 hy2 h=>D8 (fun s=> ∃g3:Unit,Sb ⟨T [(1,(.ptr (1,u1) 0)),(5,(di y2))],G [((1,u1),some<|.box 33 (M7 p1))]⟩ s) ?_ ?_)
 refine A7<|E2 (Kp p1) (fun (x2:(Int×Int)) (g4:Unit)=>⟨T [(1,(.ptr (1,u1) 0)),(5,(di x2.1)),(6,(di x2.2))],G [((1,u1),some<|.box 33 (M7 p1))]⟩) (v3,0) () _ hy2 (F0 W W) ?_
 intro x2 g4 z3 hz3 ez3
 unfold Kp at hz3
 refine A5<|A9<|sv W<|sq W<|sl W G_hit W<|sd W (D5 W)<|sv W<|sv W<|gt W (fun _=>W)<|gt W (vb W W W)<|sa W W W<|A1<|cc W hz3 (fun c6 hz3=> ?_)<|fun c6 hz3=> ?_
 refine A8<|A5<|A7<|F1 W<|sd W (B1 W G_hit W W)<|sq W<|sl W G_hit W<|sv W<|bs hz3 fun _ hv4 hz3=>sd W (C5 W W hv4 W)<|sd W (D3 W hv4 W W)<|bs hz3 fun _ hv5 hz3=>B3 W W A3 (FS _ _ _ hv5) (.inl W) (sv W<|A1<|E4<|C1<|sv W<|sv W<|sv W<|A1<|E3 ?_)
 cases hz3
 exact ⟨W,(),(F0 W W)⟩
 refine C9 W ?_
 cases hz3
 obtain rfl:=ez3 _ rfl
 refine ⟨nofun,C6 W<|Y7 ?_⟩
 exact ⟨(),(F0 W W)⟩
 rintro _ ⟨g3,q2⟩
 refine B5 q2<|A5<|A9<|sv W<|A1<|bs h fun y3 hy3 h=>D8 (fun s=> ∃g5:Unit,Sb ⟨T [(1,(.ptr (1,u1) 0)),(5,(di y3))],G [((1,u1),some<|.box 33 (M7 p1))]⟩ s) ?_ ?_
 refine A7<|E2 (Ko p1) (fun (x3:(Int×Int)) (g6:Unit)=>⟨T [(1,(.ptr (1,u1) 0)),(5,(di x3.1)),(7,(di x3.2))],G [((1,u1),some<|.box 33 (M7 p1))]⟩) (y2,0) () _ hy3 (F0 W W) ?_
 intro x3 g6 z4 hz4 ez4
 unfold Ko at hz4
 refine A5<|A9<|sv W<|sq W<|sl W G_hit W<|sd W (D5 W)<|sv W<|sv W<|gt W (fun _=>W)<|gt W (vb W W W)<|sa W W W<|A1<|cc W hz4 (fun c7 hz4=> ?_)<|fun c7 hz4=> ?_
 refine A8<|A5<|A7<|F1 W<|sd W (B1 W G_hit W W)<|sq W<|sl W G_hit W<|sv W<|bs hz4 fun _ hv6 hz4=>sd W (C5 W W hv6 W)<|sd W (D3 W hv6 W W)<|bs hz4 fun _ hv7 hz4=>B3 W W A3 (JL _ _ _ hv7) (.inl W) (sv W<|A1<|E4<|C1<|sv W<|sv W<|sv W<|A1<|E3 ?_)
 cases hz4
 exact ⟨W,(),(F0 W W)⟩
 refine C9 W ?_
 cases hz4
 obtain rfl:=ez4 _ rfl
 refine ⟨nofun,C6 W<|Y7 ?_⟩
 exact ⟨(),(F0 W W)⟩
 rintro _ ⟨g5,q3⟩
 refine B5 q3<|A5<|A9<|sv W<|A1<|bs h fun y4 hy4 h=>D8 (fun s=> ∃g7:Unit,Sb ⟨T [(5,(di y4))],G []⟩ s) ?_ ?_
 refine A7<|E2 (Kn p1) (fun (x4:(Int×Int)) (g8:Unit)=>⟨T [(1,(.ptr (1,u1) 0)),(5,(di x4.1)),(8,(di x4.2))],G [((1,u1),some<|.box 33 (M7 p1))]⟩) (y3,0) () _ hy4 (F0 W W) ?_
 intro x4 g8 z5 hz5 ez5
 unfold Kn at hz5
 refine A5<|A9<|sv W<|sq W<|sl W G_hit W<|sd W (D5 W)<|sv W<|sv W<|gt W (fun _=>W)<|gt W (vb W W W)<|sa W W W<|A1<|cc W hz5 (fun c8 hz5=> ?_)<|fun c8 hz5=> ?_
 refine A8<|A5<|A7<|F1 W<|sd W (B1 W G_hit W W)<|sq W<|sl W G_hit W<|sv W<|bs hz5 fun _ hv8 hz5=>sd W (C5 W W hv8 W)<|sd W (D3 W hv8 W W)<|bs hz5 fun _ hv9 hz5=>B3 W W A3 (JM _ _ _ hv9) (.inl W) (sv W<|A1<|E4<|C1<|sv W<|sv W<|sv W<|A1<|E3 ?_)
 cases hz5
 exact ⟨W,(),(F0 W W)⟩
 refine C9 W ?_
 cases hz5
 obtain rfl:=ez5 _ rfl
 refine ⟨nofun,C6 W<|Y7 ?_⟩
 exact ⟨(),(F0 W W)⟩
 rintro _ ⟨g7,q4⟩
 refine B5 q4<|A9<|sv W<|sv W<|A1<|B0 ?_
 cases h
 exact A6 (.inr W) (B6 (B2 W) C2) (.refl _)
def Sp (p1:(List Int))(p2:Int)(x1:Int):Option (Stp Int (Sum Unit Bool)):=
  cond (decide (x1< (p1.length:Int))) ((B7 p1 x1).bind fun v1=>cond (v1==p2) (some (.out (.inr true))) (some (.go (C3 (x1+1))))) (some (.out (.inl ())))
def Ts (p1:(List Int))(p2:Int):Option Bool:=
  thenS (loop (Sp p1 p2) 0) (fun _=>some false) (fun r=>some r)
theorem CR(p1 p2 r)(h:Ts p1 p2=some r):PCall Tryz.prog 190 [(.list (List.map A4 p1)),(i64 p2)] (bo r):=by
 refine C4 (fk Tryz.func190 Tryz.ntmps190 m0 (by with_unfolding_all rfl)) (nl W) ?_
 unfold Ts at h
 refine B5 (s0:=⟨T [(0,(.d _)),(1,(.d _))],G []⟩) (F0 W W) ?_
 refine A9<|sv W<|A1<|A5<|A9<|sv W<|A1<|js h fun z1 hz1 h=>D8 (fun s=> ∃(y1:Unit) (g1:Unit),z1= .inl y1∧Sb ⟨T [],G []⟩ s) ?_ ?_
 refine A7<|E2 (Sp p1 p2) (fun (x1:Int) (g2:Unit)=>⟨T [(0,(dl A4 p1)),(1,(di p2)),(5,(di x1))],G []⟩) 0 () _ hz1 (F0 W W) ?_
 intro x1 g2 z2 hz2 ez2
 unfold Sp at hz2
 refine A5<|A9<|sv W<|sv W<|sd W (D5 W)<|sv W<|A1<|cc W hz2 (fun c1 hz2=> ?_)<|fun c1 hz2=> ?_
 refine A8<|A5<|A7<|A9<|sv W<|sv W<|bs hz2 fun _ hv1 hz2=>sd W (C5 W W hv1 W)<|sd W (C7 W hv1 W)<|sv W<|sv W<|A1<|cc W hz2 (fun c2 hz2=> ?_)<|fun c2 hz2=> ?_
 refine A9<|sv W<|A1<|B0 ?_
 cases hz2
 obtain rfl:=ez2 _ rfl
 refine ⟨nofun,F2 ?_⟩
 rw [bY]at h
 cases h
 exact A6 (.inr W) (B6 (B2 W) C2) (.refl _)
 refine A8<|E4<|C1<|sv W<|sv W<|sv W<|A1<|E3 ?_
 cases hz2
 exact ⟨W,(),(F0 W W)⟩
 refine C9 W ?_
 cases hz2
 obtain rfl:=ez2 _ rfl
 refine ⟨nofun,C6 W<|Y7 ?_⟩
 exact ⟨_,(),W,(F0 W W)⟩
 rintro _ ⟨y1,g1,rfl,q1⟩
 rw [bX]at h
 refine B5 q1<|A9<|sv W<|A1<|B0 ?_
 cases h
 exact A6 (.inr W) (B6 (B2 W) C2) (.refl _)
def Mv (p1:Map)(p2:Int)(x1:((List Int)×Int)):Option (Stp ((List Int)×Int) (List Int)):=
  cond (decide (x1.2< (p1.Lanes.length:Int))) ((B7 p1.Lanes x1.2).bind fun v1=>(Ts v1.Next p2).bind fun v2=>cond v2 ((Z2 x1.1 [x1.2]).bind fun v3=>some (.go (v3,(C3 (x1.2+1))))) (some (.go (x1.1,(C3 (x1.2+1)))))) (some (.out x1.1))
def Sq (p1:Map)(p2:Int):Option (List Int):=
  (loop (Mv p1 p2) ([],0)).bind fun y1=>some y1
theorem OY(p1 p2 r)(h:Sq p1 p2=some r):PCall Tryz.prog 189 [(.agg (S3 p1)),(i64 p2)] (.list (List.map A4 r)):=by
 refine C4 (fk Tryz.func189 Tryz.ntmps189 (fun r=>if r==6 then [1002]else []) (by with_unfolding_all rfl)) (nl W) ?_
 unfold Sq at h
 refine B5 (s0:=⟨T [(0,(.d _)),(1,(.d _))],G []⟩) (F0 W W) ?_
 refine lr<|fun u1 _=>sm W<|sv W<|A1<|A9<|sv W<|A1<|A5<|A9<|sv W<|A1<|bs h fun y1 hy1 h=>D8 (fun s=> ∃g1:Nat,Sb ⟨T [(5,(oS y1 (25,g1)))],G [((25,g1),oB 3 1 A4 y1)]⟩ s) ?_ ?_
 refine A7<|E2 (Mv p1 p2) (fun (x1:((List Int)×Int)) (g2:Nat)=>⟨T [(1,(di p2)),(2,(.ptr (2,u1) 0)),(5,(oS x1.1 (25,g2))),(6,(di x1.2))],G [((2,u1),some<|.box 33 (M7 p1)),((25,g2),oB 3 1 A4 x1.1)]⟩) ([],0) 0 _ hy1 (E0 (Bv W)<|B4 G_hit (.of W)<|W0 trivial) ?_
 intro x1 g2 z1 hz1 ez1
 unfold Mv at hz1
 refine A5<|A9<|sv W<|sq W<|sl W G_hit W<|sd W (D5 W)<|sv W<|A1<|cc W hz1 (fun c1 hz1=> ?_)<|fun c1 hz1=> ?_
 refine A8<|A5<|A7<|A9<|sq W<|sl W G_hit W<|sv W<|bs hz1 fun _ hv1 hz1=>sd W (C5 W W hv1 W)<|sv W<|sd W (C7 W hv1 W)<|sv W<|bs hz1 fun _ hv2 hz1=>B3 W W A3 (CR _ _ _ hv2) (.inl W) (A1<|cc W hz1 (fun c2 hz1=> ?_)<|fun c2 hz1=> ?_)
 refine Ew fun u6 _=>C0 (oS x1.1 (25,g2)) W W (sv W<|C0 (dl A4 [x1.2]) W W (bs hz1 fun _ hv3 hz1=>U1 A4 (25,g2) x1.1 x1.2 [] _ (L8<|fun _=>W) W (gq W) hv3 (ss W<|A1<|E4<|C1<|sv W<|sv W<|sv W<|A1<|E3 ?_)))
 cases hz1
 exact ⟨W,u6,(E0 ⟨.of W, .of W,(.of (Am<|Bb hv3).symm), .of W,trivial⟩<|sg W<|O9 G_hit trivial)⟩
 refine A8<|E4<|C1<|sv W<|sv W<|sv W<|A1<|E3 ?_
 cases hz1
 exact ⟨W,g2,(E0 (Bv W)<|B4 G_hit (.of W)<|B9 (gq W) trivial)⟩
 refine C9 W ?_
 cases hz1
 obtain rfl:=ez1 _ rfl
 refine ⟨nofun,C6 W<|Y7 ?_⟩
 exact ⟨g2,(E0 ⟨.of W,trivial⟩<|B9 (gq W) trivial)⟩
 rintro _ ⟨g1,q1⟩
 refine B5 q1<|A9<|C0 (oS y1 (25,g1)) W W (C0 (oS y1 (25,g1)) W W (A1<|B0 ?_))
 cases h
 exact A6 (.inr W) (B6 (B2 W)<|Y5 G_hit) Y4
def Br (p1:Map)(p2:(List Int))(x1:Int):Option (Stp Int (Sum Unit Int)):=
  cond (decide (x1< (p2.length:Int))) ((B7 p2 (C3 (x1 - 1))).bind fun v6=>(B7 p1.Lanes v6).bind fun v7=>(B7 p2 x1).bind fun v8=>(Ts v7.Next v8).bind fun v9=>cond (!v9) (some (.out (.inr 13))) (some (.go (C3 (x1+1))))) (some (.out (.inl ())))
def Cm (p1:Map)(p2:(List Int)):Option Int:=
  (Ol p1).bind fun v1=>cond (v1 !=0) (some v1) (((cond (!(((p2.length:Int)==0)||(decide ((p2.length:Int)>8)))) (B7 p2 0) (some default))).bind fun v2=>((cond (!((((p2.length:Int)==0)||(decide ((p2.length:Int)>8)))||(decide (v2<0)))) (B7 p2 0) (some default))).bind fun v3=>((cond (!(((((p2.length:Int)==0)||(decide ((p2.length:Int)>8)))||(decide (v2<0)))||(decide (v3≥(p1.Lanes.length:Int))))) (B7 p2 0) (some default))).bind fun v4=>((cond (!(((((p2.length:Int)==0)||(decide ((p2.length:Int)>8)))||(decide (v2<0)))||(decide (v3≥(p1.Lanes.length:Int))))) (Sq p1 v4) (some default))).bind fun v5=>cond ((((((p2.length:Int)==0)||(decide ((p2.length:Int)>8)))||(decide (v2<0)))||(decide (v3≥(p1.Lanes.length:Int))))||(decide ((v5.length:Int)>0))) (some 13) (thenS (loop (Br p1 p2) 1) (fun _=>some 0) (fun r=>some r)))
theorem Kg(p1 p2 r)(h:Cm p1 p2=some r):PCall Tryz.prog 102 [(.agg (S3 p1)),(.list (List.map A4 p2))] (i64 r):=by
 refine C4 (fk Tryz.func102 Tryz.ntmps102 m0 (by with_unfolding_all rfl)) (nl W) ?_
 unfold Cm at h
 refine B5 (s0:=⟨T [(0,(.d _)),(1,(.d _))],G []⟩) (F0 W W) ?_
 refine lr<|fun u1 _=>sm W<|sv W<|A1<|A9<|sd W (B1 W G_hit W W)<|bs h fun _ hv1 h=>B3 W W A3 (Ye _ _ hv1) (.inl W) (sv W<|A1<|A5<|A9<|sv W<|sv W<|A1<|cc W h (fun c1 h=> ?_)<|fun c1 h=> ?_)
 refine A9<|sv W<|sv W<|A1<|B0 ?_
 cases h
 exact A6 (.inr W) (B6 (B2 W) C2) (.refl _)
 refine A8<|A5<|A5<|F1 W<|sv W<|sd W (D5 W)<|sv W<|sv W<|gf W (fun _=>W)<|gf W (fun w2=>(D5<|A2 w2))<|gf W (vb W W W)<|sd W (N7 W W<|fun hc=>A2<|I7 hc)<|sv W<|gf W (fun _=>W)<|bs h fun _ hv2 h=>gf W (fun w5=>(C5 (A2 w5) W (B8 w5 hv2) W))<|gf W (fun w6=>(C7 (A2 w6) (B8 w6 hv2) W))<|gf W (vb W W W)<|sd W (N7 W W<|fun hc=>A2<|I7 hc)<|sv W<|gf W (fun _=>W)<|bs h fun _ hv3 h=>gf W (fun w9=>(C5 (A2 w9) W (B8 w9 hv3) W))<|gf W (fun w10=>(C7 (A2 w10) (B8 w10 hv3) W))<|gp W (J9 W) (fun _=>W) (gf W (vl W G_hit W)<|gf W (fun w13=>(D5<|A2 w13))<|gf W (fun w14=>(L9 (A2 w14) (A2 w14) W))<|sd W (N7 W W<|fun hc=>A2<|I7 hc)<|sv W<|gf W (fun _=>(B1 W G_hit W W))<|gf W (fun _=>W)<|bs h fun v4 hv4 h=>gf W (fun w17=>(C5 (A2 w17) W (B8 w17 hv4) W))<|gf W (fun w18=>(C7 (A2 w18) (B8 w18 hv4) W))<|bs h fun v5 hv5 h=> ?_)
 refine N2 _ (.list (List.map A4 v5)) (J9 W) (fun w19=>⟨_,[(.d (.agg (S3 p1))),(di v4)],_,_,(by simp only [A2 w19];rfl),W,A3,OY _ _ _<|B8 w19 hv5,(.inl W)⟩) ?_
 refine gf W (fun w20=>(D5<|A2 w20))<|gf W (vb W W W)<|sd W (N7 W W<|fun hc=>A2<|I7 hc)<|A1<|cc W h (fun c2 h=> ?_)<|fun c2 h=> ?_
 refine A9<|sv W<|A1<|B0 ?_
 cases h
 exact A6 (.inr W) (B6 (B2 W) C2) (.refl _)
 refine A8<|A5<|A9<|sv W<|A1<|js h fun z1 hz1 h=>D8 (fun s=> ∃(y1:Unit) (g1:Unit),z1= .inl y1∧Sb ⟨T [],G []⟩ s) ?_ ?_
 refine A7<|E2 (Br p1 p2) (fun (x1:Int) (g2:Unit)=>⟨T [(1,(dl A4 p2)),(2,(.ptr (2,u1) 0)),(6,(di x1))],G [((2,u1),some<|.box 33 (M7 p1))]⟩) 1 () _ hz1 (F0 W W) ?_
 intro x1 g2 z2 hz2 ez2
 unfold Br at hz2
 refine A5<|A9<|sv W<|sv W<|sd W (D5 W)<|sv W<|A1<|cc W hz2 (fun c3 hz2=> ?_)<|fun c3 hz2=> ?_
 refine A8<|A5<|A7<|A5<|F1 W<|sq W<|sl W G_hit W<|sv W<|sv W<|sv W<|bs hz2 fun _ hv6 hz2=>sd W (C5 W W hv6 W)<|sd W (C7 W hv6 W)<|bs hz2 fun _ hv7 hz2=>sd W (C5 W W hv7 W)<|sv W<|sd W (C7 W hv7 W)<|sv W<|sv W<|bs hz2 fun _ hv8 hz2=>sd W (C5 W W hv8 W)<|sd W (C7 W hv8 W)<|bs hz2 fun v9 hv9 hz2=>B3 W W A3 (CR _ _ _ hv9) (.inl W) (C0 (.d (bo (!v9))) W W (A1<|cc W hz2 (fun c4 hz2=> ?_)<|fun c4 hz2=> ?_))
 refine A9<|sv W<|A1<|B0 ?_
 cases hz2
 obtain rfl:=ez2 _ rfl
 refine ⟨nofun,F2 ?_⟩
 rw [bY]at h
 cases h
 exact A6 (.inr W) (B6 (B2 W) C2) (.refl _)
 refine A8<|E4<|C1<|sv W<|sv W<|sv W<|A1<|E3 ?_
 cases hz2
 exact ⟨W,(),(F0 W W)⟩
 refine C9 W ?_
 cases hz2
 obtain rfl:=ez2 _ rfl
 refine ⟨nofun,C6 W<|Y7 ?_⟩
 exact ⟨_,(),W,(F0 W W)⟩
 rintro _ ⟨y1,g1,rfl,q1⟩
 rw [bX]at h
 refine B5 q1<|A9<|sv W<|A1<|B0 ?_
 cases h
 exact A6 (.inr W) (B6 (B2 W) C2) (.refl _)
def Pi (p1:Map)(p2:Int):Option Int:=
  (B7 p1.Lanes p2).bind fun v1=>(Iv v1.Curve_).bind fun v2=>some v2
theorem DR(p1 p2 r)(h:Pi p1 p2=some r):PCall Tryz.prog 195 [(.agg (S3 p1)),(i64 p2)] (i64 r):=by
 refine C4 (fk Tryz.func195 Tryz.ntmps195 m0 (by with_unfolding_all rfl)) (nl W) ?_
 unfold Pi at h
 refine B5 (s0:=⟨T [(0,(.d _)),(1,(.d _))],G []⟩) (F0 W W) ?_
 refine A9<|sm W<|sv W<|A1<|A9<|sq W<|sl W G_hit W<|sv W<|bs h fun _ hv1 h=>sd W (C5 W W hv1 W)<|sv W<|sd W (D3 W hv1 W W)<|bs h fun _ hv2 h=>B3 W W A3 (Vx _ _ hv2) (.inl W) (sv W<|A1<|B0 ?_)
 cases h
 exact A6 (.inr W) (B6 (B2 W) C2) (.refl _)
def Fr (p1:Map)(p2:(List Int))(x1:((List Int)×Int×Int)):Option (Stp ((List Int)×Int×Int) ((List Int)×Int)):=
  cond (decide (x1.2.2< (p2.length:Int))) ((Z2 x1.1 [x1.2.1]).bind fun v1=>(B7 p2 x1.2.2).bind fun v2=>(Pi p1 v2).bind fun v3=>some (.go (v1,(C3 (x1.2.1+v3)),(C3 (x1.2.2+1))))) (some (.out (x1.1,x1.2.1)))
def Pj (p1:Map)(p2:(List Int)):Option ((List Int)×Int):=
  (loop (Fr p1 p2) ([],0,0)).bind fun y1=>some (y1.1,y1.2)
theorem DS(p1 p2 r)(h:Pj p1 p2=some r):PCall Tryz.prog 186 [(.agg (S3 p1)),(.list (List.map A4 p2))] (.tup [(.list (List.map A4 r.1)),(i64 r.2)]):=by
 refine C4 (fk Tryz.func186 Tryz.ntmps186 (fun r=>if r==6 then [1002]else []) (by with_unfolding_all rfl)) (nl W) ?_
 unfold Pj at h
 refine B5 (s0:=⟨T [(0,(.d _)),(1,(.d _))],G []⟩) (F0 W W) ?_
 refine lr<|fun u1 _=>sm W<|sv W<|sv W<|A1<|A9<|sv W<|A1<|A9<|sv W<|A1<|A5<|A9<|sv W<|A1<|bs h fun y1 hy1 h=>D8 (fun s=> ∃g1:Nat,Sb ⟨T [(6,(oS y1.1 (18,g1))),(7,(di y1.2))],G [((18,g1),oB 2 1 A4 y1.1)]⟩ s) ?_ ?_
 refine A7<|E2 (Fr p1 p2) (fun (x1:((List Int)×Int×Int)) (g2:Nat)=>⟨T [(1,(dl A4 p2)),(2,(.ptr (2,u1) 0)),(6,(oS x1.1 (18,g2))),(7,(di x1.2.1)),(8,(di x1.2.2))],G [((2,u1),some<|.box 33 (M7 p1)),((18,g2),oB 2 1 A4 x1.1)]⟩) ([],0,0) 0 _ hy1 (E0 (Bv W)<|B4 G_hit (.of W)<|W0 trivial) ?_
 intro x1 g2 z1 hz1 ez1
 unfold Fr at hz1
 refine A5<|A9<|sv W<|sv W<|sd W (D5 W)<|sv W<|A1<|cc W hz1 (fun c1 hz1=> ?_)<|fun c1 hz1=> ?_
 refine A8<|A5<|A7<|lr<|fun u6 _=>C0 (oS x1.1 (18,g2)) W W (sv W<|C0 (dl A4 [x1.2.1]) W W (bs hz1 fun _ hv1 hz1=>U1 A4 (18,g2) x1.1 x1.2.1 [] _ (L8<|fun _=>W) W (gq W) hv1 (ss W<|A1<|F1 W<|sv W<|sd W (B1 W (gq W) W W)<|sv W<|sv W<|bs hz1 fun _ hv2 hz1=>sd W (C5 W W hv2 W)<|sd W (C7 W hv2 W)<|bs hz1 fun _ hv3 hz1=>B3 W W A3 (DR _ _ _ hv3) (.inl W) (sv W<|sv W<|A1<|E4<|C1<|sv W<|sv W<|sv W<|A1<|E3 ?_))))
 cases hz1
 exact ⟨W,u6,(E0 ⟨.of W, .of W,(.of (Am<|Bb hv1).symm), .of W, .of W,trivial⟩<|sg W<|O9 G_hit trivial)⟩
 refine C9 W ?_
 cases hz1
 obtain rfl:=ez1 _ rfl
 refine ⟨nofun,C6 W<|Y7 ?_⟩
 exact ⟨g2,(E0 (Bv W)<|B9 (gq W) trivial)⟩
 rintro _ ⟨g1,q1⟩
 refine B5 q1<|A9<|C0 (oS y1.1 (18,g1)) W W (sv W<|C0 (oS y1.1 (18,g1)) W W (sv W<|A1<|B0 ?_))
 cases h
 exact A6 (.inr W) (Rf (B2 W) (B2 W) (Y5 G_hit) C2) (.tup (.cons Y4 A3))
def Fi (p1:Map)(p2:(List Int)):Option Int:=
  (Cm p1 p2).bind fun v1=>cond (v1 !=0) (some 0) ((Pj p1 p2).bind fun v2=>some v2.2)
theorem Vf(p1 p2 r)(h:Fi p1 p2=some r):PCall Tryz.prog 97 [(.agg (S3 p1)),(.list (List.map A4 p2))] (i64 r):=by
 refine C4 (fk Tryz.func97 Tryz.ntmps97 m0 (by with_unfolding_all rfl)) (nl W) ?_
 unfold Fi at h
 refine B5 (s0:=⟨T [(0,(.d _)),(1,(.d _))],G []⟩) (F0 W W) ?_
 refine A9<|sm W<|sv W<|A1<|A5<|A9<|sd W (B1 W G_hit W W)<|sv W<|bs h fun _ hv1 h=>B3 W W A3 (Kg _ _ _ hv1) (.inl W) (sv W<|A1<|cc W h (fun c1 h=> ?_)<|fun c1 h=> ?_)
 refine A9<|sv W<|A1<|B0 ?_
 cases h
 exact A6 (.inr W) (B6 (B2 W) C2) (.refl _)
 refine A8<|A9<|sd W (B1 W G_hit W W)<|sv W<|bs h fun _ hv2 h=>B3 W W A3 (DS _ _ _ hv2) (.inl W) (sv W<|sv W<|sv W<|sv W<|sv W<|A1<|A9<|sv W<|sv W<|A1<|B0 ?_)
 cases h
 exact A6 (.inr W) (B6 (B2 W) C2) (.refl _)
def Me (p1:Map)(p2:(List Int)):Option (List Int):=
  (Cm p1 p2).bind fun v1=>cond (v1 !=0) (some []) ((Pj p1 p2).bind fun v2=>some v2.1)
theorem Vy(p1 p2 r)(h:Me p1 p2=some r):PCall Tryz.prog 96 [(.agg (S3 p1)),(.list (List.map A4 p2))] (.list (List.map A4 r)):=by
 refine C4 (fk Tryz.func96 Tryz.ntmps96 m0 (by with_unfolding_all rfl)) (nl W) ?_
 unfold Me at h
 refine B5 (s0:=⟨T [(0,(.d _)),(1,(.d _))],G []⟩) (F0 W W) ?_
 refine A9<|sm W<|sv W<|A1<|A5<|A9<|sd W (B1 W G_hit W W)<|sv W<|bs h fun _ hv1 h=>B3 W W A3 (Kg _ _ _ hv1) (.inl W) (sv W<|A1<|cc W h (fun c1 h=> ?_)<|fun c1 h=> ?_)
 refine A9<|sv W<|A1<|B0 ?_
 cases h
 exact A6 (.inr W) (B6 (B2 W) C2) DLe.nil
 refine A8<|A9<|sd W (B1 W G_hit W W)<|sv W<|bs h fun _ hv2 h=>B3 W W A3 (DS _ _ _ hv2) (.inl W) (sv W<|sv W<|sv W<|sv W<|sv W<|A1<|A9<|sv W<|sv W<|A1<|B0 ?_)
 cases h
 exact A6 (.inr W) (B6 (B2 W) C2) (.refl _)
def Jo (p2:Agent)(v1:(List Int))(x1:(Int×Int)):Option (Stp (Int×Int) Int):=
  cond (decide (x1.2< (v1.length:Int))) ((B7 v1 x1.2).bind fun v2=>cond (decide (v2≤p2.S)) (some (.go (x1.2,(C3 (x1.2+1))))) (some (.go (x1.1,(C3 (x1.2+1)))))) (some (.out x1.1))
def Tt (p1:Map)(p2:Agent):Option (Int×Int):=
  (Me p1 p2.Route).bind fun v1=>(loop (Jo p2 v1) (0,0)).bind fun y1=>(B7 p2.Route y1).bind fun v3=>(B7 v1 y1).bind fun v4=>some (v3,(C3 (p2.S - v4)))
theorem IE(p1 p2 r)(h:Tt p1 p2=some r):PCall Tryz.prog 168 [(.agg (S3 p1)),(.agg (D2 p2))] (.tup [(i64 r.1),(i64 r.2)]):=by
 refine C4 (fk Tryz.func168 Tryz.ntmps168 m0 (by with_unfolding_all rfl)) (nl W) ?_
 unfold Tt at h
 refine B5 (s0:=⟨T [(0,(.d _)),(1,(.d _))],G []⟩) (F0 W W) ?_
 refine lr<|fun u1 _=>sm W<|sm W<|sv W<|sv W<|A1<|A9<|sd W (B1 W (gq W) W W)<|sq W<|sl W G_hit W<|bs h fun v1 hv1 h=>B3 W W A3 (Vy _ _ _ hv1) (.inl W) (sv W<|A1<|A9<|sv W<|A1<|A5<|A9<|sv W<|A1<|bs h fun y1 hy1 h=>D8 (fun s=> ∃g1:Unit,Sb ⟨T [(3,(.ptr (3,u1) 0)),(6,(dl A4 v1)),(7,(di y1))],G [((3,u1),some<|.box 45 (O8 p2))]⟩ s) ?_ ?_)
 refine A7<|E2 (Jo p2 v1) (fun (x1:(Int×Int)) (g2:Unit)=>⟨T [(3,(.ptr (3,u1) 0)),(6,(dl A4 v1)),(7,(di x1.1)),(8,(di x1.2))],G [((3,u1),some<|.box 45 (O8 p2))]⟩) (0,0) () _ hy1 (F0 W W) ?_
 intro x1 g2 z1 hz1 ez1
 unfold Jo at hz1
 refine A5<|A9<|sv W<|sv W<|sd W (D5 W)<|sv W<|A1<|cc W hz1 (fun c1 hz1=> ?_)<|fun c1 hz1=> ?_
 refine A8<|A5<|A7<|A5<|F1 W<|sv W<|sv W<|bs hz1 fun _ hv2 hz1=>sd W (C5 W W hv2 W)<|sd W (C7 W hv2 W)<|sq W<|sl W G_hit W<|sv W<|A1<|cc W hz1 (fun c2 hz1=> ?_)<|fun c2 hz1=> ?_
 refine C1<|sv W<|sv W<|A1<|E4<|C1<|sv W<|sv W<|sv W<|A1<|E3 ?_
 cases hz1
 exact ⟨W,(),(F0 W W)⟩
 refine A8<|E4<|C1<|sv W<|sv W<|sv W<|A1<|E3 ?_
 cases hz1
 exact ⟨W,(),(F0 W W)⟩
 refine C9 W ?_
 cases hz1
 obtain rfl:=ez1 _ rfl
 refine ⟨nofun,C6 W<|Y7 ?_⟩
 exact ⟨(),(F0 W W)⟩
 rintro _ ⟨g1,q1⟩
 refine B5 q1<|A5<|F1 W<|sq W<|sl W G_hit W<|sv W<|bs h fun _ hv3 h=>sd W (C5 W W hv3 W)<|sd W (C7 W hv3 W)<|sq W<|sl W G_hit W<|sv W<|sv W<|bs h fun _ hv4 h=>sd W (C5 W W hv4 W)<|sd W (C7 W hv4 W)<|sv W<|sv W<|sv W<|A1<|B0 ?_
 cases h
 exact A6 (.inr W) (Rf (B2 W) (B2 W) C2 C2) (.refl _)
def Qs (p1:Map)(p2:Agent):Option Bool:=
  (Fi p1 p2.Route).bind fun v1=>some (decide ((C3 (p2.S - p2.Len))>v1))
theorem IF(p1 p2 r)(h:Qs p1 p2=some r):PCall Tryz.prog 169 [(.agg (S3 p1)),(.agg (D2 p2))] (bo r):=by
 refine C4 (fk Tryz.func169 Tryz.ntmps169 m0 (by with_unfolding_all rfl)) (nl W) ?_
 unfold Qs at h
 refine B5 (s0:=⟨T [(0,(.d _)),(1,(.d _))],G []⟩) (F0 W W) ?_
 refine A9<|sm W<|sn W W<|sv W<|A1<|A5<|F1 W<|sq W<|sl W G_hit W<|sq W<|sl W G_hit W<|sv W<|sd W (B1 W (gq W) W W)<|sq W<|sl W G_hit W<|bs h fun _ hv1 h=>B3 W W A3 (Vf _ _ _ hv1) (.inl W) (sv W<|sv W<|A1<|B0 ?_)
 cases h
 exact A6 (.inr W) (B6 (B2 W) C2) (.refl _)
def Kq (p1:Map)(p2:State)(p3:Int):Option Int:=
  (B7 p2.Agents p3).bind fun v1=>(Cm p1 v1.Route).bind fun v2=>cond (v2 !=0) (some 13) (((cond (!(((((decide (v1.Len<300))||(decide (v1.Len>20000)))||(decide (v1.Begin<0)))||(decide (v1.Begin>1099511627776)))||(decide (v1.S<0)))) (Fi p1 v1.Route) (some default))).bind fun v3=>cond ((((((decide (v1.Len<300))||(decide (v1.Len>20000)))||(decide (v1.Begin<0)))||(decide (v1.Begin>1099511627776)))||(decide (v1.S<0)))||(decide (v1.S>(C3 ((C3 (v3+v1.Len))+2000))))) (some 2) ((Tt p1 v1).bind fun v4=>(B7 p1.Lanes v4.1).bind fun v5=>(Is v5.Kind).bind fun v6=>cond ((decide (v1.V<0))||(decide (v1.V>v6.1))) (some 2) ((Qs p1 v1).bind fun v7=>cond (((!(v1.Gone==v7))||((decide (v1.Begin>p2.Tick))&& (v1.S !=0)))||((p3==0)&& (v1.Begin !=0))) (some 10) (some 0))))
theorem HM(p1 p2 p3 r)(h:Kq p1 p2 p3=some r):PCall Tryz.prog 77 [(.agg (S3 p1)),(.agg (U4 p2)),(i64 p3)] (i64 r):=by
 refine C4 (fk Tryz.func77 Tryz.ntmps77 m0 (by with_unfolding_all rfl)) (nl W) ?_
 unfold Kq at h
 refine B5 (s0:=⟨T [(0,(.d _)),(1,(.d _)),(2,(.d _))],G []⟩) (F0 W W) ?_
 refine A9<|sm W<|sn W W<|sv W<|A1<|A9<|sq W<|sl W G_hit W<|sv W<|bs h fun v1 hv1 h=>sd W (C5 W W hv1 W)<|sd W (D3 W hv1 W W)<|sm W<|Z4 W G_hit (O8 v1) W (A1<|A5<|A9<|sd W (B1 W (gq W) W W)<|sq W<|sl W G_hit W<|bs h fun _ hv2 h=>B3 W W A3 (Kg _ _ _ hv2) (.inl W) (sv W<|A1<|cc W h (fun c1 h=> ?_)<|fun c1 h=> ?_))
 refine A9<|sv W<|A1<|B0 ?_
 cases h
 exact A6 (.inr W) (B6 (B2 W) C2) (.refl _)
 refine A8<|A5<|A5<|F1 W<|sq W<|sl W G_hit W<|sv W<|sv W<|gp W (J9 W) (fun _=>W) (gf W (vl W G_hit W)<|gf W (vb W W W)<|sd W (N7 W W<|fun hc=>A2<|I7 hc)<|sv W<|gp W (J9 W) (fun _=>W) (gf W (vl W G_hit W)<|gf W (vb W W W)<|sd W (N7 W W<|fun hc=>A2<|I7 hc)<|sv W<|gp W (J9 W) (fun _=>W) (gf W (vl W G_hit W)<|gf W (vb W W W)<|sd W (N7 W W<|fun hc=>A2<|I7 hc)<|sv W<|gp W (J9 W) (fun _=>W) (gf W (vl W G_hit W)<|gf W (vb W W W)<|sd W (N7 W W<|fun hc=>A2<|I7 hc)<|sv W<|gp W (J9 W) (fun _=>W) (gf W (vl W G_hit W)<|gf W (fun _=>(B1 W (gq W) W W))<|gp W (J9 W) (fun _=>W) (gf W (vl W G_hit W)<|bs h fun v3 hv3 h=> ?_))))))
 refine N2 _ (i64 v3) (J9 W) (fun w18=>⟨_,[(.d (.agg (S3 p1))),(dl A4 v1.Route)],_,_,(by simp only [A2 w18];rfl),W,A3,Vf _ _ _<|B8 w18 hv3,(.inl W)⟩) ?_
 refine gp W (J9 W) (fun _=>W) (gf W (vl W G_hit W)<|gf W (fun w21=>(L9 (A2 w21) (A2 w21) W))<|gf W (vb W W W)<|gf W (fun w23=>(L9 (A2 w23) (A2 w23) W))<|sd W (N7 W W<|fun hc=>A2<|I7 hc)<|A1<|cc W h (fun c2 h=> ?_)<|fun c2 h=> ?_)
 refine A9<|sv W<|A1<|B0 ?_
 cases h
 exact A6 (.inr W) (B6 (B2 W) C2) (.refl _)
 refine A8<|A9<|sd W (B1 W (gq W) W W)<|sd W (B1 W G_hit W W)<|bs h fun _ hv4 h=>B3 W W A3 (IE _ _ _ hv4) (.inl W) (sv W<|sv W<|sv W<|sv W<|sv W<|A1<|A9<|sq W<|sl W (gq W) W (sv W<|bs h fun _ hv5 h=>sd W (C5 W W hv5 W)<|sv W<|sd W (C7 W hv5 W)<|bs h fun _ hv6 h=>B3 W W A3 (Ql _ _ hv6) (.inl W) (sv W<|sv W<|sv W<|sv W<|sv W<|sv W<|sv W<|A1<|A5<|A9<|sq W<|sl W G_hit W<|sv W<|sv W<|gp W (J9 W) (fun _=>W) (gf W (vl W G_hit W)<|gf W (fun _=>W)<|gf W (fun w27=>(L9 (A2 w27) (A2 w27) W))<|sd W (N7 W W<|fun hc=>A2<|I7 hc)<|A1<|cc W h (fun c3 h=> ?_)<|fun c3 h=> ?_))))
 refine A9<|sv W<|A1<|B0 ?_
 cases h
 exact A6 (.inr W) (B6 (B2 W) C2) (.refl _)
 refine A8<|A5<|A5<|F1 W<|sq W<|sl W G_hit W<|sd W (B1 W (gq W) W W)<|sd W (B1 W G_hit W W)<|bs h fun v7 hv7 h=>B3 W W A3 (IF _ _ _ hv7) (.inl W) (C0 (.d (bo (!(v1.Gone==v7)))) W W (sv W<|gp W (J9 W) (fun _=>W) (gf W (vl W G_hit W)<|gp W (J9 W) (fun _=>W) (gf W (vl W (gq W) W)<|gf W (fun w32=>(L9 (A2 w32) (A2 w32) W))<|gf W (fun w33=>(TE<|A2 w33))<|N1 _ (.ptr _ _) W (X4 W) (fun _=>W) (gv W (X4 W) (vl W G_hit W) (gv W (X4 W) (vb W W W) (gf W (fun w37=>(KY (A2 w37) (fun hc=>A2<|HT w37 hc) W))<|sd W (N7 W W<|fun hc=>A2<|I7 hc)<|sv W<|gf W (fun _=>W)<|gf W (vb W W W)<|gf W (fun w40=>(TE<|A2 w40))<|N1 _ (.ptr _ _) W (X4 W) (fun _=>W) (gv W (X4 W) (vl W G_hit W) (gv W (X4 W) (vb W W W) (gf W (fun w44=>(KY (A2 w44) (fun hc=>A2<|HT w44 hc) W))<|sd W (N7 W W<|fun hc=>A2<|I7 hc)<|A1<|cc W h (fun c4 h=> ?_)<|fun c4 h=> ?_))))))))))
 refine A9<|sv W<|A1<|B0 ?_
 cases h
 exact A6 (.inr W) (B6 (B2 W) C2) (.refl _)
 refine A8<|A9<|sv W<|A1<|B0 ?_
 cases h
 exact A6 (.inr W) (B6 (B2 W) C2) (.refl _)
def Kr (p2:State)(x3:Int):Option (Stp Int (Sum Unit Int)):=
  cond (decide (x3< (p2.In.length:Int))) ((B7 p2.In x3).bind fun v7=>cond ((((decide (v7.Since<0))||(decide (v7.Since>p2.Tick)))||(decide (v7.Rank<0)))||(decide (v7.Rank>100))) (some (.out (.inr 2))) (some (.go (C3 (x3+1))))) (some (.out (.inl ())))
def Ks (p1:Map)(p2:State)(x2:Int):Option (Stp Int (Sum Unit Int)):=
  cond (decide (x2< (p2.In.length:Int))) ((B7 p2.In x2).bind fun v3=>cond ((((decide (v3.Agent_<0))||(decide (v3.Agent_≥(p2.Agents.length:Int))))||(decide (v3.Zone_<0)))||(decide (v3.Zone_≥(p1.Zones.length:Int)))) (some (.out (.inr 11))) (((cond (decide (x2>0)) (B7 p2.In (C3 (x2 - 1))) (some default))).bind fun v4=>((cond ((decide (x2>0))&& (!(decide (v3.Agent_<v4.Agent_)))) (B7 p2.In (C3 (x2 - 1))) (some default))).bind fun v5=>((cond (((decide (x2>0))&& (!(decide (v3.Agent_<v4.Agent_))))&& (v3.Agent_==v5.Agent_)) (B7 p2.In (C3 (x2 - 1))) (some default))).bind fun v6=>cond ((decide (x2>0))&& ((decide (v3.Agent_<v4.Agent_))||((v3.Agent_==v5.Agent_)&& (decide (v3.Zone_≤v6.Zone_))))) (some (.out (.inr 11))) (some (.go (C3 (x2+1)))))) (some (.out (.inl ())))
def Kt (p1:Map)(p2:State)(x1:Int):Option (Stp Int (Sum Unit Int)):=
  cond (decide (x1< (p2.Agents.length:Int))) ((Kq p1 p2 x1).bind fun v2=>cond (v2 !=0) (some (.out (.inr v2))) (some (.go (C3 (x1+1))))) (some (.out (.inl ())))
def Rp (p1:Map)(p2:State):Option Int:=
  (Ol p1).bind fun v1=>cond (v1 !=0) (some v1) (cond ((decide (p2.Tick<0))||(decide (p2.Tick>1099511627776))) (some 2) (cond ((p2.Agents.length:Int)==0) (some 6) (cond (decide ((p2.Agents.length:Int)>8)) (some 8) (thenS (loop (Kt p1 p2) 0) (fun _=>thenS (loop (Ks p1 p2) 0) (fun _=>thenS (loop (Kr p2) 0) (fun _=>some 0) (fun r=>some r)) (fun r=>some r)) (fun r=>some r)))))
theorem FT(p1 p2 r)(h:Rp p1 p2=some r):PCall Tryz.prog 25 [(.agg (S3 p1)),(.agg (U4 p2))] (i64 r):=by
 refine C4 (fk Tryz.func25 Tryz.ntmps25 m0 (by with_unfolding_all rfl)) (nl W) ?_
 unfold Rp at h
 refine B5 (s0:=⟨T [(0,(.d _)),(1,(.d _))],G []⟩) (F0 W W) ?_
 refine lr<|fun u1 _=>sm W<|sm W<|sv W<|A1<|A9<|sd W (B1 W (gq W) W W)<|bs h fun _ hv1 h=>B3 W W A3 (Ye _ _ hv1) (.inl W) (sv W<|A1<|A5<|A9<|sv W<|sv W<|A1<|cc W h (fun c1 h=> ?_)<|fun c1 h=> ?_)
 refine A9<|sv W<|sv W<|A1<|B0 ?_
 cases h
 exact A6 (.inr W) (B6 (B2 W) C2) (.refl _)
 refine A8<|A5<|A9<|sq W<|sl W G_hit W<|sv W<|sv W<|gp W (J9 W) (fun _=>W) (gf W (vl W G_hit W)<|gf W (vb W W W)<|sd W (N7 W W<|fun hc=>A2<|I7 hc)<|A1<|cc W h (fun c2 h=> ?_)<|fun c2 h=> ?_)
 refine A9<|sv W<|A1<|B0 ?_
 cases h
 exact A6 (.inr W) (B6 (B2 W) C2) (.refl _)
 refine A8<|A5<|A9<|sq W<|sl W G_hit W<|sd W (D5 W)<|sv W<|A1<|cc W h (fun c3 h=> ?_)<|fun c3 h=> ?_
 refine A9<|sv W<|A1<|B0 ?_
 cases h
 exact A6 (.inr W) (B6 (B2 W) C2) (.refl _)
 refine A8<|A5<|A9<|sq W<|sl W G_hit W<|sd W (D5 W)<|sv W<|A1<|cc W h (fun c4 h=> ?_)<|fun c4 h=> ?_
 refine A9<|sv W<|A1<|B0 ?_
 cases h
 exact A6 (.inr W) (B6 (B2 W) C2) (.refl _)
 refine A8<|A5<|A9<|sv W<|A1<|js h fun z1 hz1 h=>D8 (fun s=> ∃(y1:Unit) (g1:Unit),z1= .inl y1∧Sb ⟨T [(2,(.ptr (2,u1) 0)),(3,(.ptr (3,u1) 0))],G [((2,u1),some<|.box 33 (M7 p1)),((3,u1),some<|.box 25 (H7 p2))]⟩ s) ?_ ?_
 refine A7<|E2 (Kt p1 p2) (fun (x1:Int) (g2:Unit)=>⟨T [(2,(.ptr (2,u1) 0)),(3,(.ptr (3,u1) 0)),(6,(di x1))],G [((2,u1),some<|.box 33 (M7 p1)),((3,u1),some<|.box 25 (H7 p2))]⟩) 0 () _ hz1 (F0 W W) ?_
 intro x1 g2 z2 hz2 ez2
 unfold Kt at hz2
 refine A5<|A9<|sv W<|sq W<|sl W (gq W) W (sd W (D5 W)<|sv W<|A1<|cc W hz2 (fun c5 hz2=> ?_)<|fun c5 hz2=> ?_)
 refine A8<|A5<|A7<|A9<|sd W (B1 W G_hit W W)<|sd W (B1 W (gq W) W W)<|sv W<|bs hz2 fun _ hv2 hz2=>B3 W W A3 (HM _ _ _ _ hv2) (.inl W) (sv W<|A1<|A9<|sv W<|sv W<|A1<|cc W hz2 (fun c6 hz2=> ?_)<|fun c6 hz2=> ?_)
 refine A9<|sv W<|sv W<|A1<|B0 ?_
 cases hz2
 obtain rfl:=ez2 _ rfl
 refine ⟨nofun,F2 ?_⟩
 rw [bY]at h
 cases h
 exact A6 (.inr W) (B6 (B2 W) C2) (.refl _)
 refine A8<|E4<|C1<|sv W<|sv W<|sv W<|A1<|E3 ?_
 cases hz2
 exact ⟨W,(),(F0 W W)⟩
 refine C9 W ?_
 cases hz2
 obtain rfl:=ez2 _ rfl
 refine ⟨nofun,C6 W<|Y7 ?_⟩
 exact ⟨_,(),W,(F0 W W)⟩
 rintro _ ⟨y1,g1,rfl,q1⟩
 rw [bX]at h
 refine B5 q1<|A5<|A9<|sv W<|A1<|js h fun z3 hz3 h=>D8 (fun s=> ∃(y2:Unit) (g3:Unit),z3= .inl y2∧Sb ⟨T [(3,(.ptr (3,u1) 0))],G [((3,u1),some<|.box 25 (H7 p2))]⟩ s) ?_ ?_
 refine A7<|E2 (Ks p1 p2) (fun (x2:Int) (g4:Unit)=>⟨T [(2,(.ptr (2,u1) 0)),(3,(.ptr (3,u1) 0)),(7,(di x2))],G [((2,u1),some<|.box 33 (M7 p1)),((3,u1),some<|.box 25 (H7 p2))]⟩) 0 () _ hz3 (F0 W W) ?_
 intro x2 g4 z4 hz4 ez4
 unfold Ks at hz4
 refine A5<|A9<|sv W<|sq W<|sl W (gq W) W (sd W (D5 W)<|sv W<|A1<|cc W hz4 (fun c7 hz4=> ?_)<|fun c7 hz4=> ?_)
 refine A8<|A5<|A7<|A9<|sq W<|sl W (gq W) W (sv W<|bs hz4 fun v3 hv3 hz4=>sd W (C5 W W hv3 W)<|sd W (D3 W hv3 W W)<|sm W<|Z4 W G_hit (Uz v3) W (A1<|A5<|A9<|sq W<|sl W G_hit W<|sv W<|sv W<|gp W (J9 W) (fun _=>W) (gf W (vl W G_hit W)<|gp W (J9 W) (fun _=>W) (gf W (vl W (gq W) W)<|gf W (fun w8=>(D5<|A2 w8))<|gf W (fun w9=>(L9 (A2 w9) (A2 w9) W))<|sd W (N7 W W<|fun hc=>A2<|I7 hc)<|sv W<|gp W (J9 W) (fun _=>W) (gf W (vl W G_hit W)<|gf W (vb W W W)<|sd W (N7 W W<|fun hc=>A2<|I7 hc)<|sv W<|gp W (J9 W) (fun _=>W) (gf W (vl W G_hit W)<|gp W (J9 W) (fun _=>W) (gf W (vl W (gq W) W)<|gf W (fun w17=>(D5<|A2 w17))<|gf W (fun w18=>(L9 (A2 w18) (A2 w18) W))<|sd W (N7 W W<|fun hc=>A2<|I7 hc)<|A1<|cc W hz4 (fun c8 hz4=> ?_)<|fun c8 hz4=> ?_)))))))
 refine A9<|sv W<|A1<|B0 ?_
 cases hz4
 obtain rfl:=ez4 _ rfl
 refine ⟨nofun,F2 ?_⟩
 rw [bY]at h
 cases h
 exact A6 (.inr W) (B6 (B2 W) C2) (.refl _)
 refine A8<|A5<|F1 W<|sv W<|sv W<|sv W<|gp W (M9 W) (fun _=>W) (gt W (vl W G_hit W)<|gp W (M9 W) (fun _=>W) (gt W (vl W (gq W) W)<|gt W (fun _=>W)<|gt W (vb W W W)<|bs hz4 fun _ hv4 hz4=>gt W (fun w25=>(C5 (A2 w25) (A2 w25) (B8 w25 hv4) W)) ?_))
 refine gt W (fun w26=>(by simp only [A2 w26];rfl)) ?_
 refine gt W (fun w27=>(C7 (A2 w27) (B8 w27 hv4) W))<|gt W (fun w28=>(L9 (A2 w28) (A2 w28) W))<|gt W (fun w29=>(TE<|A2 w29))<|N1 _ (.ptr _ _) W (Lj W) (fun _=>W) (gv W (Lj W) (vl W G_hit W) (N1 _ (.ptr _ _) W (Lj W) (fun _=>W) (gv W (Lj W) (vl W (gq W) W) (gv W (Lj W) (fun _=>W) (gv W (Lj W) (vb W W W) (bs hz4 fun _ hv5 hz4=>gv W (Lj W) (fun w36=>(C5 (A2 w36) (A2 w36) (B8 w36 hv5) W)) ?_))))))
 refine gv W (Lj W) (fun w37=>(by simp only [A2 w37];rfl)) ?_
 refine gv W (Lj W) (fun w38=>(C7 (A2 w38) (B8 w38 hv5) W)) (gv W (Lj W) (fun w39=>(L9 (A2 w39) (A2 w39) W)) (gv W (Lj W) (fun w40=>(TE<|A2 w40)) (N1 _ (.ptr _ _) W (X4 W) (fun _=>W) (gv W (X4 W) (vl W G_hit W) (N1 _ (.ptr _ _) W (X4 W) (fun _=>W) (gv W (X4 W) (vl W (gq W) W) (gv W (X4 W) (fun _=>W) (gv W (X4 W) (vb W W W) (bs hz4 fun _ hv6 hz4=>gv W (X4 W) (fun w47=>(C5 (A2 w47) (A2 w47) (B8 w47 hv6) W)) ?_)))))))))
 refine gv W (X4 W) (fun w48=>(by simp only [A2 w48];rfl)) ?_
 refine gv W (X4 W) (fun w49=>(C7 (A2 w49) (B8 w49 hv6) W)) (gv W (X4 W) (fun w50=>(L9 (A2 w50) (A2 w50) W)) (gv W (Lj W) (fun w51=>(KY (A2 w51) (fun hc=>A2<|HT w51 hc) W)) (gt W (fun w52=>(N7 (A2 w52) W (fun hc=>A2<|HT w52<|I7 hc)))<|sa W W W<|A1<|cc W hz4 (fun c9 hz4=> ?_)<|fun c9 hz4=> ?_)))
 refine A9<|sv W<|A1<|B0 ?_
 cases hz4
 obtain rfl:=ez4 _ rfl
 refine ⟨nofun,F2 ?_⟩
 rw [bY]at h
 cases h
 exact A6 (.inr W) (B6 (B2 W) C2) (.refl _)
 refine A8<|E4<|C1<|sv W<|sv W<|sv W<|A1<|E3 ?_
 cases hz4
 exact ⟨W,(),(F0 W W)⟩
 refine C9 W ?_
 cases hz4
 obtain rfl:=ez4 _ rfl
 refine ⟨nofun,C6 W<|Y7 ?_⟩
 exact ⟨_,(),W,(F0 W W)⟩
 rintro _ ⟨y2,g3,rfl,q2⟩
 rw [bX]at h
 refine B5 q2<|A5<|A9<|sv W<|A1<|js h fun z5 hz5 h=>D8 (fun s=> ∃(y3:Unit) (g5:Unit),z5= .inl y3∧Sb ⟨T [],G []⟩ s) ?_ ?_
 refine A7<|E2 (Kr p2) (fun (x3:Int) (g6:Unit)=>⟨T [(3,(.ptr (3,u1) 0)),(9,(di x3))],G [((3,u1),some<|.box 25 (H7 p2))]⟩) 0 () _ hz5 (F0 W W) ?_
 intro x3 g6 z6 hz6 ez6
 unfold Kr at hz6
 refine A5<|A9<|sv W<|sq W<|sl W G_hit W<|sd W (D5 W)<|sv W<|A1<|cc W hz6 (fun c10 hz6=> ?_)<|fun c10 hz6=> ?_
 refine A8<|A5<|A7<|A9<|sq W<|sl W G_hit W<|sv W<|bs hz6 fun v7 hv7 hz6=>sd W (C5 W W hv7 W)<|sd W (D3 W hv7 W W)<|sm W<|Z4 W G_hit (Uz v7) W (A1<|A9<|sq W<|sl W G_hit W<|sv W<|sv W<|gp W (J9 W) (fun _=>W) (gf W (vl W G_hit W)<|gp W (J9 W) (fun _=>W) (gf W (vl W (gq W) W)<|gf W (fun w57=>(L9 (A2 w57) (A2 w57) W))<|sd W (N7 W W<|fun hc=>A2<|I7 hc)<|sv W<|gp W (J9 W) (fun _=>W) (gf W (vl W G_hit W)<|gf W (vb W W W)<|sd W (N7 W W<|fun hc=>A2<|I7 hc)<|sv W<|gp W (J9 W) (fun _=>W) (gf W (vl W G_hit W)<|gf W (vb W W W)<|sd W (N7 W W<|fun hc=>A2<|I7 hc)<|A1<|cc W hz6 (fun c11 hz6=> ?_)<|fun c11 hz6=> ?_)))))
 refine A9<|sv W<|A1<|B0 ?_
 cases hz6
 obtain rfl:=ez6 _ rfl
 refine ⟨nofun,F2 ?_⟩
 rw [bY]at h
 cases h
 exact A6 (.inr W) (B6 (B2 W) C2) (.refl _)
 refine A8<|E4<|C1<|sv W<|sv W<|sv W<|A1<|E3 ?_
 cases hz6
 exact ⟨W,(),(F0 W W)⟩
 refine C9 W ?_
 cases hz6
 obtain rfl:=ez6 _ rfl
 refine ⟨nofun,C6 W<|Y7 ?_⟩
 exact ⟨_,(),W,(F0 W W)⟩
 rintro _ ⟨y3,g5,rfl,q3⟩
 rw [bX]at h
 refine B5 q3<|A9<|sv W<|A1<|B0 ?_
 cases h
 exact A6 (.inr W) (B6 (B2 W) C2) (.refl _)
def Lp (p1:State)(p2:Int):Option Bool:=
  ((cond ((decide (p2≥0))&& (decide (p2< (p1.Agents.length:Int)))) (B7 p1.Agents p2) (some default))).bind fun v1=>((cond (((decide (p2≥0))&& (decide (p2< (p1.Agents.length:Int))))&& (decide (v1.Begin≤p1.Tick))) (B7 p1.Agents p2) (some default))).bind fun v2=>some ((((decide (p2≥0))&& (decide (p2< (p1.Agents.length:Int))))&& (decide (v1.Begin≤p1.Tick)))&& (!v2.Gone))
theorem Sr(p1 p2 r)(h:Lp p1 p2=some r):PCall Tryz.prog 39 [(.agg (U4 p1)),(i64 p2)] (bo r):=by
 refine C4 (fk Tryz.func39 Tryz.ntmps39 m0 (by with_unfolding_all rfl)) (nl W) ?_
 unfold Lp at h
 refine B5 (s0:=⟨T [(0,(.d _)),(1,(.d _))],G []⟩) (F0 W W) ?_
 refine A9<|sm W<|sv W<|A1<|A5<|F1 W<|sv W<|sv W<|sv W<|gt W (fun _=>W)<|gp W (M9 W) (fun _=>W) (gt W (vl W G_hit W)<|gt W (fun w4=>(D5<|A2 w4))<|gt W (fun w5=>(L9 (A2 w5) (A2 w5) W))<|sa W W W<|sv W<|gp W (M9 W) (fun _=>W) (gt W (vl W G_hit W)<|gt W (fun _=>W)<|bs h fun _ hv1 h=>gt W (fun w9=>(C5 (A2 w9) (A2 w9) (B8 w9 hv1) W)) ?_))
 refine gt W (fun w10=>(by simp only [A2 w10];rfl)) ?_
 refine gt W (fun w11=>(C7 (A2 w11) (B8 w11 hv1) W))<|gp W (M9 W) (fun _=>W) (gt W (vl W G_hit W)<|gt W (fun w14=>(L9 (A2 w14) (A2 w14) W))<|sa W W W<|sv W<|gp W (M9 W) (fun _=>W) (gt W (vl W G_hit W)<|gt W (fun _=>W)<|bs h fun v2 hv2 h=>gt W (fun w18=>(C5 (A2 w18) (A2 w18) (B8 w18 hv2) W)) ?_))
 refine gt W (fun w19=>(by simp only [A2 w19];rfl)) ?_
 refine gt W (fun w20=>(C7 (A2 w20) (B8 w20 hv2) W)) ?_
 refine N1 _ (.d (bo (!v2.Gone))) W (M9 W) (fun w21=>(by simp only [A2 w21];rfl)) ?_
 refine sa W W W<|sv W<|A1<|B0 ?_
 cases h
 exact A6 (.inr W) (B6 (B2 W) C2) (.refl _)
def Qt (p1:Map)(p2:Int):Option Bool:=
  ((cond ((decide (p2≥0))&& (decide (p2< (p1.Lanes.length:Int)))) (Ol p1) (some default))).bind fun v1=>some (((decide (p2≥0))&& (decide (p2< (p1.Lanes.length:Int))))&& (v1==0))
theorem AU(p1 p2 r)(h:Qt p1 p2=some r):PCall Tryz.prog 98 [(.agg (S3 p1)),(i64 p2)] (bo r):=by
 refine C4 (fk Tryz.func98 Tryz.ntmps98 m0 (by with_unfolding_all rfl)) (nl W) ?_
 unfold Qt at h
 refine B5 (s0:=⟨T [(0,(.d _)),(1,(.d _))],G []⟩) (F0 W W) ?_
 refine A9<|sm W<|sv W<|A1<|A9<|sv W<|sv W<|sv W<|gt W (fun _=>W)<|gp W (M9 W) (fun _=>W) (gt W (vl W G_hit W)<|gt W (fun w4=>(D5<|A2 w4))<|gt W (fun w5=>(L9 (A2 w5) (A2 w5) W))<|sa W W W<|sv W<|gt W (fun _=>(B1 W G_hit W W))<|bs h fun v1 hv1 h=> ?_)
 refine N2 _ (i64 v1) (M9 W) (fun w7=>⟨_,[(.d (.agg (S3 p1)))],_,_,(by simp only [A2 w7];rfl),W,A3,Ye _ _<|B8 w7 hv1,(.inl W)⟩) ?_
 refine gt W (vb W W W)<|sa W W W<|sv W<|A1<|B0 ?_
 cases h
 exact A6 (.inr W) (B6 (B2 W) C2) (.refl _)
def Mf (p1:Map)(p2:Int):Option Int:=
  (Qt p1 p2).bind fun v1=>cond (!v1) (some 0) ((Pi p1 p2).bind fun v2=>some v2)
theorem Vz(p1 p2 r)(h:Mf p1 p2=some r):PCall Tryz.prog 126 [(.agg (S3 p1)),(i64 p2)] (i64 r):=by
 refine C4 (fk Tryz.func126 Tryz.ntmps126 m0 (by with_unfolding_all rfl)) (nl W) ?_
 unfold Mf at h
 refine B5 (s0:=⟨T [(0,(.d _)),(1,(.d _))],G []⟩) (F0 W W) ?_
 refine A9<|sm W<|sv W<|A1<|A5<|A9<|sd W (B1 W G_hit W W)<|sv W<|bs h fun v1 hv1 h=>B3 W W A3 (AU _ _ _ hv1) (.inl W) (C0 (.d (bo (!v1))) W W (A1<|cc W h (fun c1 h=> ?_)<|fun c1 h=> ?_))
 refine A9<|sv W<|A1<|B0 ?_
 cases h
 exact A6 (.inr W) (B6 (B2 W) C2) (.refl _)
 refine A8<|A9<|sd W (B1 W G_hit W W)<|sv W<|bs h fun _ hv2 h=>B3 W W A3 (DR _ _ _ hv2) (.inl W) (sv W<|A1<|B0 ?_)
 cases h
 exact A6 (.inr W) (B6 (B2 W) C2) (.refl _)
def Jp (p1:Zone)(p2:Int)(x1:Int):Option (Stp Int (Sum Unit (Part×Bool))):=
  cond (decide (x1< (p1.Parts.length:Int))) ((B7 p1.Parts x1).bind fun v1=>cond (v1.Lane_==p2) ((B7 p1.Parts x1).bind fun v2=>some (.out (.inr (v2,true)))) (some (.go (C3 (x1+1))))) (some (.out (.inl ())))
def Yf (p1:Zone)(p2:Int):Option (Part×Bool):=
  thenS (loop (Jp p1 p2) 0) (fun _=>some ((Part.mk 0 0 0 0),false)) (fun r=>some r)
theorem IG(p1 p2 r)(h:Yf p1 p2=some r):PCall Tryz.prog 103 [(.agg [(.list (List.map Dq p1.Parts)),(i64 p1.Signal_)]),(i64 p2)] (.tup [(.agg (Dq r.1)),(bo r.2)]):=by
 refine C4 (fk Tryz.func103 Tryz.ntmps103 m0 (by with_unfolding_all rfl)) (nl W) ?_
 unfold Yf at h
 refine B5 (s0:=⟨T [(0,(.d _)),(1,(.d _))],G []⟩) (F0 W W) ?_
 refine lr<|fun u1 _=>sm W<|sm W<|sv W<|A1<|A5<|A9<|sv W<|A1<|js h fun z1 hz1 h=>D8 (fun s=> ∃(y1:Unit) (g1:Unit),z1= .inl y1∧Sb ⟨T [(4,(.ptr (4,u1) 0))],G [((4,u1),some<|.box 114 (zs 4))]⟩ s) ?_ ?_
 refine A7<|E2 (Jp p1 p2) (fun (x1:Int) (g2:Unit)=>⟨T [(1,(di p2)),(2,(.ptr (2,u1) 0)),(4,(.ptr (4,u1) 0)),(6,(di x1))],G [((2,u1),some<|.box 117 [(dl Dq p1.Parts),(di p1.Signal_)]),((4,u1),some<|.box 114 (zs 4))]⟩) 0 () _ hz1 (F0 W W) ?_
 intro x1 g2 z2 hz2 ez2
 unfold Jp at hz2
 refine A5<|A9<|sv W<|sq W<|sl W G_hit W<|sd W (D5 W)<|sv W<|A1<|cc W hz2 (fun c1 hz2=> ?_)<|fun c1 hz2=> ?_
 refine A8<|A5<|A7<|A9<|sq W<|sl W G_hit W<|sv W<|bs hz2 fun _ hv1 hz2=>sd W (C5 W W hv1 W)<|sv W<|sd W (C7 W hv1 W)<|sv W<|sv W<|A1<|cc W hz2 (fun c2 hz2=> ?_)<|fun c2 hz2=> ?_
 refine A9<|sq W<|sl W G_hit W<|sv W<|bs hz2 fun v2 hv2 hz2=>sd W (C5 W W hv2 W)<|sd W (D3 W hv2 W W)<|Z4 W (gq W) (Zt v2) W (sv W<|A1<|B0 ?_)
 cases hz2
 obtain rfl:=ez2 _ rfl
 refine ⟨nofun,F2 ?_⟩
 rw [bY]at h
 cases h
 exact A6 (.inr W) (Rf (K3 W G_hit (nl W) W) (B2 W) C2 C2) (.refl _)
 refine A8<|E4<|C1<|sv W<|sv W<|sv W<|A1<|E3 ?_
 cases hz2
 exact ⟨W,(),(F0 W W)⟩
 refine C9 W ?_
 cases hz2
 obtain rfl:=ez2 _ rfl
 refine ⟨nofun,C6 W<|Y7 ?_⟩
 exact ⟨_,(),W,(F0 W W)⟩
 rintro _ ⟨y1,g1,rfl,q1⟩
 rw [bX]at h
 refine B5 q1<|A9<|sv W<|Z4 W G_hit (zs 4) W (sv W<|A1<|B0 ?_)
 cases h
 exact A6 (.inr W) (Rf (K3 W G_hit (nl W) W) (B2 W) C2 C2) (.refl _)
def Df (p1:Signal)(p2:Int)(x2:(Int×Int)):Option (Stp (Int×Int) (Sum Unit Bool)):=
  cond (decide (x2.2< (p1.Phases.length:Int))) ((B7 p1.Phases x2.2).bind fun v5=>cond (decide (x2.1<v5.Ticks)) ((B7 p1.Phases x2.2).bind fun v6=>(Ts v6.Green p2).bind fun v7=>some (.out (.inr v7))) ((B7 p1.Phases x2.2).bind fun v8=>some (.go ((C3 (x2.1 - v8.Ticks)),(C3 (x2.2+1)))))) (some (.out (.inl ())))
def Fc (p1:Signal)(x1:(Int×Int)):Option (Stp (Int×Int) Int):=
  cond (decide (x1.2< (p1.Phases.length:Int))) ((B7 p1.Phases x1.2).bind fun v1=>some (.go ((C3 (x1.1+v1.Ticks)),(C3 (x1.2+1))))) (some (.out x1.1))
def Rr (p1:Signal)(p2:Int)(p3:Int):Option Bool:=
  (loop (Fc p1) (0,0)).bind fun y1=>(HK p1.Offset y1).bind fun v2=>(HK p3 y1).bind fun v3=>(HK (C3 (v2+v3)) y1).bind fun v4=>thenS (loop (Df p1 p2) (v4,0)) (fun _=>some false) (fun r=>some r)
theorem FU(p1 p2 p3 r)(h:Rr p1 p2 p3=some r):PCall Tryz.prog 187 [(.agg [(i64 p1.Offset),(.list (List.map Dn p1.Phases))]),(i64 p2),(i64 p3)] (bo r):=by
 refine C4 (fk Tryz.func187 Tryz.ntmps187 m0 (by with_unfolding_all rfl)) (nl W) ?_
 unfold Rr at h
 refine B5 (s0:=⟨T [(0,(.d _)),(1,(.d _)),(2,(.d _))],G []⟩) (F0 W W) ?_
 refine lr<|fun u1 _=>sm W<|sv W<|A1<|A9<|sv W<|A1<|A5<|A9<|sv W<|A1<|bs h fun y1 hy1 h=>D8 (fun s=> ∃g1:Unit,Sb ⟨T [(1,(di p2)),(2,(di p3)),(3,(.ptr (3,u1) 0)),(7,(di y1))],G [((3,u1),some<|.box 120 [(di p1.Offset),(dl Dn p1.Phases)])]⟩ s) ?_ ?_
 refine A7<|E2 (Fc p1) (fun (x1:(Int×Int)) (g2:Unit)=>⟨T [(1,(di p2)),(2,(di p3)),(3,(.ptr (3,u1) 0)),(7,(di x1.1)),(8,(di x1.2))],G [((3,u1),some<|.box 120 [(di p1.Offset),(dl Dn p1.Phases)])]⟩) (0,0) () _ hy1 (F0 W W) ?_
 intro x1 g2 z1 hz1 ez1
 unfold Fc at hz1
 refine A5<|A9<|sv W<|sq W<|sl W G_hit W<|sd W (D5 W)<|sv W<|A1<|cc W hz1 (fun c1 hz1=> ?_)<|fun c1 hz1=> ?_
 refine A8<|A5<|A7<|C1<|sv W<|sq W<|sl W G_hit W<|sv W<|bs hz1 fun _ hv1 hz1=>sd W (C5 W W hv1 W)<|sv W<|sd W (C7 W hv1 W)<|sv W<|sv W<|A1<|E4<|C1<|sv W<|sv W<|sv W<|A1<|E3 ?_
 cases hz1
 exact ⟨W,(),(F0 W W)⟩
 refine C9 W ?_
 cases hz1
 obtain rfl:=ez1 _ rfl
 refine ⟨nofun,C6 W<|Y7 ?_⟩
 exact ⟨(),(F0 W W)⟩
 rintro _ ⟨g1,q1⟩
 refine B5 q1<|A5<|F1 W<|sq W<|sl W G_hit W<|sv W<|bs h fun _ hv2 h=>sd W (QW W W hv2)<|sv W<|sv W<|bs h fun _ hv3 h=>sd W (QW W W hv3)<|sv W<|sv W<|bs h fun v4 hv4 h=>sd W (QW W W hv4)<|sv W<|A1<|A5<|A9<|sv W<|A1<|js h fun z2 hz2 h=>D8 (fun s=> ∃(y2:Unit) (g3:Unit),z2= .inl y2∧Sb ⟨T [],G []⟩ s) ?_ ?_
 refine A7<|E2 (Df p1 p2) (fun (x2:(Int×Int)) (g4:Unit)=>⟨T [(1,(di p2)),(3,(.ptr (3,u1) 0)),(9,(di x2.1)),(10,(di x2.2))],G [((3,u1),some<|.box 120 [(di p1.Offset),(dl Dn p1.Phases)])]⟩) (v4,0) () _ hz2 (F0 W W) ?_
 intro x2 g4 z3 hz3 ez3
 unfold Df at hz3
 refine A5<|A9<|sv W<|sq W<|sl W G_hit W<|sd W (D5 W)<|sv W<|A1<|cc W hz3 (fun c2 hz3=> ?_)<|fun c2 hz3=> ?_
 refine A8<|A5<|A7<|A5<|A9<|sv W<|sq W<|sl W G_hit W<|sv W<|bs hz3 fun _ hv5 hz3=>sd W (C5 W W hv5 W)<|sv W<|sd W (C7 W hv5 W)<|sv W<|A1<|cc W hz3 (fun c3 hz3=> ?_)<|fun c3 hz3=> ?_
 refine A9<|sq W<|sl W G_hit W<|sv W<|bs hz3 fun _ hv6 hz3=>sd W (C5 W W hv6 W)<|sv W<|sd W (C7 W hv6 W)<|sv W<|bs hz3 fun _ hv7 hz3=>B3 W W A3 (CR _ _ _ hv7) (.inl W) (sv W<|A1<|B0 ?_)
 cases hz3
 obtain rfl:=ez3 _ rfl
 refine ⟨nofun,F2 ?_⟩
 rw [bY]at h
 cases h
 exact A6 (.inr W) (B6 (B2 W) C2) (.refl _)
 refine A8<|C1<|sv W<|sq W<|sl W G_hit W<|sv W<|bs hz3 fun _ hv8 hz3=>sd W (C5 W W hv8 W)<|sv W<|sd W (C7 W hv8 W)<|sv W<|sv W<|A1<|E4<|C1<|sv W<|sv W<|sv W<|A1<|E3 ?_
 cases hz3
 exact ⟨W,(),(F0 W W)⟩
 refine C9 W ?_
 cases hz3
 obtain rfl:=ez3 _ rfl
 refine ⟨nofun,C6 W<|Y7 ?_⟩
 exact ⟨_,(),W,(F0 W W)⟩
 rintro _ ⟨y2,g3,rfl,q2⟩
 rw [bX]at h
 refine B5 q2<|A9<|sv W<|A1<|B0 ?_
 cases h
 exact A6 (.inr W) (B6 (B2 W) C2) (.refl _)
def Fd (x1:((List Int)×Int))(v2:(Part×Bool))(x2:Int):Option (Stp Int Int):=
  ((cond (decide (x2< (x1.1.length:Int))) (B7 x1.1 x2) (some default))).bind fun v5=>cond ((decide (x2< (x1.1.length:Int)))&& (decide (v5<v2.1.From))) (some (.go (C3 (x2+1)))) (some (.out x2))
def Fe (p1:Map)(p2:Int)(p3:Int)(x1:((List Int)×Int)):Option (Stp ((List Int)×Int) (List Int)):=
  cond (decide (x1.2< (p1.Zones.length:Int))) ((B7 p1.Zones x1.2).bind fun v1=>(Yf v1 p2).bind fun v2=>((cond (!((!v2.2)||(v1.Signal_==0))) (B7 p1.Signals (C3 (v1.Signal_ - 1))) (some default))).bind fun v3=>((cond (!((!v2.2)||(v1.Signal_==0))) (Rr v3 p2 p3) (some default))).bind fun v4=>cond (((!v2.2)||(v1.Signal_==0))||v4) (some (.go (x1.1,(C3 (x1.2+1))))) ((loop (Fd x1 v2) 0).bind fun y2=>((cond (decide (y2< (x1.1.length:Int))) (B7 x1.1 y2) (some default))).bind fun v6=>cond ((decide (y2< (x1.1.length:Int)))&& (v6==v2.1.From)) (some (.go (x1.1,(C3 (x1.2+1))))) ((EZ x1.1 0 y2).bind fun v7=>(Z2 ([]:List Int) v7).bind fun v8=>(Z2 v8 [v2.1.From]).bind fun v9=>(EZ x1.1 y2 (x1.1.length:Int)).bind fun v10=>(Z2 v9 v10).bind fun v11=>some (.go (v11,(C3 (x1.2+1))))))) (some (.out x1.1))
def Zx (p1:Map)(p2:Int)(p3:Int):Option (List Int):=
  (loop (Fe p1 p2 p3) ([],0)).bind fun y1=>some y1
theorem RN(p1 p2 p3 r)(h:Zx p1 p2 p3=some r):PCall Tryz.prog 99 [(.agg (S3 p1)),(i64 p2),(i64 p3)] (.list (List.map A4 r)):=by
 refine C4 (fk Tryz.func99 Tryz.ntmps99 (fun r=>if r==12 then [1007]else []) (by with_unfolding_all rfl)) (nl W) ?_
 unfold Zx at h
 refine B5 (s0:=⟨T [(0,(.d _)),(1,(.d _)),(2,(.d _))],G []⟩) (F0 W W) ?_
 refine lr<|fun u1 _=>sm W<|sv W<|A1<|A9<|sv W<|A1<|A5<|A9<|sv W<|A1<|bs h fun y1 hy1 h=>D8 (fun s=> ∃g1:Unit,Sb ⟨T [(7,(dl A4 y1))],G []⟩ s) ?_ ?_
 refine A7<|E2 (Fe p1 p2 p3) (fun (x1:((List Int)×Int)) (g2:Unit)=>⟨T [(1,(di p2)),(2,(di p3)),(3,(.ptr (3,u1) 0)),(7,(dl A4 x1.1)),(8,(di x1.2))],G [((3,u1),some<|.box 33 (M7 p1))]⟩) ([],0) () _ hy1 (E0 ⟨.of W, .of W, .of W,(DLe.d DLe.nil), .of W,trivial⟩<|B4 G_hit (.of W) trivial) ?_
 intro x1 g2 z1 hz1 ez1
 unfold Fe at hz1
 refine A5<|A9<|sv W<|sq W<|sl W G_hit W<|sd W (D5 W)<|sv W<|A1<|cc W hz1 (fun c1 hz1=> ?_)<|fun c1 hz1=> ?_
 refine A8<|A5<|A7<|A9<|sq W<|sl W G_hit W<|sv W<|bs hz1 fun v1 hv1 hz1=>sd W (C5 W W hv1 W)<|sd W (D3 W hv1 W W)<|sm W<|Z4 W G_hit [(dl Dq v1.Parts),(di v1.Signal_)] W (A1<|lr<|fun u6 _=>sd W (B1 W G_hit W W)<|sv W<|bs hz1 fun v2 hv2 hz1=>B3 W W A3 (IG _ _ _ hv2) (.inl W) (sv W<|sv W<|sv W<|sm W<|Z4 W G_hit (Zt v2.1) W (sv W<|A1<|A5<|A9<|sv W<|C0 (.d (bo (!v2.2))) W W (sv W<|gp W (J9 W) (fun _=>W) (gf W (vl W (gq W) W)<|gf W (vb W W W)<|sd W (N7 W W<|fun hc=>A2<|I7 hc)<|sv W<|gp W (J9 W) (fun _=>W) (gf W (vl W (gq W) W)<|gp W (J9 W) (fun _=>W) (gf W (vl W (gq W) W)<|gf W (vb W W W)<|bs hz1 fun v3 hv3 hz1=>gf W (fun w9=>(C5 (A2 w9) (A2 w9) (B8 w9 hv3) W))<|gf W (fun w10=>(D3 (A2 w10) (B8 w10 hv3) W W))<|gf W (fun _=>W)<|gf W (fun _=>W)<|bs hz1 fun v4 hv4 hz1=> ?_)))))))
 refine N2 _ (bo v4) (J9 W) (fun w13=>⟨_,[(.d (.agg [(i64 v3.Offset),(.list (List.map Dn v3.Phases))])),(di p2),(di p3)],_,_,(by simp only [A2 w13];rfl),W,A3,FU _ _ _ _<|B8 w13 hv4,(.inl W)⟩) ?_
 refine sd W (N7 W W<|fun hc=>A2<|I7 hc)<|A1<|cc W hz1 (fun c2 hz1=> ?_)<|fun c2 hz1=> ?_
 refine Tm W<|C1<|sv W<|sv W<|sv W<|A1<|E3 ?_
 cases hz1
 exact ⟨W,(),(F0 W W)⟩
 refine A8<|A9<|sv W<|A1<|A5<|bs hz1 fun y2 hy2 hz1=>D8 (fun s=> ∃g3:Unit,Sb ⟨T [(1,(di p2)),(2,(di p3)),(3,(.ptr (3,u1) 0)),(7,(dl A4 x1.1)),(8,(di x1.2)),(10,(.ptr (10,u6) 0)),(12,(di y2))],G [((3,u1),some<|.box 33 (M7 p1)),((10,u6),some<|.box 114 (Zt v2.1))]⟩ s) ?_ ?_
 refine A7<|E2 (Fd x1 v2) (fun (x2:Int) (g4:Unit)=>⟨T [(1,(di p2)),(2,(di p3)),(3,(.ptr (3,u1) 0)),(7,(dl A4 x1.1)),(8,(di x1.2)),(10,(.ptr (10,u6) 0)),(12,(di x2))],G [((3,u1),some<|.box 33 (M7 p1)),((10,u6),some<|.box 114 (Zt v2.1))]⟩) 0 () _ hy2 (F0 W W) ?_
 intro x2 g4 z2 hz2 ez2
 unfold Fd at hz2
 refine A5<|A5<|F1 W<|sv W<|sv W<|sd W (D5 W)<|sv W<|sv W<|gt W (fun _=>W)<|gt W (fun _=>W)<|bs hz2 fun _ hv5 hz2=>gt W (fun w16=>(C5 (A2 w16) (A2 w16) (B8 w16 hv5) W))<|gt W (fun w17=>(C7 (A2 w17) (B8 w17 hv5) W))<|gp W (M9 W) (fun _=>W) (gt W (vl W (gq W) W)<|gt W (fun w20=>(L9 (A2 w20) (A2 w20) W))<|sa W W W<|A1<|cc W hz2 (fun c3 hz2=> ?_)<|fun c3 hz2=> ?_)
 refine A8<|A7<|C1<|sv W<|sv W<|sv W<|A1<|E4<|E3 ?_
 cases hz2
 exact ⟨W,(),(F0 W W)⟩
 refine C9 W ?_
 cases hz2
 obtain rfl:=ez2 _ rfl
 refine ⟨nofun,C6 W<|Y7 ?_⟩
 exact ⟨(),(F0 W W)⟩
 rintro _ ⟨g3,q1⟩
 refine B5 q1<|A5<|A5<|F1 W<|sv W<|sv W<|sd W (D5 W)<|sv W<|sv W<|gt W (fun _=>W)<|gt W (fun _=>W)<|bs hz1 fun v6 hv6 hz1=>gt W (fun w23=>(C5 (A2 w23) (A2 w23) (B8 w23 hv6) W))<|gt W (fun w24=>(C7 (A2 w24) (B8 w24 hv6) W))<|gp W (M9 W) (fun _=>W) (gt W (vl W (gq W) W)<|gt W (fun w27=>(L9 (A2 w27) (A2 w27) W))<|sa W W W<|A1<|cc W hz1 (fun c4 hz1=> ?_)<|fun c4 hz1=> ?_)
 refine Tm W<|C1<|sv W<|sv W<|sv W<|A1<|E3 ?_
 cases hz1
 exact ⟨W,(),(F0 W W)⟩
 refine A8<|Wz fun u14 _=>LA (.sl _) (.arr 2 1 (List.map A4 ([]:List Int))) W W (P5 (.d _) W W (P5 (.d _) W W (bs hz1 fun v7 hv7 hz1=>P5 (.d _) W (nG W (fun _=>W) uF (uG W) hv7) (bs hz1 fun _ hv8 hz1=>QX A4 _ _ _ _ (L8<|fun _=>W) W G_hit hv8 (P5 (.ptr _ _) W W (P5 (.d _) W (Q6 W (gq W) W) (P5 (dl A4 [v2.1.From]) W W (bs hz1 fun _ hv9 hz1=>QX A4 _ _ _ _ (L8<|fun _=>W) W G_hit hv9 (P5 (.d _) W W (P5 (.d _) W W (bs hz1 fun v10 hv10 hz1=>P5 (.d _) W (nG W (fun _=>W) (uG W) nH hv10) (bs hz1 fun v11 hv11 hz1=>QX A4 _ _ _ _ (L8<|fun _=>W) W G_hit hv11 (P5 (.sl _) W W (KZ ⟨W,?_⟩))))))))))))))
 refine E4<|nV [(90,u14)] [(1,(di p2)),(2,(di p3)),(3,(.ptr (3,u1) 0)),(7,(dl A4 v11)),(8,(di x1.2)),(10,(.ptr (10,u6) 0)),(12,(di y2)),(65,(di y2)),(66,(dl A4 x1.1)),(67,(di (x1.1.length:Int))),(68,(.d (bo<|decide (y2< (x1.1.length:Int))))),(69,(.d (bo<|decide (y2< (x1.1.length:Int))))),(77,(.d (bo ((decide (y2< (x1.1.length:Int)))&& (v6==v2.1.From))))),(79,(dl A4 x1.1)),(80,(di y2)),(81,(dl A4 v7)),(83,(.ptr (10,u6) 1)),(84,(di v2.1.From)),(85,(dl A4 [v2.1.From])),(87,(dl A4 x1.1)),(88,(di y2)),(89,(dl A4 v10)),(90,(dl A4 v11))] [((3,u1),some<|.box 33 (M7 p1)),((10,u6),some<|.box 114 (Zt v2.1))] ⟨J7 W,J7 W,J7 W,(TI (QU<|FE (.head _) G_hit)<|.refl _),J7 W,J7 W,J7 W,J7 W,J7 W,J7 W,J7 W,J7 W,J7 W,J7 W,J7 W,J7 W,J7 W,J7 W,J7 W,J7 W,J7 W,J7 W,(TI (QU<|FE (.head _) G_hit)<|.refl _),trivial⟩ (Sf (gq W) (Bu (Dm W) Hu) (Sf (gq W) (Bu (Dm W) Hu) trivial)) (C1<|sv W<|sv W<|sv W<|A1<|E3 ?_)
 cases hz1
 exact ⟨W,(),(F0 W W)⟩
 refine C9 W ?_
 cases hz1
 obtain rfl:=ez1 _ rfl
 refine ⟨nofun,C6 W<|Y7 ?_⟩
 exact ⟨(),(F0 W W)⟩
 rintro _ ⟨g1,q2⟩
 refine B5 q2<|A9<|sv W<|sv W<|A1<|B0 ?_
 cases h
 exact A6 (.inr W) (B6 (B2 W) C2) (.refl _)
def Tu (p1:Map)(p2:Int)(p3:Int):Option (List Int):=
  (Qt p1 p2).bind fun v1=>cond ((!v1)||(decide (p3<0))) (some []) ((Zx p1 p2 p3).bind fun v2=>some v2)
theorem XH(p1 p2 p3 r)(h:Tu p1 p2 p3=some r):PCall Tryz.prog 40 [(.agg (S3 p1)),(i64 p2),(i64 p3)] (.list (List.map A4 r)):=by
 refine C4 (fk Tryz.func40 Tryz.ntmps40 m0 (by with_unfolding_all rfl)) (nl W) ?_
 unfold Tu at h
 refine B5 (s0:=⟨T [(0,(.d _)),(1,(.d _)),(2,(.d _))],G []⟩) (F0 W W) ?_
 refine A9<|sm W<|sv W<|A1<|A5<|A9<|sd W (B1 W G_hit W W)<|sv W<|bs h fun v1 hv1 h=>B3 W W A3 (AU _ _ _ hv1) (.inl W) (C0 (.d (bo (!v1))) W W (sv W<|gf W (fun _=>W)<|gf W (vb W W W)<|sd W (N7 W W<|fun hc=>A2<|I7 hc)<|A1<|cc W h (fun c1 h=> ?_)<|fun c1 h=> ?_))
 refine A9<|sv W<|A1<|B0 ?_
 cases h
 exact A6 (.inr W) (B6 (B2 W) C2) DLe.nil
 refine A8<|A9<|sd W (B1 W G_hit W W)<|sv W<|sv W<|bs h fun _ hv2 h=>B3 W W A3 (RN _ _ _ _ hv2) (.inl W) (sv W<|A1<|B0 ?_)
 cases h
 exact A6 (.inr W) (B6 (B2 W) C2) (.refl _)
def Cr (p2:Int)(x1:(Int×Int)):Option (Stp (Int×Int) Int):=
  cond (decide (x1.1>(Mn false p2 1000000))) (some (.go ((C3 (x1.1 - (Mn false p2 1000000))),(C3 (x1.2+ (C3 (x1.1 - (Mn false p2 1000000)))))))) (some (.out x1.2))
def Tv (p1:Int)(p2:Int):Option Int:=
  cond ((decide ((Mn false p1 1000000)<1))||(decide ((Mn false p2 1000000)<1))) (some 0) ((loop (Cr p2) ((Mn false p1 1000000),0)).bind fun y1=>some y1)
theorem IH(p1 p2 r)(h:Tv p1 p2=some r):PCall Tryz.prog 226 [(i64 p1),(i64 p2)] (i64 r):=by
 refine C4 (fk Tryz.func226 Tryz.ntmps226 m0 (by with_unfolding_all rfl)) (nl W) ?_
 unfold Tv at h
 refine B5 (s0:=⟨T [(0,(.d _)),(1,(.d _))],G []⟩) (F0 W W) ?_
 refine A9<|sv W<|A1<|A9<|sv W<|sv W<|sv W<|sv W<|sv W<|sv W<|A1<|A9<|sv W<|A1<|A5<|A9<|sv W<|sv W<|sv W<|gf W (fun _=>W)<|gf W (vb W W W)<|sd W (N7 W W<|fun hc=>A2<|I7 hc)<|A1<|cc W h (fun c1 h=> ?_)<|fun c1 h=> ?_
 refine A9<|sv W<|A1<|B0 ?_
 cases h
 exact A6 (.inr W) (B6 (B2 W) C2) (.refl _)
 refine A8<|A5<|bs h fun y1 hy1 h=>D8 (fun s=> ∃g1:Unit,Sb ⟨T [(5,(di y1))],G []⟩ s) ?_ ?_
 refine A7<|E2 (Cr p2) (fun (x1:(Int×Int)) (g2:Unit)=>⟨T [(0,(di x1.1)),(1,(di<|Mn false p2 1000000)),(5,(di x1.2))],G []⟩) ((Mn false p1 1000000),0) () _ hy1 (F0 W W) ?_
 intro x1 g2 z1 hz1 ez1
 unfold Cr at hz1
 refine A5<|A9<|sv W<|sv W<|sv W<|A1<|cc W hz1 (fun c2 hz1=> ?_)<|fun c2 hz1=> ?_
 refine A8<|A7<|A9<|sv W<|sv W<|sv W<|sv W<|A1<|C1<|sv W<|sv W<|sv W<|sv W<|A1<|E4<|E3 ?_
 cases hz1
 exact ⟨W,(),(F0 W W)⟩
 refine C9 W ?_
 cases hz1
 obtain rfl:=ez1 _ rfl
 refine ⟨nofun,C6 W<|Y7 ?_⟩
 exact ⟨(),(F0 W W)⟩
 rintro _ ⟨g1,q1⟩
 refine B5 q1<|A9<|sv W<|sv W<|A1<|B0 ?_
 cases h
 exact A6 (.inr W) (B6 (B2 W) C2) (.refl _)
def Om (p1:(List Int))(p2:Int)(p3:Int)(p4:Int)(p5:Int)(x1:Int):Option (Stp Int (Sum Unit Bool)):=
  cond (decide (x1< (p1.length:Int))) ((B7 p1 x1).bind fun v1=>((cond (decide (v1>p2)) (Tv p3 p5) (some default))).bind fun v2=>((cond (decide (v1>p2)) (B7 p1 x1) (some default))).bind fun v3=>((cond ((decide (v1>p2))&& (decide ((C3 (p2+v2))<v3))) (Tv p4 p5) (some default))).bind fun v4=>((cond ((decide (v1>p2))&& (decide ((C3 (p2+v2))<v3))) (B7 p1 x1) (some default))).bind fun v5=>cond (((decide (v1>p2))&& (decide ((C3 (p2+v2))<v3)))&& (decide ((C3 ((C3 (p2+p4))+v4))≥v5))) (some (.out (.inr false))) (some (.go (C3 (x1+1))))) (some (.out (.inl ())))
def Vg (p1:(List Int))(p2:Int)(p3:Int)(p4:Int)(p5:Int):Option Bool:=
  thenS (loop (Om p1 p2 p3 p4 p5) 0) (fun _=>some true) (fun r=>some r)
theorem RO(p1 p2 p3 p4 p5 r)(h:Vg p1 p2 p3 p4 p5=some r):PCall Tryz.prog 182 [(.list (List.map A4 p1)),(i64 p2),(i64 p3),(i64 p4),(i64 p5)] (bo r):=by
 refine C4 (fk Tryz.func182 Tryz.ntmps182 m0 (by with_unfolding_all rfl)) (nl W) ?_
 unfold Vg at h
 refine B5 (s0:=⟨T [(0,(.d _)),(1,(.d _)),(2,(.d _)),(3,(.d _)),(4,(.d _))],G []⟩) (F0 W W) ?_
 refine A9<|sv W<|A1<|A5<|A9<|sv W<|A1<|js h fun z1 hz1 h=>D8 (fun s=> ∃(y1:Unit) (g1:Unit),z1= .inl y1∧Sb ⟨T [],G []⟩ s) ?_ ?_
 refine A7<|E2 (Om p1 p2 p3 p4 p5) (fun (x1:Int) (g2:Unit)=>⟨T [(0,(dl A4 p1)),(1,(di p2)),(2,(di p3)),(3,(di p4)),(4,(di p5)),(11,(di x1))],G []⟩) 0 () _ hz1 (F0 W W) ?_
 intro x1 g2 z2 hz2 ez2
 unfold Om at hz2
 refine A5<|A9<|sv W<|sv W<|sd W (D5 W)<|sv W<|A1<|cc W hz2 (fun c1 hz2=> ?_)<|fun c1 hz2=> ?_
 refine A8<|A5<|A7<|A5<|F1 W<|sv W<|sv W<|bs hz2 fun _ hv1 hz2=>sd W (C5 W W hv1 W)<|sd W (C7 W hv1 W)<|sv W<|sv W<|sv W<|gt W (fun _=>W)<|gt W (fun _=>W)<|gt W (fun _=>W)<|bs hz2 fun v2 hv2 hz2=> ?_
 refine N2 _ (i64 v2) (M9 W) (fun w4=>⟨_,[(di p3),(di p5)],_,_,(by simp only [A2 w4];rfl),W,A3,IH _ _ _<|B8 w4 hv2,(.inl W)⟩) ?_
 refine gt W (fun w5=>(L9 (A2 w5) (A2 w5) W))<|gt W (fun _=>W)<|gt W (fun _=>W)<|bs hz2 fun _ hv3 hz2=>gt W (fun w8=>(C5 (A2 w8) (A2 w8) (B8 w8 hv3) W))<|gt W (fun w9=>(C7 (A2 w9) (B8 w9 hv3) W))<|gt W (fun w10=>(L9 (A2 w10) (A2 w10) W))<|sa W W W<|sv W<|gt W (fun _=>W)<|gt W (fun _=>W)<|gt W (fun w13=>(L9 (A2 w13) (A2 w13) W))<|gt W (fun _=>W)<|gt W (fun _=>W)<|bs hz2 fun v4 hv4 hz2=> ?_
 refine N2 _ (i64 v4) (M9 W) (fun w16=>⟨_,[(di p4),(di p5)],_,_,(by simp only [A2 w16];rfl),W,A3,IH _ _ _<|B8 w16 hv4,(.inl W)⟩) ?_
 refine gt W (fun w17=>(L9 (A2 w17) (A2 w17) W))<|gt W (fun _=>W)<|gt W (fun _=>W)<|bs hz2 fun _ hv5 hz2=>gt W (fun w20=>(C5 (A2 w20) (A2 w20) (B8 w20 hv5) W))<|gt W (fun w21=>(C7 (A2 w21) (B8 w21 hv5) W))<|gt W (fun w22=>(L9 (A2 w22) (A2 w22) W))<|sa W W W<|A1<|cc W hz2 (fun c2 hz2=> ?_)<|fun c2 hz2=> ?_
 refine A9<|sv W<|A1<|B0 ?_
 cases hz2
 obtain rfl:=ez2 _ rfl
 refine ⟨nofun,F2 ?_⟩
 rw [bY]at h
 cases h
 exact A6 (.inr W) (B6 (B2 W) C2) (.refl _)
 refine A8<|E4<|C1<|sv W<|sv W<|sv W<|A1<|E3 ?_
 cases hz2
 exact ⟨W,(),(F0 W W)⟩
 refine C9 W ?_
 cases hz2
 obtain rfl:=ez2 _ rfl
 refine ⟨nofun,C6 W<|Y7 ?_⟩
 exact ⟨_,(),W,(F0 W W)⟩
 rintro _ ⟨y1,g1,rfl,q1⟩
 rw [bX]at h
 refine B5 q1<|A9<|sv W<|A1<|B0 ?_
 cases h
 exact A6 (.inr W) (B6 (B2 W) C2) (.refl _)
def Gi (p2:Agent)(v1:(Int×Int))(v3:(Int×Int×Int))(v5:(List Int))(x1:(Int×Int)):Option (Stp (Int×Int) Int):=
  ((cond (decide (x1.1>(C3 (0 - v3.2.2)))) (Vg v5 v1.2 p2.V x1.2 v3.2.2) (some default))).bind fun v6=>cond ((decide (x1.1>(C3 (0 - v3.2.2))))&& (!v6)) (some (.go ((C3 (x1.1 - 1)),(Mn true 0 (Mn false (C3 (p2.V+ (C3 (x1.1 - 1)))) v3.1))))) (some (.out x1.2))
def Tw (p1:Map)(p2:Agent)(p3:Int)(p4:Int):Option Agent:=
  (Tt p1 p2).bind fun v1=>(B7 p1.Lanes v1.1).bind fun v2=>(Is v2.Kind).bind fun v3=>((cond p2.Obey (Mf p1 v1.1) (some default))).bind fun v4=>(cond (p2.Obey&& (decide (v1.2≤v4))) ((Tu p1 v1.1 p3).bind fun v5=>(loop (Gi p2 v1 v3 v5) ((Mn true (C3 (0 - v3.2.2)) (Mn false p4 v3.2.1)),(Mn true 0 (Mn false (C3 (p2.V+ (Mn true (C3 (0 - v3.2.2)) (Mn false p4 v3.2.1)))) v3.1)))).bind fun y2=>some y2) (some (Mn true 0 (Mn false (C3 (p2.V+ (Mn true (C3 (0 - v3.2.2)) (Mn false p4 v3.2.1)))) v3.1)))).bind fun y1=>(Qs p1 (Agent.mk p2.Route (C3 (p2.S+y1)) y1 p2.Len p2.Begin p2.Obey p2.Gone)).bind fun v7=>some (Agent.mk p2.Route (C3 (p2.S+y1)) y1 p2.Len p2.Begin p2.Obey v7)
theorem TO(p1 p2 p3 p4 r)(h:Tw p1 p2 p3 p4=some r):PCall Tryz.prog 89 [(.agg (S3 p1)),(.agg (D2 p2)),(i64 p3),(i64 p4)] (.agg (D2 r)):=by
 refine C4 (fk Tryz.func89 Tryz.ntmps89 m0 (by with_unfolding_all rfl)) (nl W) ?_
 unfold Tw at h
 refine B5 (s0:=⟨T [(0,(.d _)),(1,(.d _)),(2,(.d _)),(3,(.d _))],G []⟩) (F0 W W) ?_
 refine lr<|fun u1 _=>sm W<|sm W<|sn W W<|A1<|A9<|sd W (B1 W (gq W) W W)<|sd W (B1 W (gq W) W W)<|bs h fun v1 hv1 h=>B3 W W A3 (IE _ _ _ hv1) (.inl W) (sv W<|sv W<|sv W<|sv W<|sv W<|A1<|A9<|sq W<|sl W (gq W) W (sv W<|bs h fun _ hv2 h=>sd W (C5 W W hv2 W)<|sv W<|sd W (C7 W hv2 W)<|bs h fun v3 hv3 h=>B3 W W A3 (Ql _ _ hv3) (.inl W) (sv W<|sv W<|sv W<|sv W<|sv W<|sv W<|sv W<|A1<|A9<|sv W<|C0 (di<|C3 (0 - v3.2.2)) W W (sv W<|sv W<|sv W<|sv W<|sv W<|A1<|A9<|sq W<|sl W (gq W) W (sv W<|sv W<|sv W<|sv W<|sv W<|sv W<|A1<|A5<|A5 ?_)))))
 refine C1<|sq W<|sl W (gq W) W (sv W<|gt W (fun _=>W)<|gt W (fun _=>(B1 W (gq W) W W))<|gt W (fun _=>W)<|bs h fun v4 hv4 h=> ?_)
 refine N2 p2.Obey (i64 v4) (M9 W) (fun w4=>⟨_,[(.d (.agg (S3 p1))),(di v1.1)],_,_,(by simp only [A2 w4];rfl),W,A3,Vz _ _ _<|B8 w4 hv4,(.inl W)⟩) ?_
 refine gt W (fun w5=>(L9 (A2 w5) (A2 w5) W))<|sa W W W<|A1<|bs h fun y1 hy1 h=>D8 (fun s=> ∃g1:Unit,Sb ⟨T [(4,(.ptr (4,u1) 0)),(5,(.ptr (5,u1) 0)),(8,(.ptr (8,u1) 0)),(14,(di y1))],G [((4,u1),some<|.box 33 (M7 p1)),((5,u1),some<|.box 45 (O8 p2)),((8,u1),some<|.box 45 ([(.d .nilS)]++ (zs 4)++ [(.d (bo false)),(.d (bo false))]))]⟩ s) ?_ ?_
 refine cc W hy1 (fun c1 hy1=> ?_)<|fun c1 hy1=> ?_
 refine A9<|sd W (B1 W (gq W) W W)<|sv W<|sv W<|bs hy1 fun v5 hv5 hy1=>B3 W W A3 (XH _ _ _ _ hv5) (.inl W) (sv W<|A1<|bs hy1 fun y2 hy2 hy1=>D8 (fun s=> ∃g2:Unit,Sb ⟨T [(4,(.ptr (4,u1) 0)),(5,(.ptr (5,u1) 0)),(8,(.ptr (8,u1) 0)),(14,(di y2))],G [((4,u1),some<|.box 33 (M7 p1)),((5,u1),some<|.box 45 (O8 p2)),((8,u1),some<|.box 45 ([(.d .nilS)]++ (zs 4)++ [(.d (bo false)),(.d (bo false))]))]⟩ s) ?_ ?_)
 refine A7<|E2 (Gi p2 v1 v3 v5) (fun (x1:(Int×Int)) (g3:Unit)=>⟨T [(3,(di x1.1)),(4,(.ptr (4,u1) 0)),(5,(.ptr (5,u1) 0)),(8,(.ptr (8,u1) 0)),(10,(di v1.2)),(11,(di v3.1)),(13,(di v3.2.2)),(14,(di x1.2)),(15,(dl A4 v5))],G [((4,u1),some<|.box 33 (M7 p1)),((5,u1),some<|.box 45 (O8 p2)),((8,u1),some<|.box 45 ([(.d .nilS)]++ (zs 4)++ [(.d (bo false)),(.d (bo false))]))]⟩) ((Mn true (C3 (0 - v3.2.2))<|Mn false p4 v3.2.1),(Mn true 0<|Mn false (C3 (p2.V+ (Mn true (C3 (0 - v3.2.2))<|Mn false p4 v3.2.1))) v3.1)) () _ hy2 (F0 W W) ?_
 intro x1 g3 z1 hz1 ez1
 unfold Gi at hz1
 refine A5<|A9<|sv W<|sv W<|C0 (di<|C3 (0 - v3.2.2)) W W (sv W<|sv W<|gt W (fun _=>W)<|gt W (fun _=>W)<|gp W (M9 W) (fun _=>W) (gt W (vl W (gq W) W)<|gt W (fun _=>W)<|gt W (fun _=>W)<|bs hz1 fun v6 hv6 hz1=> ?_))
 refine N2 _ (bo v6) (M9 W) (fun w12=>⟨_,[(dl A4 v5),(di v1.2),(di p2.V),(di x1.2),(di v3.2.2)],_,_,(by simp only [A2 w12];rfl),W,A3,RO _ _ _ _ _ _<|B8 w12 hv6,(.inl W)⟩) ?_
 refine N1 _ (.d (bo (!v6))) W (M9 W) (fun w13=>(by simp only [A2 w13];rfl)) ?_
 refine sa W W W<|A1<|cc W hz1 (fun c2 hz1=> ?_)<|fun c2 hz1=> ?_
 refine A8<|A7<|A9<|sv W<|sv W<|sv W<|A1<|C1<|sq W<|sl W (gq W) W (sv W<|sv W<|sv W<|sv W<|sv W<|sv W<|A1<|E4<|E3 ?_)
 cases hz1
 exact ⟨W,(),(F0 W W)⟩
 refine C9 W ?_
 cases hz1
 obtain rfl:=ez1 _ rfl
 refine ⟨nofun,C6 W<|Y7 ?_⟩
 exact ⟨(),(F0 W W)⟩
 rintro _ ⟨g2,q1⟩
 obtain rfl:=(lD hy1)
 exact Y7 ⟨(),(Sb.after q1<|F0 W W)⟩
 refine A8 ?_
 cases hy1
 exact Y7 ⟨(),(F0 W W)⟩
 rintro _ ⟨g1,q2⟩
 refine B5 q2<|A9<|sv W<|sq W<|sl W (gq W) W (sv W<|sv W<|sq W<|Z4 W (gq W) ((O8 p2).set 2 (di y1)) W (sq W<|Z4 W G_hit (((O8 p2).set 1 (di<|C3 (p2.S+y1))).set 2 (di y1)) W (A1<|A9<|sd W (B1 W (gq W) W W)<|sd W (B1 W G_hit W W)<|bs h fun v7 hv7 h=>B3 W W A3 (IF _ _ _ hv7) (.inl W) (sq W<|Z4 W G_hit ((((O8 p2).set 1 (di<|C3 (p2.S+y1))).set 2 (di y1)).set 6 (.d (bo v7))) W (A1<|A9<|sd W (B1 W G_hit W W)<|Z4 W (gq W) ((((O8 p2).set 1 (di<|C3 (p2.S+y1))).set 2 (di y1)).set 6 (.d (bo v7))) W (A1<|B0 ?_))))))
 cases h
 exact A6 (.inr W) (B6 (K3 W G_hit (nl W) W) C2) (.refl _)
def Yg (p1:Map)(p2:State)(p3:Int)(p4:Int):Option Agent:=
  cond ((decide (p3<0))||(decide (p3≥(p2.Agents.length:Int)))) (some (Agent.mk [] 0 0 0 0 false false)) ((B7 p2.Agents p3).bind fun v1=>(Z2 ([]:List Int) v1.Route).bind fun v2=>(Rp p1 p2).bind fun v3=>((cond (!(v3 !=0)) (Lp p2 p3) (some default))).bind fun v4=>cond ((v3 !=0)||(!v4)) (some (Agent.mk v2 v1.S v1.V v1.Len v1.Begin v1.Obey v1.Gone)) ((Tw p1 (Agent.mk v2 v1.S v1.V v1.Len v1.Begin v1.Obey v1.Gone) p2.Tick p4).bind fun v5=>some v5))
theorem TP(p1 p2 p3 p4 r)(h:Yg p1 p2 p3 p4=some r):PCall Tryz.prog 30 [(.agg (S3 p1)),(.agg (U4 p2)),(i64 p3),(i64 p4)] (.agg (D2 r)):=by
 refine C4 (fk Tryz.func30 Tryz.ntmps30 m0 (by with_unfolding_all rfl)) (nl W) ?_
 unfold Yg at h
 refine B5 (s0:=⟨T [(0,(.d _)),(1,(.d _)),(2,(.d _)),(3,(.d _))],G []⟩) (F0 W W) ?_
 refine lr<|fun u1 _=>sm W<|sm W<|sn W W<|A1<|A5<|A9<|sv W<|sv W<|sv W<|gf W (fun _=>W)<|gp W (J9 W) (fun _=>W) (gf W (vl W (gq W) W)<|gf W (fun w4=>(D5<|A2 w4))<|gf W (fun w5=>(L9 (A2 w5) (A2 w5) W))<|sd W (N7 W W<|fun hc=>A2<|I7 hc)<|A1<|cc W h (fun c1 h=> ?_)<|fun c1 h=> ?_)
 refine A9<|sv W<|Z4 W G_hit ([(.d .nilS)]++ (zs 4)++ [(.d (bo false)),(.d (bo false))]) W (A1<|B0 ?_)
 cases h
 exact A6 (.inr W) (B6 (K3 W G_hit (nl W) W) C2) (.agg (.cons ⟨DLe.nil,W⟩ (cz W)))
 refine A8<|lr<|fun u4 _=>sq W<|sl W (gq W) W (sv W<|bs h fun v1 hv1 h=>sd W (C5 W W hv1 W)<|sd W (D3 W hv1 W W)<|sm W<|Z4 W G_hit (O8 v1) W (A1<|lr<|fun u5 hu5=>sq W<|sl W G_hit W<|bs h fun v2 hv2 h=>GX A4 (27,u5) ([]:List Int) v1.Route _ (L8<|fun _=>W) W (Ls hu5) hv2 (Ls hu5) (sq W<|Ig _ _ _ _ _ (MZ _ _) W W (gq W) (nl W) ((O8 v1).set 0 (oS v2 (27,u5))) W (A1<|A5<|A9<|sd W (B1 W (gq W) W W)<|sd W (B1 W (gq W) W W)<|bs h fun v3 hv3 h=>B3 W W A3 (FT _ _ _ hv3) (.inl W) (sv W<|sv W<|gf W (fun _=>(B1 W (gq W) W W))<|gf W (fun _=>W)<|bs h fun v4 hv4 h=> ?_)))))
 refine N2 _ (bo v4) (J9 W) (fun w8=>⟨_,[(.d (.agg (U4 p2))),(di p3)],_,_,(by simp only [A2 w8];rfl),W,A3,Sr _ _ _<|B8 w8 hv4,(.inl W)⟩) ?_
 refine N1 _ (.d (bo (!v4))) W (J9 W) (fun w9=>(by simp only [A2 w9];rfl)) ?_
 refine sd W (N7 W W<|fun hc=>A2<|I7 hc)<|A1<|cc W h (fun c2 h=> ?_)<|fun c2 h=> ?_
 refine A9<|C0 (Bo ((O8 v1).set 0 (oS v2 (27,u5)))) W (B1 W G_hit W W) (Ig _ _ _ _ _ (W8 _) W W (gq W) (nl W) ((O8 v1).set 0 (oS v2 (27,u5))) W (A1<|B0 ?_))
 cases h
 exact A6 (.inr W) (B6 (K3 W G_hit (nl W) W)<|Sa<|F5 (Y5<|gq W)<|rD<|rD<|rD<|rD<|rD<|rD G7) (.agg (.cons ⟨Y4,W⟩ (cz W)))
 refine A8<|A5<|nV [(27,u5)] [(0,(.d (.agg (S3 p1)))),(1,(.d (.agg (U4 p2)))),(2,(di p3)),(3,(di p4)),(4,(.ptr (4,u1) 0)),(5,(.ptr (5,u1) 0)),(8,(.ptr (8,u1) 0)),(9,(.ptr (9,u4) 0)),(10,(di p3)),(11,(.d (bo<|decide (p3<0)))),(12,(.d (bo<|decide (p3<0)))),(18,(.d (bo ((decide (p3<0))||(decide (p3≥(p2.Agents.length:Int))))))),(20,(.ptr (5,u1) 1)),(21,(dl D2 p2.Agents)),(22,(di p3)),(23,(.d (.lp (List.map D2 p2.Agents) (p3).toNat 0))),(24,(.d (.agg (D2 v1)))),(25,(.ptr (9,u4) 0)),(26,(dl A4 v1.Route)),(27,(dl A4 v2)),(28,(.ptr (9,u4) 0)),(29,(.d (.agg (S3 p1)))),(30,(.d (.agg (U4 p2)))),(31,(di v3)),(32,(.d (bo (v3 !=0)))),(33,(.d (bo (v3 !=0)))),(38,(.d (bo ((v3 !=0)||(!v4)))))] [((9,u4),some<|.box 45 ((O8 v1).set 0 (dl A4 v2))),((8,u1),some<|.box 45 ([(.d .nilS)]++ (zs 4)++ [(.d (bo false)),(.d (bo false))])),((5,u1),some<|.box 25 (H7 p2)),((4,u1),some<|.box 33 (M7 p1))] ⟨J7 W,J7 W,J7 W,J7 W,J7 W,J7 W,J7 W,J7 W,J7 W,J7 W,J7 W,J7 W,J7 W,J7 W,J7 W,J7 W,J7 W,J7 W,J7 W,(TI (Y5<|FE (.head _)<|gq W) Y4),J7 W,J7 W,J7 W,J7 W,J7 W,J7 W,J7 W,trivial⟩ (PL G_hit (Bu (Dm W) Hu) (.cons (TI (Y5<|FE (.head _)<|gq W) Y4) (.cons (J7 W) (.cons (J7 W) (.cons (J7 W) (.cons (J7 W) (.cons (J7 W) (.cons (J7 W) .nil))))))) (Sf (gq W) (Bu (Dm W) Hu) (Sf (gq W) (Bu (Dm W) Hu) (Sf (gq W) (Bu (Dm W) Hu) trivial)))) (C1<|sd W (B1 W (gq W) W W)<|sd W (B1 W G_hit W W)<|sq W<|sl W (gq W) W (sv W<|bs h fun v5 hv5 h=>B3 W W A3 (TO _ _ _ _ _ hv5) (.inl W) (Z4 W (gq W) (O8 v5) W (A1<|B0 ?_))))
 cases h
 exact A6 (.inr W) (B6 (K3 W G_hit (nl W) W) C2) (.refl _)
def Tx (p1:State)(x1:(Int×State)):Option (Stp (Int×State) State):=
  cond (decide (x1.1< (p1.Agents.length:Int))) ((B7 p1.Agents x1.1).bind fun v2=>(Z2 ([]:List Int) v2.Route).bind fun v3=>(Z2 x1.2.Agents [(Agent.mk v3 v2.S v2.V v2.Len v2.Begin v2.Obey v2.Gone)]).bind fun v4=>some (.go ((C3 (x1.1+1)),(State.mk x1.2.Tick v4 x1.2.In)))) (some (.out x1.2))
def Up (p1:State):Option State:=
  (Z2 ([]:List Stay) p1.In).bind fun v1=>(loop (Tx p1) (0,(State.mk p1.Tick [] v1))).bind fun y1=>some y1
theorem NG(p1 r)(h:Up p1=some r):MCall Tryz.prog 23 [(.d (.agg (U4 p1)))] [] (Bo [(di r.Tick),(oS r.Agents (800000,0)),(oS r.In (800001,0))]) [] [oB 45 7 D2 r.Agents,oB 127 4 I9 r.In]:=by
 refine WY (fk Tryz.func23 Tryz.ntmps23 (fun r=>if r==7 then [1003]else []) (by with_unfolding_all rfl)) (by generalize r.Agents=x1;generalize r.In=x2;cases x1<;>cases x2<;>rfl) (nl W) ?_
 unfold Up at h
 refine B5 (s0:=⟨T [(0,(.d _))],G []⟩) (F0 W W) ?_
 refine lr<|fun u1 _=>sm W<|sm W<|A1<|A5<|Wz fun u2 hu2=>P5 (.ptr _ _) W W (P5 (.d _) W (Q6 W (gq W) W) (P5 (.ptr _ _) W W (P5 (.d _) W (Q6 W (gq W) W) (bs h fun v1 hv1 h=>US I9 p1.In _ (L8<|fun _=>W) W hv1 (Ls hu2) ?_))))
 refine P5 (Bo [(di p1.Tick),(.d .nilS),(oS v1 (10,u2))]) W (by generalize v1=x1;cases x1<;>rfl) ?_
 refine LA (.ptr _ _) (.box _ _) W W (Zs _ _ _ _ _ (W8 _) W W G_hit (nl W) [(di p1.Tick),(.d .nilS),(oS v1 (10,u2))] W (KZ<|tJ (fun q=>⟨⟨by first|rfl|((generalize v1=l0;cases l0)<;>rfl),q⟩,⟨by first|rfl|((generalize v1=l0;cases l0)<;>rfl),q⟩⟩) ?_))
 refine A5<|A9<|sv W<|A1<|bs h fun y1 hy1 h=>D8 (fun s=> ∃g1:(Nat×Nat),Sb ⟨T [(2,(.ptr (2,u1) 0)),(3,(.ptr (3,u2) 0))],G [((2,u1),some<|.box 25 [(di 0),(.d .nilS),(.d .nilS)]),((3,u2),some<|.box 25 [(di y1.Tick),(oS y1.Agents (32,g1.1)),(oS y1.In (10,g1.2))]),((32,g1.1),oB 45 7 D2 y1.Agents),((10,g1.2),oB 127 4 I9 y1.In)]⟩ s) ?_ ?_
 refine A7<|E2 (Tx p1) (fun (x1:(Int×State)) (g2:(Nat×Nat))=>⟨T [(1,(.ptr (1,u1) 0)),(2,(.ptr (2,u1) 0)),(3,(.ptr (3,u2) 0)),(4,(di x1.1))],G [((1,u1),some<|.box 25 (H7 p1)),((2,u1),some<|.box 25 [(di 0),(.d .nilS),(.d .nilS)]),((3,u2),some<|.box 25 [(di x1.2.Tick),(oS x1.2.Agents (32,g2.1)),(oS x1.2.In (10,g2.2))]),((32,g2.1),oB 45 7 D2 x1.2.Agents),((10,g2.2),oB 127 4 I9 x1.2.In)]⟩) (0,(State.mk p1.Tick [] v1)) (0,u2) _ hy1 (E0 (Bv W)<|sg W<|sg W<|B4 G_hit (.of W)<|W0<|B9 (gq W) trivial) ?_
 intro x1 g2 z1 hz1 ez1
 unfold Tx at hz1
 refine A5<|A9<|sv W<|sq W<|sl W G_hit W<|sd W (D5 W)<|sv W<|A1<|cc W hz1 (fun c1 hz1=> ?_)<|fun c1 hz1=> ?_
 refine A8<|A5<|A7<|lr<|fun u5 _=>sq W<|sl W G_hit W<|sv W<|bs hz1 fun v2 hv2 hz1=>sd W (C5 W W hv2 W)<|sd W (D3 W hv2 W W)<|sm W<|Z4 W G_hit (O8 v2) W (A1<|lr<|fun u6 hu6=>sq W<|sl W G_hit W<|bs hz1 fun v3 hv3 hz1=>GX A4 (26,u6) ([]:List Int) v2.Route _ (L8<|fun _=>W) W (Ls hu6) hv3 (Ls hu6) (sq W<|Ig _ _ _ _ _ (MZ _ _) W W (gq W) (nl W) ((O8 v2).set 0 (oS v3 (26,u6))) W (A1<|nV [(26,u6)] [(1,(.ptr (1,u1) 0)),(2,(.ptr (2,u1) 0)),(3,(.ptr (3,u2) 0)),(4,(di x1.1)),(5,(.ptr (5,u5) 0)),(12,(di x1.1)),(13,(.ptr (1,u1) 1)),(14,(dl D2 p1.Agents)),(15,(di (p1.Agents.length:Int))),(16,(.d (bo<|decide (x1.1< (p1.Agents.length:Int))))),(19,(.ptr (1,u1) 1)),(20,(dl D2 p1.Agents)),(21,(di x1.1)),(22,(.d (.lp (List.map D2 p1.Agents) (x1.1).toNat 0))),(23,(.d (.agg (D2 v2)))),(24,(.ptr (5,u5) 0)),(25,(dl A4 v2.Route)),(26,(dl A4 v3)),(27,(.ptr (5,u5) 0))] [((5,u5),some<|.box 45 ((O8 v2).set 0 (dl A4 v3))),((1,u1),some<|.box 25 (H7 p1)),((2,u1),some<|.box 25 [(di 0),(.d .nilS),(.d .nilS)]),((3,u2),some<|.box 25 [(di x1.2.Tick),(oS x1.2.Agents (32,g2.1)),(oS x1.2.In (10,g2.2))]),((32,g2.1),oB 45 7 D2 x1.2.Agents),((10,g2.2),oB 127 4 I9 x1.2.In)] ⟨J7 W,J7 W,J7 W,J7 W,J7 W,J7 W,J7 W,J7 W,J7 W,J7 W,J7 W,J7 W,J7 W,J7 W,J7 W,J7 W,J7 W,(TI (Y5<|FE (.head _)<|gq W) Y4),J7 W,trivial⟩ (PL G_hit (Bu (Dm W) Hu) (.cons (TI (Y5<|FE (.head _)<|gq W) Y4) (.cons (J7 W) (.cons (J7 W) (.cons (J7 W) (.cons (J7 W) (.cons (J7 W) (.cons (J7 W) .nil))))))) (Sf (gq W) (Bu (Dm W) Hu) (Sf (gq W) (Bu (Dm W) Hu) (Sf (gq W) (Bu (Dm W) Hu) (WZ (gq W) (Bu (Dm W) Hu) (WZ (gq W) (Bu (Dm W) Hu) trivial)))))) (Ew fun u7 _=>sq W<|C0 (oS x1.2.Agents (32,g2.1)) W (Q6 W (gq W) W) (sd W (B1 W G_hit W W)<|C0 (dl D2 [(Agent.mk v3 v2.S v2.V v2.Len v2.Begin v2.Obey v2.Gone)]) W W (bs hz1 fun _ hv4 hz1=>U1 D2 (32,g2.1) x1.2.Agents (Agent.mk v3 v2.S v2.V v2.Len v2.Begin v2.Obey v2.Gone) [] _ (L8<|fun _=>W) W (gq W) hv4 (sq W<|Z4 W (gq W) [(di x1.2.Tick),(.sl (32,u7)),(oS x1.2.In (10,g2.2))] W (A1<|E4<|C1<|sv W<|sv W<|sv W<|A1<|E3 ?_))))))))
 cases hz1
 exact ⟨W,(u7,g2.2),(E0 (Bv W)<|sg W<|sg W<|B4 G_hit (.box (cv<|.cons (.of (Am<|Bb hv4).symm) cw))<|O9 (gq W)<|B9 (gq W) trivial)⟩
 refine C9 W ?_
 cases hz1
 obtain rfl:=ez1 _ rfl
 refine ⟨nofun,C6 W<|Y7 ?_⟩
 exact ⟨(g2.1,g2.2),(E0 (Bv W)<|sg W<|sg W<|B9 (gq W)<|B9 (gq W) trivial)⟩
 rintro _ ⟨g1,q1⟩
 refine B5 q1<|A9<|C0 (Bo [(di y1.Tick),(oS y1.Agents (32,g1.1)),(oS y1.In (10,g1.2))]) W (B1 W (gq W) W W) (Ig _ _ _ _ _ (W8 _) W W G_hit (nl W) [(di y1.Tick),(oS y1.Agents (32,g1.1)),(oS y1.In (10,g1.2))] W (A1<|B0 ?_))
 obtain rfl:=(lD h)
 exact nQ (v1:=(Bo [(di y1.Tick),(oS y1.Agents (32,g1.1)),(oS y1.In (10,g1.2))])) (.inr W) (ZD<|K3 W G_hit (Nat.le_of_ble_eq_true W) W) (.of W) [((32,g1.1),oB 45 7 D2 y1.Agents),((10,g1.2),oB 127 4 I9 y1.In)] (B9 (gq W)<|B9 (gq W) trivial) (fW [(32,g1.1),(10,g1.2)] (by generalize y1.Agents=x1;generalize y1.In=x2;cases x1<;>cases x2<;>rfl) trivial ⟨(G_hit).trans oB_ren.symm,((gq W)).trans oB_ren.symm,trivial⟩ W (List.forall_mem_cons.2 ⟨fun i hi=>PK W hi,(List.forall_mem_cons.2 ⟨fun i hi=>PK W hi,(fun _ h=>nomatch h)⟩)⟩) (vN<|Dm W))
def Yh (p1:Agent):Option Bool:=
  some ((((decide (p1.S≥0))&& (decide (p1.S≤1099511627776)))&& (decide (p1.Len≥0)))&& (decide (p1.Len≤1099511627776)))
theorem II(p1 r)(h:Yh p1=some r):PCall Tryz.prog 133 [(.agg (D2 p1))] (bo r):=by
 refine C4 (fk Tryz.func133 Tryz.ntmps133 m0 (by with_unfolding_all rfl)) (nl W) ?_
 unfold Yh at h
 refine B5 (s0:=⟨T [(0,(.d _))],G []⟩) (F0 W W) ?_
 refine A9<|sm W<|sv W<|A1<|A9<|sq W<|sl W G_hit W<|sv W<|sv W<|gp W (M9 W) (fun _=>W) (gt W (vl W G_hit W)<|gt W (vb W W W)<|sa W W W<|sv W<|gp W (M9 W) (fun _=>W) (gt W (vl W G_hit W)<|gt W (vb W W W)<|sa W W W<|sv W<|gp W (M9 W) (fun _=>W) (gt W (vl W G_hit W)<|gt W (vb W W W)<|sa W W W<|sv W<|A1<|B0 ?_)))
 cases h
 exact A6 (.inr W) (B6 (B2 W) C2) (.refl _)
def Ae (x5:((List Pass)×Int)):Option (Stp ((List Pass)×Int) (List Pass)):=
  ((cond (decide (x5.2>0)) (B7 x5.1 x5.2) (some default))).bind fun v9=>((cond (decide (x5.2>0)) (B7 x5.1 (C3 (x5.2 - 1))) (some default))).bind fun v10=>((cond ((decide (x5.2>0))&& (!(decide (v9.From<v10.From)))) (B7 x5.1 x5.2) (some default))).bind fun v11=>((cond ((decide (x5.2>0))&& (!(decide (v9.From<v10.From)))) (B7 x5.1 (C3 (x5.2 - 1))) (some default))).bind fun v12=>((cond (((decide (x5.2>0))&& (!(decide (v9.From<v10.From))))&& (v11.From==v12.From)) (B7 x5.1 x5.2) (some default))).bind fun v13=>((cond (((decide (x5.2>0))&& (!(decide (v9.From<v10.From))))&& (v11.From==v12.From)) (B7 x5.1 (C3 (x5.2 - 1))) (some default))).bind fun v14=>cond ((decide (x5.2>0))&& ((decide (v9.From<v10.From))||((v11.From==v12.From)&& (decide (v13.Zone_<v14.Zone_))))) ((B7 x5.1 (C3 (x5.2 - 1))).bind fun v15=>(B7 x5.1 x5.2).bind fun v16=>(B7 x5.1 x5.2).bind fun v17=>(B7 (Kj x5.1 x5.2 v15) (C3 (x5.2 - 1))).bind fun v18=>some (.go ((Kj (Kj x5.1 x5.2 v15) (C3 (x5.2 - 1)) v16),(C3 (x5.2 - 1))))) (some (.out x5.1))
def Dj (x4:((List Pass)×Int)):Option (Stp ((List Pass)×Int) (List Pass)):=
  cond (decide (x4.2< (x4.1.length:Int))) ((loop (Ae) (x4.1,x4.2)).bind fun y5=>some (.go (y5,(C3 (x4.2+1))))) (some (.out x4.1))
def Dk (p1:Map)(p2:(List Int))(v1:(List Int))(x1:((List Pass)×Int))(x2:((List Pass)×Int))(x3:((List Pass)×Int)):Option (Stp ((List Pass)×Int) (List Pass)):=
  (B7 p1.Zones x2.2).bind fun v2=>cond (decide (x3.2< (v2.Parts.length:Int))) ((B7 p1.Zones x2.2).bind fun v3=>(B7 v3.Parts x3.2).bind fun v4=>(B7 p2 x1.2).bind fun v5=>cond (v4.Lane_==v5) ((B7 v1 x1.2).bind fun v6=>(B7 v1 x1.2).bind fun v7=>(Z2 x3.1 [(Pass.mk x2.2 x3.2 (C3 (v6+v4.From)) (C3 (v7+v4.To)))]).bind fun v8=>some (.go (v8,(C3 (x3.2+1))))) (some (.go (x3.1,(C3 (x3.2+1)))))) (some (.out x3.1))
def Dl (p1:Map)(p2:(List Int))(v1:(List Int))(x1:((List Pass)×Int))(x2:((List Pass)×Int)):Option (Stp ((List Pass)×Int) (List Pass)):=
  cond (decide (x2.2< (p1.Zones.length:Int))) ((loop (Dk p1 p2 v1 x1 x2) (x2.1,0)).bind fun y3=>some (.go (y3,(C3 (x2.2+1))))) (some (.out x2.1))
def Cf (p1:Map)(p2:(List Int))(v1:(List Int))(x1:((List Pass)×Int)):Option (Stp ((List Pass)×Int) (List Pass)):=
  cond (decide (x1.2< (v1.length:Int))) ((loop (Dl p1 p2 v1 x1) (x1.1,0)).bind fun y2=>some (.go (y2,(C3 (x1.2+1))))) (some (.out x1.1))
def Iw (p1:Map)(p2:(List Int)):Option (List Pass):=
  (Me p1 p2).bind fun v1=>(loop (Cf p1 p2 v1) ([],0)).bind fun y1=>(loop (Dj) (y1,1)).bind fun y4=>some y4
theorem OZ(p1 p2 r)(h:Iw p1 p2=some r):PCall Tryz.prog 176 [(.agg (S3 p1)),(.list (List.map A4 p2))] (.list (List.map U0 r)):=by
 refine C4 (fk Tryz.func176 Tryz.ntmps176 (fun r=>if r==14 then [1018]else []) (by with_unfolding_all rfl)) (nl W) ?_
 unfold Iw at h
 refine B5 (s0:=⟨T [(0,(.d _)),(1,(.d _))],G []⟩) (F0 W W) ?_
 refine lr<|fun u1 _=>sm W<|sv W<|A1<|A9<|sv W<|A1<|A9<|sd W (B1 W G_hit W W)<|sv W<|bs h fun v1 hv1 h=>B3 W W A3 (Vy _ _ _ hv1) (.inl W) (sv W<|A1<|A5<|A9<|sv W<|A1<|bs h fun y1 hy1 h=>D8 (fun s=> ∃g1:Nat,Sb ⟨T [(5,(oS y1 (75,g1)))],G [((75,g1),oB 229 4 U0 y1)]⟩ s) ?_ ?_)
 refine A7<|E2 (Cf p1 p2 v1) (fun (x1:((List Pass)×Int)) (g2:Nat)=>⟨T [(1,(dl A4 p2)),(2,(.ptr (2,u1) 0)),(5,(oS x1.1 (75,g2))),(6,(dl A4 v1)),(7,(di x1.2))],G [((2,u1),some<|.box 33 (M7 p1)),((75,g2),oB 229 4 U0 x1.1)]⟩) ([],0) 0 _ hy1 (E0 (Bv W)<|B4 G_hit (.of W)<|W0 trivial) ?_
 intro x1 g2 z1 hz1 ez1
 unfold Cf at hz1
 refine A5<|A9<|sv W<|sv W<|sd W (D5 W)<|sv W<|A1<|cc W hz1 (fun c1 hz1=> ?_)<|fun c1 hz1=> ?_
 refine A8<|A5<|A7<|A9<|sv W<|A1<|bs hz1 fun y2 hy2 hz1=>D8 (fun s=> ∃g3:Nat,Sb ⟨T [(1,(dl A4 p2)),(2,(.ptr (2,u1) 0)),(5,(oS y2 (75,g3))),(6,(dl A4 v1)),(7,(di x1.2))],G [((2,u1),some<|.box 33 (M7 p1)),((75,g3),oB 229 4 U0 y2)]⟩ s) ?_ ?_
 refine A7<|E2 (Dl p1 p2 v1 x1) (fun (x2:((List Pass)×Int)) (g4:Nat)=>⟨T [(1,(dl A4 p2)),(2,(.ptr (2,u1) 0)),(5,(oS x2.1 (75,g4))),(6,(dl A4 v1)),(7,(di x1.2)),(8,(di x2.2))],G [((2,u1),some<|.box 33 (M7 p1)),((75,g4),oB 229 4 U0 x2.1)]⟩) (x1.1,0) g2 _ hy2 (E0 (Bv W)<|B4 G_hit (.of W)<|B9 (gq W) trivial) ?_
 intro x2 g4 z2 hz2 ez2
 unfold Dl at hz2
 refine A5<|A9<|sv W<|sq W<|sl W G_hit W<|sd W (D5 W)<|sv W<|A1<|cc W hz2 (fun c2 hz2=> ?_)<|fun c2 hz2=> ?_
 refine A8<|A5<|A7<|A9<|sv W<|A1<|bs hz2 fun y3 hy3 hz2=>D8 (fun s=> ∃g5:Nat,Sb ⟨T [(1,(dl A4 p2)),(2,(.ptr (2,u1) 0)),(5,(oS y3 (75,g5))),(6,(dl A4 v1)),(7,(di x1.2)),(8,(di x2.2))],G [((2,u1),some<|.box 33 (M7 p1)),((75,g5),oB 229 4 U0 y3)]⟩ s) ?_ ?_
 refine A7<|E2 (Dk p1 p2 v1 x1 x2) (fun (x3:((List Pass)×Int)) (g6:Nat)=>⟨T [(1,(dl A4 p2)),(2,(.ptr (2,u1) 0)),(5,(oS x3.1 (75,g6))),(6,(dl A4 v1)),(7,(di x1.2)),(8,(di x2.2)),(9,(di x3.2))],G [((2,u1),some<|.box 33 (M7 p1)),((75,g6),oB 229 4 U0 x3.1)]⟩) (x2.1,0) g4 _ hy3 (E0 (Bv W)<|B4 G_hit (.of W)<|B9 (gq W) trivial) ?_
 intro x3 g6 z3 hz3 ez3
 unfold Dk at hz3
 refine A5<|A9<|sv W<|sq W<|sl W G_hit W<|sv W<|bs hz3 fun _ hv2 hz3=>sd W (C5 W W hv2 W)<|sv W<|sd W (C7 W hv2 W)<|sd W (D5 W)<|sv W<|A1<|cc W hz3 (fun c3 hz3=> ?_)<|fun c3 hz3=> ?_
 refine A8<|A5<|A7<|A9<|sq W<|sl W G_hit W<|sv W<|bs hz3 fun _ hv3 hz3=>sd W (C5 W W hv3 W)<|sv W<|sd W (C7 W hv3 W)<|sv W<|bs hz3 fun v4 hv4 hz3=>sd W (C5 W W hv4 W)<|sd W (D3 W hv4 W W)<|sm W<|Z4 W G_hit (Zt v4) W (A1<|A5<|F1 W<|sq W<|sl W G_hit W<|sv W<|sv W<|bs hz3 fun _ hv5 hz3=>sd W (C5 W W hv5 W)<|sd W (C7 W hv5 W)<|sv W<|A1<|cc W hz3 (fun c4 hz3=> ?_)<|fun c4 hz3=> ?_)
 refine Tn W fun u12 _=>C0 (oS x3.1 (75,g6)) W W (sv W<|sv W<|sv W<|sv W<|bs hz3 fun v6 hv6 hz3=>sd W (C5 W W hv6 W)<|sd W (C7 W hv6 W)<|sq W<|sl W G_hit W<|sv W<|sv W<|sv W<|bs hz3 fun v7 hv7 hz3=>sd W (C5 W W hv7 W)<|sd W (C7 W hv7 W)<|sq W<|sl W G_hit W<|sv W<|sv W<|C0 (dl U0 [(Pass.mk x2.2 x3.2 (C3 (v6+v4.From))<|C3 (v7+v4.To))]) W W (bs hz3 fun _ hv8 hz3=>U1 U0 (75,g6) x3.1 (Pass.mk x2.2 x3.2 (C3 (v6+v4.From))<|C3 (v7+v4.To)) [] _ (L8<|fun _=>W) W (gq W) hv8 (ss W<|A1<|E4<|C1<|sv W<|sv W<|sv W<|A1<|E3 ?_)))
 cases hz3
 exact ⟨W,u12,(E0 ⟨.of W, .of W,(.of (Am<|Bb hv8).symm), .of W, .of W, .of W, .of W,trivial⟩<|sg W<|O9 G_hit trivial)⟩
 refine A8<|E4<|C1<|sv W<|sv W<|sv W<|A1<|E3 ?_
 cases hz3
 exact ⟨W,g6,(E0 (Bv W)<|sg W<|B9 (gq W) trivial)⟩
 refine C9 W ?_
 cases hz3
 obtain rfl:=ez3 _ rfl
 refine ⟨nofun,C6 W<|Y7 ?_⟩
 exact ⟨g6,(E0 (Bv W)<|B4 G_hit (.of W)<|B9 (gq W) trivial)⟩
 rintro _ ⟨g5,q1⟩
 refine E4<|B5 q1<|C1<|sv W<|sv W<|sv W<|A1<|E3 ?_
 cases hz2
 exact ⟨W,g5,(E0 (Bv W)<|B4 G_hit (.of W)<|B9 (gq W) trivial)⟩
 refine C9 W ?_
 cases hz2
 obtain rfl:=ez2 _ rfl
 refine ⟨nofun,C6 W<|Y7 ?_⟩
 exact ⟨g4,(E0 (Bv W)<|B4 G_hit (.of W)<|B9 (gq W) trivial)⟩
 rintro _ ⟨g3,q2⟩
 refine E4<|B5 q2<|C1<|sv W<|sv W<|sv W<|A1<|E3 ?_
 cases hz1
 exact ⟨W,g3,(E0 (Bv W)<|B4 G_hit (.of W)<|B9 (gq W) trivial)⟩
 refine C9 W ?_
 cases hz1
 obtain rfl:=ez1 _ rfl
 refine ⟨nofun,C6 W<|Y7 ?_⟩
 exact ⟨g2,(E0 ⟨.of W,trivial⟩<|B9 (gq W) trivial)⟩
 rintro _ ⟨g1,q3⟩
 refine B5 q3<|A5<|A9<|sv W<|A1<|bs h fun y4 hy4 h=>D8 (fun s=> ∃g7:Nat,Sb ⟨T [(5,(oS y4 (75,g7)))],G [((75,g7),oB 229 4 U0 y4)]⟩ s) ?_ ?_
 refine A7<|E2 (Dj) (fun (x4:((List Pass)×Int)) (g8:Nat)=>⟨T [(5,(oS x4.1 (75,g8))),(11,(di x4.2))],G [((75,g8),oB 229 4 U0 x4.1)]⟩) (y1,1) g1 _ hy4 (E0 (Bv W)<|B9 G_hit trivial) ?_
 intro x4 g8 z4 hz4 ez4
 unfold Dj at hz4
 refine A5<|A9<|sv W<|C0 (oS x4.1 (75,g8)) W W (sd W (uE (f:=U0) W G_hit)<|sv W<|A1<|cc W hz4 (fun c5 hz4=> ?_)<|fun c5 hz4=> ?_)
 refine A8<|A5<|A7<|A9<|sv W<|sv W<|A1<|bs hz4 fun y5 hy5 hz4=>D8 (fun s=> ∃g9:Nat,Sb ⟨T [(5,(oS y5 (75,g9))),(11,(di x4.2))],G [((75,g9),oB 229 4 U0 y5)]⟩ s) ?_ ?_
 refine A7<|E2 (Ae) (fun (x5:((List Pass)×Int)) (g10:Nat)=>⟨T [(5,(oS x5.1 (75,g10))),(11,(di x4.2)),(12,(di x5.2))],G [((75,g10),oB 229 4 U0 x5.1)]⟩) (x4.1,x4.2) g8 _ hy5 (E0 (Bv W)<|B9 G_hit trivial) ?_
 intro x5 g10 z5 hz5 ez5
 unfold Ae at hz5
 refine A5<|A5<|F1 W<|sv W<|sv W<|sv W<|N1 _ (oS x5.1 (75,g10)) W (M9 W) (fun _=>W) (gt W (fun _=>W)<|bs hz5 fun _ hv9 hz5=>N1 _ (.aptr _ _ _ _) W (M9 W) (fun w3=>(Sc (A2 w3) (A2 w3) G_hit (B8 w3 hv9))) ?_)
 refine N1 _ (.aptr _ _ _ _) W (M9 W) (fun w4=>(by simp only [A2 w4];rfl)) ?_
 refine gt W (fun w5=>(Un (A2 w5) (Ih G_hit<|Dp<|B8 w5 hv9) (B8 w5 hv9) W))<|N1 _ (oS x5.1 (75,g10)) W (M9 W) (fun _=>W) (gt W (fun _=>W)<|gt W (vb W W W)<|bs hz5 fun _ hv10 hz5=>N1 _ (.aptr _ _ _ _) W (M9 W) (fun w9=>(Sc (A2 w9) (A2 w9) G_hit (B8 w9 hv10))) ?_)
 refine N1 _ (.aptr _ _ _ _) W (M9 W) (fun w10=>(by simp only [A2 w10];rfl)) ?_
 refine gt W (fun w11=>(Un (A2 w11) (Ih G_hit<|Dp<|B8 w11 hv10) (B8 w11 hv10) W))<|gt W (fun w12=>(L9 (A2 w12) (A2 w12) W))<|gt W (fun w13=>(TE<|A2 w13))<|N1 _ (oS x5.1 (75,g10)) W (Lj W) (fun _=>W) (gv W (Lj W) (fun _=>W) (bs hz5 fun _ hv11 hz5=>N1 _ (.aptr _ _ _ _) W (Lj W) (fun w16=>(Sc (A2 w16) (A2 w16) G_hit (B8 w16 hv11))) ?_))
 refine N1 _ (.aptr _ _ _ _) W (Lj W) (fun w17=>(by simp only [A2 w17];rfl)) ?_
 refine gv W (Lj W) (fun w18=>(Un (A2 w18) (Ih G_hit<|Dp<|B8 w18 hv11) (B8 w18 hv11) W)) (N1 _ (oS x5.1 (75,g10)) W (Lj W) (fun _=>W) (gv W (Lj W) (fun _=>W) (gv W (Lj W) (vb W W W) (bs hz5 fun _ hv12 hz5=>N1 _ (.aptr _ _ _ _) W (Lj W) (fun w22=>(Sc (A2 w22) (A2 w22) G_hit (B8 w22 hv12))) ?_))))
 refine N1 _ (.aptr _ _ _ _) W (Lj W) (fun w23=>(by simp only [A2 w23];rfl)) ?_
 refine gv W (Lj W) (fun w24=>(Un (A2 w24) (Ih G_hit<|Dp<|B8 w24 hv12) (B8 w24 hv12) W)) (gv W (Lj W) (fun w25=>(L9 (A2 w25) (A2 w25) W)) (gv W (Lj W) (fun w26=>(TE<|A2 w26)) (N1 _ (oS x5.1 (75,g10)) W (X4 W) (fun _=>W) (gv W (X4 W) (fun _=>W) (bs hz5 fun _ hv13 hz5=>N1 _ (.aptr _ _ _ _) W (X4 W) (fun w29=>(Sc (A2 w29) (A2 w29) G_hit (B8 w29 hv13))) ?_)))))
 refine N1 _ (.aptr _ _ _ _) W (X4 W) (fun w30=>(by simp only [A2 w30];rfl)) ?_
 refine gv W (X4 W) (fun w31=>(Un (A2 w31) (Ih G_hit<|Dp<|B8 w31 hv13) (B8 w31 hv13) W)) (N1 _ (oS x5.1 (75,g10)) W (X4 W) (fun _=>W) (gv W (X4 W) (fun _=>W) (gv W (X4 W) (vb W W W) (bs hz5 fun _ hv14 hz5=>N1 _ (.aptr _ _ _ _) W (X4 W) (fun w35=>(Sc (A2 w35) (A2 w35) G_hit (B8 w35 hv14))) ?_))))
 refine N1 _ (.aptr _ _ _ _) W (X4 W) (fun w36=>(by simp only [A2 w36];rfl)) ?_
 refine gv W (X4 W) (fun w37=>(Un (A2 w37) (Ih G_hit<|Dp<|B8 w37 hv14) (B8 w37 hv14) W)) (gv W (X4 W) (fun w38=>(L9 (A2 w38) (A2 w38) W)) (gv W (Lj W) (fun w39=>(KY (A2 w39) (fun hc=>A2<|HT w39 hc) W)) (gt W (fun w40=>(N7 (A2 w40) W (fun hc=>A2<|HT w40<|I7 hc)))<|sa W W W<|A1<|cc W hz5 (fun c6 hz5=> ?_)<|fun c6 hz5=> ?_)))
 refine A8<|A5<|A7<|F1 W<|C0 (oS x5.1 (75,g10)) W W (sv W<|C0 (oS x5.1 (75,g10)) W W (sv W<|sv W<|C0 (oS x5.1 (75,g10)) W W (sv W<|sv W<|bs hz5 fun v15 hv15 hz5=>C0 (.aptr _ _ _ _) W (Sc W W G_hit hv15) (sd W (Sd W (Ih G_hit<|Dp hv15) hv15 W W)<|C0 (oS x5.1 (75,g10)) W W (sv W<|bs hz5 fun v16 hv16 hz5=>C0 (.aptr _ _ _ _) W (Sc W W G_hit hv16) (sd W (Sd W (Ih G_hit<|Dp hv16) hv16 W W)<|bs hz5 fun _ hv17 hz5=>C0 (.aptr _ _ _ _) W (Sc W W G_hit hv17) ?_))))))
 rw [Am (Dp hv17)]
 refine Rz U0 _ _ _ (x5.2) _ v15 (U0 v15) W W W (Ih G_hit<|Dp hv17) hv17 (nl W) W (bs hz5 fun _ hv18 hz5=>C0 (.aptr _ _ _ _) W (Ob W W G_hit hv18) (Rz U0 _ _ _ ((C3 (x5.2 - 1))) _ v16 (U0 v16) W W W G_hit hv18 (nl W) W (A1<|E4<|C1<|sv W<|sv W<|sv W<|A1<|E3 ?_)))
 cases hz5
 exact ⟨W,g10,(E0 ⟨(.of (Am<|CH<|CH<|Dp hv17).symm), .of W, .of W,trivial⟩<|O9 G_hit trivial)⟩
 refine C9 W ?_
 cases hz5
 obtain rfl:=ez5 _ rfl
 refine ⟨nofun,C6 W<|Y7 ?_⟩
 exact ⟨g10,(E0 (Bv W)<|B9 G_hit trivial)⟩
 rintro _ ⟨g9,q4⟩
 refine E4<|B5 q4<|C1<|sv W<|sv W<|sv W<|A1<|E3 ?_
 cases hz4
 exact ⟨W,g9,(E0 (Bv W)<|B9 G_hit trivial)⟩
 refine C9 W ?_
 cases hz4
 obtain rfl:=ez4 _ rfl
 refine ⟨nofun,C6 W<|Y7 ?_⟩
 exact ⟨g8,(E0 ⟨.of W,trivial⟩<|B9 G_hit trivial)⟩
 rintro _ ⟨g7,q5⟩
 refine B5 q5<|A9<|C0 (oS y4 (75,g7)) W W (C0 (oS y4 (75,g7)) W W (A1<|B0 ?_))
 cases h
 exact A6 (.inr W) (B6 (B2 W)<|Y5 G_hit) Y4
def Gq (p2:Agent)(p3:Agent)(p4:Int)(v3:(List Pass))(x1:Int):Option (Stp Int (Sum Unit Bool)):=
  cond (decide (x1< (v3.length:Int))) ((B7 v3 x1).bind fun v4=>((cond (v4.Zone_==p4) (B7 v3 x1) (some default))).bind fun v5=>((cond ((v4.Zone_==p4)&& (decide ((C3 (p2.S - p2.Len))≤v5.To))) (B7 v3 x1) (some default))).bind fun v6=>cond (((v4.Zone_==p4)&& (decide ((C3 (p2.S - p2.Len))≤v5.To)))&& (decide (p3.S≥v6.From))) (some (.out (.inr true))) (some (.go (C3 (x1+1))))) (some (.out (.inl ())))
def Jq (p1:Map)(p2:Agent)(p3:Agent)(p4:Int):Option Bool:=
  (Yh p2).bind fun v1=>((cond (!(!v1)) (Yh p3) (some default))).bind fun v2=>cond ((!v1)||(!v2)) (some false) ((Iw p1 p2.Route).bind fun v3=>thenS (loop (Gq p2 p3 p4 v3) 0) (fun _=>some false) (fun r=>some r))
theorem Ty(p1 p2 p3 p4 r)(h:Jq p1 p2 p3 p4=some r):PCall Tryz.prog 83 [(.agg (S3 p1)),(.agg (D2 p2)),(.agg (D2 p3)),(i64 p4)] (bo r):=by
 refine C4 (fk Tryz.func83 Tryz.ntmps83 m0 (by with_unfolding_all rfl)) (nl W) ?_
 unfold Jq at h
 refine B5 (s0:=⟨T [(0,(.d _)),(1,(.d _)),(2,(.d _)),(3,(.d _))],G []⟩) (F0 W W) ?_
 refine lr<|fun u1 _=>sm W<|sm W<|sn W W<|sv W<|A1<|A5<|A9<|sd W (B1 W (gq W) W W)<|bs h fun v1 hv1 h=>B3 W W A3 (II _ _ hv1) (.inl W) (C0 (.d (bo (!v1))) W W (sv W<|gf W (fun _=>(B1 W G_hit W W))<|bs h fun v2 hv2 h=> ?_))
 refine N2 _ (bo v2) (J9 W) (fun w2=>⟨_,[(.d (.agg (D2 p3)))],_,_,(by simp only [A2 w2];rfl),W,A3,II _ _<|B8 w2 hv2,(.inl W)⟩) ?_
 refine N1 _ (.d (bo (!v2))) W (J9 W) (fun w3=>(by simp only [A2 w3];rfl)) ?_
 refine sd W (N7 W W<|fun hc=>A2<|I7 hc)<|A1<|cc W h (fun c1 h=> ?_)<|fun c1 h=> ?_
 refine A9<|sv W<|A1<|B0 ?_
 cases h
 exact A6 (.inr W) (B6 (B2 W) C2) (.refl _)
 refine A8<|A9<|sd W (B1 W (gq W) W W)<|sq W<|sl W (gq W) W (bs h fun v3 hv3 h=>B3 W W A3 (OZ _ _ _ hv3) (.inl W) (sv W<|A1<|A5<|A9<|sv W<|A1<|js h fun z1 hz1 h=>D8 (fun s=> ∃(y1:Unit) (g1:Unit),z1= .inl y1∧Sb ⟨T [],G []⟩ s) ?_ ?_))
 refine A7<|E2 (Gq p2 p3 p4 v3) (fun (x1:Int) (g2:Unit)=>⟨T [(3,(di p4)),(5,(.ptr (5,u1) 0)),(6,(.ptr (6,u1) 0)),(9,(dl U0 v3)),(10,(di x1))],G [((5,u1),some<|.box 45 (O8 p2)),((6,u1),some<|.box 45 (O8 p3))]⟩) 0 () _ hz1 (F0 W W) ?_
 intro x1 g2 z2 hz2 ez2
 unfold Gq at hz2
 refine A5<|A9<|sv W<|sv W<|sd W (D5 W)<|sv W<|A1<|cc W hz2 (fun c2 hz2=> ?_)<|fun c2 hz2=> ?_
 refine A8<|A5<|A7<|A5<|F1 W<|sv W<|sv W<|bs hz2 fun _ hv4 hz2=>sd W (C5 W W hv4 W)<|sv W<|sd W (C7 W hv4 W)<|sv W<|sv W<|sv W<|gp W (M9 W) (fun _=>W) (gt W (vl W G_hit W)<|gp W (M9 W) (fun _=>W) (gt W (vl W G_hit W)<|gt W (fun w8=>(L9 (A2 w8) (A2 w8) W))<|gt W (fun _=>W)<|gt W (fun _=>W)<|bs hz2 fun _ hv5 hz2=>gt W (fun w11=>(C5 (A2 w11) (A2 w11) (B8 w11 hv5) W)) ?_))
 refine gt W (fun w12=>(by simp only [A2 w12];rfl)) ?_
 refine gt W (fun w13=>(C7 (A2 w13) (B8 w13 hv5) W))<|gt W (fun w14=>(L9 (A2 w14) (A2 w14) W))<|sa W W W<|sv W<|gp W (M9 W) (fun _=>W) (gt W (vl W (gq W) W)<|gt W (fun _=>W)<|gt W (fun _=>W)<|bs hz2 fun _ hv6 hz2=>gt W (fun w19=>(C5 (A2 w19) (A2 w19) (B8 w19 hv6) W)) ?_)
 refine gt W (fun w20=>(by simp only [A2 w20];rfl)) ?_
 refine gt W (fun w21=>(C7 (A2 w21) (B8 w21 hv6) W))<|gt W (fun w22=>(L9 (A2 w22) (A2 w22) W))<|sa W W W<|A1<|cc W hz2 (fun c3 hz2=> ?_)<|fun c3 hz2=> ?_
 refine A9<|sv W<|A1<|B0 ?_
 cases hz2
 obtain rfl:=ez2 _ rfl
 refine ⟨nofun,F2 ?_⟩
 rw [bY]at h
 cases h
 exact A6 (.inr W) (B6 (B2 W) C2) (.refl _)
 refine A8<|E4<|C1<|sv W<|sv W<|sv W<|A1<|E3 ?_
 cases hz2
 exact ⟨W,(),(F0 W W)⟩
 refine C9 W ?_
 cases hz2
 obtain rfl:=ez2 _ rfl
 refine ⟨nofun,C6 W<|Y7 ?_⟩
 exact ⟨_,(),W,(F0 W W)⟩
 rintro _ ⟨y1,g1,rfl,q1⟩
 rw [bX]at h
 refine B5 q1<|A9<|sv W<|A1<|B0 ?_
 cases h
 exact A6 (.inr W) (B6 (B2 W) C2) (.refl _)
def Jr (p1:(List Stay))(p2:Int)(p3:Int)(x1:Int):Option (Stp Int (Sum Unit (Stay×Bool))):=
  cond (decide (x1< (p1.length:Int))) ((B7 p1 x1).bind fun v1=>((cond (v1.Agent_==p2) (B7 p1 x1) (some default))).bind fun v2=>cond ((v1.Agent_==p2)&& (v2.Zone_==p3)) ((B7 p1 x1).bind fun v3=>some (.out (.inr (v3,true)))) (some (.go (C3 (x1+1))))) (some (.out (.inl ())))
def On (p1:(List Stay))(p2:Int)(p3:Int):Option (Stay×Bool):=
  thenS (loop (Jr p1 p2 p3) 0) (fun _=>some ((Stay.mk 0 0 0 0),false)) (fun r=>some r)
theorem AX(p1 p2 p3 r)(h:On p1 p2 p3=some r):PCall Tryz.prog 92 [(.list (List.map I9 p1)),(i64 p2),(i64 p3)] (.tup [(.agg (I9 r.1)),(bo r.2)]):=by
 refine C4 (fk Tryz.func92 Tryz.ntmps92 m0 (by with_unfolding_all rfl)) (nl W) ?_
 unfold On at h
 refine B5 (s0:=⟨T [(0,(.d _)),(1,(.d _)),(2,(.d _))],G []⟩) (F0 W W) ?_
 refine lr<|fun u1 _=>sm W<|sv W<|A1<|A5<|A9<|sv W<|A1<|js h fun z1 hz1 h=>D8 (fun s=> ∃(y1:Unit) (g1:Unit),z1= .inl y1∧Sb ⟨T [(6,(.ptr (6,u1) 0))],G [((6,u1),some<|.box 127 (zs 4))]⟩ s) ?_ ?_
 refine A7<|E2 (Jr p1 p2 p3) (fun (x1:Int) (g2:Unit)=>⟨T [(0,(dl I9 p1)),(1,(di p2)),(2,(di p3)),(6,(.ptr (6,u1) 0)),(8,(di x1))],G [((6,u1),some<|.box 127 (zs 4))]⟩) 0 () _ hz1 (F0 W W) ?_
 intro x1 g2 z2 hz2 ez2
 unfold Jr at hz2
 refine A5<|A9<|sv W<|sv W<|sd W (D5 W)<|sv W<|A1<|cc W hz2 (fun c1 hz2=> ?_)<|fun c1 hz2=> ?_
 refine A8<|A5<|A7<|A9<|sv W<|sv W<|bs hz2 fun _ hv1 hz2=>sd W (C5 W W hv1 W)<|sv W<|sd W (C7 W hv1 W)<|sv W<|sv W<|sv W<|gt W (fun _=>W)<|gt W (fun _=>W)<|bs hz2 fun _ hv2 hz2=>gt W (fun w3=>(C5 (A2 w3) (A2 w3) (B8 w3 hv2) W)) ?_
 refine gt W (fun w4=>(by simp only [A2 w4];rfl)) ?_
 refine gt W (fun w5=>(C7 (A2 w5) (B8 w5 hv2) W))<|gt W (fun _=>W)<|gt W (fun w7=>(L9 (A2 w7) (A2 w7) W))<|sa W W W<|A1<|cc W hz2 (fun c2 hz2=> ?_)<|fun c2 hz2=> ?_
 refine A9<|sv W<|sv W<|bs hz2 fun v3 hv3 hz2=>sd W (C5 W W hv3 W)<|sd W (D3 W hv3 W W)<|Z4 W G_hit (Uz v3) W (sv W<|A1<|B0 ?_)
 cases hz2
 obtain rfl:=ez2 _ rfl
 refine ⟨nofun,F2 ?_⟩
 rw [bY]at h
 cases h
 exact A6 (.inr W) (Rf (K3 W G_hit (nl W) W) (B2 W) C2 C2) (.refl _)
 refine A8<|E4<|C1<|sv W<|sv W<|sv W<|A1<|E3 ?_
 cases hz2
 exact ⟨W,(),(F0 W W)⟩
 refine C9 W ?_
 cases hz2
 obtain rfl:=ez2 _ rfl
 refine ⟨nofun,C6 W<|Y7 ?_⟩
 exact ⟨_,(),W,(F0 W W)⟩
 rintro _ ⟨y1,g1,rfl,q1⟩
 rw [bX]at h
 refine B5 q1<|A9<|sv W<|Z4 W G_hit (zs 4) W (sv W<|A1<|B0 ?_)
 cases h
 exact A6 (.inr W) (Rf (K3 W G_hit (nl W) W) (B2 W) C2 C2) (.refl _)
def Oo (p1:Map)(p2:(List Int))(p3:Int)(x1:Int):Option (Stp Int (Sum Unit Int)):=
  cond (decide (x1< (p2.length:Int))) ((B7 p1.Zones p3).bind fun v2=>(B7 p2 x1).bind fun v3=>(Yf v2 v3).bind fun v4=>cond v4.2 (some (.out (.inr x1))) (some (.go (C3 (x1+1))))) (some (.out (.inl ())))
def Oq (p1:Map)(p2:(List Int))(p3:Int):Option Int:=
  (Cm p1 p2).bind fun v1=>cond (((v1 !=0)||(decide (p3<0)))||(decide (p3≥(p1.Zones.length:Int)))) (some (-1)) (thenS (loop (Oo p1 p2 p3) 0) (fun _=>some (-1)) (fun r=>some r))
theorem Yi(p1 p2 p3 r)(h:Oq p1 p2 p3=some r):PCall Tryz.prog 44 [(.agg (S3 p1)),(.list (List.map A4 p2)),(i64 p3)] (i64 r):=by
 refine C4 (fk Tryz.func44 Tryz.ntmps44 m0 (by with_unfolding_all rfl)) (nl W) ?_
 unfold Oq at h
 refine B5 (s0:=⟨T [(0,(.d _)),(1,(.d _)),(2,(.d _))],G []⟩) (F0 W W) ?_
 refine lr<|fun u1 _=>sm W<|sv W<|A1<|A5<|A9<|sd W (B1 W G_hit W W)<|sv W<|bs h fun _ hv1 h=>B3 W W A3 (Kg _ _ _ hv1) (.inl W) (sv W<|sv W<|gf W (fun _=>W)<|gf W (vb W W W)<|sd W (N7 W W<|fun hc=>A2<|I7 hc)<|sv W<|gf W (fun _=>W)<|gp W (J9 W) (fun _=>W) (gf W (vl W G_hit W)<|gf W (fun w6=>(D5<|A2 w6))<|gf W (fun w7=>(L9 (A2 w7) (A2 w7) W))<|sd W (N7 W W<|fun hc=>A2<|I7 hc)<|A1<|cc W h (fun c1 h=> ?_)<|fun c1 h=> ?_))
 refine A9<|sv W<|A1<|B0 ?_
 cases h
 exact A6 (.inr W) (B6 (B2 W) C2) (.refl _)
 refine A8<|A5<|A9<|sv W<|A1<|js h fun z1 hz1 h=>D8 (fun s=> ∃(y1:Unit) (g1:Unit),z1= .inl y1∧Sb ⟨T [],G []⟩ s) ?_ ?_
 refine A7<|E2 (Oo p1 p2 p3) (fun (x1:Int) (g2:Unit)=>⟨T [(1,(dl A4 p2)),(2,(di p3)),(3,(.ptr (3,u1) 0)),(7,(di x1))],G [((3,u1),some<|.box 33 (M7 p1))]⟩) 0 () _ hz1 (F0 W W) ?_
 intro x1 g2 z2 hz2 ez2
 unfold Oo at hz2
 refine A5<|A9<|sv W<|sv W<|sd W (D5 W)<|sv W<|A1<|cc W hz2 (fun c2 hz2=> ?_)<|fun c2 hz2=> ?_
 refine A8<|A5<|A7<|A5<|F1 W<|sq W<|sl W G_hit W<|sv W<|bs hz2 fun _ hv2 hz2=>sd W (C5 W W hv2 W)<|sd W (D3 W hv2 W W)<|sv W<|sv W<|bs hz2 fun _ hv3 hz2=>sd W (C5 W W hv3 W)<|sd W (C7 W hv3 W)<|bs hz2 fun v4 hv4 hz2=>B3 W W A3 (IG _ _ _ hv4) (.inl W) (sv W<|sv W<|sv W<|sm W<|Z4 W G_hit (Zt v4.1) W (sv W<|A1<|A9<|sv W<|A1<|cc W hz2 (fun c3 hz2=> ?_)<|fun c3 hz2=> ?_))
 refine A9<|sv W<|sv W<|A1<|B0 ?_
 cases hz2
 obtain rfl:=ez2 _ rfl
 refine ⟨nofun,F2 ?_⟩
 rw [bY]at h
 cases h
 exact A6 (.inr W) (B6 (B2 W) C2) (.refl _)
 refine A8<|E4<|C1<|sv W<|sv W<|sv W<|A1<|E3 ?_
 cases hz2
 exact ⟨W,(),(F0 W W)⟩
 refine C9 W ?_
 cases hz2
 obtain rfl:=ez2 _ rfl
 refine ⟨nofun,C6 W<|Y7 ?_⟩
 exact ⟨_,(),W,(F0 W W)⟩
 rintro _ ⟨y1,g1,rfl,q1⟩
 rw [bX]at h
 refine B5 q1<|A9<|sv W<|A1<|B0 ?_
 cases h
 exact A6 (.inr W) (B6 (B2 W) C2) (.refl _)
def Vh (p1:Map)(p2:Int)(p3:Int)(p4:Int):Option Bool:=
  (Qt p1 p3).bind fun v1=>((cond (((v1&& (decide (p2≥0)))&& (decide (p2< (p1.Signals.length:Int))))&& (decide (p4≥0))) (B7 p1.Signals p2) (some default))).bind fun v2=>((cond (((v1&& (decide (p2≥0)))&& (decide (p2< (p1.Signals.length:Int))))&& (decide (p4≥0))) (Rr v2 p3 p4) (some default))).bind fun v3=>some ((((v1&& (decide (p2≥0)))&& (decide (p2< (p1.Signals.length:Int))))&& (decide (p4≥0)))&&v3)
theorem RP(p1 p2 p3 p4 r)(h:Vh p1 p2 p3 p4=some r):PCall Tryz.prog 177 [(.agg (S3 p1)),(i64 p2),(i64 p3),(i64 p4)] (bo r):=by
 refine C4 (fk Tryz.func177 Tryz.ntmps177 m0 (by with_unfolding_all rfl)) (nl W) ?_
 unfold Vh at h
 refine B5 (s0:=⟨T [(0,(.d _)),(1,(.d _)),(2,(.d _)),(3,(.d _))],G []⟩) (F0 W W) ?_
 refine A9<|sm W<|sv W<|A1<|A9<|sd W (B1 W G_hit W W)<|sv W<|bs h fun _ hv1 h=>B3 W W A3 (AU _ _ _ hv1) (.inl W) (sv W<|gt W (fun _=>W)<|gt W (vb W W W)<|sa W W W<|sv W<|gt W (fun _=>W)<|gp W (M9 W) (fun _=>W) (gt W (vl W G_hit W)<|gt W (fun w6=>(D5<|A2 w6))<|gt W (fun w7=>(L9 (A2 w7) (A2 w7) W))<|sa W W W<|sv W<|gt W (fun _=>W)<|gt W (vb W W W)<|sa W W W<|sv W<|gp W (M9 W) (fun _=>W) (gt W (vl W G_hit W)<|gt W (fun _=>W)<|bs h fun v2 hv2 h=>gt W (fun w13=>(C5 (A2 w13) (A2 w13) (B8 w13 hv2) W))<|gt W (fun w14=>(D3 (A2 w14) (B8 w14 hv2) W W))<|gt W (fun _=>W)<|gt W (fun _=>W)<|bs h fun v3 hv3 h=> ?_)))
 refine N2 _ (bo v3) (M9 W) (fun w17=>⟨_,[(.d (.agg [(i64 v2.Offset),(.list (List.map Dn v2.Phases))])),(di p3),(di p4)],_,_,(by simp only [A2 w17];rfl),W,A3,FU _ _ _ _<|B8 w17 hv3,(.inl W)⟩) ?_
 refine sa W W W<|sv W<|A1<|B0 ?_
 cases h
 exact A6 (.inr W) (B6 (B2 W) C2) (.refl _)
def Js (p2:Agent)(v1:Int)(v2:Zone)(x1:Int):Option (Stp Int (Sum Unit Int)):=
  cond (decide (x1< (v2.Parts.length:Int))) ((B7 v2.Parts x1).bind fun v5=>(B7 p2.Route v1).bind fun v6=>cond (v5.Lane_==v6) ((B7 v2.Parts x1).bind fun v7=>some (.out (.inr v7.Rank))) (some (.go (C3 (x1+1))))) (some (.out (.inl ())))
def Tz (p1:Map)(p2:Agent)(p3:Int)(p4:Int):Option Int:=
  (Oq p1 p2.Route p3).bind fun v1=>cond (decide (v1<0)) (some 0) ((B7 p1.Zones p3).bind fun v2=>cond (decide (v2.Signal_>0)) ((B7 p2.Route v1).bind fun v3=>(Vh p1 (C3 (v2.Signal_ - 1)) v3 p4).bind fun v4=>cond v4 (some 2) (some 0)) (thenS (loop (Js p2 v1 v2) 0) (fun _=>some 0) (fun r=>some r)))
theorem TQ(p1 p2 p3 p4 r)(h:Tz p1 p2 p3 p4=some r):PCall Tryz.prog 84 [(.agg (S3 p1)),(.agg (D2 p2)),(i64 p3),(i64 p4)] (i64 r):=by
 refine C4 (fk Tryz.func84 Tryz.ntmps84 m0 (by with_unfolding_all rfl)) (nl W) ?_
 unfold Tz at h
 refine B5 (s0:=⟨T [(0,(.d _)),(1,(.d _)),(2,(.d _)),(3,(.d _))],G []⟩) (F0 W W) ?_
 refine lr<|fun u1 _=>sm W<|sm W<|sv W<|A1<|A9<|sd W (B1 W (gq W) W W)<|sq W<|sl W G_hit W<|sv W<|bs h fun v1 hv1 h=>B3 W W A3 (Yi _ _ _ _ hv1) (.inl W) (sv W<|A1<|A5<|A9<|sv W<|sv W<|A1<|cc W h (fun c1 h=> ?_)<|fun c1 h=> ?_)
 refine A9<|sv W<|A1<|B0 ?_
 cases h
 exact A6 (.inr W) (B6 (B2 W) C2) (.refl _)
 refine A8<|lr<|fun u5 _=>sq W<|sl W (gq W) W (sv W<|bs h fun v2 hv2 h=>sd W (C5 W W hv2 W)<|sd W (D3 W hv2 W W)<|sm W<|Z4 W G_hit [(dl Dq v2.Parts),(di v2.Signal_)] W (A1<|A5<|A9<|sq W<|sl W G_hit W<|sv W<|A1<|cc W h (fun c2 h=> ?_)<|fun c2 h=> ?_))
 refine A5<|A5<|F1 W<|sd W (B1 W (gq W) W W)<|sq W<|sl W G_hit W<|sv W<|sq W<|sl W (gq W) W (sv W<|bs h fun _ hv3 h=>sd W (C5 W W hv3 W)<|sd W (C7 W hv3 W)<|sv W<|bs h fun _ hv4 h=>B3 W W A3 (RP _ _ _ _ _ hv4) (.inl W) (A1<|cc W h (fun c3 h=> ?_)<|fun c3 h=> ?_))
 refine A9<|sv W<|A1<|B0 ?_
 cases h
 exact A6 (.inr W) (B6 (B2 W) C2) (.refl _)
 refine A8<|A9<|sv W<|A1<|B0 ?_
 cases h
 exact A6 (.inr W) (B6 (B2 W) C2) (.refl _)
 refine A8<|A5<|A9<|sv W<|A1<|js h fun z1 hz1 h=>D8 (fun s=> ∃(y1:Unit) (g1:Unit),z1= .inl y1∧Sb ⟨T [],G []⟩ s) ?_ ?_
 refine A7<|E2 (Js p2 v1 v2) (fun (x1:Int) (g2:Unit)=>⟨T [(5,(.ptr (5,u1) 0)),(9,(di v1)),(10,(.ptr (10,u5) 0)),(11,(di x1))],G [((5,u1),some<|.box 45 (O8 p2)),((10,u5),some<|.box 117 [(dl Dq v2.Parts),(di v2.Signal_)])]⟩) 0 () _ hz1 (F0 W W) ?_
 intro x1 g2 z2 hz2 ez2
 unfold Js at hz2
 refine A5<|A9<|sv W<|sq W<|sl W (gq W) W (sd W (D5 W)<|sv W<|A1<|cc W hz2 (fun c4 hz2=> ?_)<|fun c4 hz2=> ?_)
 refine A8<|A5<|A7<|A5<|F1 W<|sq W<|sl W (gq W) W (sv W<|bs hz2 fun _ hv5 hz2=>sd W (C5 W W hv5 W)<|sv W<|sd W (C7 W hv5 W)<|sq W<|sl W G_hit W<|sv W<|bs hz2 fun _ hv6 hz2=>sd W (C5 W W hv6 W)<|sd W (C7 W hv6 W)<|sv W<|A1<|cc W hz2 (fun c5 hz2=> ?_)<|fun c5 hz2=> ?_)
 refine A9<|sq W<|sl W (gq W) W (sv W<|bs hz2 fun _ hv7 hz2=>sd W (C5 W W hv7 W)<|sv W<|sd W (C7 W hv7 W)<|sv W<|A1<|B0 ?_)
 cases hz2
 obtain rfl:=ez2 _ rfl
 refine ⟨nofun,F2 ?_⟩
 rw [bY]at h
 cases h
 exact A6 (.inr W) (B6 (B2 W) C2) (.refl _)
 refine A8<|E4<|C1<|sv W<|sv W<|sv W<|A1<|E3 ?_
 cases hz2
 exact ⟨W,(),(F0 W W)⟩
 refine C9 W ?_
 cases hz2
 obtain rfl:=ez2 _ rfl
 refine ⟨nofun,C6 W<|Y7 ?_⟩
 exact ⟨_,(),W,(F0 W W)⟩
 rintro _ ⟨y1,g1,rfl,q1⟩
 rw [bX]at h
 refine B5 q1<|A9<|sv W<|A1<|B0 ?_
 cases h
 exact A6 (.inr W) (B6 (B2 W) C2) (.refl _)
def Ot (p2:(List Int))(p3:Int)(v1:(List Int))(x1:Int):Option (Stp Int (Sum Unit (Int×Bool))):=
  cond (decide (x1< (p2.length:Int))) ((B7 p2 x1).bind fun v2=>cond (v2==p3) ((B7 v1 x1).bind fun v3=>some (.out (.inr (v3,true)))) (some (.go (C3 (x1+1))))) (some (.out (.inl ())))
def Rs (p1:Map)(p2:(List Int))(p3:Int):Option (Int×Bool):=
  (Me p1 p2).bind fun v1=>thenS (loop (Ot p2 p3 v1) 0) (fun _=>some (0,false)) (fun r=>some r)
theorem FV(p1 p2 p3 r)(h:Rs p1 p2 p3=some r):PCall Tryz.prog 185 [(.agg (S3 p1)),(.list (List.map A4 p2)),(i64 p3)] (.tup [(i64 r.1),(bo r.2)]):=by
 refine C4 (fk Tryz.func185 Tryz.ntmps185 m0 (by with_unfolding_all rfl)) (nl W) ?_
 unfold Rs at h
 refine B5 (s0:=⟨T [(0,(.d _)),(1,(.d _)),(2,(.d _))],G []⟩) (F0 W W) ?_
 refine A9<|sm W<|sv W<|sv W<|A1<|A9<|sd W (B1 W G_hit W W)<|sv W<|bs h fun v1 hv1 h=>B3 W W A3 (Vy _ _ _ hv1) (.inl W) (sv W<|A1<|A5<|A9<|sv W<|A1<|js h fun z1 hz1 h=>D8 (fun s=> ∃(y1:Unit) (g1:Unit),z1= .inl y1∧Sb ⟨T [],G []⟩ s) ?_ ?_)
 refine A7<|E2 (Ot p2 p3 v1) (fun (x1:Int) (g2:Unit)=>⟨T [(1,(dl A4 p2)),(2,(di p3)),(8,(dl A4 v1)),(9,(di x1))],G []⟩) 0 () _ hz1 (F0 W W) ?_
 intro x1 g2 z2 hz2 ez2
 unfold Ot at hz2
 refine A5<|A9<|sv W<|sv W<|sd W (D5 W)<|sv W<|A1<|cc W hz2 (fun c1 hz2=> ?_)<|fun c1 hz2=> ?_
 refine A8<|A5<|A7<|A9<|sv W<|sv W<|bs hz2 fun _ hv2 hz2=>sd W (C5 W W hv2 W)<|sd W (C7 W hv2 W)<|sv W<|sv W<|A1<|cc W hz2 (fun c2 hz2=> ?_)<|fun c2 hz2=> ?_
 refine A9<|sv W<|sv W<|bs hz2 fun _ hv3 hz2=>sd W (C5 W W hv3 W)<|sd W (C7 W hv3 W)<|sv W<|sv W<|A1<|B0 ?_
 cases hz2
 obtain rfl:=ez2 _ rfl
 refine ⟨nofun,F2 ?_⟩
 rw [bY]at h
 cases h
 exact A6 (.inr W) (Rf (B2 W) (B2 W) C2 C2) (.refl _)
 refine A8<|E4<|C1<|sv W<|sv W<|sv W<|A1<|E3 ?_
 cases hz2
 exact ⟨W,(),(F0 W W)⟩
 refine C9 W ?_
 cases hz2
 obtain rfl:=ez2 _ rfl
 refine ⟨nofun,C6 W<|Y7 ?_⟩
 exact ⟨_,(),W,(F0 W W)⟩
 rintro _ ⟨y1,g1,rfl,q1⟩
 rw [bX]at h
 refine B5 q1<|A9<|sv W<|sv W<|A1<|B0 ?_
 cases h
 exact A6 (.inr W) (Rf (B2 W) (B2 W) C2 C2) (.refl _)
def Ku (p1:Map)(p2:State)(p3:State)(p4:Int)(p5:Int)(x1:Int):Option (Stp Int (Sum Unit (List Crash))):=
  cond (decide (x1< (p1.Lanes.length:Int))) ((B7 p2.Agents p4).bind fun v1=>(Rs p1 v1.Route x1).bind fun v2=>(B7 p2.Agents p5).bind fun v3=>(Rs p1 v3.Route x1).bind fun v4=>cond ((!v2.2)||(!v4.2)) (some (.go (C3 (x1+1)))) ((B7 p2.Agents p4).bind fun v5=>(B7 p2.Agents p5).bind fun v6=>(cond (decide ((C3 (v5.S - v2.1))< (C3 (v6.S - v4.1)))) (some (p4,p5,v2.1,v4.1)) (some (p5,p4,v4.1,v2.1))).bind fun y2=>(B7 p3.Agents y2.1).bind fun v7=>(B7 p3.Agents y2.2.1).bind fun v8=>(B7 p3.Agents y2.2.1).bind fun v9=>(B7 p2.Agents y2.1).bind fun v10=>(B7 p2.Agents y2.1).bind fun v11=>((cond ((decide ((C3 (v7.S - y2.2.2.1))≥0))&& (decide ((C3 (v8.S - y2.2.2.2))≥0))) (Mf p1 x1) (some default))).bind fun v12=>((cond (((decide ((C3 (v7.S - y2.2.2.1))≥0))&& (decide ((C3 (v8.S - y2.2.2.2))≥0)))&& (decide ((C3 ((C3 (v10.S - y2.2.2.1)) - v11.Len))≤v12))) (Mf p1 x1) (some default))).bind fun v13=>cond (((((decide ((C3 (v7.S - y2.2.2.1))≥0))&& (decide ((C3 (v8.S - y2.2.2.2))≥0)))&& (decide ((C3 ((C3 (v10.S - y2.2.2.1)) - v11.Len))≤v12)))&& (decide ((C3 ((C3 (v8.S - y2.2.2.2)) - v9.Len))≤v13)))&& (decide ((C3 (v7.S - y2.2.2.1))≥(C3 ((C3 (v8.S - y2.2.2.2)) - v9.Len))))) (some (.out (.inr [(Crash.mk p2.Tick p4 p5 x1 (-1) [y2.1])]))) (some (.go (C3 (x1+1)))))) (some (.out (.inl ())))
def Vi (p1:Map)(p2:State)(p3:State)(p4:Int)(p5:Int):Option (List Crash):=
  thenS (loop (Ku p1 p2 p3 p4 p5) 0) (fun _=>some []) (fun r=>some r)
theorem RQ(p1 p2 p3 p4 p5 r)(h:Vi p1 p2 p3 p4 p5=some r):PCall Tryz.prog 93 [(.agg (S3 p1)),(.agg (U4 p2)),(.agg (U4 p3)),(i64 p4),(i64 p5)] (.list (List.map X5 r)):=by
 refine C4 (fk Tryz.func93 Tryz.ntmps93 (fun r=>if r==13 then [1006,1008]else []) (by with_unfolding_all rfl)) (nl W) ?_
 unfold Vi at h
 refine B5 (s0:=⟨T [(0,(.d _)),(1,(.d _)),(2,(.d _)),(3,(.d _)),(4,(.d _))],G []⟩) (F0 W W) ?_
 refine lr<|fun u1 _=>sm W<|sm W<|sn W W<|sv W<|A1<|A5<|A9<|sv W<|A1<|js h fun z1 hz1 h=>D8 (fun s=> ∃(y1:Unit) (g1:Unit),z1= .inl y1∧Sb ⟨T [],G []⟩ s) ?_ ?_
 refine A7<|E2 (Ku p1 p2 p3 p4 p5) (fun (x1:Int) (g2:Unit)=>⟨T [(3,(di p4)),(4,(di p5)),(5,(.ptr (5,u1) 0)),(6,(.ptr (6,u1) 0)),(7,(.ptr (7,u1) 0)),(11,(di x1))],G [((5,u1),some<|.box 33 (M7 p1)),((6,u1),some<|.box 25 (H7 p2)),((7,u1),some<|.box 25 (H7 p3))]⟩) 0 () _ hz1 (F0 W W) ?_
 intro x1 g2 z2 hz2 ez2
 unfold Ku at hz2
 refine A5<|A9<|sv W<|sq W<|sl W G_hit W<|sd W (D5 W)<|sv W<|A1<|cc W hz2 (fun c1 hz2=> ?_)<|fun c1 hz2=> ?_
 refine A8<|A5<|A7<|A5<|F1 W<|sd W (B1 W G_hit W W)<|sq W<|sl W (gq W) W (sv W<|bs hz2 fun _ hv1 hz2=>sd W (C5 W W hv1 W)<|sv W<|sd W (C7 W hv1 W)<|sv W<|bs hz2 fun v2 hv2 hz2=>B3 W W A3 (FV _ _ _ _ hv2) (.inl W) (sv W<|sv W<|sv W<|sv W<|sv W<|A1<|A5<|F1 W<|sd W (B1 W G_hit W W)<|sq W<|sl W (gq W) W (sv W<|bs hz2 fun _ hv3 hz2=>sd W (C5 W W hv3 W)<|sv W<|sd W (C7 W hv3 W)<|sv W<|bs hz2 fun v4 hv4 hz2=>B3 W W A3 (FV _ _ _ _ hv4) (.inl W) (sv W<|sv W<|sv W<|sv W<|sv W<|A1<|A5<|A9<|sv W<|C0 (.d (bo (!v2.2))) W W (sv W<|gf W (fun _=>W) ?_)))))
 refine N1 _ (.d (bo (!v4.2))) W (J9 W) (fun w2=>(by simp only [A2 w2];rfl)) ?_
 refine sd W (N7 W W<|fun hc=>A2<|I7 hc)<|A1<|cc W hz2 (fun c2 hz2=> ?_)<|fun c2 hz2=> ?_
 refine Tm W<|C1<|sv W<|sv W<|sv W<|A1<|E3 ?_
 cases hz2
 exact ⟨W,(),(F0 W W)⟩
 refine A8<|A9<|sv W<|sv W<|sv W<|sv W<|sv W<|sv W<|sv W<|sv W<|A1<|A5<|A5<|F1 W<|sq W<|sl W (gq W) W (sv W<|bs hz2 fun _ hv5 hz2=>sd W (C5 W W hv5 W)<|sv W<|sd W (C7 W hv5 W)<|sv W<|sv W<|sq W<|sl W (gq W) W (sv W<|bs hz2 fun _ hv6 hz2=>sd W (C5 W W hv6 W)<|sv W<|sd W (C7 W hv6 W)<|sv W<|sv W<|sv W<|A1<|bs hz2 fun y2 hy2 hz2=>D8 (fun s=> ∃g3:Unit,Sb ⟨T [(3,(di p4)),(4,(di p5)),(5,(.ptr (5,u1) 0)),(6,(.ptr (6,u1) 0)),(7,(.ptr (7,u1) 0)),(11,(di x1)),(16,(di y2.1)),(17,(di y2.2.1)),(18,(di y2.2.2.1)),(19,(di y2.2.2.2))],G [((5,u1),some<|.box 33 (M7 p1)),((6,u1),some<|.box 25 (H7 p2)),((7,u1),some<|.box 25 (H7 p3))]⟩ s) ?_ ?_))
 refine cc W hy2 (fun c3 hy2=> ?_)<|fun c3 hy2=> ?_
 refine C1<|sv W<|sv W<|sv W<|sv W<|sv W<|sv W<|sv W<|sv W<|A1 ?_
 cases hy2
 exact Y7 ⟨(),(F0 W W)⟩
 refine A8 ?_
 cases hy2
 exact Y7 ⟨(),(F0 W W)⟩
 rintro _ ⟨g3,q1⟩
 refine B5 q1<|A5<|F1 W<|sq W<|sl W (gq W) W (sv W<|bs hz2 fun _ hv7 hz2=>sd W (C5 W W hv7 W)<|sv W<|sd W (C7 W hv7 W)<|sv W<|sv W<|sq W<|sl W (gq W) W (sv W<|bs hz2 fun _ hv8 hz2=>sd W (C5 W W hv8 W)<|sv W<|sd W (C7 W hv8 W)<|sv W<|sv W<|sv W<|sv W<|A1<|A5<|F1 W<|sv W<|sq W<|sl W (gq W) W (sv W<|bs hz2 fun _ hv9 hz2=>sd W (C5 W W hv9 W)<|sv W<|sd W (C7 W hv9 W)<|sv W<|sq W<|sl W (gq W) W (sv W<|bs hz2 fun _ hv10 hz2=>sd W (C5 W W hv10 W)<|sv W<|sd W (C7 W hv10 W)<|sv W<|sv W<|sq W<|sl W (gq W) W (sv W<|bs hz2 fun _ hv11 hz2=>sd W (C5 W W hv11 W)<|sv W<|sd W (C7 W hv11 W)<|sv W<|sv W<|sv W<|A1<|A9<|sv W<|sv W<|sv W ?_)))))
 refine gt W (fun _=>W)<|gt W (vb W W W)<|sa W W W<|sv W<|gt W (fun _=>W)<|gt W (fun _=>(B1 W G_hit W W))<|gt W (fun _=>W)<|bs hz2 fun v12 hv12 hz2=> ?_
 refine N2 _ (i64 v12) (M9 W) (fun w8=>⟨_,[(.d (.agg (S3 p1))),(di x1)],_,_,(by simp only [A2 w8];rfl),W,A3,Vz _ _ _<|B8 w8 hv12,(.inl W)⟩) ?_
 refine gt W (fun w9=>(L9 (A2 w9) (A2 w9) W))<|sa W W W<|sv W<|gt W (fun _=>W)<|gt W (fun _=>(B1 W G_hit W W))<|gt W (fun _=>W)<|bs hz2 fun v13 hv13 hz2=> ?_
 refine N2 _ (i64 v13) (M9 W) (fun w13=>⟨_,[(.d (.agg (S3 p1))),(di x1)],_,_,(by simp only [A2 w13];rfl),W,A3,Vz _ _ _<|B8 w13 hv13,(.inl W)⟩) ?_
 refine gt W (fun w14=>(L9 (A2 w14) (A2 w14) W))<|sa W W W<|sv W<|gt W (fun _=>W)<|gt W (fun _=>W)<|gt W (fun w17=>(L9 (A2 w17) (A2 w17) W))<|sa W W W<|A1<|cc W hz2 (fun c4 hz2=> ?_)<|fun c4 hz2=> ?_
 refine A9<|sq W<|sl W (gq W) W (sv W<|sv W<|sv W<|sv W<|C0 (dl A4 [y2.1]) W W (sv W<|C0 (dl X5 [(Crash.mk p2.Tick p4 p5 x1 (-1) [y2.1])]) W W (C0 (dl X5 [(Crash.mk p2.Tick p4 p5 x1 (-1) [y2.1])]) W W (A1<|B0 ?_))))
 cases hz2
 obtain rfl:=ez2 _ rfl
 refine ⟨nofun,F2 ?_⟩
 rw [bY]at h
 cases h
 exact A6 (.inr W) (B6 (B2 W) C2) (.refl _)
 refine A8<|E4<|C1<|sv W<|sv W<|sv W<|A1<|E3 ?_
 cases hz2
 exact ⟨W,(),(F0 W W)⟩
 refine C9 W ?_
 cases hz2
 obtain rfl:=ez2 _ rfl
 refine ⟨nofun,C6 W<|Y7 ?_⟩
 exact ⟨_,(),W,(F0 W W)⟩
 rintro _ ⟨y1,g1,rfl,q2⟩
 rw [bX]at h
 refine B5 q2<|A9<|sv W<|A1<|B0 ?_
 cases h
 exact A6 (.inr W) (B6 (B2 W) C2) DLe.nil
def Kv (p1:Map)(p2:State)(p3:State)(p4:Int)(p5:Int)(x1:((List Int)×Int)):Option (Stp ((List Int)×Int) (List Int)):=
  cond (decide (x1.2< (p1.Zones.length:Int))) ((B7 p2.Agents p4).bind fun v1=>(B7 p2.Agents p5).bind fun v2=>(B7 p3.Agents p4).bind fun v3=>(Jq p1 v1 v3 x1.2).bind fun v4=>((cond (!(!v4)) (B7 p3.Agents p5) (some default))).bind fun v5=>((cond (!(!v4)) (Jq p1 v2 v5 x1.2) (some default))).bind fun v6=>cond ((!v4)||(!v6)) (some (.go (x1.1,(C3 (x1.2+1))))) ((Oq p1 v1.Route x1.2).bind fun v7=>(B7 v1.Route v7).bind fun v8=>(Oq p1 v2.Route x1.2).bind fun v9=>(B7 v2.Route v9).bind fun v10=>cond (v8 !=v10) ((Z2 x1.1 [x1.2]).bind fun v11=>some (.go (v11,(C3 (x1.2+1))))) (some (.go (x1.1,(C3 (x1.2+1))))))) (some (.out x1.1))
def Vj (p1:Map)(p2:State)(p3:State)(p4:Int)(p5:Int):Option (List Int):=
  (loop (Kv p1 p2 p3 p4 p5) ([],0)).bind fun y1=>some y1
theorem RR(p1 p2 p3 p4 p5 r)(h:Vj p1 p2 p3 p4 p5=some r):PCall Tryz.prog 86 [(.agg (S3 p1)),(.agg (U4 p2)),(.agg (U4 p3)),(i64 p4),(i64 p5)] (.list (List.map A4 r)):=by
 refine C4 (fk Tryz.func86 Tryz.ntmps86 (fun r=>if r==8 then [1002]else []) (by with_unfolding_all rfl)) (nl W) ?_
 unfold Vj at h
 refine B5 (s0:=⟨T [(0,(.d _)),(1,(.d _)),(2,(.d _)),(3,(.d _)),(4,(.d _))],G []⟩) (F0 W W) ?_
 refine lr<|fun u1 _=>sm W<|sm W<|sn W W<|sv W<|A1<|A9<|sv W<|A1<|A5<|A9<|sv W<|A1<|bs h fun y1 hy1 h=>D8 (fun s=> ∃g1:Nat,Sb ⟨T [(11,(oS y1 (76,g1)))],G [((76,g1),oB 3 1 A4 y1)]⟩ s) ?_ ?_
 refine A7<|E2 (Kv p1 p2 p3 p4 p5) (fun (x1:((List Int)×Int)) (g2:Nat)=>⟨T [(3,(di p4)),(4,(di p5)),(5,(.ptr (5,u1) 0)),(6,(.ptr (6,u1) 0)),(7,(.ptr (7,u1) 0)),(11,(oS x1.1 (76,g2))),(12,(di x1.2))],G [((5,u1),some<|.box 33 (M7 p1)),((6,u1),some<|.box 25 (H7 p2)),((7,u1),some<|.box 25 (H7 p3)),((76,g2),oB 3 1 A4 x1.1)]⟩) ([],0) 0 _ hy1 (E0 (Bv W)<|sg W<|sg W<|B4 G_hit (.of W)<|W0 trivial) ?_
 intro x1 g2 z1 hz1 ez1
 unfold Kv at hz1
 refine A5<|A9<|sv W<|sq W<|sl W G_hit W<|sd W (D5 W)<|sv W<|A1<|cc W hz1 (fun c1 hz1=> ?_)<|fun c1 hz1=> ?_
 refine A8<|A5<|A7<|A5<|Wz fun _ _=>P5 (.ptr _ _) W W (P5 (.d _) W (Q6 W (gq W) W) (P5 (.d _) W W (bs hz1 fun v1 hv1 hz1=>P5 (.d _) W (C5 W W hv1 W) (P5 (.d _) W (D3 W hv1 W W) (P5 (.ptr _ _) W W (P5 (.d _) W (Q6 W (gq W) W) (P5 (.d _) W W (bs hz1 fun v2 hv2 hz1=>P5 (.d _) W (C5 W W hv2 W) (P5 (.d _) W (D3 W hv2 W W) (LA (.ptr _ _) (.box _ _) W W (LA (.ptr _ _) (.box _ _) W W (Zs _ _ _ _ _ W W W (gq W) (nl W) (O8 v1) W (Zs _ _ _ _ _ W W W (gq W) (nl W) (O8 v2) W (KZ ⟨W,?_⟩))))))))))))))
 refine A5<|A5<|F1 W<|sd W (B1 W (gq W) W W)<|sd W (B1 W (gq W) W W)<|sq W<|sl W (gq W) W (sv W<|bs hz1 fun _ hv3 hz1=>sd W (C5 W W hv3 W)<|sd W (D3 W hv3 W W)<|sv W<|bs hz1 fun v4 hv4 hz1=>B3 W W A3 (Ty _ _ _ _ _ hv4) (.inl W) (C0 (.d (bo (!v4))) W W (sv W<|gf W (fun _=>(B1 W (gq W) W W))<|gf W (fun _=>(B1 W G_hit W W))<|gp W (J9 W) (fun _=>W) (gf W (vl W (gq W) W)<|gf W (fun _=>W)<|bs hz1 fun v5 hv5 hz1=>gf W (fun w6=>(C5 (A2 w6) (A2 w6) (B8 w6 hv5) W))<|gf W (fun w7=>(D3 (A2 w7) (B8 w7 hv5) W W))<|gf W (fun _=>W)<|bs hz1 fun v6 hv6 hz1=> ?_))))
 refine N2 _ (bo v6) (J9 W) (fun w9=>⟨_,[(.d (.agg (S3 p1))),(.d (.agg (D2 v2))),(.d (.agg (D2 v5))),(di x1.2)],_,_,(by simp only [A2 w9];rfl),W,A3,Ty _ _ _ _ _<|B8 w9 hv6,(.inl W)⟩) ?_
 refine N1 _ (.d (bo (!v6))) W (J9 W) (fun w10=>(by simp only [A2 w10];rfl)) ?_
 refine sd W (N7 W W<|fun hc=>A2<|I7 hc)<|A1<|cc W hz1 (fun c2 hz1=> ?_)<|fun c2 hz1=> ?_
 refine Tm W<|C1<|sv W<|sv W<|sv W<|A1<|E3 ?_
 cases hz1
 exact ⟨W,g2,(E0 (Bv W)<|sg W<|sg W<|sg W<|B9 (gq W) trivial)⟩
 refine A8<|A5<|F1 W<|sq W<|sl W (gq W) W (sd W (B1 W (gq W) W W)<|sq W<|sl W (gq W) W (sv W<|bs hz1 fun _ hv7 hz1=>B3 W W A3 (Yi _ _ _ _ hv7) (.inl W) (bs hz1 fun _ hv8 hz1=>sd W (C5 W W hv8 W)<|sd W (C7 W hv8 W)<|sq W<|sl W G_hit W<|sd W (B1 W (gq W) W W)<|sq W<|sl W G_hit W<|sv W<|bs hz1 fun _ hv9 hz1=>B3 W W A3 (Yi _ _ _ _ hv9) (.inl W) (bs hz1 fun _ hv10 hz1=>sd W (C5 W W hv10 W)<|sd W (C7 W hv10 W)<|sv W<|A1<|cc W hz1 (fun c3 hz1=> ?_)<|fun c3 hz1=> ?_))))
 refine Ew fun u9 _=>C0 (oS x1.1 (76,g2)) W W (sv W<|C0 (dl A4 [x1.2]) W W (bs hz1 fun _ hv11 hz1=>U1 A4 (76,g2) x1.1 x1.2 [] _ (L8<|fun _=>W) W (gq W) hv11 (ss W<|A1<|E4<|C1<|sv W<|sv W<|sv W<|A1<|E3 ?_)))
 cases hz1
 exact ⟨W,u9,(E0 ⟨.of W, .of W, .of W, .of W, .of W,(.of (Am<|Bb hv11).symm), .of W,trivial⟩<|sg W<|sg W<|sg W<|O9 G_hit trivial)⟩
 refine A8<|E4<|C1<|sv W<|sv W<|sv W<|A1<|E3 ?_
 cases hz1
 exact ⟨W,g2,(E0 (Bv W)<|sg W<|sg W<|sg W<|B9 (gq W) trivial)⟩
 refine C9 W ?_
 cases hz1
 obtain rfl:=ez1 _ rfl
 refine ⟨nofun,C6 W<|Y7 ?_⟩
 exact ⟨g2,(E0 ⟨.of W,trivial⟩<|B9 (gq W) trivial)⟩
 rintro _ ⟨g1,q1⟩
 refine B5 q1<|A9<|C0 (oS y1 (76,g1)) W W (C0 (oS y1 (76,g1)) W W (A1<|B0 ?_))
 cases h
 exact A6 (.inr W) (B6 (B2 W)<|Y5 G_hit) Y4
def BS (p1:State)(p2:Int)(p3:Int)(p4:Int):Option (List Int):=
  (On p1.In p2 p4).bind fun v1=>(On p1.In p3 p4).bind fun v2=>cond ((decide (v1.1.Rank<v2.1.Rank))||((v1.1.Rank==v2.1.Rank)&& (decide (v1.1.Since>v2.1.Since)))) (some [p2]) (cond ((decide (v2.1.Rank<v1.1.Rank))||(decide (v2.1.Since>v1.1.Since))) (some [p3]) (some [p2,p3]))
theorem XI(p1 p2 p3 p4 r)(h:BS p1 p2 p3 p4=some r):PCall Tryz.prog 94 [(.agg (U4 p1)),(i64 p2),(i64 p3),(i64 p4)] (.list (List.map A4 r)):=by
 refine C4 (fk Tryz.func94 Tryz.ntmps94 (fun r=>if r==4 then [1001]else if r==6 then [1001]else if r==7 then [1002]else []) (by with_unfolding_all rfl)) (nl W) ?_
 unfold BS at h
 refine B5 (s0:=⟨T [(0,(.d _)),(1,(.d _)),(2,(.d _)),(3,(.d _))],G []⟩) (F0 W W) ?_
 refine A9<|sm W<|sv W<|A1<|A9<|sq W<|sl W G_hit W<|sv W<|sv W<|bs h fun v1 hv1 h=>B3 W W A3 (AX _ _ _ _ hv1) (.inl W) (sv W<|sv W<|sv W<|sm W<|Z4 W G_hit (Uz v1.1) W (sv W<|A1<|A9<|sq W<|sl W (gq W) W (sv W<|sv W<|bs h fun v2 hv2 h=>B3 W W A3 (AX _ _ _ _ hv2) (.inl W) (sv W<|sv W<|sv W<|sm W<|Z4 W G_hit (Uz v2.1) W (sv W<|A1<|A5<|A9<|sq W<|sl W (gq W) W (sq W<|sl W G_hit W<|sv W<|sv W<|gp W (J9 W) (fun _=>W) (gf W (vl W (gq W) W)<|gp W (J9 W) (fun _=>W) (gf W (vl W G_hit W)<|gf W (fun w5=>(L9 (A2 w5) (A2 w5) W))<|gf W (fun w6=>(TE<|A2 w6))<|N1 _ (.ptr _ _) W (X4 W) (fun _=>W) (gv W (X4 W) (vl W (gq W) W) (N1 _ (.ptr _ _) W (X4 W) (fun _=>W) (gv W (X4 W) (vl W G_hit W) (gv W (X4 W) (fun w11=>(L9 (A2 w11) (A2 w11) W)) (gf W (fun w12=>(KY (A2 w12) (fun hc=>A2<|HT w12 hc) W))<|sd W (N7 W W<|fun hc=>A2<|I7 hc)<|A1<|cc W h (fun c1 h=> ?_)<|fun c1 h=> ?_)))))))))))))
 refine A9<|sv W<|C0 (dl A4 [p2]) W W (C0 (dl A4 [p2]) W W (A1<|B0 ?_))
 cases h
 exact A6 (.inr W) (B6 (B2 W) C2) (.refl _)
 refine A8<|A5<|A9<|sq W<|sl W G_hit W<|sq W<|sl W (gq W) W (sv W<|sv W<|gp W (J9 W) (fun _=>W) (gf W (vl W G_hit W)<|gp W (J9 W) (fun _=>W) (gf W (vl W (gq W) W)<|gf W (fun w17=>(L9 (A2 w17) (A2 w17) W))<|sd W (N7 W W<|fun hc=>A2<|I7 hc)<|A1<|cc W h (fun c2 h=> ?_)<|fun c2 h=> ?_)))
 refine A9<|sv W<|C0 (dl A4 [p3]) W W (C0 (dl A4 [p3]) W W (A1<|B0 ?_))
 cases h
 exact A6 (.inr W) (B6 (B2 W) C2) (.refl _)
 refine A8<|A9<|sv W<|sv W<|C0 (dl A4 [p2,p3]) W W (C0 (dl A4 [p2,p3]) W W (A1<|B0 ?_))
 cases h
 exact A6 (.inr W) (B6 (B2 W) C2) (.refl _)
def Ng (p2:State)(x3:((List Crash)×Int×State))(x4:((List Crash)×Int))(v18:(List Int))(x5:((List Crash)×Int)):Option (Stp ((List Crash)×Int) (List Crash)):=
  cond (decide (x5.2< (v18.length:Int))) ((B7 v18 x5.2).bind fun v19=>(B7 v18 x5.2).bind fun v20=>(BS x3.2.2 x3.2.1 x4.2 v20).bind fun v21=>(Z2 x5.1 [(Crash.mk p2.Tick x3.2.1 x4.2 (-1) v19 v21)]).bind fun v22=>some (.go (v22,(C3 (x5.2+1))))) (some (.out x5.1))
def Jt (p1:Map)(p2:State)(x3:((List Crash)×Int×State))(x4:((List Crash)×Int)):Option (Stp ((List Crash)×Int) (List Crash)):=
  cond (decide (x4.2< (p2.Agents.length:Int))) ((Lp p2 x3.2.1).bind fun v14=>((cond (!(!v14)) (Lp p2 x4.2) (some default))).bind fun v15=>cond ((!v14)||(!v15)) (some (.go (x4.1,(C3 (x4.2+1))))) ((Vi p1 p2 x3.2.2 x3.2.1 x4.2).bind fun v16=>(Z2 x4.1 v16).bind fun v17=>(Vj p1 p2 x3.2.2 x3.2.1 x4.2).bind fun v18=>(loop (Ng p2 x3 x4 v18) (v17,0)).bind fun y7=>some (.go (y7,(C3 (x4.2+1)))))) (some (.out x4.1))
def Gj (p1:Map)(p2:State)(x3:((List Crash)×Int×State)):Option (Stp ((List Crash)×Int×State) ((List Crash)×State)):=
  cond (decide (x3.2.1< (p2.Agents.length:Int))) ((loop (Jt p1 p2 x3) (x3.1,(C3 (x3.2.1+1)))).bind fun y6=>some (.go (y6,(C3 (x3.2.1+1)),x3.2.2))) (some (.out (x3.1,x3.2.2)))
def Ju (p1:Map)(p2:State)(x1:(Int×State))(x2:(Int×State)):Option (Stp (Int×State) State):=
  ((cond (decide (x2.1< (p1.Zones.length:Int))) (Lp p2 x1.1) (some default))).bind fun v6=>cond ((decide (x2.1< (p1.Zones.length:Int)))&&v6) ((B7 p2.Agents x1.1).bind fun v7=>(B7 x2.2.Agents x1.1).bind fun v8=>(Jq p1 v7 v8 x2.1).bind fun v9=>cond (!v9) (some (.go ((C3 (x2.1+1)),x2.2))) ((On p2.In x1.1 x2.1).bind fun v10=>(cond (!v10.2) ((B7 p2.Agents x1.1).bind fun v11=>(Tz p1 v11 x2.1 p2.Tick).bind fun v12=>some (Stay.mk x1.1 x2.1 p2.Tick v12)) (some v10.1)).bind fun y4=>(Z2 x2.2.In [y4]).bind fun v13=>some (.go ((C3 (x2.1+1)),(State.mk x2.2.Tick x2.2.Agents v13))))) (some (.out x2.2))
def Nh (p1:Map)(p2:State)(p3:(List Int))(x1:(Int×State)):Option (Stp (Int×State) State):=
  cond (decide (x1.1< (p2.Agents.length:Int))) ((cond (decide (x1.1< (p3.length:Int))) ((B7 p3 x1.1).bind fun v3=>some v3) (some 0)).bind fun y2=>(Yg p1 p2 x1.1 y2).bind fun v4=>(B7 x1.2.Agents x1.1).bind fun v5=>(loop (Ju p1 p2 x1) (0,(State.mk x1.2.Tick (Kj x1.2.Agents x1.1 v4) x1.2.In))).bind fun y3=>some (.go ((C3 (x1.1+1)),y3))) (some (.out x1.2))
def Yj (p1:Map)(p2:State)(p3:(List Int)):Option (State× (List Crash)×Int):=
  (Rp p1 p2).bind fun v1=>cond (v1 !=0) (some ((State.mk 0 [] []),[],v1)) (cond (p2.Tick==1099511627776) (some ((State.mk 0 [] []),[],2)) ((Up p2).bind fun v2=>(loop (Nh p1 p2 p3) (0,(State.mk v2.Tick v2.Agents []))).bind fun y1=>(loop (Gj p1 p2) ([],0,(State.mk (C3 (y1.Tick+1)) y1.Agents y1.In))).bind fun y5=>some (y5.2,y5.1,0)))
theorem TR(p1 p2 p3 r)(h:Yj p1 p2 p3=some r):PCall Tryz.prog 32 [(.agg (S3 p1)),(.agg (U4 p2)),(.list (List.map A4 p3))] (.tup [(.agg (U4 r.1)),(.list (List.map X5 r.2.1)),(i64 r.2.2)]):=by
 refine C4 (fk Tryz.func32 Tryz.ntmps32 (fun r=>if r==6 then [1006001]else if r==22 then [1003]else if r==37 then [1018]else []) (by with_unfolding_all rfl)) (nl W) ?_
 unfold Yj at h
 refine B5 (s0:=⟨T [(0,(.d _)),(1,(.d _)),(2,(.d _))],G []⟩) (F0 W W) ?_
 refine lr<|fun u1 _=>sm W<|sm W<|sn W W<|sv W<|sv W<|A1<|A9<|sd W (B1 W (gq W) W W)<|sd W (B1 W (gq W) W W)<|bs h fun _ hv1 h=>B3 W W A3 (FT _ _ _ hv1) (.inl W) (sv W<|A1<|A5<|A9<|sv W<|sv W<|A1<|cc W h (fun c1 h=> ?_)<|fun c1 h=> ?_)
 refine A9<|sv W<|sv W<|Z4 W G_hit [(di 0),(.d .nilS),(.d .nilS)] W (sv W<|sv W<|A1<|B0 ?_)
 cases h
 exact A6 (.inr W) (DO (K3 W G_hit (nl W) W) (B2 W) (B2 W) C2 C2 C2) (.tup (.cons (.agg (ca W<|.cons ⟨DLe.nil,W⟩ (.cons ⟨DLe.nil,W⟩ .nil))) (.cons DLe.nil A3)))
 refine A8<|A5<|A9<|sq W<|sl W (gq W) W (sv W<|A1<|cc W h (fun c2 h=> ?_)<|fun c2 h=> ?_)
 refine A9<|sv W<|Z4 W G_hit [(di 0),(.d .nilS),(.d .nilS)] W (sv W<|sv W<|A1<|B0 ?_)
 cases h
 exact A6 (.inr W) (DO (K3 W G_hit (nl W) W) (B2 W) (B2 W) C2 C2 C2) (.tup (.cons (.agg (ca W<|.cons ⟨DLe.nil,W⟩ (.cons ⟨DLe.nil,W⟩ .nil))) (.cons DLe.nil A3)))
 refine A8<|lr<|fun u7 _=>sd W (B1 W (gq W) W W)<|bs h fun v2 hv2 h=> ?_
 refine MY (v:=Bo [(di v2.Tick),(oS v2.Agents (10060010,u7)),(oS v2.In (10060011,u7))]) (us:= [(10060010,u7),(10060011,u7)]) (nT (NG _ _ hv2) [] [] _ (((10060011,u7),oB 127 4 I9 v2.In)::(((10060010,u7),oB 45 7 D2 v2.Agents)::_)) W Qi W Mq trivial (fun _ h=>h) List.nodup_nil (by generalize v2.Agents=x1;generalize v2.In=x2;cases x1<;>cases x2<;>rfl) W (RD<|RD (W)) W) ?_
 refine sn W W<|Ig _ _ _ _ _ (W8 _) W W G_hit (nl W) [(di v2.Tick),(oS v2.Agents (10060010,u7)),(oS v2.In (10060011,u7))] W (A1<|A9<|sq W<|Z4 W G_hit [(di v2.Tick),(oS v2.Agents (10060010,u7)),(.d .nilS)] W (A1<|A5<|A9<|sv W<|A1<|bs h fun y1 hy1 h=>D8 (fun s=> ∃g1:(Nat×Nat),Sb ⟨T [(3,(.ptr (3,u1) 0)),(4,(.ptr (4,u1) 0)),(6,(.ptr (6,u1) 0)),(10,(.ptr (10,u7) 0))],G [((3,u1),some<|.box 33 (M7 p1)),((4,u1),some<|.box 25 (H7 p2)),((6,u1),some<|.box 25 [(di 0),(.d .nilS),(.d .nilS)]),((10,u7),some<|.box 25 [(di y1.Tick),(oS y1.Agents (10060010,g1.1)),(oS y1.In (114,g1.2))]),((10060010,g1.1),oB 45 7 D2 y1.Agents),((114,g1.2),oB 127 4 I9 y1.In)]⟩ s) ?_ ?_))
 refine A7<|E2 (Nh p1 p2 p3) (fun (x1:(Int×State)) (g2:(Nat×Nat))=>⟨T [(2,(dl A4 p3)),(3,(.ptr (3,u1) 0)),(4,(.ptr (4,u1) 0)),(6,(.ptr (6,u1) 0)),(10,(.ptr (10,u7) 0)),(11,(di x1.1))],G [((3,u1),some<|.box 33 (M7 p1)),((4,u1),some<|.box 25 (H7 p2)),((6,u1),some<|.box 25 [(di 0),(.d .nilS),(.d .nilS)]),((10,u7),some<|.box 25 [(di x1.2.Tick),(oS x1.2.Agents (10060010,g2.1)),(oS x1.2.In (114,g2.2))]),((10060010,g2.1),oB 45 7 D2 x1.2.Agents),((114,g2.2),oB 127 4 I9 x1.2.In)]⟩) (0,(State.mk v2.Tick v2.Agents [])) (u7,0) _ hy1 (E0 (Bv W)<|sg W<|sg W<|sg W<|B4 G_hit (.of W)<|B9 (gq W)<|W0 trivial) ?_
 intro x1 g2 z1 hz1 ez1
 unfold Nh at hz1
 refine A5<|A9<|sv W<|sq W<|sl W (gq W) W (sd W (D5 W)<|sv W<|A1<|cc W hz1 (fun c3 hz1=> ?_)<|fun c3 hz1=> ?_)
 refine A8<|A5<|A7<|A9<|sv W<|A1<|A5<|A9<|sv W<|sv W<|sd W (D5 W)<|sv W<|A1<|bs hz1 fun y2 hy2 hz1=>D8 (fun s=> ∃g3:Unit,Sb ⟨T [(2,(dl A4 p3)),(3,(.ptr (3,u1) 0)),(4,(.ptr (4,u1) 0)),(6,(.ptr (6,u1) 0)),(10,(.ptr (10,u7) 0)),(11,(di x1.1)),(12,(di y2))],G [((3,u1),some<|.box 33 (M7 p1)),((4,u1),some<|.box 25 (H7 p2)),((6,u1),some<|.box 25 [(di 0),(.d .nilS),(.d .nilS)]),((10,u7),some<|.box 25 [(di x1.2.Tick),(oS x1.2.Agents (10060010,g2.1)),(oS x1.2.In (114,g2.2))]),((10060010,g2.1),oB 45 7 D2 x1.2.Agents),((114,g2.2),oB 127 4 I9 x1.2.In)]⟩ s) ?_ ?_
 refine cc W hy2 (fun c4 hy2=> ?_)<|fun c4 hy2=> ?_
 refine C1<|sv W<|sv W<|bs hy2 fun _ hv3 hy2=>sd W (C5 W W hv3 W)<|sd W (C7 W hv3 W)<|sv W<|A1 ?_
 obtain rfl:=(lD hy2)
 exact Y7 ⟨(),(E0 (Bv W)<|B4 G_hit (.of W)<|sg W<|sg W<|sg W<|B9 (gq W)<|B9 (gq W) trivial)⟩
 refine A8 ?_
 cases hy2
 exact Y7 ⟨(),(E0 (Bv W)<|B4 G_hit (.of W)<|sg W<|sg W<|sg W<|B9 (gq W)<|B9 (gq W) trivial)⟩
 rintro _ ⟨g3,q1⟩
 refine B5 q1<|A5<|F1 W<|sq W<|C0 (oS x1.2.Agents (10060010,g2.1)) W (Q6 W (gq W) W) (sv W<|sd W (B1 W G_hit W W)<|sd W (B1 W (gq W) W W)<|sv W<|sv W<|bs hz1 fun v4 hv4 hz1=>B3 W W A3 (TP _ _ _ _ _ hv4) (.inl W) (bs hz1 fun _ hv5 hz1=>C0 (.aptr _ _ _ _) W (Sc W W (gq W) hv5) ?_))
 rw [Am (Dp hv5)]
 refine Rz D2 _ _ _ (x1.1) _ v4 (D2 v4) W W W (Ih (gq W)<|Dp hv5) hv5 (nl W) W (A1<|A9<|sv W<|A1<|bs hz1 fun y3 hy3 hz1=>D8 (fun s=> ∃g4:(Nat×Nat),Sb ⟨T [(2,(dl A4 p3)),(3,(.ptr (3,u1) 0)),(4,(.ptr (4,u1) 0)),(6,(.ptr (6,u1) 0)),(10,(.ptr (10,u7) 0)),(11,(di x1.1))],G [((3,u1),some<|.box 33 (M7 p1)),((4,u1),some<|.box 25 (H7 p2)),((6,u1),some<|.box 25 [(di 0),(.d .nilS),(.d .nilS)]),((10,u7),some<|.box 25 [(di y3.Tick),(oS y3.Agents (10060010,g4.1)),(oS y3.In (114,g4.2))]),((10060010,g4.1),oB 45 7 D2 y3.Agents),((114,g4.2),oB 127 4 I9 y3.In)]⟩ s) ?_ ?_)
 refine A7<|E2 (Ju p1 p2 x1) (fun (x2:(Int×State)) (g5:(Nat×Nat))=>⟨T [(2,(dl A4 p3)),(3,(.ptr (3,u1) 0)),(4,(.ptr (4,u1) 0)),(6,(.ptr (6,u1) 0)),(10,(.ptr (10,u7) 0)),(11,(di x1.1)),(13,(di x2.1))],G [((3,u1),some<|.box 33 (M7 p1)),((4,u1),some<|.box 25 (H7 p2)),((6,u1),some<|.box 25 [(di 0),(.d .nilS),(.d .nilS)]),((10,u7),some<|.box 25 [(di x2.2.Tick),(oS x2.2.Agents (10060010,g5.1)),(oS x2.2.In (114,g5.2))]),((10060010,g5.1),oB 45 7 D2 x2.2.Agents),((114,g5.2),oB 127 4 I9 x2.2.In)]⟩) (0,(State.mk x1.2.Tick (Kj x1.2.Agents x1.1 v4) x1.2.In)) (g2.1,g2.2) _ hy3 (E0 (Bv W)<|sg W<|sg W<|sg W<|B4 (gq W) (.box (cv<|.cons (.of (Am<|CH<|Dp hv5).symm) cw)) (O9 G_hit<|B9 (gq W) trivial)) ?_
 intro x2 g5 z2 hz2 ez2
 unfold Ju at hz2
 refine A5<|A9<|sv W<|sq W<|sl W G_hit W<|sd W (D5 W)<|sv W<|sv W<|gt W (fun _=>(B1 W (gq W) W W))<|gt W (fun _=>W)<|bs hz2 fun v6 hv6 hz2=> ?_
 refine N2 _ (bo v6) (M9 W) (fun w3=>⟨_,[(.d (.agg (U4 p2))),(di x1.1)],_,_,(by simp only [A2 w3];rfl),W,A3,Sr _ _ _<|B8 w3 hv6,(.inl W)⟩) ?_
 refine sa W W W<|A1<|cc W hz2 (fun c5 hz2=> ?_)<|fun c5 hz2=> ?_
 refine A8<|A5<|A7<|A5<|A5<|F1 W<|sd W (B1 W G_hit W W)<|sq W<|sl W (gq W) W (sv W<|bs hz2 fun _ hv7 hz2=>sd W (C5 W W hv7 W)<|sd W (D3 W hv7 W W)<|sq W<|C0 (oS x2.2.Agents (10060010,g5.1)) W (Q6 W (gq W) W) (sv W<|bs hz2 fun _ hv8 hz2=>C0 (.aptr _ _ _ _) W (Sc W W (gq W) hv8) (sd W (Sd W (Ih (gq W)<|Dp hv8) hv8 W W)<|sv W<|bs hz2 fun v9 hv9 hz2=>B3 W W A3 (Ty _ _ _ _ _ hv9) (.inl W) (C0 (.d (bo (!v9))) W W (A1<|cc W hz2 (fun c6 hz2=> ?_)<|fun c6 hz2=> ?_)))))
 refine Tm W<|C1<|sv W<|sv W<|sv W<|A1<|E3 ?_
 cases hz2
 exact ⟨W,(g5.1,g5.2),(E0 (Bv W)<|B4 G_hit (.of W)<|sg W<|sg W<|sg W<|B9 (gq W)<|B9 (gq W) trivial)⟩
 refine A8<|lr<|fun u19 _=>sq W<|sl W (gq W) W (sv W<|sv W<|bs hz2 fun v10 hv10 hz2=>B3 W W A3 (AX _ _ _ _ hv10) (.inl W) (sv W<|sv W<|sv W<|sm W<|Z4 W G_hit (Uz v10.1) W (sv W<|A1<|A5<|A9<|sv W<|C0 (.d (bo (!v10.2))) W W (A1<|bs hz2 fun y4 hy4 hz2=>D8 (fun s=> ∃g6:Unit,Sb ⟨T [(2,(dl A4 p3)),(3,(.ptr (3,u1) 0)),(4,(.ptr (4,u1) 0)),(6,(.ptr (6,u1) 0)),(10,(.ptr (10,u7) 0)),(11,(di x1.1)),(13,(di x2.1)),(14,(.ptr (14,u19) 0))],G [((3,u1),some<|.box 33 (M7 p1)),((4,u1),some<|.box 25 (H7 p2)),((6,u1),some<|.box 25 [(di 0),(.d .nilS),(.d .nilS)]),((10,u7),some<|.box 25 [(di x2.2.Tick),(oS x2.2.Agents (10060010,g5.1)),(oS x2.2.In (114,g5.2))]),((14,u19),some<|.box 127 (Uz y4)),((10060010,g5.1),oB 45 7 D2 x2.2.Agents),((114,g5.2),oB 127 4 I9 x2.2.In)]⟩ s) ?_ ?_))))
 refine cc W hy4 (fun c7 hy4=> ?_)<|fun c7 hy4=> ?_
 refine F1 W<|sv W<|sv W<|sq W<|sl W (gq W) W (sd W (B1 W (gq W) W W)<|sq W<|sl W (gq W) W (sv W<|bs hy4 fun _ hv11 hy4=>sd W (C5 W W hv11 W)<|sd W (D3 W hv11 W W)<|sv W<|sq W<|sl W (gq W) W (bs hy4 fun v12 hv12 hy4=>B3 W W A3 (TQ _ _ _ _ _ hv12) (.inl W) (sv W<|Z4 W G_hit [(di x1.1),(di x2.1),(di p2.Tick),(di v12)] W (A1 ?_)))))
 cases hy4
 exact Y7 ⟨(),(E0 (Bv W)<|sg W<|sg W<|sg W<|sg W<|B4 G_hit (.of W)<|B9 (gq W)<|B9 (gq W) trivial)⟩
 refine A8 ?_
 cases hy4
 exact Y7 ⟨(),(E0 (Bv W)<|sg W<|sg W<|sg W<|sg W<|B4 G_hit (.of W)<|B9 (gq W)<|B9 (gq W) trivial)⟩
 rintro _ ⟨g6,q2⟩
 refine B5 q2<|Ew fun u22 _=>sq W<|C0 (oS x2.2.In (114,g5.2)) W (Q6 W (gq W) W) (sd W (B1 W (gq W) W W)<|C0 (dl I9 [y4]) W W (bs hz2 fun _ hv13 hz2=>U1 I9 (114,g5.2) x2.2.In y4 [] _ (L8<|fun _=>W) W (gq W) hv13 (sq W<|Z4 W (gq W) [(di x2.2.Tick),(oS x2.2.Agents (10060010,g5.1)),(.sl (114,u22))] W (A1<|E4<|C1<|sv W<|sv W<|sv W<|A1<|E3 ?_))))
 cases hz2
 exact ⟨W,(g5.1,u22),(E0 (Bv W)<|sg W<|sg W<|sg W<|B4 G_hit (.box (cv<|cv<|.cons (.of (Am<|Bb hv13).symm) .nil))<|B9 (gq W)<|O9 (gq W) trivial)⟩
 refine C9 W ?_
 cases hz2
 obtain rfl:=ez2 _ rfl
 refine ⟨nofun,C6 W<|Y7 ?_⟩
 exact ⟨(g5.1,g5.2),(E0 (Bv W)<|B4 G_hit (.of W)<|sg W<|sg W<|sg W<|B9 (gq W)<|B9 (gq W) trivial)⟩
 rintro _ ⟨g4,q3⟩
 refine E4<|B5 q3<|C1<|sv W<|sv W<|sv W<|A1<|E3 ?_
 cases hz1
 exact ⟨W,(g4.1,g4.2),(E0 (Bv W)<|B4 G_hit (.of W)<|sg W<|sg W<|sg W<|B9 (gq W)<|B9 (gq W) trivial)⟩
 refine C9 W ?_
 cases hz1
 obtain rfl:=ez1 _ rfl
 refine ⟨nofun,C6 W<|Y7 ?_⟩
 exact ⟨(g2.1,g2.2),(E0 (Bv W)<|B4 G_hit (.of W)<|sg W<|sg W<|sg W<|B9 (gq W)<|B9 (gq W) trivial)⟩
 rintro _ ⟨g1,q4⟩
 refine B5 q4<|A9<|sq W<|sl W (gq W) W (sv W<|sq W<|Z4 W (gq W) [(di<|C3 (y1.Tick+1)),(oS y1.Agents (10060010,g1.1)),(oS y1.In (114,g1.2))] W (A1<|A9<|sv W<|A1<|A5<|A9<|sv W<|A1<|bs h fun y5 hy5 h=>D8 (fun s=> ∃g7:({d:Nat // d∈ [153,185]}×Nat),Sb ⟨T [(6,(.ptr (6,u1) 0)),(10,(.ptr (10,u7) 0)),(16,(oS y5.1 (g7.1.val,g7.2)))],G [((6,u1),some<|.box 25 [(di 0),(.d .nilS),(.d .nilS)]),((10,u7),some<|.box 25 (H7 y5.2)),((g7.1.val,g7.2),oB 77 6 X5 y5.1)]⟩ s) ?_ ?_))
 refine A7<|nV [(10060010,g1.1),(114,g1.2)] [(3,(.ptr (3,u1) 0)),(4,(.ptr (4,u1) 0)),(6,(.ptr (6,u1) 0)),(10,(.ptr (10,u7) 0)),(16,(.d .nilS)),(17,(di 0)),(116,(.ptr (10,u7) 0)),(117,(di y1.Tick)),(118,(di<|C3 (y1.Tick+1))),(119,(.ptr (10,u7) 0))] [((10,u7),some<|.box 25 [(di<|C3 (y1.Tick+1)),(dl D2 y1.Agents),(dl I9 y1.In)]),((3,u1),some<|.box 33 (M7 p1)),((4,u1),some<|.box 25 (H7 p2)),((6,u1),some<|.box 25 [(di 0),(.d .nilS),(.d .nilS)])] ⟨J7 W,J7 W,J7 W,J7 W,J7 W,J7 W,J7 W,J7 W,J7 W,J7 W,trivial⟩ (PL G_hit (Bu (Dm W)<|Bu (Dm W) Hu) (.cons (J7 W) (.cons (TI (Y5<|FE (.head _)<|gq W) Y4) (.cons (TI (Y5<|FE (.tail _ (.head _))<|gq W) Y4) .nil))) (Sf (gq W) (Bu (Dm W)<|Bu (Dm W) Hu) (Sf (gq W) (Bu (Dm W)<|Bu (Dm W) Hu) (Sf (gq W) (Bu (Dm W)<|Bu (Dm W) Hu) trivial)))) (E2 (Gj p1 p2) (fun (x3:((List Crash)×Int×State)) (g8:({d:Nat // d∈ [153,185]}×Nat))=>⟨T [(3,(.ptr (3,u1) 0)),(4,(.ptr (4,u1) 0)),(6,(.ptr (6,u1) 0)),(10,(.ptr (10,u7) 0)),(16,(oS x3.1 (g8.1.val,g8.2))),(17,(di x3.2.1))],G [((3,u1),some<|.box 33 (M7 p1)),((4,u1),some<|.box 25 (H7 p2)),((6,u1),some<|.box 25 [(di 0),(.d .nilS),(.d .nilS)]),((10,u7),some<|.box 25 (H7 x3.2.2)),((g8.1.val,g8.2),oB 77 6 X5 x3.1)]⟩) ([],0,(State.mk (C3 (y1.Tick+1)) y1.Agents y1.In)) (⟨153, .head _⟩,0) _ hy5 (E0 (Bv W)<|sg W<|sg W<|sg W<|B4 G_hit (.of W)<|W0 trivial) ?_)
 intro x3 g8 z3 hz3 ez3
 unfold Gj at hz3
 refine A5<|A9<|sv W<|sq W<|sl W (gq W) W (sd W (D5 W)<|sv W<|A1<|cc W hz3 (fun c8 hz3=> ?_)<|fun c8 hz3=> ?_)
 refine A8<|A5<|A7<|A9<|sv W<|sv W<|sv W<|A1<|bs hz3 fun y6 hy6 hz3=>D8 (fun s=> ∃g9:({d:Nat // d∈ [153,185]}×Nat),Sb ⟨T [(3,(.ptr (3,u1) 0)),(4,(.ptr (4,u1) 0)),(6,(.ptr (6,u1) 0)),(10,(.ptr (10,u7) 0)),(16,(oS y6 (g9.1.val,g9.2))),(17,(di x3.2.1))],G [((3,u1),some<|.box 33 (M7 p1)),((4,u1),some<|.box 25 (H7 p2)),((6,u1),some<|.box 25 [(di 0),(.d .nilS),(.d .nilS)]),((10,u7),some<|.box 25 (H7 x3.2.2)),((g9.1.val,g9.2),oB 77 6 X5 y6)]⟩ s) ?_ ?_
 refine A7<|E2 (Jt p1 p2 x3) (fun (x4:((List Crash)×Int)) (g10:({d:Nat // d∈ [153,185]}×Nat))=>⟨T [(3,(.ptr (3,u1) 0)),(4,(.ptr (4,u1) 0)),(6,(.ptr (6,u1) 0)),(10,(.ptr (10,u7) 0)),(16,(oS x4.1 (g10.1.val,g10.2))),(17,(di x3.2.1)),(18,(di x4.2))],G [((3,u1),some<|.box 33 (M7 p1)),((4,u1),some<|.box 25 (H7 p2)),((6,u1),some<|.box 25 [(di 0),(.d .nilS),(.d .nilS)]),((10,u7),some<|.box 25 (H7 x3.2.2)),((g10.1.val,g10.2),oB 77 6 X5 x4.1)]⟩) (x3.1,(C3 (x3.2.1+1))) (g8.1,g8.2) _ hy6 (E0 (Bv W)<|B4 G_hit (.of W)<|sg W<|sg W<|sg W<|B9 (BM g8.1.property 4 W G_hit) trivial) ?_
 intro x4 g10 z4 hz4 ez4
 unfold Jt at hz4
 refine A5<|A9<|sv W<|sq W<|sl W (gq W) W (sd W (D5 W)<|sv W<|A1<|cc W hz4 (fun c9 hz4=> ?_)<|fun c9 hz4=> ?_)
 refine A8<|A5<|A7<|A5<|A9<|sd W (B1 W (gq W) W W)<|sv W<|bs hz4 fun v14 hv14 hz4=>B3 W W A3 (Sr _ _ _ hv14) (.inl W) (C0 (.d (bo (!v14))) W W (sv W<|gf W (fun _=>(B1 W (gq W) W W))<|gf W (fun _=>W)<|bs hz4 fun v15 hv15 hz4=> ?_))
 refine N2 _ (bo v15) (J9 W) (fun w6=>⟨_,[(.d (.agg (U4 p2))),(di x4.2)],_,_,(by simp only [A2 w6];rfl),W,A3,Sr _ _ _<|B8 w6 hv15,(.inl W)⟩) ?_
 refine N1 _ (.d (bo (!v15))) W (J9 W) (fun w7=>(by simp only [A2 w7];rfl)) ?_
 refine sd W (N7 W W<|fun hc=>A2<|I7 hc)<|A1<|cc W hz4 (fun c10 hz4=> ?_)<|fun c10 hz4=> ?_
 refine Tm W<|C1<|sv W<|sv W<|sv W<|A1<|E3 ?_
 cases hz4
 exact ⟨W,(g10.1,g10.2),(E0 (Bv W)<|B4 G_hit (.of W)<|sg W<|sg W<|sg W<|B9 (BM g10.1.property 4 W G_hit) trivial)⟩
 refine A8<|lr<|fun u33 hu33=>C0 (oS x4.1 (g10.1.val,g10.2)) W W (sd W (B1 W G_hit W W)<|sd W (B1 W (gq W) W W)<|sd W (B1 W (gq W) W W)<|sv W<|sv W<|bs hz4 fun v16 hv16 hz4=>B3 W W A3 (RQ _ _ _ _ _ _ hv16) (.inl W) (bs hz4 fun v17 hv17 hz4=>GX X5 (g10.1.val,g10.2) x4.1 v16 _ (L8<|fun _=>W) W (E5 (LH g10.1.property W)<|E5 (LH g10.1.property W)<|E5 (LH g10.1.property W)<|E5 (LH g10.1.property W) G_hit) hv17 (Ls hu33) (C0 (oS v17 (153,u33)) W W (A1<|A9<|sd W (B1 W (E5 W<|E5 (GW g10.1.property W) G_hit) W W)<|sd W (B1 W (E5 W<|E5 (GW g10.1.property W)<|gq W) W W)<|sd W (B1 W (E5 W<|E5 (GW g10.1.property W)<|gq W) W W)<|sv W<|sv W<|bs hz4 fun v18 hv18 hz4=>B3 W W A3 (RR _ _ _ _ _ _ hv18) (.inl W) (sv W<|A1<|A9<|sv W<|A1<|bs hz4 fun y7 hy7 hz4=>D8 (fun s=> ∃g11:({d:Nat // d∈ [153,185]}×Nat),Sb ⟨T [(3,(.ptr (3,u1) 0)),(4,(.ptr (4,u1) 0)),(6,(.ptr (6,u1) 0)),(10,(.ptr (10,u7) 0)),(16,(oS y7 (g11.1.val,g11.2))),(17,(di x3.2.1)),(18,(di x4.2))],G [((3,u1),some<|.box 33 (M7 p1)),((4,u1),some<|.box 25 (H7 p2)),((6,u1),some<|.box 25 [(di 0),(.d .nilS),(.d .nilS)]),((10,u7),some<|.box 25 (H7 x3.2.2)),((g11.1.val,g11.2),oB 77 6 X5 y7)]⟩ s) ?_ ?_)))))
 refine A7<|E2 (Ng p2 x3 x4 v18) (fun (x5:((List Crash)×Int)) (g12:({d:Nat // d∈ [153,185]}×Nat))=>⟨T [(3,(.ptr (3,u1) 0)),(4,(.ptr (4,u1) 0)),(6,(.ptr (6,u1) 0)),(10,(.ptr (10,u7) 0)),(16,(oS x5.1 (g12.1.val,g12.2))),(17,(di x3.2.1)),(18,(di x4.2)),(19,(dl A4 v18)),(20,(di x5.2))],G [((3,u1),some<|.box 33 (M7 p1)),((4,u1),some<|.box 25 (H7 p2)),((6,u1),some<|.box 25 [(di 0),(.d .nilS),(.d .nilS)]),((10,u7),some<|.box 25 (H7 x3.2.2)),((g12.1.val,g12.2),oB 77 6 X5 x5.1)]⟩) (v17,0) (⟨153, .head _⟩,u33) _ hy7 (E0 (Bv W)<|B4 (E5 W<|E5 (GW g10.1.property W) G_hit) (.of W) (B4 (E5 W<|E5 (GW g10.1.property W)<|gq W) (.of W) (B4 (E5 W<|E5 (GW g10.1.property W)<|gq W) (.of W) (B4 (E5 W<|E5 (GW g10.1.property W)<|gq W) (.of W) (B9 G_hit trivial))))) ?_
 intro x5 g12 z5 hz5 ez5
 unfold Ng at hz5
 refine A5<|A9<|sv W<|sv W<|sd W (D5 W)<|sv W<|A1<|cc W hz5 (fun c11 hz5=> ?_)<|fun c11 hz5=> ?_
 refine A8<|A5<|A7<|Tn W fun u37 _=>C0 (oS x5.1 (g12.1.val,g12.2)) W W (sq W<|sl W (gq W) W (sv W<|sv W<|sv W<|sv W<|bs hz5 fun v19 hv19 hz5=>sd W (C5 W W hv19 W)<|sd W (C7 W hv19 W)<|sd W (B1 W (gq W) W W)<|sv W<|sv W<|sv W<|sv W<|bs hz5 fun _ hv20 hz5=>sd W (C5 W W hv20 W)<|sd W (C7 W hv20 W)<|bs hz5 fun v21 hv21 hz5=>B3 W W A3 (XI _ _ _ _ _ hv21) (.inl W) (sv W<|C0 (dl X5 [(Crash.mk p2.Tick x3.2.1 x4.2 (-1) v19 v21)]) W W (bs hz5 fun _ hv22 hz5=>U1 X5 (g12.1.val,g12.2) x5.1 (Crash.mk p2.Tick x3.2.1 x4.2 (-1) v19 v21) [] _ (L8<|fun _=>W) W (E5 (LH g12.1.property W)<|E5 (LH g12.1.property W)<|E5 (LH g12.1.property W)<|E5 (LH g12.1.property W) G_hit) hv22 (ss W<|A1<|E4<|C1<|sv W<|sv W<|sv W<|A1<|E3 ?_)))))
 cases hz5
 exact ⟨W,(⟨185, .tail _ (.head _)⟩,u37),(E0 ⟨.of W, .of W, .of W, .of W,(.of (Am<|Bb hv22).symm), .of W, .of W, .of W, .of W,trivial⟩<|B4 (E5 W<|E5 (GW g12.1.property W) G_hit) (.of W) (B4 (E5 W<|E5 (GW g12.1.property W)<|gq W) (.of W) (B4 (E5 W<|E5 (GW g12.1.property W)<|gq W) (.of W) (B4 (E5 W<|E5 (GW g12.1.property W)<|gq W) (.of W) (O9 G_hit trivial)))))⟩
 refine C9 W ?_
 cases hz5
 obtain rfl:=ez5 _ rfl
 refine ⟨nofun,C6 W<|Y7 ?_⟩
 exact ⟨(g12.1,g12.2),(E0 (Bv W)<|B4 G_hit (.of W)<|sg W<|sg W<|sg W<|B9 (BM g12.1.property 4 W G_hit) trivial)⟩
 rintro _ ⟨g11,q5⟩
 refine E4<|B5 q5<|C1<|sv W<|sv W<|sv W<|A1<|E3 ?_
 cases hz4
 exact ⟨W,(g11.1,g11.2),(E0 (Bv W)<|B4 G_hit (.of W)<|sg W<|sg W<|sg W<|B9 (BM g11.1.property 4 W G_hit) trivial)⟩
 refine C9 W ?_
 cases hz4
 obtain rfl:=ez4 _ rfl
 refine ⟨nofun,C6 W<|Y7 ?_⟩
 exact ⟨(g10.1,g10.2),(E0 (Bv W)<|B4 G_hit (.of W)<|sg W<|sg W<|sg W<|B9 (BM g10.1.property 4 W G_hit) trivial)⟩
 rintro _ ⟨g9,q6⟩
 refine E4<|B5 q6<|C1<|sv W<|sv W<|sv W<|A1<|E3 ?_
 cases hz3
 exact ⟨W,(g9.1,g9.2),(E0 (Bv W)<|B4 G_hit (.of W)<|sg W<|sg W<|sg W<|B9 (BM g9.1.property 4 W G_hit) trivial)⟩
 refine C9 W ?_
 cases hz3
 obtain rfl:=ez3 _ rfl
 refine ⟨nofun,C6 W<|Y7 ?_⟩
 exact ⟨(g8.1,g8.2),(E0 (Bv W)<|sg W<|sg W<|B9 (BM g8.1.property 4 W G_hit) trivial)⟩
 rintro _ ⟨g7,q7⟩
 refine B5 q7<|A9<|sd W (B1 W (gq W) W W)<|C0 (oS y5.1 (g7.1.val,g7.2)) W W (Z4 W G_hit (H7 y5.2) W (C0 (oS y5.1 (g7.1.val,g7.2)) W W (sv W<|A1<|B0 ?_)))
 cases h
 exact A6 (.inr W) (DO (K3 W G_hit (nl W) W) (B2 W) (B2 W) C2 (Y5<|BM g7.1.property 3 W G_hit) C2) (.tup (.cons (.refl _) (.cons Y4 A3)))
end
end Go.Abs.World
