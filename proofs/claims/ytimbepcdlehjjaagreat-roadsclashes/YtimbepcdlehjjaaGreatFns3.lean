/-
  The functions, part 3.
-/
import Derived.Test.YtimbepcdlehjjaaGreatFns2
set_option maxRecDepth 20000
set_option maxHeartbeats 4000000
set_option linter.unusedVariables false
namespace Go.Abs.Roadsz
noncomputable section
open Go Go.Abs Go.Proofs Tryz
attribute [local irreducible] K3 Cw Dw
def Bq [Lp](p1:Curve)(x2:Int):Option (Stp Int (Sum Unit Int)):=
  cond (decide ((C8 (x2+1))< (p1.Pts.length:Int))) ((E5 p1.Pts (C8 (x2+1))).bind fun v3=>(E5 p1.Pts x2).bind fun v4=>(X2 v3 v4).bind fun v5=>(Ce v5 v5).bind fun v6=>(Gf v6).bind fun v7=>(Ce v5 v5).bind fun v8=>cond ((C8 (v7*v7)) !=v8) (some (.out (.inr 3))) (cond ((decide (v7<1000))||(decide (v7>1048576))) (some (.out (.inr 2))) (((cond (decide (x2>0)) (E5 p1.Pts x2) (some default))).bind fun v9=>((cond (decide (x2>0)) (E5 p1.Pts (C8 (x2 - 1))) (some default))).bind fun v10=>((cond (decide (x2>0)) (X2 v9 v10) (some default))).bind fun v11=>((cond (decide (x2>0)) (Ce v5 v11) (some default))).bind fun v12=>cond ((decide (x2>0))&& (decide (v12≤0))) (some (.out (.inr 12))) (some (.go (C8 (x2+1))))))) (some (.out (.inl ())))
def Br (p1:Curve)(x1:Int):Option (Stp Int (Sum Unit Int)):=
  cond (decide (x1< (p1.Pts.length:Int))) ((E5 p1.Pts x1).bind fun v1=>(Kj v1).bind fun v2=>cond (!v2) (some (.out (.inr 2))) (some (.go (C8 (x1+1))))) (some (.out (.inl ())))
def Iq [Lp](p1:Curve):Option Int:=
  cond (decide ((p1.Pts.length:Int)<2)) (some 6) (cond (decide ((p1.Pts.length:Int)>16)) (some 5) (thenS (loop (Br p1) 0) (fun _=>thenS (loop (Bq p1) 0) (fun _=>some 0) (fun r=>some r)) (fun r=>some r)))
theorem Re(p1 r)(h:Iq p1=some r):PCall prog 175 [(.agg [(.list (List.map M0 p1.Pts))])] (i64 r):=by
 refine C5 (fk func175 ntmps175 m0 (by with_unfolding_all rfl)) (nl Z) ?_
 unfold Iq at h
 refine A5 (s0:=⟨T [(0,(.d _))],G []⟩) (C9 Z Z) ?_
 refine lr<|fun u1 _=>sm Z<|sv Z<|A1<|A4<|B7<|sq Z<|sl Z G_hit Z<|sd Z (D0 Z)<|sv Z<|A1<|cc Z h (fun c1 h=> ?_)<|fun c1 h=> ?_
 refine B7<|sv Z<|A1<|B5 ?_
 cases h
 exact A9 (.inr Z) (B6 (B4 Z) C6) (.refl _)
 refine B1<|A4<|B7<|sq Z<|sl Z G_hit Z<|sd Z (D0 Z)<|sv Z<|A1<|cc Z h (fun c2 h=> ?_)<|fun c2 h=> ?_
 refine B7<|sv Z<|A1<|B5 ?_
 cases h
 exact A9 (.inr Z) (B6 (B4 Z) C6) (.refl _)
 refine B1<|A4<|B7<|sv Z<|A1<|js h fun z1 hz1 h=>D2 (fun s=> ∃(y1:Unit) (g1:Unit),z1= .inl y1∧Sb ⟨T [(1,(.ptr (1,u1) 0))],G [((1,u1),some<|.box 39 [(dl M0 p1.Pts)])]⟩ s) ?_ ?_
 refine A6<|E7 (Br p1) (fun (x1:Int) (g2:Unit)=>⟨T [(1,(.ptr (1,u1) 0)),(3,(di x1))],G [((1,u1),some<|.box 39 [(dl M0 p1.Pts)])]⟩) 0 () _ hz1 (C9 Z Z) ?_
 intro x1 g2 z2 hz2 ez2
 unfold Br at hz2
 refine A4<|B7<|sv Z<|sq Z<|sl Z G_hit Z<|sd Z (D0 Z)<|sv Z<|A1<|cc Z hz2 (fun c3 hz2=> ?_)<|fun c3 hz2=> ?_
 refine B1<|A4<|A6<|B7<|sq Z<|sl Z G_hit Z<|sv Z<|bs hz2 fun _ hv1 hz2=>sd Z (C7 Z Z hv1 Z)<|sd Z (D5 Z hv1 Z Z)<|bs hz2 fun v2 hv2 hz2=>B3 Z Z A2 (AX _ _ hv2) (.inl Z) (C1 (.d (bo (!v2))) Z Z (A1<|cc Z hz2 (fun c4 hz2=> ?_)<|fun c4 hz2=> ?_))
 refine B7<|sv Z<|A1<|B5 ?_
 cases hz2
 obtain rfl:=ez2 _ rfl
 refine ⟨nofun,F6 ?_⟩
 rw [bL]at h
 cases h
 exact A9 (.inr Z) (B6 (B4 Z) C6) (.refl _)
 refine B1<|E6<|B0<|sv Z<|sv Z<|sv Z<|A1<|F2 ?_
 cases hz2
 exact ⟨Z,(),(C9 Z Z)⟩
 refine C3 Z ?_
 cases hz2
 obtain rfl:=ez2 _ rfl
 refine ⟨nofun,B9 Z<|U0 ?_⟩
 exact ⟨_,(),Z,(C9 Z Z)⟩
 rintro _ ⟨y1,g1,rfl,q1⟩
 rw [bK]at h
 refine A5 q1<|A4<|B7<|sv Z<|A1<|js h fun z3 hz3 h=>D2 (fun s=> ∃(y2:Unit) (g3:Unit),z3= .inl y2∧Sb ⟨T [],G []⟩ s) ?_ ?_
 refine A6<|E7 (Bq p1) (fun (x2:Int) (g4:Unit)=>⟨T [(1,(.ptr (1,u1) 0)),(4,(di x2))],G [((1,u1),some<|.box 39 [(dl M0 p1.Pts)])]⟩) 0 () _ hz3 (C9 Z Z) ?_
 intro x2 g4 z4 hz4 ez4
 unfold Bq at hz4
 refine A4<|B7<|sv Z<|sv Z<|sq Z<|sl Z G_hit Z<|sd Z (D0 Z)<|sv Z<|A1<|cc Z hz4 (fun c5 hz4=> ?_)<|fun c5 hz4=> ?_
 refine B1<|A4<|A6<|A4<|Ic Z fun u13 _=>sq Z<|sl Z G_hit Z<|sv Z<|sv Z<|bs hz4 fun _ hv3 hz4=>sd Z (C7 Z Z hv3 Z)<|sd Z (D5 Z hv3 Z Z)<|sq Z<|sl Z G_hit Z<|sv Z<|bs hz4 fun _ hv4 hz4=>sd Z (C7 Z Z hv4 Z)<|sd Z (D5 Z hv4 Z Z)<|bs hz4 fun v5 hv5 hz4=>B3 Z Z A2 (Dn _ _ _ hv5) (.inl Z) (sm Z<|Bb Z G_hit [(di v5.X),(di v5.Y)] Z (A1<|A4<|A5 (s0:=⟨T [(1,(.ptr _ _)),(4,(.d _)),(5,(.ptr _ _))],G [((1,u1),some<|.box 39 _),((5,u13),some<|.box 148 _)]⟩) (C9 Z Z) ?_))
 refine B0<|sd Z (A7 Z (gq Z) Z Z)<|sd Z (A7 Z (gq Z) Z Z)<|bs hz4 fun _ hv6 hz4=>B3 Z Z A2 (Cq _ _ _ hv6) (.inl Z) (bs hz4 fun _ hv7 hz4=>B3 Z Z A2 (So _ _ hv7) (.inl Z) (sv Z<|A1<|A4<|B7<|sv Z<|sv Z<|sv Z<|sd Z (A7 Z (gq Z) Z Z)<|sd Z (A7 Z (gq Z) Z Z)<|bs hz4 fun _ hv8 hz4=>B3 Z Z A2 (Cq _ _ _ hv8) (.inl Z) (sv Z<|A1<|cc Z hz4 (fun c6 hz4=> ?_)<|fun c6 hz4=> ?_)))
 refine B7<|sv Z<|A1<|B5 ?_
 cases hz4
 obtain rfl:=ez4 _ rfl
 refine ⟨nofun,F6 ?_⟩
 rw [bL]at h
 cases h
 exact A9 (.inr Z) (B6 (B4 Z) C6) (.refl _)
 refine B1<|A4<|B7<|sv Z<|sv Z<|sv Z<|gf Z (fun _=>Z)<|gf Z (vb Z Z Z)<|sd Z (Q5 Z Z<|fun hc=>A3<|L6 hc)<|A1<|cc Z hz4 (fun c7 hz4=> ?_)<|fun c7 hz4=> ?_
 refine A4<|A5 (s0:=⟨T [],G []⟩) (C9 Z Z) ?_
 refine B0<|sv Z<|A1<|B5 ?_
 cases hz4
 obtain rfl:=ez4 _ rfl
 refine ⟨nofun,F6 ?_⟩
 rw [bL]at h
 cases h
 exact A9 (.inr Z) (B6 (B4 Z) C6) (.refl _)
 refine B1<|A4<|A5 (s0:=⟨T [(1,(.ptr _ _)),(4,(.d _)),(5,(.ptr _ _))],G [((1,u1),some<|.box 39 _),((5,u13),some<|.box 148 _)]⟩) (C9 Z Z) ?_
 refine J2 Z<|sv Z<|sv Z<|sv Z<|gt Z (fun _=>(A7 Z (gq Z) Z Z))<|gp Z (Q0 Z) (fun _=>Z) (gt Z (vl Z G_hit Z)<|gt Z (fun _=>Z)<|bs hz4 fun v9 hv9 hz4=>gt Z (fun w7=>(C7 (A3 w7) (A3 w7) (D7 w7 hv9) Z))<|gt Z (fun w8=>(D5 (A3 w8) (D7 w8 hv9) Z Z))<|gp Z (Q0 Z) (fun _=>Z) (gt Z (vl Z G_hit Z)<|gt Z (fun _=>Z)<|gt Z (vb Z Z Z)<|bs hz4 fun v10 hv10 hz4=>gt Z (fun w13=>(C7 (A3 w13) (A3 w13) (D7 w13 hv10) Z))<|gt Z (fun w14=>(D5 (A3 w14) (D7 w14 hv10) Z Z))<|bs hz4 fun v11 hv11 hz4=> ?_))
 refine K7 _ (.agg [(i64 v11.X),(i64 v11.Y)]) (Q0 Z) (fun w15=>⟨_,[(.d (.agg [(i64 v9.X),(i64 v9.Y)])),(.d (.agg [(i64 v10.X),(i64 v10.Y)]))],_,_,(by simp only [A3 w15];rfl),Z,A2,Dn _ _ _<|D7 w15 hv11,(.inl Z)⟩) ?_
 refine bs hz4 fun v12 hv12 hz4=> ?_
 refine K7 _ (i64 v12) (Q0 Z) (fun w16=>⟨_,[(.d (.agg [(i64 v5.X),(i64 v5.Y)])),(.d (.agg [(i64 v11.X),(i64 v11.Y)]))],_,_,(by simp only [A3 w16];rfl),Z,A2,Cq _ _ _<|D7 w16 hv12,(.inl Z)⟩) ?_
 refine gt Z (vb Z Z Z)<|sa Z Z Z<|A1<|cc Z hz4 (fun c8 hz4=> ?_)<|fun c8 hz4=> ?_
 refine A4<|A5 (s0:=⟨T [],G []⟩) (C9 Z Z) ?_
 refine B0<|sv Z<|A1<|B5 ?_
 cases hz4
 obtain rfl:=ez4 _ rfl
 refine ⟨nofun,F6 ?_⟩
 rw [bL]at h
 cases h
 exact A9 (.inr Z) (B6 (B4 Z) C6) (.refl _)
 refine B1<|E6<|A5 (s0:=⟨T [(1,(.ptr _ _)),(4,(.d _))],G [((1,u1),some<|.box 39 _)]⟩) (C9 Z Z) ?_
 refine B0<|sv Z<|sv Z<|sv Z<|A1<|F2 ?_
 cases hz4
 exact ⟨Z,(),(C9 Z Z)⟩
 refine C3 Z ?_
 cases hz4
 obtain rfl:=ez4 _ rfl
 refine ⟨nofun,B9 Z<|U0 ?_⟩
 exact ⟨_,(),Z,(C9 Z Z)⟩
 rintro _ ⟨y2,g3,rfl,q2⟩
 rw [bK]at h
 refine A5 q2<|B7<|sv Z<|A1<|B5 ?_
 cases h
 exact A9 (.inr Z) (B6 (B4 Z) C6) (.refl _)
def He (p1:Int):Option (Int×Int×Int):=
  cond (p1==1) (some (2000,30,90)) (cond (p1==2) (some (1000,20,60)) (cond (p1==3) (some (300,100,300)) (some (0,0,0))))
theorem Pq(p1 r)(h:He p1=some r):PCall prog 176 [(i64 p1)] (.tup [(i64 r.1),(i64 r.2.1),(i64 r.2.2)]):=by
 refine C5 (fk func176 ntmps176 m0 (by with_unfolding_all rfl)) (nl Z) ?_
 unfold He at h
 refine A5 (s0:=⟨T [(0,(.d _))],G []⟩) (C9 Z Z) ?_
 refine B7<|sv Z<|sv Z<|sv Z<|A1<|A4<|B7<|sv Z<|A1<|A6<|B7<|sv Z<|sv Z<|A1<|cc Z h (fun c1 h=> ?_)<|fun c1 h=> ?_
 refine B7<|sv Z<|sv Z<|sv Z<|A1<|B5 ?_
 cases h
 exact A9 (.inr Z) (Xk (B4 Z) (B4 Z) (B4 Z) C6 C6 C6) (.refl _)
 refine B7<|sv Z<|sv Z<|A1<|cc Z h (fun c2 h=> ?_)<|fun c2 h=> ?_
 refine B7<|sv Z<|sv Z<|sv Z<|A1<|B5 ?_
 cases h
 exact A9 (.inr Z) (Xk (B4 Z) (B4 Z) (B4 Z) C6 C6 C6) (.refl _)
 refine B7<|sv Z<|sv Z<|A1<|cc Z h (fun c3 h=> ?_)<|fun c3 h=> ?_
 refine B7<|sv Z<|sv Z<|sv Z<|A1<|B5 ?_
 cases h
 exact A9 (.inr Z) (Xk (B4 Z) (B4 Z) (B4 Z) C6 C6 C6) (.refl _)
 refine B1<|E6<|B7<|sv Z<|sv Z<|sv Z<|A1<|B5 ?_
 cases h
 exact A9 (.inr Z) (Xk (B4 Z) (B4 Z) (B4 Z) C6 C6 C6) (.refl _)
def Y5 (p1:(List Int))(p2:Int)(p3:Int)(x1:Int):Option (Stp Int (Sum Unit Bool)):=
  cond (decide (x1< (p1.length:Int))) ((E5 p1 x1).bind fun v1=>((cond (!(decide (v1<p2))) (E5 p1 x1) (some default))).bind fun v2=>((cond ((!((decide (v1<p2))||(decide (v2≥p3))))&& (decide (x1>0))) (E5 p1 x1) (some default))).bind fun v3=>((cond ((!((decide (v1<p2))||(decide (v2≥p3))))&& (decide (x1>0))) (E5 p1 (C8 (x1 - 1))) (some default))).bind fun v4=>cond (((decide (v1<p2))||(decide (v2≥p3)))||((decide (x1>0))&& (decide (v3≤v4)))) (some (.out (.inr false))) (some (.go (C8 (x1+1))))) (some (.out (.inl ())))
def Dc [Lp](p1:(List Int))(p2:Int)(p3:Int):Option Bool:=
  thenS (loop (Y5 p1 p2 p3) 0) (fun _=>some true) (fun r=>some r)
theorem Jz(p1 p2 p3 r)(h:Dc p1 p2 p3=some r):PCall prog 177 [(.list (List.map A8 p1)),(i64 p2),(i64 p3)] (bo r):=by
 refine C5 (fk func177 ntmps177 m0 (by with_unfolding_all rfl)) (nl Z) ?_
 unfold Dc at h
 refine A5 (s0:=⟨T [(0,(.d _)),(1,(.d _)),(2,(.d _))],G []⟩) (C9 Z Z) ?_
 refine B7<|sv Z<|A1<|A4<|B7<|sv Z<|A1<|js h fun z1 hz1 h=>D2 (fun s=> ∃(y1:Unit) (g1:Unit),z1= .inl y1∧Sb ⟨T [],G []⟩ s) ?_ ?_
 refine A6<|E7 (Y5 p1 p2 p3) (fun (x1:Int) (g2:Unit)=>⟨T [(0,(dl A8 p1)),(1,(di p2)),(2,(di p3)),(7,(di x1))],G []⟩) 0 () _ hz1 (C9 Z Z) ?_
 intro x1 g2 z2 hz2 ez2
 unfold Y5 at hz2
 refine A4<|B7<|sv Z<|sv Z<|sd Z (D0 Z)<|sv Z<|A1<|cc Z hz2 (fun c1 hz2=> ?_)<|fun c1 hz2=> ?_
 refine B1<|A4<|A6<|A4<|J2 Z<|sv Z<|sv Z<|bs hz2 fun _ hv1 hz2=>sd Z (C7 Z Z hv1 Z)<|sd Z (D9 Z hv1 Z)<|sv Z<|sv Z<|sv Z<|gf Z (fun _=>Z)<|gf Z (fun _=>Z)<|bs hz2 fun _ hv2 hz2=>gf Z (fun w3=>(C7 (A3 w3) (A3 w3) (D7 w3 hv2) Z))<|gf Z (fun w4=>(D9 (A3 w4) (D7 w4 hv2) Z))<|gf Z (fun _=>Z)<|gf Z (fun w6=>(Q1 (A3 w6) (A3 w6) Z))<|sd Z (Q5 Z Z<|fun hc=>A3<|L6 hc)<|sv Z<|gf Z (fun _=>Z)<|gf Z (vb Z Z Z)<|gf Z (fun w9=>(TS<|A3 w9))<|gv Z (Ae Z) (fun _=>Z) (gv Z (Ae Z) (fun _=>Z) (bs hz2 fun _ hv3 hz2=>gv Z (Ae Z) (fun w12=>(C7 (A3 w12) (A3 w12) (D7 w12 hv3) Z)) (gv Z (Ae Z) (fun w13=>(D9 (A3 w13) (D7 w13 hv3) Z)) (gv Z (Ae Z) (fun _=>Z) (gv Z (Ae Z) (fun _=>Z) (gv Z (Ae Z) (vb Z Z Z) (bs hz2 fun _ hv4 hz2=>gv Z (Ae Z) (fun w17=>(C7 (A3 w17) (A3 w17) (D7 w17 hv4) Z)) (gv Z (Ae Z) (fun w18=>(D9 (A3 w18) (D7 w18 hv4) Z)) (gv Z (Ae Z) (fun w19=>(Q1 (A3 w19) (A3 w19) Z)) (gf Z (fun w20=>(GW (A3 w20) (fun hc=>A3<|LJ w20 hc) Z))<|sd Z (Q5 Z Z<|fun hc=>A3<|L6 hc)<|A1<|cc Z hz2 (fun c2 hz2=> ?_)<|fun c2 hz2=> ?_))))))))))
 refine A4<|A5 (s0:=⟨T [],G []⟩) (C9 Z Z) ?_
 refine B0<|sv Z<|A1<|B5 ?_
 cases hz2
 obtain rfl:=ez2 _ rfl
 refine ⟨nofun,F6 ?_⟩
 rw [bL]at h
 cases h
 exact A9 (.inr Z) (B6 (B4 Z) C6) (.refl _)
 refine B1<|E6<|A5 (s0:=⟨T [(0,(.d _)),(1,(.d _)),(2,(.d _)),(7,(.d _))],G []⟩) (C9 Z Z) ?_
 refine B0<|sv Z<|sv Z<|sv Z<|A1<|F2 ?_
 cases hz2
 exact ⟨Z,(),(C9 Z Z)⟩
 refine C3 Z ?_
 cases hz2
 obtain rfl:=ez2 _ rfl
 refine ⟨nofun,B9 Z<|U0 ?_⟩
 exact ⟨_,(),Z,(C9 Z Z)⟩
 rintro _ ⟨y1,g1,rfl,q1⟩
 rw [bK]at h
 refine A5 q1<|B7<|sv Z<|A1<|B5 ?_
 cases h
 exact A9 (.inr Z) (B6 (B4 Z) C6) (.refl _)
def Es [Lp](p1:Map)(p2:Int):Option Int:=
  (E5 p1.Lanes p2).bind fun v1=>cond ((decide (v1.Kind<1))||(decide (v1.Kind>3))) (some 4) ((Iq v1.Curve_).bind fun v2=>cond (v2 !=0) (some v2) ((He v1.Kind).bind fun v3=>(Aw v1.Half 200 4000).bind fun v4=>((cond (!(!v4)) (Aw v1.Limit 1 v3.1) (some default))).bind fun v5=>cond ((!v4)||(!v5)) (some 2) (cond (decide ((v1.Next.length:Int)>3)) (some 8) ((Dc v1.Next (C8 (p2+1)) (p1.Lanes.length:Int)).bind fun v6=>cond (!v6) (some 11) (some 0)))))
theorem Tk(p1 p2 r)(h:Es p1 p2=some r):PCall prog 72 [(.agg (L8 p1)),(i64 p2)] (i64 r):=by
 refine C5 (fk func72 ntmps72 m0 (by with_unfolding_all rfl)) (nl Z) ?_
 unfold Es at h
 refine A5 (s0:=⟨T [(0,(.d _)),(1,(.d _))],G []⟩) (C9 Z Z) ?_
 refine lr<|fun u1 _=>sm Z<|sv Z<|A1<|lr<|fun u2 _=>sq Z<|sl Z G_hit Z<|sv Z<|bs h fun v1 hv1 h=>sd Z (C7 Z Z hv1 Z)<|sd Z (D5 Z hv1 Z Z)<|sm Z<|Bb Z G_hit (Ft v1) Z (A1<|A4<|B7<|sq Z<|sl Z G_hit Z<|sv Z<|sv Z<|gp Z (L5 Z) (fun _=>Z) (gf Z (vl Z G_hit Z)<|gf Z (vb Z Z Z)<|sd Z (Q5 Z Z<|fun hc=>A3<|L6 hc)<|A1<|cc Z h (fun c1 h=> ?_)<|fun c1 h=> ?_))
 refine B7<|sv Z<|A1<|B5 ?_
 cases h
 exact A9 (.inr Z) (B6 (B4 Z) C6) (.refl _)
 refine B1<|B7<|sq Z<|sd Z (A7 Z G_hit Z Z)<|bs h fun _ hv2 h=>B3 Z Z A2 (Re _ _ hv2) (.inl Z) (sv Z<|A1<|A4<|A4<|A5 (s0:=⟨T [(1,(.d _)),(2,(.ptr _ _)),(5,(.ptr _ _)),(6,(.d _))],G [((2,u1),some<|.box 27 _),((5,u2),some<|.box 42 _)]⟩) (C9 Z Z) ?_)
 refine B0<|sv Z<|sv Z<|A1<|cc Z h (fun c2 h=> ?_)<|fun c2 h=> ?_
 refine B7<|sv Z<|sv Z<|A1<|B5 ?_
 cases h
 exact A9 (.inr Z) (B6 (B4 Z) C6) (.refl _)
 refine B1<|B7<|sq Z<|sl Z (gq Z) Z (bs h fun v3 hv3 h=>B3 Z Z A2 (Pq _ _ hv3) (.inl Z) (sv Z<|sv Z<|sv Z<|sv Z<|sv Z<|sv Z<|sv Z<|A1<|A4<|B7<|sq Z<|sl Z (gq Z) Z (bs h fun v4 hv4 h=>B3 Z Z A2 (Cd _ _ _ _ hv4) (.inl Z) (C1 (.d (bo (!v4))) Z Z (sv Z<|gp Z (L5 Z) (fun _=>Z) (gf Z (vl Z (gq Z) Z)<|gf Z (fun _=>Z)<|bs h fun v5 hv5 h=> ?_))))))
 refine K7 _ (bo v5) (L5 Z) (fun w7=>⟨_,[(di v1.Limit),(di 1),(di v3.1)],_,_,(by simp only [A3 w7];rfl),Z,A2,Cd _ _ _ _<|D7 w7 hv5,(.inl Z)⟩) ?_
 refine Ba _ (.d (bo (!v5))) Z (L5 Z) (fun w8=>(by simp only [A3 w8];rfl)) ?_
 refine sd Z (Q5 Z Z<|fun hc=>A3<|L6 hc)<|A1<|cc Z h (fun c3 h=> ?_)<|fun c3 h=> ?_
 refine A4<|A5 (s0:=⟨T [],G []⟩) (C9 Z Z) ?_
 refine B0<|sv Z<|A1<|B5 ?_
 cases h
 exact A9 (.inr Z) (B6 (B4 Z) C6) (.refl _)
 refine B1<|A4<|A4<|A5 (s0:=⟨T [(1,(.d _)),(2,(.ptr _ _)),(5,(.ptr _ _))],G [((2,u1),some<|.box 27 _),((5,u2),some<|.box 42 _)]⟩) (C9 Z Z) ?_
 refine B0<|sq Z<|sl Z (gq Z) Z (sd Z (D0 Z)<|sv Z<|A1<|cc Z h (fun c4 h=> ?_)<|fun c4 h=> ?_)
 refine B7<|sv Z<|A1<|B5 ?_
 cases h
 exact A9 (.inr Z) (B6 (B4 Z) C6) (.refl _)
 refine B1<|A4<|B7<|sq Z<|sl Z (gq Z) Z (sv Z<|sv Z<|sq Z<|sl Z G_hit Z<|sd Z (D0 Z)<|bs h fun v6 hv6 h=>B3 Z Z A2 (Jz _ _ _ _ hv6) (.inl Z) (C1 (.d (bo (!v6))) Z Z (A1<|cc Z h (fun c5 h=> ?_)<|fun c5 h=> ?_)))
 refine B7<|sv Z<|A1<|B5 ?_
 cases h
 exact A9 (.inr Z) (B6 (B4 Z) C6) (.refl _)
 refine B1<|B7<|sv Z<|A1<|B5 ?_
 cases h
 exact A9 (.inr Z) (B6 (B4 Z) C6) (.refl _)
def Y6 (p1:Map)(v1:Lane)(x2:Int):Option (Stp Int (Sum Unit Int)):=
  cond (decide (x2< (v1.Next.length:Int))) ((E5 v1.Next x2).bind fun v2=>(E5 p1.Lanes v2).bind fun v3=>cond (v3.Kind !=v1.Kind) (some (.out (.inr 4))) ((E5 v3.Curve_.Pts 0).bind fun v4=>(E5 v1.Curve_.Pts (C8 ((v1.Curve_.Pts.length:Int) - 1))).bind fun v5=>cond (!(v4.X==v5.X&& (v4.Y==v5.Y&&true))) (some (.out (.inr 3))) (some (.go (C8 (x2+1)))))) (some (.out (.inl ())))
def Y7 [Lp](p1:Map)(x1:Int):Option (Stp Int (Sum Unit Int)):=
  cond (decide (x1< (p1.Lanes.length:Int))) ((E5 p1.Lanes x1).bind fun v1=>thenS (loop (Y6 p1 v1) 0) (fun _=>some (.go (C8 (x1+1)))) (fun r=>some (.out (.inr r)))) (some (.out (.inl ())))
def Et [Lp](p1:Map):Option Int:=
  thenS (loop (Y7 p1) 0) (fun _=>some 0) (fun r=>some r)
theorem Tl(p1 r)(h:Et p1=some r):PCall prog 73 [(.agg (L8 p1))] (i64 r):=by
 refine C5 (fk func73 ntmps73 m0 (by with_unfolding_all rfl)) (nl Z) ?_
 unfold Et at h
 refine A5 (s0:=⟨T [(0,(.d _))],G []⟩) (C9 Z Z) ?_
 refine lr<|fun u1 _=>sm Z<|sv Z<|A1<|A4<|B7<|sv Z<|A1<|js h fun z1 hz1 h=>D2 (fun s=> ∃(y1:Unit) (g1:Unit),z1= .inl y1∧Sb ⟨T [],G []⟩ s) ?_ ?_
 refine A6<|E7 (Y7 p1) (fun (x1:Int) (g2:Unit)=>⟨T [(1,(.ptr (1,u1) 0)),(3,(di x1))],G [((1,u1),some<|.box 27 (I7 p1))]⟩) 0 () _ hz1 (C9 Z Z) ?_
 intro x1 g2 z2 hz2 ez2
 unfold Y7 at hz2
 refine A4<|B7<|sv Z<|sq Z<|sl Z G_hit Z<|sd Z (D0 Z)<|sv Z<|A1<|cc Z hz2 (fun c1 hz2=> ?_)<|fun c1 hz2=> ?_
 refine B1<|A4<|A6<|lr<|fun u4 _=>sq Z<|sl Z G_hit Z<|sv Z<|bs hz2 fun v1 hv1 hz2=>sd Z (C7 Z Z hv1 Z)<|sd Z (D5 Z hv1 Z Z)<|sm Z<|Bb Z G_hit (Ft v1) Z (A1<|B7<|sv Z<|A1<|js hz2 fun z3 hz3 hz2=>D2 (fun s=> ∃(y2:Unit) (g3:Unit),z3= .inl y2∧Sb ⟨T [(1,(.ptr (1,u1) 0)),(3,(di x1))],G [((1,u1),some<|.box 27 (I7 p1))]⟩ s) ?_ ?_)
 refine A6<|E7 (Y6 p1 v1) (fun (x2:Int) (g4:Unit)=>⟨T [(1,(.ptr (1,u1) 0)),(3,(di x1)),(4,(.ptr (4,u4) 0)),(5,(di x2))],G [((1,u1),some<|.box 27 (I7 p1)),((4,u4),some<|.box 42 (Ft v1))]⟩) 0 () _ hz3 (C9 Z Z) ?_
 intro x2 g4 z4 hz4 ez4
 unfold Y6 at hz4
 refine A4<|B7<|sv Z<|sq Z<|sl Z (gq Z) Z (sd Z (D0 Z)<|sv Z<|A1<|cc Z hz4 (fun c2 hz4=> ?_)<|fun c2 hz4=> ?_)
 refine B1<|A4<|A6<|A4<|Ic Z fun u7 _=>sq Z<|sl Z G_hit Z<|sq Z<|sl Z (gq Z) Z (sv Z<|bs hz4 fun _ hv2 hz4=>sd Z (C7 Z Z hv2 Z)<|sd Z (D9 Z hv2 Z)<|bs hz4 fun v3 hv3 hz4=>sd Z (C7 Z Z hv3 Z)<|sd Z (D5 Z hv3 Z Z)<|sm Z<|Bb Z G_hit (Ft v3) Z (A1<|A4<|A4<|A5 (s0:=⟨T [(1,(.ptr _ _)),(3,(.d _)),(4,(.ptr _ _)),(5,(.d _)),(6,(.ptr _ _))],G [((1,u1),some<|.box 27 _),((4,u4),some<|.box 42 _),((6,u7),some<|.box 42 _)]⟩) (C9 Z Z) ?_))
 refine B0<|sq Z<|sl Z (gq Z) Z (sq Z<|sl Z (gq Z) Z (sv Z<|A1<|cc Z hz4 (fun c3 hz4=> ?_)<|fun c3 hz4=> ?_))
 refine B7<|sv Z<|A1<|B5 ?_
 cases hz4
 obtain rfl:=ez4 _ rfl
 refine ⟨nofun,F6 ?_⟩
 rw [bL]at hz2
 cases hz2
 obtain rfl:=ez2 _ rfl
 refine ⟨nofun,F6 ?_⟩
 rw [bL]at h
 cases h
 exact A9 (.inr Z) (B6 (B4 Z) C6) (.refl _)
 refine B1<|A4<|J2 Z<|sq Z<|sq Z<|sl Z (gq Z) Z (bs hz4 fun v4 hv4 hz4=>sd Z (C7 Z Z hv4 Z)<|sd Z (D5 Z hv4 Z Z)<|sq Z<|sp Z Z<|sl Z (gq Z) Z (sq Z<|sp Z Z<|sl Z (gq Z) Z (sd Z (D0 Z)<|sv Z<|bs hz4 fun v5 hv5 hz4=>sd Z (C7 Z Z hv5 Z)<|sd Z (D5 Z hv5 Z Z)<|C1 (.d (bo (!(v4.X==v5.X&& (v4.Y==v5.Y&&true))))) Z Z (A1<|cc Z hz4 (fun c4 hz4=> ?_)<|fun c4 hz4=> ?_))))
 refine A4<|A5 (s0:=⟨T [],G []⟩) (C9 Z Z) ?_
 refine B0<|sv Z<|A1<|B5 ?_
 cases hz4
 obtain rfl:=ez4 _ rfl
 refine ⟨nofun,F6 ?_⟩
 rw [bL]at hz2
 cases hz2
 obtain rfl:=ez2 _ rfl
 refine ⟨nofun,F6 ?_⟩
 rw [bL]at h
 cases h
 exact A9 (.inr Z) (B6 (B4 Z) C6) (.refl _)
 refine B1<|E6<|A5 (s0:=⟨T [(1,(.ptr _ _)),(3,(.d _)),(4,(.ptr _ _)),(5,(.d _))],G [((1,u1),some<|.box 27 _),((4,u4),some<|.box 42 _)]⟩) (C9 Z Z) ?_
 refine B0<|sv Z<|sv Z<|sv Z<|A1<|F2 ?_
 cases hz4
 exact ⟨Z,(),(C9 Z Z)⟩
 refine C3 Z ?_
 cases hz4
 obtain rfl:=ez4 _ rfl
 refine ⟨nofun,B9 Z<|U0 ?_⟩
 exact ⟨_,(),Z,(C9 Z Z)⟩
 rintro _ ⟨y2,g3,rfl,q1⟩
 rw [bK]at hz2
 refine E6<|A5 q1<|B0<|sv Z<|sv Z<|sv Z<|A1<|F2 ?_
 cases hz2
 exact ⟨Z,(),(C9 Z Z)⟩
 refine C3 Z ?_
 cases hz2
 obtain rfl:=ez2 _ rfl
 refine ⟨nofun,B9 Z<|U0 ?_⟩
 exact ⟨_,(),Z,(C9 Z Z)⟩
 rintro _ ⟨y1,g1,rfl,q2⟩
 rw [bK]at h
 refine A5 q2<|B7<|sv Z<|A1<|B5 ?_
 cases h
 exact A9 (.inr Z) (B6 (B4 Z) C6) (.refl _)
def R9 [Lp](p1:Map)(p2:Signal)(x2:Int):Option (Stp Int (Sum Unit Int)):=
  cond (decide (x2< (p2.Phases.length:Int))) ((E5 p2.Phases x2).bind fun v4=>(Dc v4.Green 0 (p1.Lanes.length:Int)).bind fun v5=>cond (!v5) (some (.out (.inr 11))) (some (.go (C8 (x2+1))))) (some (.out (.inl ())))
def S3 (p2:Signal)(x1:(Bool×Int)):Option (Stp (Bool×Int) Bool):=
  cond (decide (x1.2< (p2.Phases.length:Int))) (((cond x1.1 (E5 p2.Phases x1.2) (some default))).bind fun v2=>((cond x1.1 (Aw v2.Ticks 1 10000) (some default))).bind fun v3=>some (.go ((x1.1&&v3),(C8 (x1.2+1))))) (some (.out x1.1))
def Cr [Lp](p1:Map)(p2:Signal):Option Int:=
  cond ((p2.Phases.length:Int)==0) (some 6) (cond (decide ((p2.Phases.length:Int)>6)) (some 8) ((Aw p2.Offset 0 1099511627776).bind fun v1=>(loop (S3 p2) (v1,0)).bind fun y1=>cond (!y1) (some 2) (thenS (loop (R9 p1 p2) 0) (fun _=>some 0) (fun r=>some r))))
theorem Rf(p1 p2 r)(h:Cr p1 p2=some r):PCall prog 74 [(.agg (L8 p1)),(.agg [(i64 p2.Offset),(.list (List.map By p2.Phases))])] (i64 r):=by
 refine C5 (fk func74 ntmps74 m0 (by with_unfolding_all rfl)) (nl Z) ?_
 unfold Cr at h
 refine A5 (s0:=⟨T [(0,(.d _)),(1,(.d _))],G []⟩) (C9 Z Z) ?_
 refine lr<|fun u1 _=>sm Z<|sm Z<|sv Z<|A1<|A4<|B7<|sq Z<|sl Z G_hit Z<|sd Z (D0 Z)<|sv Z<|A1<|cc Z h (fun c1 h=> ?_)<|fun c1 h=> ?_
 refine B7<|sv Z<|A1<|B5 ?_
 cases h
 exact A9 (.inr Z) (B6 (B4 Z) C6) (.refl _)
 refine B1<|A4<|B7<|sq Z<|sl Z G_hit Z<|sd Z (D0 Z)<|sv Z<|A1<|cc Z h (fun c2 h=> ?_)<|fun c2 h=> ?_
 refine B7<|sv Z<|A1<|B5 ?_
 cases h
 exact A9 (.inr Z) (B6 (B4 Z) C6) (.refl _)
 refine B1<|B7<|sq Z<|sl Z G_hit Z<|bs h fun v1 hv1 h=>B3 Z Z A2 (Cd _ _ _ _ hv1) (.inl Z) (sv Z<|A1<|A4<|B7<|sv Z<|A1<|bs h fun y1 hy1 h=>D2 (fun s=> ∃g1:Unit,Sb ⟨T [(2,(.ptr (2,u1) 0)),(3,(.ptr (3,u1) 0)),(5,(.d (bo y1)))],G [((2,u1),some<|.box 27 (I7 p1)),((3,u1),some<|.box 48 [(di p2.Offset),(dl By p2.Phases)])]⟩ s) ?_ ?_)
 refine A6<|E7 (S3 p2) (fun (x1:(Bool×Int)) (g2:Unit)=>⟨T [(2,(.ptr (2,u1) 0)),(3,(.ptr (3,u1) 0)),(5,(.d (bo x1.1))),(6,(di x1.2))],G [((2,u1),some<|.box 27 (I7 p1)),((3,u1),some<|.box 48 [(di p2.Offset),(dl By p2.Phases)])]⟩) (v1,0) () _ hy1 (C9 Z Z) ?_
 intro x1 g2 z1 hz1 ez1
 unfold S3 at hz1
 refine A4<|B7<|sv Z<|sq Z<|sl Z (gq Z) Z (sd Z (D0 Z)<|sv Z<|A1<|cc Z hz1 (fun c3 hz1=> ?_)<|fun c3 hz1=> ?_)
 refine B1<|A4<|A6<|B0<|sv Z<|sv Z<|gp Z (Q0 Z) (fun _=>Z) (gt Z (vl Z (gq Z) Z)<|gt Z (fun _=>Z)<|bs hz1 fun v2 hv2 hz1=>gt Z (fun w4=>(C7 (A3 w4) (A3 w4) (D7 w4 hv2) Z)) ?_)
 refine gt Z (fun w5=>(by simp only [A3 w5];rfl)) ?_
 refine gt Z (fun w6=>(D9 (A3 w6) (D7 w6 hv2) Z))<|bs hz1 fun v3 hv3 hz1=> ?_
 refine K7 x1.1 (bo v3) (Q0 Z) (fun w7=>⟨_,[(di v2.Ticks),(di 1),(di 10000)],_,_,(by simp only [A3 w7];rfl),Z,A2,Cd _ _ _ _<|D7 w7 hv3,(.inl Z)⟩) ?_
 refine sa Z Z Z<|sv Z<|A1<|E6<|B0<|sv Z<|sv Z<|sv Z<|A1<|F2 ?_
 cases hz1
 exact ⟨Z,(),(C9 Z Z)⟩
 refine C3 Z ?_
 cases hz1
 obtain rfl:=ez1 _ rfl
 refine ⟨nofun,B9 Z<|U0 ?_⟩
 exact ⟨(),(C9 Z Z)⟩
 rintro _ ⟨g1,q1⟩
 refine A5 q1<|A4<|B7<|sv Z<|C1 (.d (bo (!y1))) Z Z (A1<|cc Z h (fun c4 h=> ?_)<|fun c4 h=> ?_)
 refine B7<|sv Z<|A1<|B5 ?_
 cases h
 exact A9 (.inr Z) (B6 (B4 Z) C6) (.refl _)
 refine B1<|A4<|B7<|sv Z<|A1<|js h fun z2 hz2 h=>D2 (fun s=> ∃(y2:Unit) (g3:Unit),z2= .inl y2∧Sb ⟨T [],G []⟩ s) ?_ ?_
 refine A6<|E7 (R9 p1 p2) (fun (x2:Int) (g4:Unit)=>⟨T [(2,(.ptr (2,u1) 0)),(3,(.ptr (3,u1) 0)),(7,(di x2))],G [((2,u1),some<|.box 27 (I7 p1)),((3,u1),some<|.box 48 [(di p2.Offset),(dl By p2.Phases)])]⟩) 0 () _ hz2 (C9 Z Z) ?_
 intro x2 g4 z3 hz3 ez3
 unfold R9 at hz3
 refine A4<|B7<|sv Z<|sq Z<|sl Z (gq Z) Z (sd Z (D0 Z)<|sv Z<|A1<|cc Z hz3 (fun c5 hz3=> ?_)<|fun c5 hz3=> ?_)
 refine B1<|A4<|A6<|A4<|J2 Z<|sq Z<|sl Z (gq Z) Z (sv Z<|bs hz3 fun _ hv4 hz3=>sd Z (C7 Z Z hv4 Z)<|sv Z<|sd Z (D9 Z hv4 Z)<|sq Z<|sl Z G_hit Z<|sd Z (D0 Z)<|bs hz3 fun v5 hv5 hz3=>B3 Z Z A2 (Jz _ _ _ _ hv5) (.inl Z) (C1 (.d (bo (!v5))) Z Z (A1<|cc Z hz3 (fun c6 hz3=> ?_)<|fun c6 hz3=> ?_)))
 refine B7<|sv Z<|A1<|B5 ?_
 cases hz3
 obtain rfl:=ez3 _ rfl
 refine ⟨nofun,F6 ?_⟩
 rw [bL]at h
 cases h
 exact A9 (.inr Z) (B6 (B4 Z) C6) (.refl _)
 refine B1<|E6<|B0<|sv Z<|sv Z<|sv Z<|A1<|F2 ?_
 cases hz3
 exact ⟨Z,(),(C9 Z Z)⟩
 refine C3 Z ?_
 cases hz3
 obtain rfl:=ez3 _ rfl
 refine ⟨nofun,B9 Z<|U0 ?_⟩
 exact ⟨_,(),Z,(C9 Z Z)⟩
 rintro _ ⟨y2,g3,rfl,q2⟩
 rw [bK]at h
 refine A5 q2<|B7<|sv Z<|A1<|B5 ?_
 cases h
 exact A9 (.inr Z) (B6 (B4 Z) C6) (.refl _)
def An [Lp](p1:Curve)(x1:((List Int)×Int)):Option (Stp ((List Int)×Int) (List Int)):=
  cond (decide ((C8 (x1.2+1))< (p1.Pts.length:Int))) ((E5 p1.Pts (C8 (x1.2+1))).bind fun v2=>(E5 p1.Pts x1.2).bind fun v3=>(X2 v2 v3).bind fun v4=>(Ce v4 v4).bind fun v5=>(Gf v5).bind fun v6=>(Cj x1.1 [v6]).bind fun v7=>some (.go (v7,(C8 (x1.2+1))))) (some (.out x1.1))
def Hf [Lp](p1:Curve):Option (List Int):=
  (Iq p1).bind fun v1=>cond (v1 !=0) (some []) ((loop (An p1) ([],0)).bind fun y1=>some y1)
theorem Pr(p1 r)(h:Hf p1=some r):PCall prog 242 [(.agg [(.list (List.map M0 p1.Pts))])] (.list (List.map A8 r)):=by
 refine C5 (fk func242 ntmps242 (fun r=>if r==8 then [1005]else []) (by with_unfolding_all rfl)) (nl Z) ?_
 unfold Hf at h
 refine A5 (s0:=⟨T [(0,(.d _))],G []⟩) (C9 Z Z) ?_
 refine lr<|fun u1 _=>sm Z<|sv Z<|A1<|A4<|B7<|sd Z (A7 Z G_hit Z Z)<|bs h fun _ hv1 h=>B3 Z Z A2 (Re _ _ hv1) (.inl Z) (sv Z<|A1<|cc Z h (fun c1 h=> ?_)<|fun c1 h=> ?_)
 refine B7<|sv Z<|A1<|B5 ?_
 cases h
 exact A9 (.inr Z) (B6 (B4 Z) C6) DLe.nil
 refine B1<|B7<|sv Z<|A1<|A4<|B7<|sv Z<|A1<|bs h fun y1 hy1 h=>D2 (fun s=> ∃g1:Nat,Sb ⟨T [(3,(oS y1 (35,g1)))],G [((35,g1),oB 2 1 A8 y1)]⟩ s) ?_ ?_
 refine A6<|E7 (An p1) (fun (x1:((List Int)×Int)) (g2:Nat)=>⟨T [(1,(.ptr (1,u1) 0)),(3,(oS x1.1 (35,g2))),(4,(di x1.2))],G [((1,u1),some<|.box 39 [(dl M0 p1.Pts)]),((35,g2),oB 2 1 A8 x1.1)]⟩) ([],0) 0 _ hy1 (C0 (T3 Z)<|B2 G_hit (.of Z)<|U9 trivial) ?_
 intro x1 g2 z1 hz1 ez1
 unfold An at hz1
 refine A4<|B7<|sv Z<|sv Z<|sq Z<|sl Z G_hit Z<|sd Z (D0 Z)<|sv Z<|A1<|cc Z hz1 (fun c2 hz1=> ?_)<|fun c2 hz1=> ?_
 refine B1<|A4<|A6<|A4<|Ic Z fun u7 _=>sq Z<|sl Z G_hit Z<|sv Z<|sv Z<|bs hz1 fun _ hv2 hz1=>sd Z (C7 Z Z hv2 Z)<|sd Z (D5 Z hv2 Z Z)<|sq Z<|sl Z G_hit Z<|sv Z<|bs hz1 fun _ hv3 hz1=>sd Z (C7 Z Z hv3 Z)<|sd Z (D5 Z hv3 Z Z)<|bs hz1 fun v4 hv4 hz1=>B3 Z Z A2 (Dn _ _ _ hv4) (.inl Z) (sm Z<|Bb Z G_hit [(di v4.X),(di v4.Y)] Z (A1<|A5 (s0:=⟨T [(1,(.ptr (1,u1) 0)),(3,(oS x1.1 (35,g2))),(4,(di x1.2)),(5,(.ptr (5,u7) 0))],G [((1,u1),some<|.box 39 [(dl M0 p1.Pts)]),((35,g2),oB 2 1 A8 x1.1),((5,u7),some<|.box 148 [(di v4.X),(di v4.Y)])]⟩) (C0 (T3 Z)<|sg Z<|C2 (gq Z)<|B2 G_hit (.of Z) trivial) ?_))
 refine Bw fun u8 _=>C1 (oS x1.1 (35,g2)) Z Z (sd Z (A7 Z (gq Z) Z Z)<|sd Z (A7 Z (gq Z) Z Z)<|bs hz1 fun _ hv5 hz1=>B3 Z Z A2 (Cq _ _ _ hv5) (.inl Z) (bs hz1 fun v6 hv6 hz1=>B3 Z Z A2 (So _ _ hv6) (.inl Z) (C1 (dl A8 [v6]) Z Z (bs hz1 fun _ hv7 hz1=>N9 A8 (35,g2) x1.1 v6 [] _ (J7<|fun _=>Z) Z (gq Z) hv7 (ss Z<|A1<|E6<|B0<|sv Z<|sv Z<|sv Z<|A1<|F2 ?_)))))
 cases hz1
 exact ⟨Z,u8,(C0 ⟨.of Z,(.of (Dy<|T1 hv7).symm), .of Z,trivial⟩<|sg Z<|U8 G_hit trivial)⟩
 refine C3 Z ?_
 cases hz1
 obtain rfl:=ez1 _ rfl
 refine ⟨nofun,B9 Z<|U0 ?_⟩
 exact ⟨g2,(C0 ⟨.of Z,trivial⟩<|C2 (gq Z) trivial)⟩
 rintro _ ⟨g1,q1⟩
 refine A5 q1<|B7<|C1 (oS y1 (35,g1)) Z Z (C1 (oS y1 (35,g1)) Z Z (A1<|B5 ?_))
 cases h
 exact A9 (.inr Z) (B6 (B4 Z)<|Ea G_hit) Dz
def X3 (v1:(List Int))(x1:(Int×Int)):Option (Stp (Int×Int) Int):=
  cond (decide (x1.2< (v1.length:Int))) ((E5 v1 x1.2).bind fun v2=>some (.go ((C8 (x1.1+v2)),(C8 (x1.2+1))))) (some (.out x1.1))
def Cs [Lp](p1:Curve):Option Int:=
  (Hf p1).bind fun v1=>(loop (X3 v1) (0,0)).bind fun y1=>some y1
theorem Kr(p1 r)(h:Cs p1=some r):PCall prog 178 [(.agg [(.list (List.map M0 p1.Pts))])] (i64 r):=by
 refine C5 (fk func178 ntmps178 m0 (by with_unfolding_all rfl)) (nl Z) ?_
 unfold Cs at h
 refine A5 (s0:=⟨T [(0,(.d _))],G []⟩) (C9 Z Z) ?_
 refine B7<|sm Z<|sv Z<|A1<|B7<|sv Z<|A1<|B7<|sd Z (A7 Z G_hit Z Z)<|bs h fun v1 hv1 h=>B3 Z Z A2 (Pr _ _ hv1) (.inl Z) (sv Z<|A1<|A4<|B7<|sv Z<|A1<|bs h fun y1 hy1 h=>D2 (fun s=> ∃g1:Unit,Sb ⟨T [(3,(di y1))],G []⟩ s) ?_ ?_)
 refine A6<|E7 (X3 v1) (fun (x1:(Int×Int)) (g2:Unit)=>⟨T [(3,(di x1.1)),(4,(dl A8 v1)),(5,(di x1.2))],G []⟩) (0,0) () _ hy1 (C9 Z Z) ?_
 intro x1 g2 z1 hz1 ez1
 unfold X3 at hz1
 refine A4<|B7<|sv Z<|sv Z<|sd Z (D0 Z)<|sv Z<|A1<|cc Z hz1 (fun c1 hz1=> ?_)<|fun c1 hz1=> ?_
 refine B1<|A4<|A6<|B0<|sv Z<|sv Z<|sv Z<|bs hz1 fun _ hv2 hz1=>sd Z (C7 Z Z hv2 Z)<|sd Z (D9 Z hv2 Z)<|sv Z<|sv Z<|A1<|E6<|B0<|sv Z<|sv Z<|sv Z<|A1<|F2 ?_
 cases hz1
 exact ⟨Z,(),(C9 Z Z)⟩
 refine C3 Z ?_
 cases hz1
 obtain rfl:=ez1 _ rfl
 refine ⟨nofun,B9 Z<|U0 ?_⟩
 exact ⟨(),(C9 Z Z)⟩
 rintro _ ⟨g1,q1⟩
 refine A5 q1<|B7<|sv Z<|sv Z<|A1<|B5 ?_
 cases h
 exact A9 (.inr Z) (B6 (B4 Z) C6) (.refl _)
def Y8 [Lp](p1:Map)(p2:Zone)(x2:Int):Option (Stp Int (Sum Unit Int)):=
  cond (decide (x2< (p2.Parts.length:Int))) ((E5 p2.Parts x2).bind fun v4=>((cond (!((decide (v4.From<0))||(decide (v4.From≥v4.To)))) (E5 p1.Lanes v4.Lane_) (some default))).bind fun v5=>((cond (!((decide (v4.From<0))||(decide (v4.From≥v4.To)))) (Cs v5.Curve_) (some default))).bind fun v6=>cond (((((decide (v4.From<0))||(decide (v4.From≥v4.To)))||(decide (v4.To>v6)))||(decide (v4.Rank<0)))||(decide (v4.Rank>100))) (some (.out (.inr 2))) (some (.go (C8 (x2+1))))) (some (.out (.inl ())))
def Eh (p2:Zone)(x1:((List Int)×Int)):Option (Stp ((List Int)×Int) (List Int)):=
  cond (decide (x1.2< (p2.Parts.length:Int))) ((E5 p2.Parts x1.2).bind fun v1=>(Cj x1.1 [v1.Lane_]).bind fun v2=>some (.go (v2,(C8 (x1.2+1))))) (some (.out x1.1))
def Eu [Lp](p1:Map)(p2:Zone):Option Int:=
  cond (decide ((p2.Parts.length:Int)<2)) (some 6) (cond (decide ((p2.Parts.length:Int)>6)) (some 8) (cond ((decide (p2.Signal_<0))||(decide (p2.Signal_>(p1.Signals.length:Int)))) (some 2) ((loop (Eh p2) ([],0)).bind fun y1=>(Dc y1 0 (p1.Lanes.length:Int)).bind fun v3=>cond (!v3) (some 11) (thenS (loop (Y8 p1 p2) 0) (fun _=>some 0) (fun r=>some r)))))
theorem Tm(p1 p2 r)(h:Eu p1 p2=some r):PCall prog 75 [(.agg (L8 p1)),(.agg [(.list (List.map H9 p2.Parts)),(i64 p2.Signal_)])] (i64 r):=by
 refine C5 (fk func75 ntmps75 (fun r=>if r==11 then [1007]else []) (by with_unfolding_all rfl)) (nl Z) ?_
 unfold Eu at h
 refine A5 (s0:=⟨T [(0,(.d _)),(1,(.d _))],G []⟩) (C9 Z Z) ?_
 refine lr<|fun u1 _=>sm Z<|sm Z<|sv Z<|A1<|A4<|B7<|sq Z<|sl Z G_hit Z<|sd Z (D0 Z)<|sv Z<|A1<|cc Z h (fun c1 h=> ?_)<|fun c1 h=> ?_
 refine B7<|sv Z<|A1<|B5 ?_
 cases h
 exact A9 (.inr Z) (B6 (B4 Z) C6) (.refl _)
 refine B1<|A4<|B7<|sq Z<|sl Z G_hit Z<|sd Z (D0 Z)<|sv Z<|A1<|cc Z h (fun c2 h=> ?_)<|fun c2 h=> ?_
 refine B7<|sv Z<|A1<|B5 ?_
 cases h
 exact A9 (.inr Z) (B6 (B4 Z) C6) (.refl _)
 refine B1<|A4<|B7<|sq Z<|sl Z G_hit Z<|sv Z<|sv Z<|gp Z (L5 Z) (fun _=>Z) (gf Z (vl Z G_hit Z)<|gp Z (L5 Z) (fun _=>Z) (gf Z (vl Z (gq Z) Z)<|gf Z (fun w5=>(D0<|A3 w5))<|gf Z (fun w6=>(Q1 (A3 w6) (A3 w6) Z))<|sd Z (Q5 Z Z<|fun hc=>A3<|L6 hc)<|A1<|cc Z h (fun c3 h=> ?_)<|fun c3 h=> ?_))
 refine A4<|A5 (s0:=⟨T [],G []⟩) (C9 Z Z) ?_
 refine B0<|sv Z<|A1<|B5 ?_
 cases h
 exact A9 (.inr Z) (B6 (B4 Z) C6) (.refl _)
 refine B1<|A4<|A5 (s0:=⟨T [(2,(.ptr _ _)),(3,(.ptr _ _))],G [((2,u1),some<|.box 27 _),((3,u1),some<|.box 45 _)]⟩) (C9 Z Z) ?_
 refine B0<|sv Z<|A1<|A4<|B7<|sv Z<|A1<|bs h fun y1 hy1 h=>D2 (fun s=> ∃g1:Nat,Sb ⟨T [(2,(.ptr (2,u1) 0)),(3,(.ptr (3,u1) 0)),(5,(oS y1 (43,g1)))],G [((2,u1),some<|.box 27 (I7 p1)),((3,u1),some<|.box 45 [(dl H9 p2.Parts),(di p2.Signal_)]),((43,g1),oB 3 1 A8 y1)]⟩ s) ?_ ?_
 refine A6<|E7 (Eh p2) (fun (x1:((List Int)×Int)) (g2:Nat)=>⟨T [(2,(.ptr (2,u1) 0)),(3,(.ptr (3,u1) 0)),(5,(oS x1.1 (43,g2))),(6,(di x1.2))],G [((2,u1),some<|.box 27 (I7 p1)),((3,u1),some<|.box 45 [(dl H9 p2.Parts),(di p2.Signal_)]),((43,g2),oB 3 1 A8 x1.1)]⟩) ([],0) 0 _ hy1 (C0 (T3 Z)<|B2 G_hit (.of Z)<|sg Z<|U9 trivial) ?_
 intro x1 g2 z1 hz1 ez1
 unfold Eh at hz1
 refine A4<|B7<|sv Z<|sq Z<|sl Z (gq Z) Z (sd Z (D0 Z)<|sv Z<|A1<|cc Z hz1 (fun c4 hz1=> ?_)<|fun c4 hz1=> ?_)
 refine B1<|A4<|A6<|Bw fun u11 _=>C1 (oS x1.1 (43,g2)) Z Z (sq Z<|sl Z (gq Z) Z (sv Z<|bs hz1 fun v1 hv1 hz1=>sd Z (C7 Z Z hv1 Z)<|sv Z<|sd Z (D9 Z hv1 Z)<|C1 (dl A8 [v1.Lane_]) Z Z (bs hz1 fun _ hv2 hz1=>N9 A8 (43,g2) x1.1 v1.Lane_ [] _ (J7<|fun _=>Z) Z (gq Z) hv2 (ss Z<|A1<|E6<|A5 (s0:=⟨T [(2,(.ptr _ _)),(3,(.ptr _ _)),(5,(.sl _)),(6,(.d _))],G [((2,u1),some<|.box 27 _),((3,u1),some<|.box 45 _),((43,u11),some _)]⟩) (C9 Z Z) ?_))))
 refine B0<|sv Z<|sv Z<|sv Z<|A1<|F2 ?_
 cases hz1
 exact ⟨Z,u11,(C0 ⟨.of Z, .of Z,(.of (Dy<|T1 hv2).symm), .of Z,trivial⟩<|B2 G_hit (.of Z)<|sg Z<|U8 (gq Z) trivial)⟩
 refine C3 Z ?_
 cases hz1
 obtain rfl:=ez1 _ rfl
 refine ⟨nofun,B9 Z<|U0 ?_⟩
 exact ⟨g2,(C0 (T3 Z)<|B2 G_hit (.of Z)<|sg Z<|C2 (gq Z) trivial)⟩
 rintro _ ⟨g1,q1⟩
 refine A5 q1<|A4<|B7<|C1 (oS y1 (43,g1)) Z Z (sq Z<|sl Z G_hit Z<|sd Z (D0 Z)<|bs h fun v3 hv3 h=>B3 Z (L9 (Ea<|gq Z)<|rD<|rD I0) (.cons Dz (.cons (.refl _) A2)) (Jz _ _ _ _ hv3) (.inr Z) (C1 (.d (bo (!v3))) Z Z (A1<|cc Z h (fun c5 h=> ?_)<|fun c5 h=> ?_)))
 refine B7<|sv Z<|A1<|B5 ?_
 cases h
 exact A9 (.inr Z) (B6 (B4 Z) C6) (.refl _)
 refine B1<|A4<|B7<|sv Z<|A1<|js h fun z2 hz2 h=>D2 (fun s=> ∃(y2:Unit) (g3:Unit),z2= .inl y2∧Sb ⟨T [],G []⟩ s) ?_ ?_
 refine A6<|E7 (Y8 p1 p2) (fun (x2:Int) (g4:Unit)=>⟨T [(2,(.ptr (2,u1) 0)),(3,(.ptr (3,u1) 0)),(7,(di x2))],G [((2,u1),some<|.box 27 (I7 p1)),((3,u1),some<|.box 45 [(dl H9 p2.Parts),(di p2.Signal_)])]⟩) 0 () _ hz2 (C9 Z Z) ?_
 intro x2 g4 z3 hz3 ez3
 unfold Y8 at hz3
 refine A4<|B7<|sv Z<|sq Z<|sl Z (gq Z) Z (sd Z (D0 Z)<|sv Z<|A1<|cc Z hz3 (fun c6 hz3=> ?_)<|fun c6 hz3=> ?_)
 refine B1<|A4<|A6<|B7<|sq Z<|sl Z (gq Z) Z (sv Z<|bs hz3 fun v4 hv4 hz3=>sd Z (C7 Z Z hv4 Z)<|sd Z (D5 Z hv4 Z Z)<|sm Z<|Bb Z G_hit (Fz v4) Z (A1<|A4<|J2 Z<|sq Z<|sl Z G_hit Z<|sv Z<|sv Z<|gp Z (L5 Z) (fun _=>Z) (gf Z (vl Z G_hit Z)<|gp Z (L5 Z) (fun _=>Z) (gf Z (vl Z G_hit Z)<|gf Z (fun w11=>(Q1 (A3 w11) (A3 w11) Z))<|sd Z (Q5 Z Z<|fun hc=>A3<|L6 hc)<|sv Z<|gp Z (L5 Z) (fun _=>Z) (gf Z (vl Z G_hit Z)<|gp Z (L5 Z) (fun _=>Z) (gf Z (vl Z (gq Z) Z)<|gp Z (L5 Z) (fun _=>Z) (gf Z (vl Z G_hit Z)<|bs hz3 fun v5 hv5 hz3=>gf Z (fun w18=>(C7 (A3 w18) (A3 w18) (D7 w18 hv5) Z)) ?_)))))))
 refine gf Z (fun w19=>(by simp only [A3 w19];rfl)) ?_
 refine gf Z (fun w20=>(D5 (A3 w20) (D7 w20 hv5) Z Z))<|bs hz3 fun v6 hv6 hz3=> ?_
 refine K7 _ (i64 v6) (L5 Z) (fun w21=>⟨_,[(.d (.agg [(.list (List.map M0 v5.Curve_.Pts))]))],_,_,(by simp only [A3 w21];rfl),Z,A2,Kr _ _<|D7 w21 hv6,(.inl Z)⟩) ?_
 refine gf Z (fun w22=>(Q1 (A3 w22) (A3 w22) Z))<|sd Z (Q5 Z Z<|fun hc=>A3<|L6 hc)<|sv Z<|gp Z (L5 Z) (fun _=>Z) (gf Z (vl Z G_hit Z)<|gf Z (vb Z Z Z)<|sd Z (Q5 Z Z<|fun hc=>A3<|L6 hc)<|sv Z<|gp Z (L5 Z) (fun _=>Z) (gf Z (vl Z G_hit Z)<|gf Z (vb Z Z Z)<|sd Z (Q5 Z Z<|fun hc=>A3<|L6 hc)<|A1<|cc Z hz3 (fun c7 hz3=> ?_)<|fun c7 hz3=> ?_))
 refine A4<|A5 (s0:=⟨T [],G []⟩) (C9 Z Z) ?_
 refine B0<|sv Z<|A1<|B5 ?_
 cases hz3
 obtain rfl:=ez3 _ rfl
 refine ⟨nofun,F6 ?_⟩
 rw [bL]at h
 cases h
 exact A9 (.inr Z) (B6 (B4 Z) C6) (.refl _)
 refine B1<|E6<|A5 (s0:=⟨T [(2,(.ptr _ _)),(3,(.ptr _ _)),(7,(.d _))],G [((2,u1),some<|.box 27 _),((3,u1),some<|.box 45 _)]⟩) (C9 Z Z) ?_
 refine B0<|sv Z<|sv Z<|sv Z<|A1<|F2 ?_
 cases hz3
 exact ⟨Z,(),(C9 Z Z)⟩
 refine C3 Z ?_
 cases hz3
 obtain rfl:=ez3 _ rfl
 refine ⟨nofun,B9 Z<|U0 ?_⟩
 exact ⟨_,(),Z,(C9 Z Z)⟩
 rintro _ ⟨y2,g3,rfl,q2⟩
 rw [bK]at h
 refine A5 q2<|B7<|sv Z<|A1<|B5 ?_
 cases h
 exact A9 (.inr Z) (B6 (B4 Z) C6) (.refl _)
def Ev [Lp](p1:Map)(p2:Work):Option Int:=
  cond ((decide (p2.Lane_<0))||(decide (p2.Lane_≥(p1.Lanes.length:Int)))) (some 7) ((E5 p1.Lanes p2.Lane_).bind fun v1=>(He v1.Kind).bind fun v2=>((cond (!((decide (p2.From<0))||(decide (p2.From>p2.To)))) (Cs v1.Curve_) (some default))).bind fun v3=>((cond (!((((((decide (p2.From<0))||(decide (p2.From>p2.To)))||(decide (p2.To>v3)))||(decide (p2.Begin<0)))||(decide (p2.Begin≥p2.End)))||(decide (p2.End>1099511627776)))) (Aw p2.Limit 0 v2.1) (some default))).bind fun v4=>cond (((((((decide (p2.From<0))||(decide (p2.From>p2.To)))||(decide (p2.To>v3)))||(decide (p2.Begin<0)))||(decide (p2.Begin≥p2.End)))||(decide (p2.End>1099511627776)))||(!v4)) (some 2) (some 0))
theorem Tn(p1 p2 r)(h:Ev p1 p2=some r):PCall prog 76 [(.agg (L8 p1)),(.agg (Qs p2))] (i64 r):=by
 refine C5 (fk func76 ntmps76 m0 (by with_unfolding_all rfl)) (nl Z) ?_
 unfold Ev at h
 refine A5 (s0:=⟨T [(0,(.d _)),(1,(.d _))],G []⟩) (C9 Z Z) ?_
 refine lr<|fun u1 _=>sm Z<|sm Z<|sv Z<|A1<|A4<|B7<|sq Z<|sl Z G_hit Z<|sv Z<|sv Z<|gp Z (L5 Z) (fun _=>Z) (gf Z (vl Z G_hit Z)<|gp Z (L5 Z) (fun _=>Z) (gf Z (vl Z (gq Z) Z)<|gf Z (fun w5=>(D0<|A3 w5))<|gf Z (fun w6=>(Q1 (A3 w6) (A3 w6) Z))<|sd Z (Q5 Z Z<|fun hc=>A3<|L6 hc)<|A1<|cc Z h (fun c1 h=> ?_)<|fun c1 h=> ?_))
 refine B7<|sv Z<|A1<|B5 ?_
 cases h
 exact A9 (.inr Z) (B6 (B4 Z) C6) (.refl _)
 refine B1<|lr<|fun u4 _=>sq Z<|sl Z (gq Z) Z (sq Z<|sl Z G_hit Z<|bs h fun v1 hv1 h=>sd Z (C7 Z Z hv1 Z)<|sd Z (D5 Z hv1 Z Z)<|sm Z<|Bb Z G_hit (Ft v1) Z (A1<|A4<|A5 (s0:=⟨T [(3,(.ptr _ _)),(5,(.ptr _ _))],G [((3,u1),some<|.box 50 _),((5,u4),some<|.box 42 _)]⟩) (C9 Z Z) ?_))
 refine B0<|sq Z<|sl Z (gq Z) Z (bs h fun v2 hv2 h=>B3 Z Z A2 (Pq _ _ hv2) (.inl Z) (sv Z<|sv Z<|sv Z<|sv Z<|sv Z<|sv Z<|sv Z<|A1<|A4<|A4<|J2 Z<|sq Z<|sl Z G_hit Z<|sv Z<|sv Z<|gp Z (L5 Z) (fun _=>Z) (gf Z (vl Z G_hit Z)<|gp Z (L5 Z) (fun _=>Z) (gf Z (vl Z G_hit Z)<|gf Z (fun w11=>(Q1 (A3 w11) (A3 w11) Z))<|sd Z (Q5 Z Z<|fun hc=>A3<|L6 hc)<|sv Z<|gp Z (L5 Z) (fun _=>Z) (gf Z (vl Z G_hit Z)<|gp Z (L5 Z) (fun _=>Z) (gf Z (fun w15=>(A7 (A3 w15) (gq Z) Z Z))<|bs h fun v3 hv3 h=> ?_))))))
 refine K7 _ (i64 v3) (L5 Z) (fun w16=>⟨_,[(.d (.agg [(.list (List.map M0 v1.Curve_.Pts))]))],_,_,(by simp only [A3 w16];rfl),Z,A2,Kr _ _<|D7 w16 hv3,(.inl Z)⟩) ?_
 refine gf Z (fun w17=>(Q1 (A3 w17) (A3 w17) Z))<|sd Z (Q5 Z Z<|fun hc=>A3<|L6 hc)<|sv Z<|gp Z (L5 Z) (fun _=>Z) (gf Z (vl Z G_hit Z)<|gf Z (vb Z Z Z)<|sd Z (Q5 Z Z<|fun hc=>A3<|L6 hc)<|sv Z<|gp Z (L5 Z) (fun _=>Z) (gf Z (vl Z G_hit Z)<|gp Z (L5 Z) (fun _=>Z) (gf Z (vl Z G_hit Z)<|gf Z (fun w25=>(Q1 (A3 w25) (A3 w25) Z))<|sd Z (Q5 Z Z<|fun hc=>A3<|L6 hc)<|sv Z<|gp Z (L5 Z) (fun _=>Z) (gf Z (vl Z G_hit Z)<|gf Z (vb Z Z Z)<|sd Z (Q5 Z Z<|fun hc=>A3<|L6 hc)<|sv Z<|gp Z (L5 Z) (fun _=>Z) (gf Z (vl Z G_hit Z)<|gf Z (fun _=>Z)<|bs h fun v4 hv4 h=> ?_)))))
 refine K7 _ (bo v4) (L5 Z) (fun w32=>⟨_,[(di p2.Limit),(di 0),(di v2.1)],_,_,(by simp only [A3 w32];rfl),Z,A2,Cd _ _ _ _<|D7 w32 hv4,(.inl Z)⟩) ?_
 refine Ba _ (.d (bo (!v4))) Z (L5 Z) (fun w33=>(by simp only [A3 w33];rfl)) ?_
 refine sd Z (Q5 Z Z<|fun hc=>A3<|L6 hc)<|A1<|cc Z h (fun c2 h=> ?_)<|fun c2 h=> ?_
 refine A4<|A5 (s0:=⟨T [],G []⟩) (C9 Z Z) ?_
 refine B0<|sv Z<|A1<|B5 ?_
 cases h
 exact A9 (.inr Z) (B6 (B4 Z) C6) (.refl _)
 refine B1<|A4<|A5 (s0:=⟨T [],G []⟩) (C9 Z Z) ?_
 refine B0<|sv Z<|A1<|B5 ?_
 cases h
 exact A9 (.inr Z) (B6 (B4 Z) C6) (.refl _)
def Do [Lp](p1:Map)(x4:(Int×Int)):Option (Stp (Int×Int) Int):=
  cond ((decide (x4.2< (p1.Works.length:Int)))&& (x4.1==0)) ((E5 p1.Works x4.2).bind fun v8=>(Ev p1 v8).bind fun v9=>some (.go (v9,(C8 (x4.2+1))))) (some (.out x4.1))
def Dp [Lp](p1:Map)(x3:(Int×Int)):Option (Stp (Int×Int) Int):=
  cond ((decide (x3.2< (p1.Zones.length:Int)))&& (x3.1==0)) ((E5 p1.Zones x3.2).bind fun v6=>(Eu p1 v6).bind fun v7=>some (.go (v7,(C8 (x3.2+1))))) (some (.out x3.1))
def Dq [Lp](p1:Map)(x2:(Int×Int)):Option (Stp (Int×Int) Int):=
  cond ((decide (x2.2< (p1.Signals.length:Int)))&& (x2.1==0)) ((E5 p1.Signals x2.2).bind fun v4=>(Cr p1 v4).bind fun v5=>some (.go (v5,(C8 (x2.2+1))))) (some (.out x2.1))
def Bs [Lp](p1:Map)(x1:Int):Option (Stp Int (Sum Unit Int)):=
  cond (decide (x1< (p1.Lanes.length:Int))) ((Es p1 x1).bind fun v2=>cond (v2 !=0) (some (.out (.inr v2))) (some (.go (C8 (x1+1))))) (some (.out (.inl ())))
def Kk [Lp](p1:Map):Option Int:=
  (Aw p1.Version 0 1099511627776).bind fun v1=>cond (!v1) (some 2) (cond ((p1.Lanes.length:Int)==0) (some 6) (cond ((((decide ((p1.Lanes.length:Int)>12))||(decide ((p1.Zones.length:Int)>12)))||(decide ((p1.Signals.length:Int)>4)))||(decide ((p1.Works.length:Int)>8))) (some 8) (thenS (loop (Bs p1) 0) (fun _=>(Et p1).bind fun v3=>(loop (Dq p1) (v3,0)).bind fun y2=>(loop (Dp p1) (y2,0)).bind fun y3=>(loop (Do p1) (y3,0)).bind fun y4=>some y4) (fun r=>some r))))
theorem AY(p1 r)(h:Kk p1=some r):PCall prog 17 [(.agg (L8 p1))] (i64 r):=by
 refine C5 (fk func17 ntmps17 m0 (by with_unfolding_all rfl)) (nl Z) ?_
 unfold Kk at h
 refine A5 (s0:=⟨T [(0,(.d _))],G []⟩) (C9 Z Z) ?_
 refine lr<|fun u1 _=>sm Z<|sv Z<|A1<|A4<|B7<|sq Z<|sl Z G_hit Z<|bs h fun v1 hv1 h=>B3 Z Z A2 (Cd _ _ _ _ hv1) (.inl Z) (C1 (.d (bo (!v1))) Z Z (A1<|cc Z h (fun c1 h=> ?_)<|fun c1 h=> ?_))
 refine B7<|sv Z<|A1<|B5 ?_
 cases h
 exact A9 (.inr Z) (B6 (B4 Z) C6) (.refl _)
 refine B1<|A4<|B7<|sq Z<|sl Z G_hit Z<|sd Z (D0 Z)<|sv Z<|A1<|cc Z h (fun c2 h=> ?_)<|fun c2 h=> ?_
 refine B7<|sv Z<|A1<|B5 ?_
 cases h
 exact A9 (.inr Z) (B6 (B4 Z) C6) (.refl _)
 refine B1<|A4<|B7<|sq Z<|sl Z G_hit Z<|sd Z (D0 Z)<|sv Z<|sv Z<|gp Z (L5 Z) (fun _=>Z) (gf Z (vl Z G_hit Z)<|gf Z (fun w3=>(D0<|A3 w3))<|gf Z (vb Z Z Z)<|sd Z (Q5 Z Z<|fun hc=>A3<|L6 hc)<|sv Z<|gp Z (L5 Z) (fun _=>Z) (gf Z (vl Z G_hit Z)<|gf Z (fun w7=>(D0<|A3 w7))<|gf Z (vb Z Z Z)<|sd Z (Q5 Z Z<|fun hc=>A3<|L6 hc)<|sv Z<|gp Z (L5 Z) (fun _=>Z) (gf Z (vl Z G_hit Z)<|gf Z (fun w11=>(D0<|A3 w11))<|gf Z (vb Z Z Z)<|sd Z (Q5 Z Z<|fun hc=>A3<|L6 hc)<|A1<|cc Z h (fun c3 h=> ?_)<|fun c3 h=> ?_)))
 refine A4<|A5 (s0:=⟨T [],G []⟩) (C9 Z Z) ?_
 refine B0<|sv Z<|A1<|B5 ?_
 cases h
 exact A9 (.inr Z) (B6 (B4 Z) C6) (.refl _)
 refine B1<|A4<|A4<|A5 (s0:=⟨T [(1,(.ptr _ _))],G [((1,u1),some<|.box 27 _)]⟩) (C9 Z Z) ?_
 refine B0<|sv Z<|A1<|js h fun z1 hz1 h=>D2 (fun s=> ∃(y1:Unit) (g1:Unit),z1= .inl y1∧Sb ⟨T [(1,(.ptr (1,u1) 0))],G [((1,u1),some<|.box 27 (I7 p1))]⟩ s) ?_ ?_
 refine A6<|E7 (Bs p1) (fun (x1:Int) (g2:Unit)=>⟨T [(1,(.ptr (1,u1) 0)),(3,(di x1))],G [((1,u1),some<|.box 27 (I7 p1))]⟩) 0 () _ hz1 (C9 Z Z) ?_
 intro x1 g2 z2 hz2 ez2
 unfold Bs at hz2
 refine A4<|B7<|sv Z<|sq Z<|sl Z G_hit Z<|sd Z (D0 Z)<|sv Z<|A1<|cc Z hz2 (fun c4 hz2=> ?_)<|fun c4 hz2=> ?_
 refine B1<|A4<|A6<|B7<|sd Z (A7 Z G_hit Z Z)<|sv Z<|bs hz2 fun _ hv2 hz2=>B3 Z Z A2 (Tk _ _ _ hv2) (.inl Z) (sv Z<|A1<|B7<|sv Z<|sv Z<|A1<|cc Z hz2 (fun c5 hz2=> ?_)<|fun c5 hz2=> ?_)
 refine B7<|sv Z<|sv Z<|A1<|B5 ?_
 cases hz2
 obtain rfl:=ez2 _ rfl
 refine ⟨nofun,F6 ?_⟩
 rw [bL]at h
 cases h
 exact A9 (.inr Z) (B6 (B4 Z) C6) (.refl _)
 refine B1<|E6<|B0<|sv Z<|sv Z<|sv Z<|A1<|F2 ?_
 cases hz2
 exact ⟨Z,(),(C9 Z Z)⟩
 refine C3 Z ?_
 cases hz2
 obtain rfl:=ez2 _ rfl
 refine ⟨nofun,B9 Z<|U0 ?_⟩
 exact ⟨_,(),Z,(C9 Z Z)⟩
 rintro _ ⟨y1,g1,rfl,q1⟩
 rw [bK]at h
 refine A5 q1<|B7<|sd Z (A7 Z G_hit Z Z)<|bs h fun v3 hv3 h=>B3 Z Z A2 (Tl _ _ hv3) (.inl Z) (sv Z<|A1<|A4<|B7<|sv Z<|A1<|bs h fun y2 hy2 h=>D2 (fun s=> ∃g3:Unit,Sb ⟨T [(1,(.ptr (1,u1) 0)),(5,(di y2))],G [((1,u1),some<|.box 27 (I7 p1))]⟩ s) ?_ ?_)
 refine A6<|E7 (Dq p1) (fun (x2:(Int×Int)) (g4:Unit)=>⟨T [(1,(.ptr (1,u1) 0)),(5,(di x2.1)),(6,(di x2.2))],G [((1,u1),some<|.box 27 (I7 p1))]⟩) (v3,0) () _ hy2 (C9 Z Z) ?_
 intro x2 g4 z3 hz3 ez3
 unfold Dq at hz3
 refine A4<|B7<|sv Z<|sq Z<|sl Z G_hit Z<|sd Z (D0 Z)<|sv Z<|sv Z<|gt Z (fun _=>Z)<|gt Z (vb Z Z Z)<|sa Z Z Z<|A1<|cc Z hz3 (fun c6 hz3=> ?_)<|fun c6 hz3=> ?_
 refine B1<|A4<|A6<|J2 Z<|sd Z (A7 Z G_hit Z Z)<|sq Z<|sl Z G_hit Z<|sv Z<|bs hz3 fun _ hv4 hz3=>sd Z (C7 Z Z hv4 Z)<|sd Z (D5 Z hv4 Z Z)<|bs hz3 fun _ hv5 hz3=>B3 Z Z A2 (Rf _ _ _ hv5) (.inl Z) (sv Z<|A1<|E6<|B0<|sv Z<|sv Z<|sv Z<|A1<|F2 ?_)
 cases hz3
 exact ⟨Z,(),(C9 Z Z)⟩
 refine C3 Z ?_
 cases hz3
 obtain rfl:=ez3 _ rfl
 refine ⟨nofun,B9 Z<|U0 ?_⟩
 exact ⟨(),(C9 Z Z)⟩
 rintro _ ⟨g3,q2⟩
 refine A5 q2<|A4<|B7<|sv Z<|A1<|bs h fun y3 hy3 h=>D2 (fun s=> ∃g5:Unit,Sb ⟨T [(1,(.ptr (1,u1) 0)),(5,(di y3))],G [((1,u1),some<|.box 27 (I7 p1))]⟩ s) ?_ ?_
 refine A6<|E7 (Dp p1) (fun (x3:(Int×Int)) (g6:Unit)=>⟨T [(1,(.ptr (1,u1) 0)),(5,(di x3.1)),(7,(di x3.2))],G [((1,u1),some<|.box 27 (I7 p1))]⟩) (y2,0) () _ hy3 (C9 Z Z) ?_
 intro x3 g6 z4 hz4 ez4
 unfold Dp at hz4
 refine A4<|B7<|sv Z<|sq Z<|sl Z G_hit Z<|sd Z (D0 Z)<|sv Z<|sv Z<|gt Z (fun _=>Z)<|gt Z (vb Z Z Z)<|sa Z Z Z<|A1<|cc Z hz4 (fun c7 hz4=> ?_)<|fun c7 hz4=> ?_
 refine B1<|A4<|A6<|J2 Z<|sd Z (A7 Z G_hit Z Z)<|sq Z<|sl Z G_hit Z<|sv Z<|bs hz4 fun _ hv6 hz4=>sd Z (C7 Z Z hv6 Z)<|sd Z (D5 Z hv6 Z Z)<|bs hz4 fun _ hv7 hz4=>B3 Z Z A2 (Tm _ _ _ hv7) (.inl Z) (sv Z<|A1<|E6<|B0<|sv Z<|sv Z<|sv Z<|A1<|F2 ?_)
 cases hz4
 exact ⟨Z,(),(C9 Z Z)⟩
 refine C3 Z ?_
 cases hz4
 obtain rfl:=ez4 _ rfl
 refine ⟨nofun,B9 Z<|U0 ?_⟩
 exact ⟨(),(C9 Z Z)⟩
 rintro _ ⟨g5,q3⟩
 refine A5 q3<|A4<|B7<|sv Z<|A1<|bs h fun y4 hy4 h=>D2 (fun s=> ∃g7:Unit,Sb ⟨T [(5,(di y4))],G []⟩ s) ?_ ?_
 refine A6<|E7 (Do p1) (fun (x4:(Int×Int)) (g8:Unit)=>⟨T [(1,(.ptr (1,u1) 0)),(5,(di x4.1)),(8,(di x4.2))],G [((1,u1),some<|.box 27 (I7 p1))]⟩) (y3,0) () _ hy4 (C9 Z Z) ?_
 intro x4 g8 z5 hz5 ez5
 unfold Do at hz5
 refine A4<|B7<|sv Z<|sq Z<|sl Z G_hit Z<|sd Z (D0 Z)<|sv Z<|sv Z<|gt Z (fun _=>Z)<|gt Z (vb Z Z Z)<|sa Z Z Z<|A1<|cc Z hz5 (fun c8 hz5=> ?_)<|fun c8 hz5=> ?_
 refine B1<|A4<|A6<|J2 Z<|sd Z (A7 Z G_hit Z Z)<|sq Z<|sl Z G_hit Z<|sv Z<|bs hz5 fun _ hv8 hz5=>sd Z (C7 Z Z hv8 Z)<|sd Z (D5 Z hv8 Z Z)<|bs hz5 fun _ hv9 hz5=>B3 Z Z A2 (Tn _ _ _ hv9) (.inl Z) (sv Z<|A1<|E6<|B0<|sv Z<|sv Z<|sv Z<|A1<|F2 ?_)
 cases hz5
 exact ⟨Z,(),(C9 Z Z)⟩
 refine C3 Z ?_
 cases hz5
 obtain rfl:=ez5 _ rfl
 refine ⟨nofun,B9 Z<|U0 ?_⟩
 exact ⟨(),(C9 Z Z)⟩
 rintro _ ⟨g7,q4⟩
 refine A5 q4<|B7<|sv Z<|sv Z<|A1<|B5 ?_
 cases h
 exact A9 (.inr Z) (B6 (B4 Z) C6) (.refl _)
def Jj (p1:(List Int))(p2:Int)(x1:Int):Option (Stp Int (Sum Unit Bool)):=
  cond (decide (x1< (p1.length:Int))) ((E5 p1 x1).bind fun v1=>cond (v1==p2) (some (.out (.inr true))) (some (.go (C8 (x1+1))))) (some (.out (.inl ())))
def Bj [Lp](p1:(List Int))(p2:Int):Option Bool:=
  thenS (loop (Jj p1 p2) 0) (fun _=>some false) (fun r=>some r)
theorem Ax(p1 p2 r)(h:Bj p1 p2=some r):PCall prog 138 [(.list (List.map A8 p1)),(i64 p2)] (bo r):=by
 refine C5 (fk func138 ntmps138 m0 (by with_unfolding_all rfl)) (nl Z) ?_
 unfold Bj at h
 refine A5 (s0:=⟨T [(0,(.d _)),(1,(.d _))],G []⟩) (C9 Z Z) ?_
 refine B7<|sv Z<|A1<|A4<|B7<|sv Z<|A1<|js h fun z1 hz1 h=>D2 (fun s=> ∃(y1:Unit) (g1:Unit),z1= .inl y1∧Sb ⟨T [],G []⟩ s) ?_ ?_
 refine A6<|E7 (Jj p1 p2) (fun (x1:Int) (g2:Unit)=>⟨T [(0,(dl A8 p1)),(1,(di p2)),(5,(di x1))],G []⟩) 0 () _ hz1 (C9 Z Z) ?_
 intro x1 g2 z2 hz2 ez2
 unfold Jj at hz2
 refine A4<|B7<|sv Z<|sv Z<|sd Z (D0 Z)<|sv Z<|A1<|cc Z hz2 (fun c1 hz2=> ?_)<|fun c1 hz2=> ?_
 refine B1<|A4<|A6<|B7<|sv Z<|sv Z<|bs hz2 fun _ hv1 hz2=>sd Z (C7 Z Z hv1 Z)<|sd Z (D9 Z hv1 Z)<|sv Z<|sv Z<|A1<|cc Z hz2 (fun c2 hz2=> ?_)<|fun c2 hz2=> ?_
 refine B7<|sv Z<|A1<|B5 ?_
 cases hz2
 obtain rfl:=ez2 _ rfl
 refine ⟨nofun,F6 ?_⟩
 rw [bL]at h
 cases h
 exact A9 (.inr Z) (B6 (B4 Z) C6) (.refl _)
 refine B1<|E6<|B0<|sv Z<|sv Z<|sv Z<|A1<|F2 ?_
 cases hz2
 exact ⟨Z,(),(C9 Z Z)⟩
 refine C3 Z ?_
 cases hz2
 obtain rfl:=ez2 _ rfl
 refine ⟨nofun,B9 Z<|U0 ?_⟩
 exact ⟨_,(),Z,(C9 Z Z)⟩
 rintro _ ⟨y1,g1,rfl,q1⟩
 rw [bK]at h
 refine A5 q1<|B7<|sv Z<|A1<|B5 ?_
 cases h
 exact A9 (.inr Z) (B6 (B4 Z) C6) (.refl _)
def Ew [Lp](p1:Map)(p2:Int)(x1:((List Int)×Int)):Option (Stp ((List Int)×Int) (List Int)):=
  cond (decide (x1.2< (p1.Lanes.length:Int))) ((E5 p1.Lanes x1.2).bind fun v1=>(Bj v1.Next p2).bind fun v2=>cond v2 ((Cj x1.1 [x1.2]).bind fun v3=>some (.go (v3,(C8 (x1.2+1))))) (some (.go (x1.1,(C8 (x1.2+1)))))) (some (.out x1.1))
def Ct [Lp](p1:Map)(p2:Int):Option (List Int):=
  (loop (Ew p1 p2) ([],0)).bind fun y1=>some y1
theorem Hz(p1 p2 r)(h:Ct p1 p2=some r):PCall prog 137 [(.agg (L8 p1)),(i64 p2)] (.list (List.map A8 r)):=by
 refine C5 (fk func137 ntmps137 (fun r=>if r==6 then [1002]else []) (by with_unfolding_all rfl)) (nl Z) ?_
 unfold Ct at h
 refine A5 (s0:=⟨T [(0,(.d _)),(1,(.d _))],G []⟩) (C9 Z Z) ?_
 refine lr<|fun u1 _=>sm Z<|sv Z<|A1<|B7<|sv Z<|A1<|A4<|B7<|sv Z<|A1<|bs h fun y1 hy1 h=>D2 (fun s=> ∃g1:Nat,Sb ⟨T [(5,(oS y1 (25,g1)))],G [((25,g1),oB 3 1 A8 y1)]⟩ s) ?_ ?_
 refine A6<|E7 (Ew p1 p2) (fun (x1:((List Int)×Int)) (g2:Nat)=>⟨T [(1,(di p2)),(2,(.ptr (2,u1) 0)),(5,(oS x1.1 (25,g2))),(6,(di x1.2))],G [((2,u1),some<|.box 27 (I7 p1)),((25,g2),oB 3 1 A8 x1.1)]⟩) ([],0) 0 _ hy1 (C0 (T3 Z)<|B2 G_hit (.of Z)<|U9 trivial) ?_
 intro x1 g2 z1 hz1 ez1
 unfold Ew at hz1
 refine A4<|B7<|sv Z<|sq Z<|sl Z G_hit Z<|sd Z (D0 Z)<|sv Z<|A1<|cc Z hz1 (fun c1 hz1=> ?_)<|fun c1 hz1=> ?_
 refine B1<|A4<|A6<|B7<|sq Z<|sl Z G_hit Z<|sv Z<|bs hz1 fun _ hv1 hz1=>sd Z (C7 Z Z hv1 Z)<|sv Z<|sd Z (D9 Z hv1 Z)<|sv Z<|bs hz1 fun _ hv2 hz1=>B3 Z Z A2 (Ax _ _ _ hv2) (.inl Z) (A1<|cc Z hz1 (fun c2 hz1=> ?_)<|fun c2 hz1=> ?_)
 refine Bw fun u6 _=>C1 (oS x1.1 (25,g2)) Z Z (sv Z<|C1 (dl A8 [x1.2]) Z Z (bs hz1 fun _ hv3 hz1=>N9 A8 (25,g2) x1.1 x1.2 [] _ (J7<|fun _=>Z) Z (gq Z) hv3 (ss Z<|A1<|E6<|A5 (s0:=⟨T [(1,(.d _)),(2,(.ptr _ _)),(5,(.sl _)),(6,(.d _))],G [((2,u1),some<|.box 27 _),((25,u6),some _)]⟩) (C9 Z Z) ?_)))
 refine B0<|sv Z<|sv Z<|sv Z<|A1<|F2 ?_
 cases hz1
 exact ⟨Z,u6,(C0 ⟨.of Z, .of Z,(.of (Dy<|T1 hv3).symm), .of Z,trivial⟩<|B2 G_hit (.of Z)<|U8 (gq Z) trivial)⟩
 refine B1<|E6<|B0<|sv Z<|sv Z<|sv Z<|A1<|F2 ?_
 cases hz1
 exact ⟨Z,g2,(C0 (T3 Z)<|B2 G_hit (.of Z)<|C2 (gq Z) trivial)⟩
 refine C3 Z ?_
 cases hz1
 obtain rfl:=ez1 _ rfl
 refine ⟨nofun,B9 Z<|U0 ?_⟩
 exact ⟨g2,(C0 ⟨.of Z,trivial⟩<|C2 (gq Z) trivial)⟩
 rintro _ ⟨g1,q1⟩
 refine A5 q1<|B7<|C1 (oS y1 (25,g1)) Z Z (C1 (oS y1 (25,g1)) Z Z (A1<|B5 ?_))
 cases h
 exact A9 (.inr Z) (B6 (B4 Z)<|Ea G_hit) Dz
def Dd (p1:Zone)(p2:Int)(x1:Int):Option (Stp Int (Sum Unit (Part×Bool))):=
  cond (decide (x1< (p1.Parts.length:Int))) ((E5 p1.Parts x1).bind fun v1=>cond (v1.Lane_==p2) ((E5 p1.Parts x1).bind fun v2=>some (.out (.inr (v2,true)))) (some (.go (C8 (x1+1))))) (some (.out (.inl ())))
def Ei [Lp](p1:Zone)(p2:Int):Option (Part×Bool):=
  thenS (loop (Dd p1 p2) 0) (fun _=>some ((Part.mk 0 0 0 0),false)) (fun r=>some r)
theorem Fj(p1 p2 r)(h:Ei p1 p2=some r):PCall prog 148 [(.agg [(.list (List.map H9 p1.Parts)),(i64 p1.Signal_)]),(i64 p2)] (.tup [(.agg (H9 r.1)),(bo r.2)]):=by
 refine C5 (fk func148 ntmps148 m0 (by with_unfolding_all rfl)) (nl Z) ?_
 unfold Ei at h
 refine A5 (s0:=⟨T [(0,(.d _)),(1,(.d _))],G []⟩) (C9 Z Z) ?_
 refine lr<|fun u1 _=>sm Z<|sm Z<|sv Z<|A1<|A4<|B7<|sv Z<|A1<|js h fun z1 hz1 h=>D2 (fun s=> ∃(y1:Unit) (g1:Unit),z1= .inl y1∧Sb ⟨T [(4,(.ptr (4,u1) 0))],G [((4,u1),some<|.box 91 (zs 4))]⟩ s) ?_ ?_
 refine A6<|E7 (Dd p1 p2) (fun (x1:Int) (g2:Unit)=>⟨T [(1,(di p2)),(2,(.ptr (2,u1) 0)),(4,(.ptr (4,u1) 0)),(6,(di x1))],G [((2,u1),some<|.box 45 [(dl H9 p1.Parts),(di p1.Signal_)]),((4,u1),some<|.box 91 (zs 4))]⟩) 0 () _ hz1 (C9 Z Z) ?_
 intro x1 g2 z2 hz2 ez2
 unfold Dd at hz2
 refine A4<|B7<|sv Z<|sq Z<|sl Z G_hit Z<|sd Z (D0 Z)<|sv Z<|A1<|cc Z hz2 (fun c1 hz2=> ?_)<|fun c1 hz2=> ?_
 refine B1<|A4<|A6<|B7<|sq Z<|sl Z G_hit Z<|sv Z<|bs hz2 fun _ hv1 hz2=>sd Z (C7 Z Z hv1 Z)<|sv Z<|sd Z (D9 Z hv1 Z)<|sv Z<|sv Z<|A1<|cc Z hz2 (fun c2 hz2=> ?_)<|fun c2 hz2=> ?_
 refine B7<|sq Z<|sl Z G_hit Z<|sv Z<|bs hz2 fun v2 hv2 hz2=>sd Z (C7 Z Z hv2 Z)<|sd Z (D5 Z hv2 Z Z)<|Bb Z (gq Z) (Fz v2) Z (sv Z<|A1<|B5 ?_)
 cases hz2
 obtain rfl:=ez2 _ rfl
 refine ⟨nofun,F6 ?_⟩
 rw [bL]at h
 cases h
 exact A9 (.inr Z) (Zy (Bf Z G_hit (nl Z) Z) (B4 Z) C6 C6) (.refl _)
 refine B1<|E6<|B0<|sv Z<|sv Z<|sv Z<|A1<|F2 ?_
 cases hz2
 exact ⟨Z,(),(C9 Z Z)⟩
 refine C3 Z ?_
 cases hz2
 obtain rfl:=ez2 _ rfl
 refine ⟨nofun,B9 Z<|U0 ?_⟩
 exact ⟨_,(),Z,(C9 Z Z)⟩
 rintro _ ⟨y1,g1,rfl,q1⟩
 rw [bK]at h
 refine A5 q1<|B7<|sv Z<|Bb Z G_hit (zs 4) Z (sv Z<|A1<|B5 ?_)
 cases h
 exact A9 (.inr Z) (Zy (Bf Z G_hit (nl Z) Z) (B4 Z) C6 C6) (.refl _)
def Jk [Lp](p1:Map)(p2:Int):Option Int:=
  (E5 p1.Lanes p2).bind fun v1=>(Cs v1.Curve_).bind fun v2=>some v2
theorem Ye(p1 p2 r)(h:Jk p1 p2=some r):PCall prog 166 [(.agg (L8 p1)),(i64 p2)] (i64 r):=by
 refine C5 (fk func166 ntmps166 m0 (by with_unfolding_all rfl)) (nl Z) ?_
 unfold Jk at h
 refine A5 (s0:=⟨T [(0,(.d _)),(1,(.d _))],G []⟩) (C9 Z Z) ?_
 refine B7<|sm Z<|sv Z<|A1<|B7<|sq Z<|sl Z G_hit Z<|sv Z<|bs h fun _ hv1 h=>sd Z (C7 Z Z hv1 Z)<|sv Z<|sd Z (D5 Z hv1 Z Z)<|bs h fun _ hv2 h=>B3 Z Z A2 (Kr _ _ hv2) (.inl Z) (sv Z<|A1<|B5 ?_)
 cases h
 exact A9 (.inr Z) (B6 (B4 Z) C6) (.refl _)
def Gg [Lp](p1:Map)(p2:Zone)(v2:(List Int))(x1:Int):Option (Stp Int (Sum Unit Bool)):=
  cond (decide (x1< (v2.length:Int))) ((E5 v2 x1).bind fun v3=>(Ei p2 v3).bind fun v4=>((cond (!(!v4.2)) (E5 v2 x1) (some default))).bind fun v5=>((cond (!(!v4.2)) (Jk p1 v5) (some default))).bind fun v6=>cond ((!v4.2)||(v4.1.To !=v6)) (some (.out (.inr false))) (some (.go (C8 (x1+1))))) (some (.out (.inl ())))
def Gh [Lp](p1:Map)(p2:Zone)(p3:Int):Option Bool:=
  (Ei p2 p3).bind fun v1=>cond ((!v1.2)||(v1.1.From !=0)) (some false) ((Ct p1 p3).bind fun v2=>thenS (loop (Gg p1 p2 v2) 0) (fun _=>some true) (fun r=>some r))
theorem Mi(p1 p2 p3 r)(h:Gh p1 p2 p3=some r):PCall prog 189 [(.agg (L8 p1)),(.agg [(.list (List.map H9 p2.Parts)),(i64 p2.Signal_)]),(i64 p3)] (bo r):=by
 refine C5 (fk func189 ntmps189 m0 (by with_unfolding_all rfl)) (nl Z) ?_
 unfold Gh at h
 refine A5 (s0:=⟨T [(0,(.d _)),(1,(.d _)),(2,(.d _))],G []⟩) (C9 Z Z) ?_
 refine lr<|fun u1 _=>sm Z<|sm Z<|sv Z<|A1<|B7<|sd Z (A7 Z G_hit Z Z)<|sv Z<|bs h fun v1 hv1 h=>B3 Z Z A2 (Fj _ _ _ hv1) (.inl Z) (sv Z<|sv Z<|sv Z<|sm Z<|Bb Z G_hit (Fz v1.1) Z (sv Z<|A1<|A4<|B7<|sv Z<|C1 (.d (bo (!v1.2))) Z Z (sv Z<|gp Z (L5 Z) (fun _=>Z) (gf Z (vl Z G_hit Z)<|gf Z (vb Z Z Z)<|sd Z (Q5 Z Z<|fun hc=>A3<|L6 hc)<|A1<|cc Z h (fun c1 h=> ?_)<|fun c1 h=> ?_))))
 refine A4<|A5 (s0:=⟨T [],G []⟩) (C9 Z Z) ?_
 refine B0<|sv Z<|A1<|B5 ?_
 cases h
 exact A9 (.inr Z) (B6 (B4 Z) C6) (.refl _)
 refine B1<|A4<|A5 (s0:=⟨T [(2,(.d _)),(3,(.ptr _ _)),(4,(.ptr _ _))],G [((3,u1),some<|.box 27 _),((4,u1),some<|.box 45 _)]⟩) (C9 Z Z) ?_
 refine B0<|sd Z (A7 Z G_hit Z Z)<|sv Z<|bs h fun v2 hv2 h=>B3 Z Z A2 (Hz _ _ _ hv2) (.inl Z) (sv Z<|A1<|A4<|B7<|sv Z<|A1<|js h fun z1 hz1 h=>D2 (fun s=> ∃(y1:Unit) (g1:Unit),z1= .inl y1∧Sb ⟨T [],G []⟩ s) ?_ ?_)
 refine A6<|E7 (Gg p1 p2 v2) (fun (x1:Int) (g2:Unit)=>⟨T [(3,(.ptr (3,u1) 0)),(4,(.ptr (4,u1) 0)),(9,(dl A8 v2)),(10,(di x1))],G [((3,u1),some<|.box 27 (I7 p1)),((4,u1),some<|.box 45 [(dl H9 p2.Parts),(di p2.Signal_)])]⟩) 0 () _ hz1 (C9 Z Z) ?_
 intro x1 g2 z2 hz2 ez2
 unfold Gg at hz2
 refine A4<|B7<|sv Z<|sv Z<|sd Z (D0 Z)<|sv Z<|A1<|cc Z hz2 (fun c2 hz2=> ?_)<|fun c2 hz2=> ?_
 refine B1<|A4<|A6<|A4<|Ic Z fun u8 _=>sd Z (A7 Z (gq Z) Z Z)<|sv Z<|sv Z<|bs hz2 fun _ hv3 hz2=>sd Z (C7 Z Z hv3 Z)<|sd Z (D9 Z hv3 Z)<|bs hz2 fun v4 hv4 hz2=>B3 Z Z A2 (Fj _ _ _ hv4) (.inl Z) (sv Z<|sv Z<|sv Z<|sm Z<|Bb Z G_hit (Fz v4.1) Z (sv Z<|A1<|A4<|A5 (s0:=⟨T [(3,(.ptr _ _)),(4,(.ptr _ _)),(9,(.d _)),(10,(.d _)),(11,(.ptr _ _)),(12,(.d _))],G [((3,u1),some<|.box 27 _),((4,u1),some<|.box 45 _),((11,u8),some<|.box 91 _)]⟩) (C9 Z Z) ?_))
 refine J2 Z<|sv Z<|C1 (.d (bo (!v4.2))) Z Z (sv Z<|gp Z (L5 Z) (fun _=>Z) (gf Z (vl Z (gq Z) Z)<|gf Z (fun _=>(A7 Z G_hit Z Z))<|gf Z (fun _=>Z)<|gf Z (fun _=>Z)<|bs hz2 fun v5 hv5 hz2=>gf Z (fun w9=>(C7 (A3 w9) (A3 w9) (D7 w9 hv5) Z))<|gf Z (fun w10=>(D9 (A3 w10) (D7 w10 hv5) Z))<|bs hz2 fun v6 hv6 hz2=> ?_))
 refine K7 _ (i64 v6) (L5 Z) (fun w11=>⟨_,[(.d (.agg (L8 p1))),(di v5)],_,_,(by simp only [A3 w11];rfl),Z,A2,Ye _ _ _<|D7 w11 hv6,(.inl Z)⟩) ?_
 refine gf Z (fun w12=>(Q1 (A3 w12) (A3 w12) Z))<|sd Z (Q5 Z Z<|fun hc=>A3<|L6 hc)<|A1<|cc Z hz2 (fun c3 hz2=> ?_)<|fun c3 hz2=> ?_
 refine B7<|sv Z<|A1<|B5 ?_
 cases hz2
 obtain rfl:=ez2 _ rfl
 refine ⟨nofun,F6 ?_⟩
 rw [bL]at h
 cases h
 exact A9 (.inr Z) (B6 (B4 Z) C6) (.refl _)
 refine B1<|E6<|B0<|sv Z<|sv Z<|sv Z<|A1<|F2 ?_
 cases hz2
 exact ⟨Z,(),(C9 Z Z)⟩
 refine C3 Z ?_
 cases hz2
 obtain rfl:=ez2 _ rfl
 refine ⟨nofun,B9 Z<|U0 ?_⟩
 exact ⟨_,(),Z,(C9 Z Z)⟩
 rintro _ ⟨y1,g1,rfl,q1⟩
 rw [bK]at h
 refine A5 q1<|B7<|sv Z<|A1<|B5 ?_
 cases h
 exact A9 (.inr Z) (B6 (B4 Z) C6) (.refl _)
def Dr (rc:(Map→Int→Int→Option Bool))(p1:Map)(p3:Int)(v1:Lane)(x1:Int):Option (Stp Int (Sum Unit Bool)):=
  cond (decide (x1< (v1.Next.length:Int))) ((E5 v1.Next x1).bind fun v2=>((cond (!(v2==p3)) (E5 v1.Next x1) (some default))).bind fun v3=>((cond (!(v2==p3)) (rc p1 v3 p3) (some default))).bind fun v4=>cond ((v2==p3)||v4) (some (.out (.inr true))) (some (.go (C8 (x1+1))))) (some (.out (.inl ())))
def Hr [Lp](rc:(Map→Int→Int→Option Bool))(p1:Map)(p2:Int)(p3:Int):Option Bool:=
  (E5 p1.Lanes p2).bind fun v1=>thenS (loop (Dr rc p1 p3 v1) 0) (fun _=>some false) (fun r=>some r)
def Fk [Lp]:Nat→Map→Int→Int→Option Bool
  |0=>fun _ _ _=>none
  |n+1=>Hr (Fk n)
def Rg [Lp]:Map→Int→Int→Option Bool:=Fk 100
theorem Wj (rc:(Map→Int→Int→Option Bool))(rc_ok: ∀(p1:Map) (p2:Int) (p3:Int) (r:Bool),rc p1 p2 p3=some r→PCall prog 249 [(.agg (L8 p1)),(i64 p2),(i64 p3)] (bo r))(p1:Map)(p2:Int)(p3:Int)(r:Bool)(h:Hr rc p1 p2 p3=some r):PCall prog 249 [(.agg (L8 p1)),(i64 p2),(i64 p3)] (bo r):=by
 refine C5 (fk func249 ntmps249 m0 (by with_unfolding_all rfl)) (nl Z) ?_
 unfold Hr at h
 refine A5 (s0:=⟨T [(0,(.d _)),(1,(.d _)),(2,(.d _))],G []⟩) (C9 Z Z) ?_
 refine lr<|fun u1 _=>sm Z<|sv Z<|A1<|B7<|sq Z<|sl Z G_hit Z<|sv Z<|bs h fun v1 hv1 h=>sd Z (C7 Z Z hv1 Z)<|sv Z<|sd Z (D9 Z hv1 Z)<|sv Z<|A1<|A4<|B7<|sv Z<|A1<|js h fun z1 hz1 h=>D2 (fun s=> ∃(y1:Unit) (g1:Unit),z1= .inl y1∧Sb ⟨T [],G []⟩ s) ?_ ?_
 refine A6<|E7 (Dr rc p1 p3 v1) (fun (x1:Int) (g2:Unit)=>⟨T [(2,(di p3)),(3,(.ptr (3,u1) 0)),(7,(dl A8 v1.Next)),(8,(di x1))],G [((3,u1),some<|.box 27 (I7 p1))]⟩) 0 () _ hz1 (C9 Z Z) ?_
 intro x1 g2 z2 hz2 ez2
 unfold Dr at hz2
 refine A4<|B7<|sv Z<|sv Z<|sd Z (D0 Z)<|sv Z<|A1<|cc Z hz2 (fun c1 hz2=> ?_)<|fun c1 hz2=> ?_
 refine B1<|A4<|A6<|A4<|J2 Z<|sv Z<|sv Z<|bs hz2 fun _ hv2 hz2=>sd Z (C7 Z Z hv2 Z)<|sd Z (D9 Z hv2 Z)<|sv Z<|sv Z<|sv Z<|gf Z (fun _=>(A7 Z G_hit Z Z))<|gf Z (fun _=>Z)<|gf Z (fun _=>Z)<|bs hz2 fun v3 hv3 hz2=>gf Z (fun w4=>(C7 (A3 w4) (A3 w4) (D7 w4 hv3) Z))<|gf Z (fun w5=>(D9 (A3 w5) (D7 w5 hv3) Z))<|gf Z (fun _=>Z)<|bs hz2 fun v4 hv4 hz2=> ?_
 refine K7 _ (bo v4) (L5 Z) (fun w7=>⟨_,[(.d (.agg (L8 p1))),(di v3),(di p3)],_,_,(by simp only [A3 w7];rfl),Z,A2,rc_ok _ _ _ _<|D7 w7 hv4,(.inl Z)⟩) ?_
 refine sd Z (Q5 Z Z<|fun hc=>A3<|L6 hc)<|A1<|cc Z hz2 (fun c2 hz2=> ?_)<|fun c2 hz2=> ?_
 refine A4<|A5 (s0:=⟨T [],G []⟩) (C9 Z Z) ?_
 refine B0<|sv Z<|A1<|B5 ?_
 cases hz2
 obtain rfl:=ez2 _ rfl
 refine ⟨nofun,F6 ?_⟩
 rw [bL]at h
 cases h
 exact A9 (.inr Z) (B6 (B4 Z) C6) (.refl _)
 refine B1<|E6<|A5 (s0:=⟨T [(2,(.d _)),(3,(.ptr _ _)),(7,(.d _)),(8,(.d _))],G [((3,u1),some<|.box 27 _)]⟩) (C9 Z Z) ?_
 refine B0<|sv Z<|sv Z<|sv Z<|A1<|F2 ?_
 cases hz2
 exact ⟨Z,(),(C9 Z Z)⟩
 refine C3 Z ?_
 cases hz2
 obtain rfl:=ez2 _ rfl
 refine ⟨nofun,B9 Z<|U0 ?_⟩
 exact ⟨_,(),Z,(C9 Z Z)⟩
 rintro _ ⟨y1,g1,rfl,q1⟩
 rw [bK]at h
 refine A5 q1<|B7<|sv Z<|A1<|B5 ?_
 cases h
 exact A9 (.inr Z) (B6 (B4 Z) C6) (.refl _)
theorem Ob: ∀(n:Nat) (p1:Map) (p2:Int) (p3:Int) (r:Bool) (h:Fk n p1 p2 p3=some r),PCall prog 249 [(.agg (L8 p1)),(i64 p2),(i64 p3)] (bo r)
  |0,_,_,_,_,h=>nomatch h
  |n+1,_,_,_,_,h=>Wj (Fk n) (Ob n) _ _ _ _ h
theorem AZ(p1 p2 p3 r)(h:Rg p1 p2 p3=some r):PCall prog 249 [(.agg (L8 p1)),(i64 p2),(i64 p3)] (bo r):=Ob 100 p1 p2 p3 r h
def Gi [Lp](p1:Map)(p2:Zone)(p3:Int)(x1:Int):Option (Stp Int (Sum Unit Bool)):=
  cond (decide (x1< (p2.Parts.length:Int))) ((E5 p2.Parts x1).bind fun v1=>((cond (v1.Lane_ !=p3) (E5 p2.Parts x1) (some default))).bind fun v2=>((cond (v1.Lane_ !=p3) (Rg p1 v2.Lane_ p3) (some default))).bind fun v3=>cond ((v1.Lane_ !=p3)&&v3) (some (.out (.inr false))) (some (.go (C8 (x1+1))))) (some (.out (.inl ())))
def Gj [Lp](p1:Map)(p2:Zone)(p3:Int):Option Bool:=
  thenS (loop (Gi p1 p2 p3) 0) (fun _=>some true) (fun r=>some r)
theorem Mj(p1 p2 p3 r)(h:Gj p1 p2 p3=some r):PCall prog 191 [(.agg (L8 p1)),(.agg [(.list (List.map H9 p2.Parts)),(i64 p2.Signal_)]),(i64 p3)] (bo r):=by
 refine C5 (fk func191 ntmps191 m0 (by with_unfolding_all rfl)) (nl Z) ?_
 unfold Gj at h
 refine A5 (s0:=⟨T [(0,(.d _)),(1,(.d _)),(2,(.d _))],G []⟩) (C9 Z Z) ?_
 refine lr<|fun u1 _=>sm Z<|sm Z<|sv Z<|A1<|A4<|B7<|sv Z<|A1<|js h fun z1 hz1 h=>D2 (fun s=> ∃(y1:Unit) (g1:Unit),z1= .inl y1∧Sb ⟨T [],G []⟩ s) ?_ ?_
 refine A6<|E7 (Gi p1 p2 p3) (fun (x1:Int) (g2:Unit)=>⟨T [(2,(di p3)),(3,(.ptr (3,u1) 0)),(4,(.ptr (4,u1) 0)),(7,(di x1))],G [((3,u1),some<|.box 27 (I7 p1)),((4,u1),some<|.box 45 [(dl H9 p2.Parts),(di p2.Signal_)])]⟩) 0 () _ hz1 (C9 Z Z) ?_
 intro x1 g2 z2 hz2 ez2
 unfold Gi at hz2
 refine A4<|B7<|sv Z<|sq Z<|sl Z (gq Z) Z (sd Z (D0 Z)<|sv Z<|A1<|cc Z hz2 (fun c1 hz2=> ?_)<|fun c1 hz2=> ?_)
 refine B1<|A4<|A6<|A4<|J2 Z<|sq Z<|sl Z (gq Z) Z (sv Z<|bs hz2 fun _ hv1 hz2=>sd Z (C7 Z Z hv1 Z)<|sv Z<|sd Z (D9 Z hv1 Z)<|sv Z<|sv Z<|sv Z<|gt Z (fun _=>(A7 Z G_hit Z Z))<|gp Z (Q0 Z) (fun _=>Z) (gt Z (vl Z (gq Z) Z)<|gt Z (fun _=>Z)<|bs hz2 fun v2 hv2 hz2=>gt Z (fun w5=>(C7 (A3 w5) (A3 w5) (D7 w5 hv2) Z)) ?_))
 refine gt Z (fun w6=>(by simp only [A3 w6];rfl)) ?_
 refine gt Z (fun w7=>(D9 (A3 w7) (D7 w7 hv2) Z))<|gt Z (fun _=>Z)<|bs hz2 fun v3 hv3 hz2=> ?_
 refine K7 _ (bo v3) (Q0 Z) (fun w9=>⟨_,[(.d (.agg (L8 p1))),(di v2.Lane_),(di p3)],_,_,(by simp only [A3 w9];rfl),Z,A2,AZ _ _ _ _<|D7 w9 hv3,(.inl Z)⟩) ?_
 refine sa Z Z Z<|A1<|cc Z hz2 (fun c2 hz2=> ?_)<|fun c2 hz2=> ?_
 refine A4<|A5 (s0:=⟨T [],G []⟩) (C9 Z Z) ?_
 refine B0<|sv Z<|A1<|B5 ?_
 cases hz2
 obtain rfl:=ez2 _ rfl
 refine ⟨nofun,F6 ?_⟩
 rw [bL]at h
 cases h
 exact A9 (.inr Z) (B6 (B4 Z) C6) (.refl _)
 refine B1<|E6<|A5 (s0:=⟨T [(2,(.d _)),(3,(.ptr _ _)),(4,(.ptr _ _)),(7,(.d _))],G [((3,u1),some<|.box 27 _),((4,u1),some<|.box 45 _)]⟩) (C9 Z Z) ?_
 refine B0<|sv Z<|sv Z<|sv Z<|A1<|F2 ?_
 cases hz2
 exact ⟨Z,(),(C9 Z Z)⟩
 refine C3 Z ?_
 cases hz2
 obtain rfl:=ez2 _ rfl
 refine ⟨nofun,B9 Z<|U0 ?_⟩
 exact ⟨_,(),Z,(C9 Z Z)⟩
 rintro _ ⟨y1,g1,rfl,q1⟩
 rw [bK]at h
 refine A5 q1<|B7<|sv Z<|A1<|B5 ?_
 cases h
 exact A9 (.inr Z) (B6 (B4 Z) C6) (.refl _)
def Gk [Lp](p1:Map)(p2:Zone)(v1:(List Int))(x1:Int):Option (Stp Int (Sum Unit Bool)):=
  cond (decide (x1< (v1.length:Int))) ((E5 v1 x1).bind fun v2=>(Gj p1 p2 v2).bind fun v3=>cond (!v3) (some (.out (.inr false))) (some (.go (C8 (x1+1))))) (some (.out (.inl ())))
def Ir [Lp](p1:Map)(p2:Zone)(p3:Int):Option Bool:=
  (Ct p1 p3).bind fun v1=>thenS (loop (Gk p1 p2 v1) 0) (fun _=>some true) (fun r=>some r)
theorem Rh(p1 p2 p3 r)(h:Ir p1 p2 p3=some r):PCall prog 190 [(.agg (L8 p1)),(.agg [(.list (List.map H9 p2.Parts)),(i64 p2.Signal_)]),(i64 p3)] (bo r):=by
 refine C5 (fk func190 ntmps190 m0 (by with_unfolding_all rfl)) (nl Z) ?_
 unfold Ir at h
 refine A5 (s0:=⟨T [(0,(.d _)),(1,(.d _)),(2,(.d _))],G []⟩) (C9 Z Z) ?_
 refine lr<|fun u1 _=>sm Z<|sm Z<|sv Z<|A1<|B7<|sd Z (A7 Z (gq Z) Z Z)<|sv Z<|bs h fun v1 hv1 h=>B3 Z Z A2 (Hz _ _ _ hv1) (.inl Z) (sv Z<|A1<|A4<|B7<|sv Z<|A1<|js h fun z1 hz1 h=>D2 (fun s=> ∃(y1:Unit) (g1:Unit),z1= .inl y1∧Sb ⟨T [],G []⟩ s) ?_ ?_)
 refine A6<|E7 (Gk p1 p2 v1) (fun (x1:Int) (g2:Unit)=>⟨T [(3,(.ptr (3,u1) 0)),(4,(.ptr (4,u1) 0)),(7,(dl A8 v1)),(8,(di x1))],G [((3,u1),some<|.box 27 (I7 p1)),((4,u1),some<|.box 45 [(dl H9 p2.Parts),(di p2.Signal_)])]⟩) 0 () _ hz1 (C9 Z Z) ?_
 intro x1 g2 z2 hz2 ez2
 unfold Gk at hz2
 refine A4<|B7<|sv Z<|sv Z<|sd Z (D0 Z)<|sv Z<|A1<|cc Z hz2 (fun c1 hz2=> ?_)<|fun c1 hz2=> ?_
 refine B1<|A4<|A6<|A4<|J2 Z<|sd Z (A7 Z G_hit Z Z)<|sd Z (A7 Z (gq Z) Z Z)<|sv Z<|sv Z<|bs hz2 fun _ hv2 hz2=>sd Z (C7 Z Z hv2 Z)<|sd Z (D9 Z hv2 Z)<|bs hz2 fun v3 hv3 hz2=>B3 Z Z A2 (Mj _ _ _ _ hv3) (.inl Z) (C1 (.d (bo (!v3))) Z Z (A1<|cc Z hz2 (fun c2 hz2=> ?_)<|fun c2 hz2=> ?_))
 refine B7<|sv Z<|A1<|B5 ?_
 cases hz2
 obtain rfl:=ez2 _ rfl
 refine ⟨nofun,F6 ?_⟩
 rw [bL]at h
 cases h
 exact A9 (.inr Z) (B6 (B4 Z) C6) (.refl _)
 refine B1<|E6<|B0<|sv Z<|sv Z<|sv Z<|A1<|F2 ?_
 cases hz2
 exact ⟨Z,(),(C9 Z Z)⟩
 refine C3 Z ?_
 cases hz2
 obtain rfl:=ez2 _ rfl
 refine ⟨nofun,B9 Z<|U0 ?_⟩
 exact ⟨_,(),Z,(C9 Z Z)⟩
 rintro _ ⟨y1,g1,rfl,q1⟩
 rw [bK]at h
 refine A5 q1<|B7<|sv Z<|A1<|B5 ?_
 cases h
 exact A9 (.inr Z) (B6 (B4 Z) C6) (.refl _)
def Ey [Lp](p1:Map)(x1:((List Clash)×Int))(x2:(Bool×Int)):Option (Stp (Bool×Int) Bool):=
  cond (decide (x2.2< (p1.Zones.length:Int))) (((cond (!x2.1) (E5 p1.Zones x2.2) (some default))).bind fun v2=>((cond (!x2.1) (Gh p1 v2 x1.2) (some default))).bind fun v3=>((cond ((!x2.1)&&v3) (E5 p1.Zones x2.2) (some default))).bind fun v4=>((cond ((!x2.1)&&v3) (Ir p1 v4 x1.2) (some default))).bind fun v5=>some (.go ((x2.1||(v3&&v5)),(C8 (x2.2+1))))) (some (.out x2.1))
def Ez [Lp](p1:Map)(x1:((List Clash)×Int)):Option (Stp ((List Clash)×Int) (List Clash)):=
  cond (decide (x1.2< (p1.Lanes.length:Int))) ((Ct p1 x1.2).bind fun v1=>(loop (Ey p1 x1) ((decide ((v1.length:Int)<2)),0)).bind fun y2=>cond (!y2) ((Cj x1.1 [(Clash.mk 1 (-1) x1.2 (-1))]).bind fun v6=>some (.go (v6,(C8 (x1.2+1))))) (some (.go (x1.1,(C8 (x1.2+1)))))) (some (.out x1.1))
def Lc [Lp](p1:Map):Option (List Clash):=
  (loop (Ez p1) ([],0)).bind fun y1=>some y1
theorem NO(p1 r)(h:Lc p1=some r):PCall prog 81 [(.agg (L8 p1))] (.list (List.map B8 r)):=by
 refine C5 (fk func81 ntmps81 (fun r=>if r==11 then [1003]else []) (by with_unfolding_all rfl)) (nl Z) ?_
 unfold Lc at h
 refine A5 (s0:=⟨T [(0,(.d _))],G []⟩) (C9 Z Z) ?_
 refine lr<|fun u1 _=>sm Z<|sv Z<|A1<|B7<|sv Z<|A1<|A4<|B7<|sv Z<|A1<|bs h fun y1 hy1 h=>D2 (fun s=> ∃g1:Nat,Sb ⟨T [(3,(oS y1 (53,g1)))],G [((53,g1),oB 93 4 B8 y1)]⟩ s) ?_ ?_
 refine A6<|E7 (Ez p1) (fun (x1:((List Clash)×Int)) (g2:Nat)=>⟨T [(1,(.ptr (1,u1) 0)),(3,(oS x1.1 (53,g2))),(4,(di x1.2))],G [((1,u1),some<|.box 27 (I7 p1)),((53,g2),oB 93 4 B8 x1.1)]⟩) ([],0) 0 _ hy1 (C0 (T3 Z)<|B2 G_hit (.of Z)<|U9 trivial) ?_
 intro x1 g2 z1 hz1 ez1
 unfold Ez at hz1
 refine A4<|B7<|sv Z<|sq Z<|sl Z G_hit Z<|sd Z (D0 Z)<|sv Z<|A1<|cc Z hz1 (fun c1 hz1=> ?_)<|fun c1 hz1=> ?_
 refine B1<|A4<|A6<|B7<|sd Z (A7 Z G_hit Z Z)<|sv Z<|bs hz1 fun v1 hv1 hz1=>B3 Z Z A2 (Hz _ _ _ hv1) (.inl Z) (sd Z (D0 Z)<|sv Z<|sv Z<|A1<|A4<|B7<|sv Z<|A1<|bs hz1 fun y2 hy2 hz1=>D2 (fun s=> ∃g3:Unit,Sb ⟨T [(1,(.ptr (1,u1) 0)),(3,(oS x1.1 (53,g2))),(4,(di x1.2)),(5,(.d (bo y2)))],G [((1,u1),some<|.box 27 (I7 p1)),((53,g2),oB 93 4 B8 x1.1)]⟩ s) ?_ ?_)
 refine A6<|E7 (Ey p1 x1) (fun (x2:(Bool×Int)) (g4:Unit)=>⟨T [(1,(.ptr (1,u1) 0)),(3,(oS x1.1 (53,g2))),(4,(di x1.2)),(5,(.d (bo x2.1))),(6,(di x2.2))],G [((1,u1),some<|.box 27 (I7 p1)),((53,g2),oB 93 4 B8 x1.1)]⟩) ((decide ((v1.length:Int)<2)),0) () _ hy2 (C0 (T3 Z)<|B2 G_hit (.of Z)<|C2 (gq Z) trivial) ?_
 intro x2 g4 z2 hz2 ez2
 unfold Ey at hz2
 refine A4<|B7<|sv Z<|sq Z<|sl Z G_hit Z<|sd Z (D0 Z)<|sv Z<|A1<|cc Z hz2 (fun c2 hz2=> ?_)<|fun c2 hz2=> ?_
 refine B1<|A4<|A6<|J2 Z<|sv Z<|sv Z<|gf Z (fun _=>(A7 Z G_hit Z Z))<|gp Z (L5 Z) (fun _=>Z) (gf Z (vl Z G_hit Z)<|gf Z (fun _=>Z)<|bs hz2 fun v2 hv2 hz2=>gf Z (fun w5=>(C7 (A3 w5) (A3 w5) (D7 w5 hv2) Z))<|gf Z (fun w6=>(D5 (A3 w6) (D7 w6 hv2) Z Z))<|gf Z (fun _=>Z)<|bs hz2 fun v3 hv3 hz2=> ?_)
 refine K7 _ (bo v3) (L5 Z) (fun w8=>⟨_,[(.d (.agg (L8 p1))),(.d (.agg [(.list (List.map H9 v2.Parts)),(i64 v2.Signal_)])),(di x1.2)],_,_,(by simp only [A3 w8];rfl),Z,A2,Mi _ _ _ _<|D7 w8 hv3,(.inl Z)⟩) ?_
 refine gf Z (fun w9=>(TS<|A3 w9))<|gv Z (Ae Z) (fun _=>(A7 Z G_hit Z Z)) (Ba _ (.ptr _ _) Z (Ae Z) (fun _=>Z) (gv Z (Ae Z) (vl Z G_hit Z) (gv Z (Ae Z) (fun _=>Z) (bs hz2 fun v4 hv4 hz2=>gv Z (Ae Z) (fun w14=>(C7 (A3 w14) (A3 w14) (D7 w14 hv4) Z)) (gv Z (Ae Z) (fun w15=>(D5 (A3 w15) (D7 w15 hv4) Z Z)) (gv Z (Ae Z) (fun _=>Z) (bs hz2 fun v5 hv5 hz2=> ?_)))))))
 refine K7 _ (bo v5) (Ae Z) (fun w17=>⟨_,[(.d (.agg (L8 p1))),(.d (.agg [(.list (List.map H9 v4.Parts)),(i64 v4.Signal_)])),(di x1.2)],_,_,(by simp only [A3 w17];rfl),Z,A2,Rh _ _ _ _<|D7 w17 hv5,(.inl Z)⟩) ?_
 refine gf Z (fun w18=>(GW (A3 w18) (fun hc=>A3<|LJ w18 hc) Z))<|sd Z (Q5 Z Z<|fun hc=>A3<|L6 hc)<|sv Z<|A1<|E6<|A5 (s0:=⟨T [(1,(.ptr (1,u1) 0)),(3,(oS x1.1 (53,g2))),(4,(di x1.2)),(5,(.d (bo (x2.1||(v3&&v5))))),(6,(di x2.2))],G [((1,u1),some<|.box 27 (I7 p1)),((53,g2),oB 93 4 B8 x1.1)]⟩) (C0 (T3 Z)<|B2 G_hit (.of Z)<|C2 (gq Z) trivial) ?_
 refine B0<|sv Z<|sv Z<|sv Z<|A1<|F2 ?_
 cases hz2
 exact ⟨Z,(),(C0 (T3 Z)<|B2 G_hit (.of Z)<|C2 (gq Z) trivial)⟩
 refine C3 Z ?_
 cases hz2
 obtain rfl:=ez2 _ rfl
 refine ⟨nofun,B9 Z<|U0 ?_⟩
 exact ⟨(),(C0 (T3 Z)<|B2 G_hit (.of Z)<|C2 (gq Z) trivial)⟩
 rintro _ ⟨g3,q1⟩
 refine A5 q1<|B7<|sv Z<|C1 (.d (bo (!y2))) Z Z (A1<|cc Z hz1 (fun c3 hz1=> ?_)<|fun c3 hz1=> ?_)
 refine Bw fun u11 _=>C1 (oS x1.1 (53,g2)) Z Z (sv Z<|sv Z<|C1 (dl B8 [(Clash.mk 1 (-1) x1.2 (-1))]) Z Z (bs hz1 fun _ hv6 hz1=>N9 B8 (53,g2) x1.1 (Clash.mk 1 (-1) x1.2 (-1)) [] _ (J7<|fun _=>Z) Z (gq Z) hv6 (ss Z<|A1<|E6<|B0<|sv Z<|sv Z<|sv Z<|A1<|F2 ?_)))
 cases hz1
 exact ⟨Z,u11,(C0 ⟨.of Z,(.of (Dy<|T1 hv6).symm), .of Z,trivial⟩<|sg Z<|U8 G_hit trivial)⟩
 refine B1<|E6<|B0<|sv Z<|sv Z<|sv Z<|A1<|F2 ?_
 cases hz1
 exact ⟨Z,g2,(C0 (T3 Z)<|B2 G_hit (.of Z)<|C2 (gq Z) trivial)⟩
 refine C3 Z ?_
 cases hz1
 obtain rfl:=ez1 _ rfl
 refine ⟨nofun,B9 Z<|U0 ?_⟩
 exact ⟨g2,(C0 ⟨.of Z,trivial⟩<|C2 (gq Z) trivial)⟩
 rintro _ ⟨g1,q2⟩
 refine A5 q2<|B7<|C1 (oS y1 (53,g1)) Z Z (C1 (oS y1 (53,g1)) Z Z (A1<|B5 ?_))
 cases h
 exact A9 (.inr Z) (B6 (B4 Z)<|Ea G_hit) Dz
def Fa [Lp](p1:Map)(x1:((List Clash)×Int))(v1:Zone)(x2:((List Clash)×Int)):Option (Stp ((List Clash)×Int) (List Clash)):=
  cond (decide (x2.2< (v1.Parts.length:Int))) ((E5 v1.Parts x2.2).bind fun v2=>(Gj p1 v1 v2.Lane_).bind fun v3=>((cond (!v3) (Gh p1 v1 v2.Lane_) (some default))).bind fun v4=>cond ((!v3)&& (!v4)) ((Cj x2.1 [(Clash.mk 2 x1.2 v2.Lane_ (-1))]).bind fun v5=>some (.go (v5,(C8 (x2.2+1))))) (some (.go (x2.1,(C8 (x2.2+1)))))) (some (.out x2.1))
def Fb [Lp](p1:Map)(x1:((List Clash)×Int)):Option (Stp ((List Clash)×Int) (List Clash)):=
  cond (decide (x1.2< (p1.Zones.length:Int))) ((E5 p1.Zones x1.2).bind fun v1=>(loop (Fa p1 x1 v1) (x1.1,0)).bind fun y2=>some (.go (y2,(C8 (x1.2+1))))) (some (.out x1.1))
def Jl [Lp](p1:Map):Option (List Clash):=
  (loop (Fb p1) ([],0)).bind fun y1=>some y1
theorem Yf(p1 r)(h:Jl p1=some r):PCall prog 82 [(.agg (L8 p1))] (.list (List.map B8 r)):=by
 refine C5 (fk func82 ntmps82 (fun r=>if r==11 then [1004]else []) (by with_unfolding_all rfl)) (nl Z) ?_
 unfold Jl at h
 refine A5 (s0:=⟨T [(0,(.d _))],G []⟩) (C9 Z Z) ?_
 refine lr<|fun u1 _=>sm Z<|sv Z<|A1<|B7<|sv Z<|A1<|A4<|B7<|sv Z<|A1<|bs h fun y1 hy1 h=>D2 (fun s=> ∃g1:Nat,Sb ⟨T [(3,(oS y1 (50,g1)))],G [((50,g1),oB 93 4 B8 y1)]⟩ s) ?_ ?_
 refine A6<|E7 (Fb p1) (fun (x1:((List Clash)×Int)) (g2:Nat)=>⟨T [(1,(.ptr (1,u1) 0)),(3,(oS x1.1 (50,g2))),(4,(di x1.2))],G [((1,u1),some<|.box 27 (I7 p1)),((50,g2),oB 93 4 B8 x1.1)]⟩) ([],0) 0 _ hy1 (C0 (T3 Z)<|B2 G_hit (.of Z)<|U9 trivial) ?_
 intro x1 g2 z1 hz1 ez1
 unfold Fb at hz1
 refine A4<|B7<|sv Z<|sq Z<|sl Z G_hit Z<|sd Z (D0 Z)<|sv Z<|A1<|cc Z hz1 (fun c1 hz1=> ?_)<|fun c1 hz1=> ?_
 refine B1<|A4<|A6<|lr<|fun u5 _=>sq Z<|sl Z G_hit Z<|sv Z<|bs hz1 fun v1 hv1 hz1=>sd Z (C7 Z Z hv1 Z)<|sd Z (D5 Z hv1 Z Z)<|sm Z<|Bb Z G_hit [(dl H9 v1.Parts),(di v1.Signal_)] Z (A1<|B7<|sv Z<|A1<|bs hz1 fun y2 hy2 hz1=>D2 (fun s=> ∃g3:Nat,Sb ⟨T [(1,(.ptr (1,u1) 0)),(3,(oS y2 (50,g3))),(4,(di x1.2))],G [((1,u1),some<|.box 27 (I7 p1)),((50,g3),oB 93 4 B8 y2)]⟩ s) ?_ ?_)
 refine A6<|E7 (Fa p1 x1 v1) (fun (x2:((List Clash)×Int)) (g4:Nat)=>⟨T [(1,(.ptr (1,u1) 0)),(3,(oS x2.1 (50,g4))),(4,(di x1.2)),(5,(.ptr (5,u5) 0)),(6,(di x2.2))],G [((1,u1),some<|.box 27 (I7 p1)),((5,u5),some<|.box 45 [(dl H9 v1.Parts),(di v1.Signal_)]),((50,g4),oB 93 4 B8 x2.1)]⟩) (x1.1,0) g2 _ hy2 (C0 (T3 Z)<|sg Z<|B2 G_hit (.of Z)<|C2 (gq Z) trivial) ?_
 intro x2 g4 z2 hz2 ez2
 unfold Fa at hz2
 refine A4<|B7<|sv Z<|sq Z<|sl Z (gq Z) Z (sd Z (D0 Z)<|sv Z<|A1<|cc Z hz2 (fun c2 hz2=> ?_)<|fun c2 hz2=> ?_)
 refine B1<|A4<|A6<|B7<|sq Z<|sl Z (gq Z) Z (sv Z<|bs hz2 fun v2 hv2 hz2=>sd Z (C7 Z Z hv2 Z)<|sv Z<|sd Z (D9 Z hv2 Z)<|sv Z<|A1<|B7<|sd Z (A7 Z G_hit Z Z)<|sd Z (A7 Z (gq Z) Z Z)<|sv Z<|bs hz2 fun v3 hv3 hz2=>B3 Z Z A2 (Mj _ _ _ _ hv3) (.inl Z) (C1 (.d (bo (!v3))) Z Z (sv Z<|gt Z (fun _=>(A7 Z G_hit Z Z))<|gt Z (fun _=>(A7 Z (gq Z) Z Z))<|gt Z (fun _=>Z)<|bs hz2 fun v4 hv4 hz2=> ?_)))
 refine K7 _ (bo v4) (Q0 Z) (fun w4=>⟨_,[(.d (.agg (L8 p1))),(.d (.agg [(.list (List.map H9 v1.Parts)),(i64 v1.Signal_)])),(di v2.Lane_)],_,_,(by simp only [A3 w4];rfl),Z,A2,Mi _ _ _ _<|D7 w4 hv4,(.inl Z)⟩) ?_
 refine Ba _ (.d (bo (!v4))) Z (Q0 Z) (fun w5=>(by simp only [A3 w5];rfl)) ?_
 refine sa Z Z Z<|A1<|cc Z hz2 (fun c3 hz2=> ?_)<|fun c3 hz2=> ?_
 refine A5 (s0:=⟨T [(1,(.ptr (1,u1) 0)),(3,(oS x2.1 (50,g4))),(4,(di x1.2)),(5,(.ptr (5,u5) 0)),(6,(di x2.2)),(7,(di v2.Lane_))],G [((1,u1),some<|.box 27 (I7 p1)),((50,g4),oB 93 4 B8 x2.1),((5,u5),some<|.box 45 [(dl H9 v1.Parts),(di v1.Signal_)])]⟩) (C0 (T3 Z)<|B2 G_hit (.of Z)<|C2 (gq Z)<|sg Z trivial) ?_
 refine Bw fun u10 _=>C1 (oS x2.1 (50,g4)) Z Z (sv Z<|sv Z<|sv Z<|C1 (dl B8 [(Clash.mk 2 x1.2 v2.Lane_ (-1))]) Z Z (bs hz2 fun _ hv5 hz2=>N9 B8 (50,g4) x2.1 (Clash.mk 2 x1.2 v2.Lane_ (-1)) [] _ (J7<|fun _=>Z) Z (gq Z) hv5 (ss Z<|A1<|E6<|B0<|sv Z<|sv Z<|sv Z<|A1<|F2 ?_)))
 cases hz2
 exact ⟨Z,u10,(C0 ⟨.of Z,(.of (Dy<|T1 hv5).symm), .of Z, .of Z, .of Z,trivial⟩<|sg Z<|sg Z<|U8 G_hit trivial)⟩
 refine B1<|E6<|A5 (s0:=⟨T [(1,(.ptr (1,u1) 0)),(3,(oS x2.1 (50,g4))),(4,(di x1.2)),(5,(.ptr (5,u5) 0)),(6,(di x2.2))],G [((1,u1),some<|.box 27 (I7 p1)),((50,g4),oB 93 4 B8 x2.1),((5,u5),some<|.box 45 [(dl H9 v1.Parts),(di v1.Signal_)])]⟩) (C0 (T3 Z)<|B2 G_hit (.of Z)<|C2 (gq Z)<|sg Z trivial) ?_
 refine B0<|sv Z<|sv Z<|sv Z<|A1<|F2 ?_
 cases hz2
 exact ⟨Z,g4,(C0 (T3 Z)<|B2 G_hit (.of Z)<|sg Z<|C2 (gq Z) trivial)⟩
 refine C3 Z ?_
 cases hz2
 obtain rfl:=ez2 _ rfl
 refine ⟨nofun,B9 Z<|U0 ?_⟩
 exact ⟨g4,(C0 (T3 Z)<|B2 G_hit (.of Z)<|C2 (gq Z) trivial)⟩
 rintro _ ⟨g3,q1⟩
 refine E6<|A5 q1<|B0<|sv Z<|sv Z<|sv Z<|A1<|F2 ?_
 cases hz1
 exact ⟨Z,g3,(C0 (T3 Z)<|B2 G_hit (.of Z)<|C2 (gq Z) trivial)⟩
 refine C3 Z ?_
 cases hz1
 obtain rfl:=ez1 _ rfl
 refine ⟨nofun,B9 Z<|U0 ?_⟩
 exact ⟨g2,(C0 ⟨.of Z,trivial⟩<|C2 (gq Z) trivial)⟩
 rintro _ ⟨g1,q2⟩
 refine A5 q2<|B7<|C1 (oS y1 (50,g1)) Z Z (C1 (oS y1 (50,g1)) Z Z (A1<|B5 ?_))
 cases h
 exact A9 (.inr Z) (B6 (B4 Z)<|Ea G_hit) Dz
def If [Lp](p1:Map)(x1:((List Clash)×Int))(x2:(Bool×Int)):Option (Stp (Bool×Int) Bool):=
  cond (decide (x2.2< (p1.Zones.length:Int))) (((cond (!x2.1) (E5 p1.Zones x2.2) (some default))).bind fun v2=>((cond (!x2.1) (Gh p1 v2 x1.2) (some default))).bind fun v3=>((cond ((!x2.1)&&v3) (E5 p1.Zones x2.2) (some default))).bind fun v4=>((cond ((!x2.1)&&v3) (Ir p1 v4 x1.2) (some default))).bind fun v5=>some (.go ((x2.1||(v3&&v5)),(C8 (x2.2+1))))) (some (.out x2.1))
def Ig [Lp](p1:Map)(x1:((List Clash)×Int)):Option (Stp ((List Clash)×Int) (List Clash)):=
  cond (decide (x1.2< (p1.Lanes.length:Int))) ((Ct p1 x1.2).bind fun v1=>(loop (If p1 x1) ((decide ((v1.length:Int)<2)),0)).bind fun y2=>cond (!y2) ((Cj x1.1 [(Clash.mk 1 (-1) x1.2 (-1))]).bind fun v6=>some (.go (v6,(C8 (x1.2+1))))) (some (.go (x1.1,(C8 (x1.2+1)))))) (some (.out x1.1))
def Ia [Lp](p1:Map):Option (List Clash):=
  (loop (Ig p1) ([],0)).bind fun y1=>some y1
theorem Tp(p1 r)(h:Ia p1=some r):MCall prog 81 [(.d (.agg (L8 p1)))] [] (oS r (800000,0)) [] [oB 93 4 B8 r]:=by
 refine TZ (fk func81 ntmps81 (fun r=>if r==11 then [1003]else []) (by with_unfolding_all rfl)) (by generalize r=x1;cases x1<;>rfl) (nl Z) ?_
 unfold Ia at h
 refine A5 (s0:=⟨T [(0,(.d _))],G []⟩) (C9 Z Z) ?_
 refine lr<|fun u1 _=>sm Z<|sv Z<|A1<|B7<|sv Z<|A1<|A4<|B7<|sv Z<|A1<|bs h fun y1 hy1 h=>D2 (fun s=> ∃g1:Nat,Sb ⟨T [(3,(oS y1 (53,g1)))],G [((53,g1),oB 93 4 B8 y1)]⟩ s) ?_ ?_
 refine A6<|E7 (Ig p1) (fun (x1:((List Clash)×Int)) (g2:Nat)=>⟨T [(1,(.ptr (1,u1) 0)),(3,(oS x1.1 (53,g2))),(4,(di x1.2))],G [((1,u1),some<|.box 27 (I7 p1)),((53,g2),oB 93 4 B8 x1.1)]⟩) ([],0) 0 _ hy1 (C0 (T3 Z)<|B2 G_hit (.of Z)<|U9 trivial) ?_
 intro x1 g2 z1 hz1 ez1
 unfold Ig at hz1
 refine A4<|B7<|sv Z<|sq Z<|sl Z G_hit Z<|sd Z (D0 Z)<|sv Z<|A1<|cc Z hz1 (fun c1 hz1=> ?_)<|fun c1 hz1=> ?_
 refine B1<|A4<|A6<|B7<|sd Z (A7 Z G_hit Z Z)<|sv Z<|bs hz1 fun v1 hv1 hz1=>B3 Z Z A2 (Hz _ _ _ hv1) (.inl Z) (sd Z (D0 Z)<|sv Z<|sv Z<|A1<|A4<|B7<|sv Z<|A1<|bs hz1 fun y2 hy2 hz1=>D2 (fun s=> ∃g3:Unit,Sb ⟨T [(1,(.ptr (1,u1) 0)),(3,(oS x1.1 (53,g2))),(4,(di x1.2)),(5,(.d (bo y2)))],G [((1,u1),some<|.box 27 (I7 p1)),((53,g2),oB 93 4 B8 x1.1)]⟩ s) ?_ ?_)
 refine A6<|E7 (If p1 x1) (fun (x2:(Bool×Int)) (g4:Unit)=>⟨T [(1,(.ptr (1,u1) 0)),(3,(oS x1.1 (53,g2))),(4,(di x1.2)),(5,(.d (bo x2.1))),(6,(di x2.2))],G [((1,u1),some<|.box 27 (I7 p1)),((53,g2),oB 93 4 B8 x1.1)]⟩) ((decide ((v1.length:Int)<2)),0) () _ hy2 (C0 (T3 Z)<|B2 G_hit (.of Z)<|C2 (gq Z) trivial) ?_
 intro x2 g4 z2 hz2 ez2
 unfold If at hz2
 refine A4<|B7<|sv Z<|sq Z<|sl Z G_hit Z<|sd Z (D0 Z)<|sv Z<|A1<|cc Z hz2 (fun c2 hz2=> ?_)<|fun c2 hz2=> ?_
 refine B1<|A4<|A6<|J2 Z<|sv Z<|sv Z<|gf Z (fun _=>(A7 Z G_hit Z Z))<|gp Z (L5 Z) (fun _=>Z) (gf Z (vl Z G_hit Z)<|gf Z (fun _=>Z)<|bs hz2 fun v2 hv2 hz2=>gf Z (fun w5=>(C7 (A3 w5) (A3 w5) (D7 w5 hv2) Z))<|gf Z (fun w6=>(D5 (A3 w6) (D7 w6 hv2) Z Z))<|gf Z (fun _=>Z)<|bs hz2 fun v3 hv3 hz2=> ?_)
 refine K7 _ (bo v3) (L5 Z) (fun w8=>⟨_,[(.d (.agg (L8 p1))),(.d (.agg [(.list (List.map H9 v2.Parts)),(i64 v2.Signal_)])),(di x1.2)],_,_,(by simp only [A3 w8];rfl),Z,A2,Mi _ _ _ _<|D7 w8 hv3,(.inl Z)⟩) ?_
 refine gf Z (fun w9=>(TS<|A3 w9))<|gv Z (Ae Z) (fun _=>(A7 Z G_hit Z Z)) (Ba _ (.ptr _ _) Z (Ae Z) (fun _=>Z) (gv Z (Ae Z) (vl Z G_hit Z) (gv Z (Ae Z) (fun _=>Z) (bs hz2 fun v4 hv4 hz2=>gv Z (Ae Z) (fun w14=>(C7 (A3 w14) (A3 w14) (D7 w14 hv4) Z)) (gv Z (Ae Z) (fun w15=>(D5 (A3 w15) (D7 w15 hv4) Z Z)) (gv Z (Ae Z) (fun _=>Z) (bs hz2 fun v5 hv5 hz2=> ?_)))))))
 refine K7 _ (bo v5) (Ae Z) (fun w17=>⟨_,[(.d (.agg (L8 p1))),(.d (.agg [(.list (List.map H9 v4.Parts)),(i64 v4.Signal_)])),(di x1.2)],_,_,(by simp only [A3 w17];rfl),Z,A2,Rh _ _ _ _<|D7 w17 hv5,(.inl Z)⟩) ?_
 refine gf Z (fun w18=>(GW (A3 w18) (fun hc=>A3<|LJ w18 hc) Z))<|sd Z (Q5 Z Z<|fun hc=>A3<|L6 hc)<|sv Z<|A1<|E6<|A5 (s0:=⟨T [(1,(.ptr (1,u1) 0)),(3,(oS x1.1 (53,g2))),(4,(di x1.2)),(5,(.d (bo (x2.1||(v3&&v5))))),(6,(di x2.2))],G [((1,u1),some<|.box 27 (I7 p1)),((53,g2),oB 93 4 B8 x1.1)]⟩) (C0 (T3 Z)<|B2 G_hit (.of Z)<|C2 (gq Z) trivial) ?_
 refine B0<|sv Z<|sv Z<|sv Z<|A1<|F2 ?_
 cases hz2
 exact ⟨Z,(),(C0 (T3 Z)<|B2 G_hit (.of Z)<|C2 (gq Z) trivial)⟩
 refine C3 Z ?_
 cases hz2
 obtain rfl:=ez2 _ rfl
 refine ⟨nofun,B9 Z<|U0 ?_⟩
 exact ⟨(),(C0 (T3 Z)<|B2 G_hit (.of Z)<|C2 (gq Z) trivial)⟩
 rintro _ ⟨g3,q1⟩
 refine A5 q1<|B7<|sv Z<|C1 (.d (bo (!y2))) Z Z (A1<|cc Z hz1 (fun c3 hz1=> ?_)<|fun c3 hz1=> ?_)
 refine Bw fun u11 _=>C1 (oS x1.1 (53,g2)) Z Z (sv Z<|sv Z<|C1 (dl B8 [(Clash.mk 1 (-1) x1.2 (-1))]) Z Z (bs hz1 fun _ hv6 hz1=>N9 B8 (53,g2) x1.1 (Clash.mk 1 (-1) x1.2 (-1)) [] _ (J7<|fun _=>Z) Z (gq Z) hv6 (ss Z<|A1<|E6<|B0<|sv Z<|sv Z<|sv Z<|A1<|F2 ?_)))
 cases hz1
 exact ⟨Z,u11,(C0 ⟨.of Z,(.of (Dy<|T1 hv6).symm), .of Z,trivial⟩<|sg Z<|U8 G_hit trivial)⟩
 refine B1<|E6<|B0<|sv Z<|sv Z<|sv Z<|A1<|F2 ?_
 cases hz1
 exact ⟨Z,g2,(C0 (T3 Z)<|B2 G_hit (.of Z)<|C2 (gq Z) trivial)⟩
 refine C3 Z ?_
 cases hz1
 obtain rfl:=ez1 _ rfl
 refine ⟨nofun,B9 Z<|U0 ?_⟩
 exact ⟨g2,(C0 ⟨.of Z,trivial⟩<|C2 (gq Z) trivial)⟩
 rintro _ ⟨g1,q2⟩
 refine A5 q2<|B7<|C1 (oS y1 (53,g1)) Z Z (C1 (oS y1 (53,g1)) Z Z (A1<|B5 ?_))
 obtain rfl:=(lC h)
 exact XX (v1:=(oS y1 (53,g1))) (.inr Z) (XY<|B4 Z) (.of Z) [((53,g1),oB 93 4 B8 y1)] (C2 G_hit trivial) (UB [(53,g1)] (by generalize y1=x1;cases x1<;>rfl) trivial ⟨(G_hit).trans oB_ren.symm,trivial⟩ Z (List.forall_mem_cons.2 ⟨fun _ hi=>UA Z hi,(fun _ h=>nomatch h)⟩) nd1)
def Ds [Lp](p1:Map)(p2:Zone)(x1:((List Int)×Int)):Option (Stp ((List Int)×Int) (List Int)):=
  cond (decide (x1.2< (p2.Parts.length:Int))) ((E5 p2.Parts x1.2).bind fun v1=>(Gj p1 p2 v1.Lane_).bind fun v2=>cond v2 ((E5 p2.Parts x1.2).bind fun v3=>(Cj x1.1 [v3.Lane_]).bind fun v4=>some (.go (v4,(C8 (x1.2+1))))) (some (.go (x1.1,(C8 (x1.2+1)))))) (some (.out x1.1))
def Ht [Lp](p1:Map)(p2:Zone):Option (List Int):=
  (loop (Ds p1 p2) ([],0)).bind fun y1=>some y1
theorem Wk(p1 p2 r)(h:Ht p1 p2=some r):PCall prog 192 [(.agg (L8 p1)),(.agg [(.list (List.map H9 p2.Parts)),(i64 p2.Signal_)])] (.list (List.map A8 r)):=by
 refine C5 (fk func192 ntmps192 (fun r=>if r==6 then [1007]else []) (by with_unfolding_all rfl)) (nl Z) ?_
 unfold Ht at h
 refine A5 (s0:=⟨T [(0,(.d _)),(1,(.d _))],G []⟩) (C9 Z Z) ?_
 refine lr<|fun u1 _=>sm Z<|sm Z<|sv Z<|A1<|B7<|sv Z<|A1<|A4<|B7<|sv Z<|A1<|bs h fun y1 hy1 h=>D2 (fun s=> ∃g1:Nat,Sb ⟨T [(5,(oS y1 (31,g1)))],G [((31,g1),oB 3 1 A8 y1)]⟩ s) ?_ ?_
 refine A6<|E7 (Ds p1 p2) (fun (x1:((List Int)×Int)) (g2:Nat)=>⟨T [(2,(.ptr (2,u1) 0)),(3,(.ptr (3,u1) 0)),(5,(oS x1.1 (31,g2))),(6,(di x1.2))],G [((2,u1),some<|.box 27 (I7 p1)),((3,u1),some<|.box 45 [(dl H9 p2.Parts),(di p2.Signal_)]),((31,g2),oB 3 1 A8 x1.1)]⟩) ([],0) 0 _ hy1 (C0 (T3 Z)<|sg Z<|B2 G_hit (.of Z)<|U9 trivial) ?_
 intro x1 g2 z1 hz1 ez1
 unfold Ds at hz1
 refine A4<|B7<|sv Z<|sq Z<|sl Z (gq Z) Z (sd Z (D0 Z)<|sv Z<|A1<|cc Z hz1 (fun c1 hz1=> ?_)<|fun c1 hz1=> ?_)
 refine B1<|A4<|A6<|A4<|J2 Z<|sd Z (A7 Z G_hit Z Z)<|sd Z (A7 Z (gq Z) Z Z)<|sq Z<|sl Z (gq Z) Z (sv Z<|bs hz1 fun _ hv1 hz1=>sd Z (C7 Z Z hv1 Z)<|sv Z<|sd Z (D9 Z hv1 Z)<|bs hz1 fun _ hv2 hz1=>B3 Z Z A2 (Mj _ _ _ _ hv2) (.inl Z) (A1<|cc Z hz1 (fun c2 hz1=> ?_)<|fun c2 hz1=> ?_))
 refine Bw fun u6 _=>C1 (oS x1.1 (31,g2)) Z Z (sq Z<|sl Z (gq Z) Z (sv Z<|bs hz1 fun v3 hv3 hz1=>sd Z (C7 Z Z hv3 Z)<|sv Z<|sd Z (D9 Z hv3 Z)<|C1 (dl A8 [v3.Lane_]) Z Z (bs hz1 fun _ hv4 hz1=>N9 A8 (31,g2) x1.1 v3.Lane_ [] _ (J7<|fun _=>Z) Z (gq Z) hv4 (ss Z<|A1<|E6<|A5 (s0:=⟨T [(2,(.ptr _ _)),(3,(.ptr _ _)),(5,(.sl _)),(6,(.d _))],G [((2,u1),some<|.box 27 _),((3,u1),some<|.box 45 _),((31,u6),some _)]⟩) (C9 Z Z) ?_))))
 refine B0<|sv Z<|sv Z<|sv Z<|A1<|F2 ?_
 cases hz1
 exact ⟨Z,u6,(C0 ⟨.of Z, .of Z,(.of (Dy<|T1 hv4).symm), .of Z,trivial⟩<|B2 G_hit (.of Z)<|sg Z<|U8 (gq Z) trivial)⟩
 refine B1<|E6<|B0<|sv Z<|sv Z<|sv Z<|A1<|F2 ?_
 cases hz1
 exact ⟨Z,g2,(C0 (T3 Z)<|B2 G_hit (.of Z)<|sg Z<|C2 (gq Z) trivial)⟩
 refine C3 Z ?_
 cases hz1
 obtain rfl:=ez1 _ rfl
 refine ⟨nofun,B9 Z<|U0 ?_⟩
 exact ⟨g2,(C0 ⟨.of Z,trivial⟩<|C2 (gq Z) trivial)⟩
 rintro _ ⟨g1,q1⟩
 refine A5 q1<|B7<|C1 (oS y1 (31,g1)) Z Z (C1 (oS y1 (31,g1)) Z Z (A1<|B5 ?_))
 cases h
 exact A9 (.inr Z) (B6 (B4 Z)<|Ea G_hit) Dz
def Hu [Lp](p1:Signal)(p2:Int)(p3:Int)(x1:Int):Option (Stp Int (Sum Unit Bool)):=
  cond (decide (x1< (p1.Phases.length:Int))) ((E5 p1.Phases x1).bind fun v1=>(Bj v1.Green p2).bind fun v2=>((cond v2 (E5 p1.Phases x1) (some default))).bind fun v3=>((cond v2 (Bj v3.Green p3) (some default))).bind fun v4=>cond (v2&&v4) (some (.out (.inr true))) (some (.go (C8 (x1+1))))) (some (.out (.inl ())))
def Ka [Lp](p1:Signal)(p2:Int)(p3:Int):Option Bool:=
  thenS (loop (Hu p1 p2 p3) 0) (fun _=>some false) (fun r=>some r)
theorem CI(p1 p2 p3 r)(h:Ka p1 p2 p3=some r):PCall prog 193 [(.agg [(i64 p1.Offset),(.list (List.map By p1.Phases))]),(i64 p2),(i64 p3)] (bo r):=by
 refine C5 (fk func193 ntmps193 m0 (by with_unfolding_all rfl)) (nl Z) ?_
 unfold Ka at h
 refine A5 (s0:=⟨T [(0,(.d _)),(1,(.d _)),(2,(.d _))],G []⟩) (C9 Z Z) ?_
 refine lr<|fun u1 _=>sm Z<|sv Z<|A1<|A4<|B7<|sv Z<|A1<|js h fun z1 hz1 h=>D2 (fun s=> ∃(y1:Unit) (g1:Unit),z1= .inl y1∧Sb ⟨T [],G []⟩ s) ?_ ?_
 refine A6<|E7 (Hu p1 p2 p3) (fun (x1:Int) (g2:Unit)=>⟨T [(1,(di p2)),(2,(di p3)),(3,(.ptr (3,u1) 0)),(7,(di x1))],G [((3,u1),some<|.box 48 [(di p1.Offset),(dl By p1.Phases)])]⟩) 0 () _ hz1 (C9 Z Z) ?_
 intro x1 g2 z2 hz2 ez2
 unfold Hu at hz2
 refine A4<|B7<|sv Z<|sq Z<|sl Z G_hit Z<|sd Z (D0 Z)<|sv Z<|A1<|cc Z hz2 (fun c1 hz2=> ?_)<|fun c1 hz2=> ?_
 refine B1<|A4<|A6<|B7<|sq Z<|sl Z G_hit Z<|sv Z<|bs hz2 fun _ hv1 hz2=>sd Z (C7 Z Z hv1 Z)<|sv Z<|sd Z (D9 Z hv1 Z)<|sv Z<|bs hz2 fun v2 hv2 hz2=>B3 Z Z A2 (Ax _ _ _ hv2) (.inl Z) (sv Z<|gp Z (Q0 Z) (fun _=>Z) (gt Z (vl Z G_hit Z)<|gt Z (fun _=>Z)<|bs hz2 fun v3 hv3 hz2=>gt Z (fun w4=>(C7 (A3 w4) (A3 w4) (D7 w4 hv3) Z)) ?_))
 refine gt Z (fun w5=>(by simp only [A3 w5];rfl)) ?_
 refine gt Z (fun w6=>(D9 (A3 w6) (D7 w6 hv3) Z))<|gt Z (fun _=>Z)<|bs hz2 fun v4 hv4 hz2=> ?_
 refine K7 v2 (bo v4) (Q0 Z) (fun w8=>⟨_,[(dl A8 v3.Green),(di p3)],_,_,(by simp only [A3 w8];rfl),Z,A2,Ax _ _ _<|D7 w8 hv4,(.inl Z)⟩) ?_
 refine sa Z Z Z<|A1<|cc Z hz2 (fun c2 hz2=> ?_)<|fun c2 hz2=> ?_
 refine A4<|A5 (s0:=⟨T [],G []⟩) (C9 Z Z) ?_
 refine B0<|sv Z<|A1<|B5 ?_
 cases hz2
 obtain rfl:=ez2 _ rfl
 refine ⟨nofun,F6 ?_⟩
 rw [bL]at h
 cases h
 exact A9 (.inr Z) (B6 (B4 Z) C6) (.refl _)
 refine B1<|E6<|A5 (s0:=⟨T [(1,(.d _)),(2,(.d _)),(3,(.ptr _ _)),(7,(.d _))],G [((3,u1),some<|.box 48 _)]⟩) (C9 Z Z) ?_
 refine B0<|sv Z<|sv Z<|sv Z<|A1<|F2 ?_
 cases hz2
 exact ⟨Z,(),(C9 Z Z)⟩
 refine C3 Z ?_
 cases hz2
 obtain rfl:=ez2 _ rfl
 refine ⟨nofun,B9 Z<|U0 ?_⟩
 exact ⟨_,(),Z,(C9 Z Z)⟩
 rintro _ ⟨y1,g1,rfl,q1⟩
 rw [bK]at h
 refine A5 q1<|B7<|sv Z<|A1<|B5 ?_
 cases h
 exact A9 (.inr Z) (B6 (B4 Z) C6) (.refl _)
def Gl [Lp](p1:Map)(p2:Int)(x1:((List Clash)×Int))(v1:Zone)(v2:(List Int))(x2:((List Clash)×Int))(x3:((List Clash)×Int)):Option (Stp ((List Clash)×Int) (List Clash)):=
  cond (decide (x3.2< (v2.length:Int))) (((E5 v2 x2.2).bind fun v3=>(Ei v1 v3).bind fun v4=>(E5 v2 x3.2).bind fun v5=>(Ei v1 v5).bind fun v6=>(cond (p2==4) (((cond (decide (v1.Signal_>0)) (E5 p1.Signals (C8 (v1.Signal_ - 1))) (some default))).bind fun v7=>((cond (decide (v1.Signal_>0)) (E5 v2 x2.2) (some default))).bind fun v8=>((cond (decide (v1.Signal_>0)) (E5 v2 x3.2) (some default))).bind fun v9=>((cond (decide (v1.Signal_>0)) (Ka v7 v8 v9) (some default))).bind fun v10=>some ((decide (v1.Signal_>0))&&v10)) (some ((v1.Signal_==0)&& (v4.1.Rank==v6.1.Rank)))).bind fun y5=>cond y5 ((E5 v2 x2.2).bind fun v11=>(E5 v2 x3.2).bind fun v12=>(Cj x3.1 [(Clash.mk p2 x1.2 v11 v12)]).bind fun v13=>some v13) (some x3.1)).bind fun y4=>some (.go (y4,(C8 (x3.2+1))))) (some (.out x3.1))
def Gm [Lp](p1:Map)(p2:Int)(x1:((List Clash)×Int))(v1:Zone)(v2:(List Int))(x2:((List Clash)×Int)):Option (Stp ((List Clash)×Int) (List Clash)):=
  cond (decide (x2.2< (v2.length:Int))) ((loop (Gl p1 p2 x1 v1 v2 x2) (x2.1,(C8 (x2.2+1)))).bind fun y3=>some (.go (y3,(C8 (x2.2+1))))) (some (.out x2.1))
def Gn [Lp](p1:Map)(p2:Int)(x1:((List Clash)×Int)):Option (Stp ((List Clash)×Int) (List Clash)):=
  cond (decide (x1.2< (p1.Zones.length:Int))) ((E5 p1.Zones x1.2).bind fun v1=>(Ht p1 v1).bind fun v2=>(loop (Gm p1 p2 x1 v1 v2) (x1.1,0)).bind fun y2=>some (.go (y2,(C8 (x1.2+1))))) (some (.out x1.1))
def Is [Lp](p1:Map)(p2:Int):Option (List Clash):=
  (loop (Gn p1 p2) ([],0)).bind fun y1=>some y1
theorem Ri(p1 p2 r)(h:Is p1 p2=some r):PCall prog 83 [(.agg (L8 p1)),(i64 p2)] (.list (List.map B8 r)):=by
 refine C5 (fk func83 ntmps83 (fun r=>if r==19 then [1012]else []) (by with_unfolding_all rfl)) (nl Z) ?_
 unfold Is at h
 refine A5 (s0:=⟨T [(0,(.d _)),(1,(.d _))],G []⟩) (C9 Z Z) ?_
 refine lr<|fun u1 _=>sm Z<|sv Z<|A1<|B7<|sv Z<|A1<|A4<|B7<|sv Z<|A1<|bs h fun y1 hy1 h=>D2 (fun s=> ∃g1:Nat,Sb ⟨T [(5,(oS y1 (110,g1)))],G [((110,g1),oB 93 4 B8 y1)]⟩ s) ?_ ?_
 refine A6<|E7 (Gn p1 p2) (fun (x1:((List Clash)×Int)) (g2:Nat)=>⟨T [(1,(di p2)),(2,(.ptr (2,u1) 0)),(5,(oS x1.1 (110,g2))),(6,(di x1.2))],G [((2,u1),some<|.box 27 (I7 p1)),((110,g2),oB 93 4 B8 x1.1)]⟩) ([],0) 0 _ hy1 (C0 (T3 Z)<|B2 G_hit (.of Z)<|U9 trivial) ?_
 intro x1 g2 z1 hz1 ez1
 unfold Gn at hz1
 refine A4<|B7<|sv Z<|sq Z<|sl Z G_hit Z<|sd Z (D0 Z)<|sv Z<|A1<|cc Z hz1 (fun c1 hz1=> ?_)<|fun c1 hz1=> ?_
 refine B1<|A4<|A6<|lr<|fun u5 _=>sq Z<|sl Z G_hit Z<|sv Z<|bs hz1 fun v1 hv1 hz1=>sd Z (C7 Z Z hv1 Z)<|sd Z (D5 Z hv1 Z Z)<|sm Z<|Bb Z G_hit [(dl H9 v1.Parts),(di v1.Signal_)] Z (A1<|B7<|sd Z (A7 Z (gq Z) Z Z)<|sd Z (A7 Z G_hit Z Z)<|bs hz1 fun v2 hv2 hz1=>B3 Z Z A2 (Wk _ _ _ hv2) (.inl Z) (sv Z<|A1<|A4<|A5 (s0:=⟨T [(1,(di p2)),(2,(.ptr (2,u1) 0)),(5,(oS x1.1 (110,g2))),(6,(di x1.2)),(7,(.ptr (7,u5) 0)),(8,(dl A8 v2))],G [((2,u1),some<|.box 27 (I7 p1)),((110,g2),oB 93 4 B8 x1.1),((7,u5),some<|.box 45 [(dl H9 v1.Parts),(di v1.Signal_)])]⟩) (C0 (T3 Z)<|sg Z<|C2 (gq Z)<|B2 G_hit (.of Z) trivial) ?_))
 refine B0<|sv Z<|A1<|bs hz1 fun y2 hy2 hz1=>D2 (fun s=> ∃g3:Nat,Sb ⟨T [(1,(di p2)),(2,(.ptr (2,u1) 0)),(5,(oS y2 (110,g3))),(6,(di x1.2))],G [((2,u1),some<|.box 27 (I7 p1)),((110,g3),oB 93 4 B8 y2)]⟩ s) ?_ ?_
 refine A6<|E7 (Gm p1 p2 x1 v1 v2) (fun (x2:((List Clash)×Int)) (g4:Nat)=>⟨T [(1,(di p2)),(2,(.ptr (2,u1) 0)),(5,(oS x2.1 (110,g4))),(6,(di x1.2)),(7,(.ptr (7,u5) 0)),(8,(dl A8 v2)),(9,(di x2.2))],G [((2,u1),some<|.box 27 (I7 p1)),((7,u5),some<|.box 45 [(dl H9 v1.Parts),(di v1.Signal_)]),((110,g4),oB 93 4 B8 x2.1)]⟩) (x1.1,0) g2 _ hy2 (C0 (T3 Z)<|B2 G_hit (.of Z)<|sg Z<|C2 (gq Z) trivial) ?_
 intro x2 g4 z2 hz2 ez2
 unfold Gm at hz2
 refine A4<|B7<|sv Z<|sv Z<|sd Z (D0 Z)<|sv Z<|A1<|cc Z hz2 (fun c2 hz2=> ?_)<|fun c2 hz2=> ?_
 refine B1<|A4<|A6<|B7<|sv Z<|sv Z<|sv Z<|A1<|bs hz2 fun y3 hy3 hz2=>D2 (fun s=> ∃g5:Nat,Sb ⟨T [(1,(di p2)),(2,(.ptr (2,u1) 0)),(5,(oS y3 (110,g5))),(6,(di x1.2)),(7,(.ptr (7,u5) 0)),(8,(dl A8 v2)),(9,(di x2.2))],G [((2,u1),some<|.box 27 (I7 p1)),((7,u5),some<|.box 45 [(dl H9 v1.Parts),(di v1.Signal_)]),((110,g5),oB 93 4 B8 y3)]⟩ s) ?_ ?_
 refine A6<|E7 (Gl p1 p2 x1 v1 v2 x2) (fun (x3:((List Clash)×Int)) (g6:Nat)=>⟨T [(1,(di p2)),(2,(.ptr (2,u1) 0)),(5,(oS x3.1 (110,g6))),(6,(di x1.2)),(7,(.ptr (7,u5) 0)),(8,(dl A8 v2)),(9,(di x2.2)),(10,(di x3.2))],G [((2,u1),some<|.box 27 (I7 p1)),((7,u5),some<|.box 45 [(dl H9 v1.Parts),(di v1.Signal_)]),((110,g6),oB 93 4 B8 x3.1)]⟩) (x2.1,(C8 (x2.2+1))) g4 _ hy3 (C0 (T3 Z)<|B2 G_hit (.of Z)<|sg Z<|C2 (gq Z) trivial) ?_
 intro x3 g6 z3 hz3 ez3
 unfold Gl at hz3
 refine A4<|B7<|sv Z<|sv Z<|sd Z (D0 Z)<|sv Z<|A1<|cc Z hz3 (fun c3 hz3=> ?_)<|fun c3 hz3=> ?_
 refine B1<|A4<|bs hz3 fun y4 hy4 hz3=>D2 (fun s=> ∃g7:Nat,Sb ⟨T [(1,(di p2)),(2,(.ptr (2,u1) 0)),(5,(oS y4 (110,g7))),(6,(di x1.2)),(7,(.ptr (7,u5) 0)),(8,(dl A8 v2)),(9,(di x2.2)),(10,(di x3.2))],G [((2,u1),some<|.box 27 (I7 p1)),((7,u5),some<|.box 45 [(dl H9 v1.Parts),(di v1.Signal_)]),((110,g7),oB 93 4 B8 y4)]⟩ s) ?_ ?_
 refine A6<|A4<|Ic Z fun u11 _=>sd Z (A7 Z (gq Z) Z Z)<|sv Z<|sv Z<|bs hy4 fun _ hv3 hy4=>sd Z (C7 Z Z hv3 Z)<|sd Z (D9 Z hv3 Z)<|bs hy4 fun v4 hv4 hy4=>B3 Z Z A2 (Fj _ _ _ hv4) (.inl Z) (sv Z<|sv Z<|sv Z<|sm Z<|Bb Z G_hit (Fz v4.1) Z (sv Z<|A1<|A4<|A5 (s0:=⟨T [(1,(di p2)),(2,(.ptr (2,u1) 0)),(5,(oS x3.1 (110,g6))),(6,(di x1.2)),(7,(.ptr (7,u5) 0)),(8,(dl A8 v2)),(9,(di x2.2)),(10,(di x3.2)),(11,(.ptr (11,u11) 0))],G [((2,u1),some<|.box 27 (I7 p1)),((110,g6),oB 93 4 B8 x3.1),((7,u5),some<|.box 45 [(dl H9 v1.Parts),(di v1.Signal_)]),((11,u11),some<|.box 91 (Fz v4.1))]⟩) (C0 (T3 Z)<|sg Z<|C2 (gq Z)<|sg Z<|B2 G_hit (.of Z) trivial) ?_))
 refine Ic Z fun u12 _=>sd Z (A7 Z (gq Z) Z Z)<|sv Z<|sv Z<|bs hy4 fun _ hv5 hy4=>sd Z (C7 Z Z hv5 Z)<|sd Z (D9 Z hv5 Z)<|bs hy4 fun v6 hv6 hy4=>B3 Z Z A2 (Fj _ _ _ hv6) (.inl Z) (sv Z<|sv Z<|sv Z<|sm Z<|Bb Z G_hit (Fz v6.1) Z (sv Z<|A1<|A4<|A5 (s0:=⟨T [(1,(di p2)),(2,(.ptr (2,u1) 0)),(5,(oS x3.1 (110,g6))),(6,(di x1.2)),(7,(.ptr (7,u5) 0)),(8,(dl A8 v2)),(9,(di x2.2)),(10,(di x3.2)),(11,(.ptr (11,u11) 0)),(13,(.ptr (13,u12) 0))],G [((2,u1),some<|.box 27 (I7 p1)),((110,g6),oB 93 4 B8 x3.1),((7,u5),some<|.box 45 [(dl H9 v1.Parts),(di v1.Signal_)]),((11,u11),some<|.box 91 (Fz v4.1)),((13,u12),some<|.box 91 (Fz v6.1))]⟩) (C0 (T3 Z)<|sg Z<|C2 (gq Z)<|sg Z<|sg Z<|B2 G_hit (.of Z) trivial) ?_))
 refine B0<|sq Z<|sl Z (gq Z) Z (sv Z<|sv Z<|gp Z (Q0 Z) (fun _=>Z) (gt Z (vl Z (gq Z) Z)<|gp Z (Q0 Z) (fun _=>Z) (gt Z (vl Z (gq Z) Z)<|gt Z (fun w5=>(Q1 (A3 w5) (A3 w5) Z))<|sa Z Z Z<|sv Z<|A1<|A4<|A4<|A5 (s0:=⟨T [(1,(di p2)),(2,(.ptr (2,u1) 0)),(5,(oS x3.1 (110,g6))),(6,(di x1.2)),(7,(.ptr (7,u5) 0)),(8,(dl A8 v2)),(9,(di x2.2)),(10,(di x3.2)),(15,(.d (bo ((v1.Signal_==0)&& (v4.1.Rank==v6.1.Rank)))))],G [((2,u1),some<|.box 27 (I7 p1)),((110,g6),oB 93 4 B8 x3.1),((7,u5),some<|.box 45 [(dl H9 v1.Parts),(di v1.Signal_)])]⟩) (C0 (T3 Z)<|B2 G_hit (.of Z)<|C2 (gq Z)<|sg Z trivial) ?_)))
 refine B0<|sv Z<|sv Z<|A1<|bs hy4 fun y5 hy5 hy4=>D2 (fun s=> ∃g8:Unit,Sb ⟨T [(1,(di p2)),(2,(.ptr (2,u1) 0)),(5,(oS x3.1 (110,g6))),(6,(di x1.2)),(7,(.ptr (7,u5) 0)),(8,(dl A8 v2)),(9,(di x2.2)),(10,(di x3.2)),(15,(.d (bo y5)))],G [((2,u1),some<|.box 27 (I7 p1)),((110,g6),oB 93 4 B8 x3.1),((7,u5),some<|.box 45 [(dl H9 v1.Parts),(di v1.Signal_)])]⟩ s) ?_ ?_
 refine cc Z hy5 (fun c4 hy5=> ?_)<|fun c4 hy5=> ?_
 refine J2 Z<|sq Z<|sl Z (gq Z) Z (sv Z<|sv Z<|gp Z (Q0 Z) (fun _=>Z) (gt Z (vl Z G_hit Z)<|gp Z (Q0 Z) (fun _=>Z) (gt Z (vl Z (gq Z) Z)<|gt Z (vb Z Z Z)<|bs hy5 fun v7 hv7 hy5=>gt Z (fun w11=>(C7 (A3 w11) (A3 w11) (D7 w11 hv7) Z))<|gt Z (fun w12=>(D5 (A3 w12) (D7 w12 hv7) Z Z))<|gt Z (fun _=>Z)<|gt Z (fun _=>Z)<|bs hy5 fun v8 hv8 hy5=>gt Z (fun w15=>(C7 (A3 w15) (A3 w15) (D7 w15 hv8) Z))<|gt Z (fun w16=>(D9 (A3 w16) (D7 w16 hv8) Z))<|gt Z (fun _=>Z)<|gt Z (fun _=>Z)<|bs hy5 fun v9 hv9 hy5=>gt Z (fun w19=>(C7 (A3 w19) (A3 w19) (D7 w19 hv9) Z))<|gt Z (fun w20=>(D9 (A3 w20) (D7 w20 hv9) Z))<|bs hy5 fun v10 hv10 hy5=> ?_)))
 refine K7 _ (bo v10) (Q0 Z) (fun w21=>⟨_,[(.d (.agg [(i64 v7.Offset),(.list (List.map By v7.Phases))])),(di v8),(di v9)],_,_,(by simp only [A3 w21];rfl),Z,A2,CI _ _ _ _<|D7 w21 hv10,(.inl Z)⟩) ?_
 refine sa Z Z Z<|sv Z<|A1 ?_
 cases hy5
 exact U0 ⟨(),(C0 (T3 Z)<|B2 G_hit (.of Z)<|C2 (gq Z)<|sg Z trivial)⟩
 refine B1 ?_
 cases hy5
 exact U0 ⟨(),(C0 (T3 Z)<|B2 G_hit (.of Z)<|C2 (gq Z)<|sg Z trivial)⟩
 rintro _ ⟨g8,q1⟩
 refine A5 q1<|B7<|sv Z<|A1<|cc Z hy4 (fun c5 hy4=> ?_)<|fun c5 hy4=> ?_
 refine Ic Z fun u17 _=>C1 (oS x3.1 (110,g6)) Z Z (sv Z<|sv Z<|sv Z<|sv Z<|bs hy4 fun v11 hv11 hy4=>sd Z (C7 Z Z hv11 Z)<|sd Z (D9 Z hv11 Z)<|sv Z<|sv Z<|bs hy4 fun v12 hv12 hy4=>sd Z (C7 Z Z hv12 Z)<|sd Z (D9 Z hv12 Z)<|sv Z<|C1 (dl B8 [(Clash.mk p2 x1.2 v11 v12)]) Z Z (bs hy4 fun _ hv13 hy4=>N9 B8 (110,g6) x3.1 (Clash.mk p2 x1.2 v11 v12) [] _ (J7<|fun _=>Z) Z (gq Z) hv13 (ss Z<|A1<|E6 ?_)))
 cases hy4
 exact U0 ⟨u17,(C0 ⟨.of Z, .of Z,(.of (Dy<|T1 hv13).symm), .of Z, .of Z, .of Z, .of Z, .of Z,trivial⟩<|sg Z<|sg Z<|U8 G_hit trivial)⟩
 refine B1<|E6 ?_
 cases hy4
 exact U0 ⟨g6,(C0 (T3 Z)<|B2 G_hit (.of Z)<|sg Z<|C2 (gq Z) trivial)⟩
 rintro _ ⟨g7,q2⟩
 refine A5 q2<|B0<|sv Z<|sv Z<|sv Z<|A1<|F2 ?_
 cases hz3
 exact ⟨Z,g7,(C0 (T3 Z)<|B2 G_hit (.of Z)<|sg Z<|C2 (gq Z) trivial)⟩
 refine C3 Z ?_
 cases hz3
 obtain rfl:=ez3 _ rfl
 refine ⟨nofun,B9 Z<|U0 ?_⟩
 exact ⟨g6,(C0 (T3 Z)<|B2 G_hit (.of Z)<|sg Z<|C2 (gq Z) trivial)⟩
 rintro _ ⟨g5,q3⟩
 refine E6<|A5 q3<|B0<|sv Z<|sv Z<|sv Z<|A1<|F2 ?_
 cases hz2
 exact ⟨Z,g5,(C0 (T3 Z)<|B2 G_hit (.of Z)<|sg Z<|C2 (gq Z) trivial)⟩
 refine C3 Z ?_
 cases hz2
 obtain rfl:=ez2 _ rfl
 refine ⟨nofun,B9 Z<|U0 ?_⟩
 exact ⟨g4,(C0 (T3 Z)<|B2 G_hit (.of Z)<|C2 (gq Z) trivial)⟩
 rintro _ ⟨g3,q4⟩
 refine E6<|A5 q4<|B0<|sv Z<|sv Z<|sv Z<|A1<|F2 ?_
 cases hz1
 exact ⟨Z,g3,(C0 (T3 Z)<|B2 G_hit (.of Z)<|C2 (gq Z) trivial)⟩
 refine C3 Z ?_
 cases hz1
 obtain rfl:=ez1 _ rfl
 refine ⟨nofun,B9 Z<|U0 ?_⟩
 exact ⟨g2,(C0 ⟨.of Z,trivial⟩<|C2 (gq Z) trivial)⟩
 rintro _ ⟨g1,q5⟩
 refine A5 q5<|B7<|C1 (oS y1 (110,g1)) Z Z (C1 (oS y1 (110,g1)) Z Z (A1<|B5 ?_))
 cases h
 exact A9 (.inr Z) (B6 (B4 Z)<|Ea G_hit) Dz
def De [Lp](p1:Map)(p2:Int)(p3:Int)(x1:Int):Option (Stp Int (Sum Unit Bool)):=
  cond (decide (x1< (p1.Lanes.length:Int))) ((E5 p1.Lanes p2).bind fun v5=>(Bj v5.Next x1).bind fun v6=>((cond v6 (E5 p1.Lanes p3) (some default))).bind fun v7=>((cond v6 (Bj v7.Next x1) (some default))).bind fun v8=>((cond (!(v6&&v8)) (E5 p1.Lanes x1) (some default))).bind fun v9=>((cond (!(v6&&v8)) (Bj v9.Next p2) (some default))).bind fun v10=>((cond ((!(v6&&v8))&&v10) (E5 p1.Lanes x1) (some default))).bind fun v11=>((cond ((!(v6&&v8))&&v10) (Bj v11.Next p3) (some default))).bind fun v12=>cond ((v6&&v8)||(v10&&v12)) (some (.out (.inr true))) (some (.go (C8 (x1+1))))) (some (.out (.inl ())))
def Mk [Lp](p1:Map)(p2:Int)(p3:Int):Option Bool:=
  (E5 p1.Lanes p2).bind fun v1=>(Bj v1.Next p3).bind fun v2=>((cond (!v2) (E5 p1.Lanes p3) (some default))).bind fun v3=>((cond (!v2) (Bj v3.Next p2) (some default))).bind fun v4=>cond (v2||v4) (some true) (thenS (loop (De p1 p2 p3) 0) (fun _=>some false) (fun r=>some r))
theorem CJ(p1 p2 p3 r)(h:Mk p1 p2 p3=some r):PCall prog 212 [(.agg (L8 p1)),(i64 p2),(i64 p3)] (bo r):=by
 refine C5 (fk func212 ntmps212 m0 (by with_unfolding_all rfl)) (nl Z) ?_
 unfold Mk at h
 refine A5 (s0:=⟨T [(0,(.d _)),(1,(.d _)),(2,(.d _))],G []⟩) (C9 Z Z) ?_
 refine lr<|fun u1 _=>sm Z<|sv Z<|A1<|A4<|B7<|sq Z<|sl Z G_hit Z<|sv Z<|bs h fun _ hv1 h=>sd Z (C7 Z Z hv1 Z)<|sv Z<|sd Z (D9 Z hv1 Z)<|sv Z<|bs h fun _ hv2 h=>B3 Z Z A2 (Ax _ _ _ hv2) (.inl Z) (sv Z<|gp Z (L5 Z) (fun _=>Z) (gf Z (vl Z G_hit Z)<|gf Z (fun _=>Z)<|bs h fun v3 hv3 h=>gf Z (fun w4=>(C7 (A3 w4) (A3 w4) (D7 w4 hv3) Z)) ?_))
 refine gf Z (fun w5=>(by simp only [A3 w5];rfl)) ?_
 refine gf Z (fun w6=>(D9 (A3 w6) (D7 w6 hv3) Z))<|gf Z (fun _=>Z)<|bs h fun v4 hv4 h=> ?_
 refine K7 _ (bo v4) (L5 Z) (fun w8=>⟨_,[(dl A8 v3.Next),(di p2)],_,_,(by simp only [A3 w8];rfl),Z,A2,Ax _ _ _<|D7 w8 hv4,(.inl Z)⟩) ?_
 refine sd Z (Q5 Z Z<|fun hc=>A3<|L6 hc)<|A1<|cc Z h (fun c1 h=> ?_)<|fun c1 h=> ?_
 refine A4<|A5 (s0:=⟨T [],G []⟩) (C9 Z Z) ?_
 refine B0<|sv Z<|A1<|B5 ?_
 cases h
 exact A9 (.inr Z) (B6 (B4 Z) C6) (.refl _)
 refine B1<|A4<|A4<|A5 (s0:=⟨T [(1,(.d _)),(2,(.d _)),(3,(.ptr _ _))],G [((3,u1),some<|.box 27 _)]⟩) (C9 Z Z) ?_
 refine B0<|sv Z<|A1<|js h fun z1 hz1 h=>D2 (fun s=> ∃(y1:Unit) (g1:Unit),z1= .inl y1∧Sb ⟨T [],G []⟩ s) ?_ ?_
 refine A6<|E7 (De p1 p2 p3) (fun (x1:Int) (g2:Unit)=>⟨T [(1,(di p2)),(2,(di p3)),(3,(.ptr (3,u1) 0)),(7,(di x1))],G [((3,u1),some<|.box 27 (I7 p1))]⟩) 0 () _ hz1 (C9 Z Z) ?_
 intro x1 g2 z2 hz2 ez2
 unfold De at hz2
 refine A4<|B7<|sv Z<|sq Z<|sl Z G_hit Z<|sd Z (D0 Z)<|sv Z<|A1<|cc Z hz2 (fun c2 hz2=> ?_)<|fun c2 hz2=> ?_
 refine B1<|A4<|A6<|B7<|sq Z<|sl Z G_hit Z<|sv Z<|bs hz2 fun _ hv5 hz2=>sd Z (C7 Z Z hv5 Z)<|sv Z<|sd Z (D9 Z hv5 Z)<|sv Z<|bs hz2 fun v6 hv6 hz2=>B3 Z Z A2 (Ax _ _ _ hv6) (.inl Z) (sv Z<|gp Z (Q0 Z) (fun _=>Z) (gt Z (vl Z G_hit Z)<|gt Z (fun _=>Z)<|bs hz2 fun v7 hv7 hz2=>gt Z (fun w12=>(C7 (A3 w12) (A3 w12) (D7 w12 hv7) Z)) ?_))
 refine gt Z (fun w13=>(by simp only [A3 w13];rfl)) ?_
 refine gt Z (fun w14=>(D9 (A3 w14) (D7 w14 hv7) Z))<|gt Z (fun _=>Z)<|bs hz2 fun v8 hv8 hz2=> ?_
 refine K7 v6 (bo v8) (Q0 Z) (fun w16=>⟨_,[(dl A8 v7.Next),(di x1)],_,_,(by simp only [A3 w16];rfl),Z,A2,Ax _ _ _<|D7 w16 hv8,(.inl Z)⟩) ?_
 refine sa Z Z Z<|sv Z<|gp Z (L5 Z) (fun _=>Z) (gf Z (vl Z G_hit Z)<|gf Z (fun _=>Z)<|bs hz2 fun v9 hv9 hz2=>gf Z (fun w20=>(C7 (A3 w20) (A3 w20) (D7 w20 hv9) Z)) ?_)
 refine gf Z (fun w21=>(by simp only [A3 w21];rfl)) ?_
 refine gf Z (fun w22=>(D9 (A3 w22) (D7 w22 hv9) Z))<|gf Z (fun _=>Z)<|bs hz2 fun v10 hv10 hz2=> ?_
 refine K7 _ (bo v10) (L5 Z) (fun w24=>⟨_,[(dl A8 v9.Next),(di p2)],_,_,(by simp only [A3 w24];rfl),Z,A2,Ax _ _ _<|D7 w24 hv10,(.inl Z)⟩) ?_
 refine gf Z (fun w25=>(TS<|A3 w25))<|Ba _ (.ptr _ _) Z (Ae Z) (fun _=>Z) (gv Z (Ae Z) (vl Z G_hit Z) (gv Z (Ae Z) (fun _=>Z) (bs hz2 fun v11 hv11 hz2=>gv Z (Ae Z) (fun w29=>(C7 (A3 w29) (A3 w29) (D7 w29 hv11) Z)) ?_)))
 refine gv Z (Ae Z) (fun w30=>(by simp only [A3 w30];rfl)) ?_
 refine gv Z (Ae Z) (fun w31=>(D9 (A3 w31) (D7 w31 hv11) Z)) (gv Z (Ae Z) (fun _=>Z) (bs hz2 fun v12 hv12 hz2=> ?_))
 refine K7 _ (bo v12) (Ae Z) (fun w33=>⟨_,[(dl A8 v11.Next),(di p3)],_,_,(by simp only [A3 w33];rfl),Z,A2,Ax _ _ _<|D7 w33 hv12,(.inl Z)⟩) ?_
 refine gf Z (fun w34=>(GW (A3 w34) (fun hc=>A3<|LJ w34 hc) Z))<|sd Z (Q5 Z Z<|fun hc=>A3<|L6 hc)<|A1<|cc Z hz2 (fun c3 hz2=> ?_)<|fun c3 hz2=> ?_
 refine A4<|A5 (s0:=⟨T [],G []⟩) (C9 Z Z) ?_
 refine B0<|sv Z<|A1<|B5 ?_
 cases hz2
 obtain rfl:=ez2 _ rfl
 refine ⟨nofun,F6 ?_⟩
 rw [bL]at h
 cases h
 exact A9 (.inr Z) (B6 (B4 Z) C6) (.refl _)
 refine B1<|E6<|A5 (s0:=⟨T [(1,(.d _)),(2,(.d _)),(3,(.ptr _ _)),(7,(.d _))],G [((3,u1),some<|.box 27 _)]⟩) (C9 Z Z) ?_
 refine B0<|sv Z<|sv Z<|sv Z<|A1<|F2 ?_
 cases hz2
 exact ⟨Z,(),(C9 Z Z)⟩
 refine C3 Z ?_
 cases hz2
 obtain rfl:=ez2 _ rfl
 refine ⟨nofun,B9 Z<|U0 ?_⟩
 exact ⟨_,(),Z,(C9 Z Z)⟩
 rintro _ ⟨y1,g1,rfl,q1⟩
 rw [bK]at h
 refine A5 q1<|B7<|sv Z<|A1<|B5 ?_
 cases h
 exact A9 (.inr Z) (B6 (B4 Z) C6) (.refl _)
def U7 (p1:Curve)(p2:Int)(v1:(List Int))(x1:((List Ref01Stripe)×Int)):Option (Stp ((List Ref01Stripe)×Int) (List Ref01Stripe)):=
  cond (decide (x1.2< (v1.length:Int))) ((E5 p1.Pts x1.2).bind fun v2=>(E5 p1.Pts (C8 (x1.2+1))).bind fun v3=>(E5 p1.Pts x1.2).bind fun v4=>(X2 v3 v4).bind fun v5=>(E5 v1 x1.2).bind fun v6=>(E5 v1 x1.2).bind fun v7=>(Cj x1.1 [(Ref01Stripe.mk v2 v5 v6 p2 0 v7)]).bind fun v8=>some (.go (v8,(C8 (x1.2+1))))) (some (.out x1.1))
def Fl [Lp](p1:Curve)(p2:Int):Option (List Ref01Stripe):=
  (Hf p1).bind fun v1=>(loop (U7 p1 p2 v1) ([],0)).bind fun y1=>some y1
theorem Oc(p1 p2 r)(h:Fl p1 p2=some r):PCall prog 260 [(.agg [(.list (List.map M0 p1.Pts))]),(i64 p2)] (.list (List.map I3 r)):=by
 refine C5 (fk func260 ntmps260 (fun r=>if r==6 then [1028]else []) (by with_unfolding_all rfl)) (nl Z) ?_
 unfold Fl at h
 refine A5 (s0:=⟨T [(0,(.d _)),(1,(.d _))],G []⟩) (C9 Z Z) ?_
 refine lr<|fun u1 _=>sm Z<|sv Z<|A1<|B7<|sv Z<|A1<|B7<|sd Z (A7 Z G_hit Z Z)<|bs h fun v1 hv1 h=>B3 Z Z A2 (Pr _ _ hv1) (.inl Z) (sv Z<|A1<|A4<|B7<|sv Z<|A1<|bs h fun y1 hy1 h=>D2 (fun s=> ∃g1:Nat,Sb ⟨T [(5,(oS y1 (45,g1)))],G [((45,g1),oB 291 8 I3 y1)]⟩ s) ?_ ?_)
 refine A6<|E7 (U7 p1 p2 v1) (fun (x1:((List Ref01Stripe)×Int)) (g2:Nat)=>⟨T [(1,(di p2)),(2,(.ptr (2,u1) 0)),(5,(oS x1.1 (45,g2))),(6,(dl A8 v1)),(7,(di x1.2))],G [((2,u1),some<|.box 39 [(dl M0 p1.Pts)]),((45,g2),oB 291 8 I3 x1.1)]⟩) ([],0) 0 _ hy1 (C0 (T3 Z)<|B2 G_hit (.of Z)<|U9 trivial) ?_
 intro x1 g2 z1 hz1 ez1
 unfold U7 at hz1
 refine A4<|B7<|sv Z<|sv Z<|sd Z (D0 Z)<|sv Z<|A1<|cc Z hz1 (fun c1 hz1=> ?_)<|fun c1 hz1=> ?_
 refine B1<|A4<|A6<|Ic Z fun u6 _=>C1 (oS x1.1 (45,g2)) Z Z (sq Z<|sl Z G_hit Z<|sv Z<|bs hz1 fun v2 hv2 hz1=>sd Z (C7 Z Z hv2 Z)<|sd Z (D5 Z hv2 Z Z)<|sq Z<|sl Z G_hit Z<|sv Z<|sv Z<|bs hz1 fun _ hv3 hz1=>sd Z (C7 Z Z hv3 Z)<|sd Z (D5 Z hv3 Z Z)<|sq Z<|sl Z G_hit Z<|sv Z<|bs hz1 fun _ hv4 hz1=>sd Z (C7 Z Z hv4 Z)<|sd Z (D5 Z hv4 Z Z)<|bs hz1 fun v5 hv5 hz1=>B3 Z Z A2 (Dn _ _ _ hv5) (.inl Z) (sv Z<|sv Z<|bs hz1 fun v6 hv6 hz1=>sd Z (C7 Z Z hv6 Z)<|sd Z (D9 Z hv6 Z)<|sv Z<|sv Z<|sv Z<|bs hz1 fun v7 hv7 hz1=>sd Z (C7 Z Z hv7 Z)<|sd Z (D9 Z hv7 Z)<|sv Z<|C1 (dl I3 [(Ref01Stripe.mk v2 v5 v6 p2 0 v7)]) Z Z (bs hz1 fun _ hv8 hz1=>N9 I3 (45,g2) x1.1 (Ref01Stripe.mk v2 v5 v6 p2 0 v7) [] _ (J7<|fun _=>Z) Z (gq Z) hv8 (ss Z<|A1<|E6<|A5 (s0:=⟨T [(1,(.d _)),(2,(.ptr _ _)),(5,(.sl _)),(6,(.d _)),(7,(.d _))],G [((2,u1),some<|.box 39 _),((45,u6),some _)]⟩) (C9 Z Z) ?_))))
 refine B0<|sv Z<|sv Z<|sv Z<|A1<|F2 ?_
 cases hz1
 exact ⟨Z,u6,(C0 ⟨.of Z, .of Z,(.of (Dy<|T1 hv8).symm), .of Z, .of Z,trivial⟩<|B2 G_hit (.of Z)<|U8 (gq Z) trivial)⟩
 refine C3 Z ?_
 cases hz1
 obtain rfl:=ez1 _ rfl
 refine ⟨nofun,B9 Z<|U0 ?_⟩
 exact ⟨g2,(C0 ⟨.of Z,trivial⟩<|C2 (gq Z) trivial)⟩
 rintro _ ⟨g1,q1⟩
 refine A5 q1<|B7<|C1 (oS y1 (45,g1)) Z Z (C1 (oS y1 (45,g1)) Z Z (A1<|B5 ?_))
 cases h
 exact A9 (.inr Z) (B6 (B4 Z)<|Ea G_hit) Dz
def Gp (p1:Spot)(p2:Spot):Option Int:=
  some (C8 ((C8 (p1.X*p2.Y)) - (C8 (p1.Y*p2.X))))
theorem Ml(p1 p2 r)(h:Gp p1 p2=some r):PCall prog 289 [(.agg [(i64 p1.X),(i64 p1.Y)]),(.agg [(i64 p2.X),(i64 p2.Y)])] (i64 r):=by
 refine C5 (fk func289 ntmps289 m0 (by with_unfolding_all rfl)) (nl Z) ?_
 unfold Gp at h
 refine A5 (s0:=⟨T [(0,(.d _)),(1,(.d _))],G []⟩) (C9 Z Z) ?_
 refine B7<|sm Z<|sn Z Z<|sv Z<|A1<|B7<|sq Z<|sl Z (gq Z) Z (sq Z<|sl Z G_hit Z<|sv Z<|sq Z<|sl Z (gq Z) Z (sq Z<|sl Z G_hit Z<|sv Z<|sv Z<|sv Z<|A1<|B5 ?_))
 cases h
 exact A9 (.inr Z) (B6 (B4 Z) C6) (.refl _)
def Bk (p1:Ref01Stripe)(p2:Ref01Stripe)(v1:Spot)(x1:(Int×Int×Int×Int×Int)):Option (Stp (Int×Int×Int×Int×Int) (Int×Int×Int×Int)):=
  cond (decide (x1.2.2.2.2<4)) (((cond ((x1.2.2.2.2.tmod 2)==1) (some p2.t) (some p2.s)).bind fun y3=>(cond (decide (x1.2.2.2.2≥2)) (some (C8 (0 - p2.h))) (some p2.h)).bind fun y4=>(Ce v1 p1.v).bind fun v2=>(Ce p2.v p1.v).bind fun v3=>(Ce (Spot.mk (C8 (0 - p2.v.Y)) p2.v.X) p1.v).bind fun v4=>(Gp p1.v v1).bind fun v5=>(Gp p1.v p2.v).bind fun v6=>(Gp p1.v (Spot.mk (C8 (0 - p2.v.Y)) p2.v.X)).bind fun v7=>(cond (x1.2.2.2.2==0) (some ((C8 ((C8 ((C8 (p2.l*v2))+ (C8 (y3*v3))))+ (C8 (y4*v4)))),(C8 ((C8 ((C8 (p2.l*v2))+ (C8 (y3*v3))))+ (C8 (y4*v4)))),(C8 ((C8 ((C8 (p2.l*v5))+ (C8 (y3*v6))))+ (C8 (y4*v7)))),(C8 ((C8 ((C8 (p2.l*v5))+ (C8 (y3*v6))))+ (C8 (y4*v7)))))) (some (x1.1,x1.2.1,x1.2.2.1,x1.2.2.2.1))).bind fun y5=>some ((Sj false y5.1 (C8 ((C8 ((C8 (p2.l*v2))+ (C8 (y3*v3))))+ (C8 (y4*v4))))),(Sj true y5.2.1 (C8 ((C8 ((C8 (p2.l*v2))+ (C8 (y3*v3))))+ (C8 (y4*v4))))),(Sj false y5.2.2.1 (C8 ((C8 ((C8 (p2.l*v5))+ (C8 (y3*v6))))+ (C8 (y4*v7))))),(Sj true y5.2.2.2 (C8 ((C8 ((C8 (p2.l*v5))+ (C8 (y3*v6))))+ (C8 (y4*v7))))))).bind fun y2=>some (.go (y2.1,y2.2.1,y2.2.2.1,y2.2.2.2,(C8 (x1.2.2.2.2+1))))) (some (.out (x1.1,x1.2.1,x1.2.2.1,x1.2.2.2.1)))
def Fm [Lp](p1:Ref01Stripe)(p2:Ref01Stripe):Option Bool:=
  (X2 p2.p p1.p).bind fun v1=>(loop (Bk p1 p2 v1) (0,0,0,0,0)).bind fun y1=>some ((((decide (y1.2.1< (C8 (p1.s* (C8 (p1.l*p2.l))))))||(decide (y1.1>(C8 (p1.t* (C8 (p1.l*p2.l)))))))||(decide (y1.2.2.2< (C8 ((C8 (0 - p1.h))* (C8 (p1.l*p2.l)))))))||(decide (y1.2.2.1>(C8 (p1.h* (C8 (p1.l*p2.l)))))))
theorem Od(p1 p2 r)(h:Fm p1 p2=some r):PCall prog 273 [(.agg (I3 p1)),(.agg (I3 p2))] (bo r):=by
 refine C5 (fk func273 ntmps273 m0 (by with_unfolding_all rfl)) (nl Z) ?_
 unfold Fm at h
 refine A5 (s0:=⟨T [(0,(.d _)),(1,(.d _))],G []⟩) (C9 Z Z) ?_
 refine lr<|fun u1 _=>sm Z<|sm Z<|sv Z<|A1<|lr<|fun u2 _=>sq Z<|sq Z<|sl Z G_hit Z<|C1 (di<|C8 (0 - p2.v.Y)) Z Z (sq Z<|sp Z Z<|sl Z G_hit Z<|sv Z<|sm Z<|Bb Z G_hit [(di<|C8 (0 - p2.v.Y)),(di p2.v.X)] Z (A1<|lr<|fun u3 _=>sq Z<|sd Z (A7 Z (gq Z) Z Z)<|sq Z<|sd Z (A7 Z (gq Z) Z Z)<|bs h fun v1 hv1 h=>B3 Z Z A2 (Dn _ _ _ hv1) (.inl Z) (sm Z<|Bb Z G_hit [(di v1.X),(di v1.Y)] Z (A1<|A4<|A5 (s0:=⟨T [(2,(.ptr _ _)),(3,(.ptr _ _)),(5,(.ptr _ _)),(6,(.ptr _ _))],G [((2,u1),some<|.box 291 _),((3,u1),some<|.box 291 _),((5,u2),some<|.box 148 _),((6,u3),some<|.box 148 _)]⟩) (C9 Z Z) ?_))))
 refine B0<|sv Z<|sv Z<|sv Z<|sv Z<|A1<|A4<|B7<|sv Z<|A1<|bs h fun y1 hy1 h=>D2 (fun s=> ∃g1:Unit,Sb ⟨T [(2,(.ptr (2,u1) 0)),(3,(.ptr (3,u1) 0)),(7,(di y1.1)),(8,(di y1.2.1)),(9,(di y1.2.2.1)),(10,(di y1.2.2.2))],G [((2,u1),some<|.box 291 (J8 p1)),((3,u1),some<|.box 291 (J8 p2))]⟩ s) ?_ ?_
 refine A6<|E7 (Bk p1 p2 v1) (fun (x1:(Int×Int×Int×Int×Int)) (g2:Unit)=>⟨T [(2,(.ptr (2,u1) 0)),(3,(.ptr (3,u1) 0)),(5,(.ptr (5,u2) 0)),(6,(.ptr (6,u3) 0)),(7,(di x1.1)),(8,(di x1.2.1)),(9,(di x1.2.2.1)),(10,(di x1.2.2.2.1)),(11,(di x1.2.2.2.2))],G [((2,u1),some<|.box 291 (J8 p1)),((3,u1),some<|.box 291 (J8 p2)),((5,u2),some<|.box 148 [(di<|C8 (0 - p2.v.Y)),(di p2.v.X)]),((6,u3),some<|.box 148 [(di v1.X),(di v1.Y)])]⟩) (0,0,0,0,0) () _ hy1 (C9 Z Z) ?_
 intro x1 g2 z1 hz1 ez1
 unfold Bk at hz1
 refine A4<|B7<|sv Z<|sv Z<|A1<|cc Z hz1 (fun c1 hz1=> ?_)<|fun c1 hz1=> ?_
 refine B1<|A4<|bs hz1 fun y2 hy2 hz1=>D2 (fun s=> ∃g3:Unit,Sb ⟨T [(2,(.ptr (2,u1) 0)),(3,(.ptr (3,u1) 0)),(5,(.ptr (5,u2) 0)),(6,(.ptr (6,u3) 0)),(7,(di y2.1)),(8,(di y2.2.1)),(9,(di y2.2.2.1)),(10,(di y2.2.2.2)),(11,(di x1.2.2.2.2))],G [((2,u1),some<|.box 291 (J8 p1)),((3,u1),some<|.box 291 (J8 p2)),((5,u2),some<|.box 148 [(di<|C8 (0 - p2.v.Y)),(di p2.v.X)]),((6,u3),some<|.box 148 [(di v1.X),(di v1.Y)])]⟩ s) ?_ ?_
 refine A6<|A4<|J2 Z<|sq Z<|sl Z (gq Z) Z (sq Z<|sl Z (gq Z) Z (sv Z<|sv Z<|A1<|A4<|B7<|sv Z<|sv Z<|sv Z<|A1<|bs hy2 fun y3 hy3 hy2=>D2 (fun s=> ∃g4:Unit,Sb ⟨T [(2,(.ptr (2,u1) 0)),(3,(.ptr (3,u1) 0)),(5,(.ptr (5,u2) 0)),(6,(.ptr (6,u3) 0)),(7,(di x1.1)),(8,(di x1.2.1)),(9,(di x1.2.2.1)),(10,(di x1.2.2.2.1)),(11,(di x1.2.2.2.2)),(12,(di y3)),(13,(di p2.h))],G [((2,u1),some<|.box 291 (J8 p1)),((3,u1),some<|.box 291 (J8 p2)),((5,u2),some<|.box 148 [(di<|C8 (0 - p2.v.Y)),(di p2.v.X)]),((6,u3),some<|.box 148 [(di v1.X),(di v1.Y)])]⟩ s) ?_ ?_))
 refine cc Z hy3 (fun c2 hy3=> ?_)<|fun c2 hy3=> ?_
 refine A5 (s0:=⟨T [(2,(.ptr _ _)),(3,(.ptr _ _)),(5,(.ptr _ _)),(6,(.ptr _ _)),(7,(.d _)),(8,(.d _)),(9,(.d _)),(10,(.d _)),(11,(.d _)),(13,(.d _))],G [((2,u1),some<|.box 291 _),((3,u1),some<|.box 291 _),((5,u2),some<|.box 148 _),((6,u3),some<|.box 148 _)]⟩) (C9 Z Z) ?_
 refine B0<|sq Z<|sl Z (gq Z) Z (sv Z<|A1 ?_)
 cases hy3
 exact U0 ⟨(),(C9 Z Z)⟩
 refine B1 ?_
 cases hy3
 exact U0 ⟨(),(C9 Z Z)⟩
 rintro _ ⟨g4,q1⟩
 refine A5 q1<|A4<|B7<|sv Z<|sv Z<|A1<|bs hy2 fun y4 hy4 hy2=>D2 (fun s=> ∃g5:Unit,Sb ⟨T [(2,(.ptr (2,u1) 0)),(3,(.ptr (3,u1) 0)),(5,(.ptr (5,u2) 0)),(6,(.ptr (6,u3) 0)),(7,(di x1.1)),(8,(di x1.2.1)),(9,(di x1.2.2.1)),(10,(di x1.2.2.2.1)),(11,(di x1.2.2.2.2)),(12,(di y3)),(13,(di y4))],G [((2,u1),some<|.box 291 (J8 p1)),((3,u1),some<|.box 291 (J8 p2)),((5,u2),some<|.box 148 [(di<|C8 (0 - p2.v.Y)),(di p2.v.X)]),((6,u3),some<|.box 148 [(di v1.X),(di v1.Y)])]⟩ s) ?_ ?_
 refine cc Z hy4 (fun c3 hy4=> ?_)<|fun c3 hy4=> ?_
 refine B0<|sq Z<|sl Z (gq Z) Z (C1 (di<|C8 (0 - p2.h)) Z Z (sv Z<|A1 ?_))
 cases hy4
 exact U0 ⟨(),(C9 Z Z)⟩
 refine B1 ?_
 cases hy4
 exact U0 ⟨(),(C9 Z Z)⟩
 rintro _ ⟨g5,q2⟩
 refine A5 q2<|A4<|J2 Z<|sq Z<|sl Z (gq Z) Z (sd Z (A7 Z (gq Z) Z Z)<|sq Z<|sd Z (A7 Z G_hit Z Z)<|bs hy2 fun v2 hv2 hy2=>B3 Z Z A2 (Cq _ _ _ hv2) (.inl Z) (sv Z<|sv Z<|sq Z<|sd Z (A7 Z (gq Z) Z Z)<|sq Z<|sd Z (A7 Z G_hit Z Z)<|bs hy2 fun v3 hv3 hy2=>B3 Z Z A2 (Cq _ _ _ hv3) (.inl Z) (sv Z<|sv Z<|sv Z<|sd Z (A7 Z (gq Z) Z Z)<|sq Z<|sd Z (A7 Z G_hit Z Z)<|bs hy2 fun v4 hv4 hy2=>B3 Z Z A2 (Cq _ _ _ hv4) (.inl Z) (sv Z<|sv Z<|sv Z<|A1<|A4<|A5 (s0:=⟨T [(2,(.ptr _ _)),(3,(.ptr _ _)),(5,(.ptr _ _)),(6,(.ptr _ _)),(7,(.d _)),(8,(.d _)),(9,(.d _)),(10,(.d _)),(11,(.d _)),(12,(.d _)),(13,(.d _)),(14,(.d _))],G [((2,u1),some<|.box 291 _),((3,u1),some<|.box 291 _),((5,u2),some<|.box 148 _),((6,u3),some<|.box 148 _)]⟩) (C9 Z Z) ?_))))
 refine J2 Z<|sq Z<|sl Z (gq Z) Z (sq Z<|sd Z (A7 Z G_hit Z Z)<|sd Z (A7 Z (gq Z) Z Z)<|bs hy2 fun v5 hv5 hy2=>B3 Z Z A2 (Ml _ _ _ hv5) (.inl Z) (sv Z<|sv Z<|sq Z<|sd Z (A7 Z G_hit Z Z)<|sq Z<|sd Z (A7 Z (gq Z) Z Z)<|bs hy2 fun v6 hv6 hy2=>B3 Z Z A2 (Ml _ _ _ hv6) (.inl Z) (sv Z<|sv Z<|sv Z<|sq Z<|sd Z (A7 Z G_hit Z Z)<|sd Z (A7 Z (gq Z) Z Z)<|bs hy2 fun v7 hv7 hy2=>B3 Z Z A2 (Ml _ _ _ hv7) (.inl Z) (sv Z<|sv Z<|sv Z<|A1<|A4<|A4<|A5 (s0:=⟨T [(2,(.ptr _ _)),(3,(.ptr _ _)),(5,(.ptr _ _)),(6,(.ptr _ _)),(7,(.d _)),(8,(.d _)),(9,(.d _)),(10,(.d _)),(11,(.d _)),(14,(.d _)),(15,(.d _))],G [((2,u1),some<|.box 291 _),((3,u1),some<|.box 291 _),((5,u2),some<|.box 148 _),((6,u3),some<|.box 148 _)]⟩) (C9 Z Z) ?_))))
 refine B0<|sv Z<|sv Z<|A1<|bs hy2 fun y5 hy5 hy2=>D2 (fun s=> ∃g6:Unit,Sb ⟨T [(2,(.ptr (2,u1) 0)),(3,(.ptr (3,u1) 0)),(5,(.ptr (5,u2) 0)),(6,(.ptr (6,u3) 0)),(7,(di y5.1)),(8,(di y5.2.1)),(9,(di y5.2.2.1)),(10,(di y5.2.2.2)),(11,(di x1.2.2.2.2)),(14,(di<|C8 ((C8 ((C8 (p2.l*v2))+ (C8 (y3*v3))))+ (C8 (y4*v4))))),(15,(di<|C8 ((C8 ((C8 (p2.l*v5))+ (C8 (y3*v6))))+ (C8 (y4*v7)))))],G [((2,u1),some<|.box 291 (J8 p1)),((3,u1),some<|.box 291 (J8 p2)),((5,u2),some<|.box 148 [(di<|C8 (0 - p2.v.Y)),(di p2.v.X)]),((6,u3),some<|.box 148 [(di v1.X),(di v1.Y)])]⟩ s) ?_ ?_
 refine cc Z hy5 (fun c4 hy5=> ?_)<|fun c4 hy5=> ?_
 refine B0<|sv Z<|sv Z<|sv Z<|sv Z<|sv Z<|sv Z<|sv Z<|sv Z<|A1 ?_
 cases hy5
 exact U0 ⟨(),(C9 Z Z)⟩
 refine B1 ?_
 cases hy5
 exact U0 ⟨(),(C9 Z Z)⟩
 rintro _ ⟨g6,q3⟩
 refine A5 q3<|B0<|sv Z<|sv Z<|sv Z<|sv Z<|sv Z<|sv Z<|sv Z<|sv Z<|sv Z<|sv Z<|sv Z<|sv Z<|sv Z<|sv Z<|sv Z<|sv Z<|A1<|E6 ?_
 cases hy2
 exact U0 ⟨(),(C9 Z Z)⟩
 rintro _ ⟨g3,q4⟩
 refine A5 q4<|B0<|sv Z<|sv Z<|sv Z<|A1<|F2 ?_
 cases hz1
 exact ⟨Z,(),(C9 Z Z)⟩
 refine C3 Z ?_
 cases hz1
 obtain rfl:=ez1 _ rfl
 refine ⟨nofun,B9 Z<|U0 ?_⟩
 exact ⟨(),(C9 Z Z)⟩
 rintro _ ⟨g1,q5⟩
 refine A5 q5<|B7<|sq Z<|sl Z G_hit Z<|sq Z<|sl Z (gq Z) Z (sv Z<|sv Z<|A1<|B7<|sv Z<|sq Z<|sl Z G_hit Z<|sv Z<|sv Z<|sv Z<|sv Z<|gf Z (fun _=>Z)<|gp Z (L5 Z) (fun _=>Z) (gf Z (vl Z G_hit Z)<|gf Z (fun _=>Z)<|gf Z (fun w5=>(Q1 (A3 w5) (A3 w5) Z))<|gf Z (fun w6=>(Q1 (A3 w6) (A3 w6) Z))<|sd Z (Q5 Z Z<|fun hc=>A3<|L6 hc)<|sv Z<|gf Z (fun _=>Z)<|gp Z (L5 Z) (fun _=>Z) (gf Z (vl Z G_hit Z) ?_)))
 refine Ba _ (di<|C8 (0 - p1.h)) Z (L5 Z) (fun w10=>(by simp only [A3 w10];rfl)) ?_
 refine gf Z (fun _=>Z)<|gf Z (fun w12=>(Q1 (A3 w12) (A3 w12) Z))<|gf Z (fun w13=>(Q1 (A3 w13) (A3 w13) Z))<|sd Z (Q5 Z Z<|fun hc=>A3<|L6 hc)<|sv Z<|gf Z (fun _=>Z)<|gp Z (L5 Z) (fun _=>Z) (gf Z (vl Z G_hit Z)<|gf Z (fun _=>Z)<|gf Z (fun w18=>(Q1 (A3 w18) (A3 w18) Z))<|gf Z (fun w19=>(Q1 (A3 w19) (A3 w19) Z))<|sd Z (Q5 Z Z<|fun hc=>A3<|L6 hc)<|sv Z<|A1<|B5 ?_)
 cases h
 exact A9 (.inr Z) (B6 (B4 Z) C6) (.refl _)
def Ih [Lp](p1:Ref01Stripe)(p2:Ref01Stripe):Option Bool:=
  (X2 p2.p p1.p).bind fun v1=>(Ce v1 v1).bind fun v2=>((cond (decide (v2≤(C8 ((C8 ((C8 ((C8 (p1.l+p2.l))+p1.h))+p2.h))* (C8 ((C8 ((C8 (p1.l+p2.l))+p1.h))+p2.h)))))) (Fm p1 p2) (some default))).bind fun v3=>((cond ((decide (v2≤(C8 ((C8 ((C8 ((C8 (p1.l+p2.l))+p1.h))+p2.h))* (C8 ((C8 ((C8 (p1.l+p2.l))+p1.h))+p2.h))))))&& (!v3)) (Fm p2 p1) (some default))).bind fun v4=>some (((decide (v2≤(C8 ((C8 ((C8 ((C8 (p1.l+p2.l))+p1.h))+p2.h))* (C8 ((C8 ((C8 (p1.l+p2.l))+p1.h))+p2.h))))))&& (!v3))&& (!v4))
theorem Nl(p1 p2 r)(h:Ih p1 p2=some r):PCall prog 261 [(.agg (I3 p1)),(.agg (I3 p2))] (bo r):=by
 refine C5 (fk func261 ntmps261 m0 (by with_unfolding_all rfl)) (nl Z) ?_
 unfold Ih at h
 refine A5 (s0:=⟨T [(0,(.d _)),(1,(.d _))],G []⟩) (C9 Z Z) ?_
 refine lr<|fun u1 _=>sm Z<|sm Z<|sv Z<|A1<|lr<|fun u2 _=>sq Z<|sd Z (A7 Z G_hit Z Z)<|sq Z<|sd Z (A7 Z (gq Z) Z Z)<|bs h fun v1 hv1 h=>B3 Z Z A2 (Dn _ _ _ hv1) (.inl Z) (sm Z<|Bb Z G_hit [(di v1.X),(di v1.Y)] Z (A1<|B7<|sq Z<|sl Z (gq Z) Z (sq Z<|sl Z (gq Z) Z (sv Z<|sq Z<|sl Z (gq Z) Z (sv Z<|sq Z<|sl Z (gq Z) Z (sv Z<|sv Z<|A1<|A4<|A5 (s0:=⟨T [(2,(.ptr _ _)),(3,(.ptr _ _)),(5,(.ptr _ _)),(6,(.d _))],G [((2,u1),some<|.box 291 _),((3,u1),some<|.box 291 _),((5,u2),some<|.box 148 _)]⟩) (C9 Z Z) ?_))))))
 refine B0<|sd Z (A7 Z (gq Z) Z Z)<|sd Z (A7 Z (gq Z) Z Z)<|bs h fun _ hv2 h=>B3 Z Z A2 (Cq _ _ _ hv2) (.inl Z) (sv Z<|sv Z<|sv Z<|sv Z<|sv Z<|gt Z (fun _=>(A7 Z G_hit Z Z))<|gt Z (fun _=>(A7 Z (gq Z) Z Z))<|bs h fun v3 hv3 h=> ?_)
 refine K7 _ (bo v3) (Q0 Z) (fun w3=>⟨_,[(.d (.agg (I3 p1))),(.d (.agg (I3 p2)))],_,_,(by simp only [A3 w3];rfl),Z,A2,Od _ _ _<|D7 w3 hv3,(.inl Z)⟩) ?_
 refine Ba _ (.d (bo (!v3))) Z (Q0 Z) (fun w4=>(by simp only [A3 w4];rfl)) ?_
 refine sa Z Z Z<|sv Z<|gt Z (fun _=>(A7 Z (gq Z) Z Z))<|gt Z (fun _=>(A7 Z G_hit Z Z))<|bs h fun v4 hv4 h=> ?_
 refine K7 _ (bo v4) (Q0 Z) (fun w7=>⟨_,[(.d (.agg (I3 p2))),(.d (.agg (I3 p1)))],_,_,(by simp only [A3 w7];rfl),Z,A2,Od _ _ _<|D7 w7 hv4,(.inl Z)⟩) ?_
 refine Ba _ (.d (bo (!v4))) Z (Q0 Z) (fun w8=>(by simp only [A3 w8];rfl)) ?_
 refine sa Z Z Z<|sv Z<|A1<|B5 ?_
 cases h
 exact A9 (.inr Z) (B6 (B4 Z) C6) (.refl _)
def X4 [Lp](p2:Ref01Stripe)(x2:(Int×Int×Ref01Stripe)):Option (Stp (Int×Int×Ref01Stripe) (Int×Ref01Stripe)):=
  cond (decide (x2.1<x2.2.1)) ((Ih (Ref01Stripe.mk x2.2.2.p x2.2.2.v x2.2.2.l x2.2.2.h (C8 ((C8 ((C8 (x2.1+x2.2.1))+1)).tdiv 2)) x2.2.2.l) p2).bind fun v2=>cond v2 (some (.go ((C8 ((C8 ((C8 (x2.1+x2.2.1))+1)).tdiv 2)),x2.2.1,(Ref01Stripe.mk x2.2.2.p x2.2.2.v x2.2.2.l x2.2.2.h (C8 ((C8 ((C8 (x2.1+x2.2.1))+1)).tdiv 2)) x2.2.2.l)))) (some (.go (x2.1,(C8 ((C8 ((C8 ((C8 (x2.1+x2.2.1))+1)).tdiv 2)) - 1)),(Ref01Stripe.mk x2.2.2.p x2.2.2.v x2.2.2.l x2.2.2.h (C8 ((C8 ((C8 (x2.1+x2.2.1))+1)).tdiv 2)) x2.2.2.l))))) (some (.out (x2.1,x2.2.2)))
def X5 [Lp](p2:Ref01Stripe)(x1:(Int×Int×Ref01Stripe)):Option (Stp (Int×Int×Ref01Stripe) (Int×Ref01Stripe)):=
  cond (decide (x1.1<x1.2.1)) ((Ih (Ref01Stripe.mk x1.2.2.p x1.2.2.v x1.2.2.l x1.2.2.h 0 (C8 ((C8 (x1.1+x1.2.1)).tdiv 2))) p2).bind fun v1=>cond v1 (some (.go (x1.1,(C8 ((C8 (x1.1+x1.2.1)).tdiv 2)),(Ref01Stripe.mk x1.2.2.p x1.2.2.v x1.2.2.l x1.2.2.h 0 (C8 ((C8 (x1.1+x1.2.1)).tdiv 2)))))) (some (.go ((C8 ((C8 ((C8 (x1.1+x1.2.1)).tdiv 2))+1)),x1.2.1,(Ref01Stripe.mk x1.2.2.p x1.2.2.v x1.2.2.l x1.2.2.h 0 (C8 ((C8 (x1.1+x1.2.1)).tdiv 2))))))) (some (.out (x1.1,x1.2.2)))
def Hg [Lp](p1:Ref01Stripe)(p2:Ref01Stripe):Option (Int×Int):=
  (loop (X5 p2) (0,p1.l,p1)).bind fun y1=>(loop (X4 p2) (0,y1.2.l,y1.2)).bind fun y2=>some ((Sj true 0 (C8 (y1.1 - 1))),(Sj false y2.2.l (C8 (y2.1+1))))
theorem Ps(p1 p2 r)(h:Hg p1 p2=some r):PCall prog 262 [(.agg (I3 p1)),(.agg (I3 p2))] (.tup [(i64 r.1),(i64 r.2)]):=by
 refine C5 (fk func262 ntmps262 m0 (by with_unfolding_all rfl)) (nl Z) ?_
 unfold Hg at h
 refine A5 (s0:=⟨T [(0,(.d _)),(1,(.d _))],G []⟩) (C9 Z Z) ?_
 refine lr<|fun u1 _=>sm Z<|sm Z<|sv Z<|sv Z<|A1<|A4<|J2 Z<|sq Z<|sl Z (gq Z) Z (sv Z<|sv Z<|A1<|A4<|bs h fun y1 hy1 h=>D2 (fun s=> ∃g1:Unit,Sb ⟨T [(2,(.ptr (2,u1) 0)),(3,(.ptr (3,u1) 0)),(6,(di y1.1))],G [((2,u1),some<|.box 291 (J8 y1.2)),((3,u1),some<|.box 291 (J8 p2))]⟩ s) ?_ ?_)
 refine A6<|E7 (X5 p2) (fun (x1:(Int×Int×Ref01Stripe)) (g2:Unit)=>⟨T [(2,(.ptr (2,u1) 0)),(3,(.ptr (3,u1) 0)),(6,(di x1.1)),(7,(di x1.2.1))],G [((2,u1),some<|.box 291 (J8 x1.2.2)),((3,u1),some<|.box 291 (J8 p2))]⟩) (0,p1.l,p1) () _ hy1 (C9 Z Z) ?_
 intro x1 g2 z1 hz1 ez1
 unfold X5 at hz1
 refine A4<|B7<|sv Z<|sv Z<|sv Z<|A1<|cc Z hz1 (fun c1 hz1=> ?_)<|fun c1 hz1=> ?_
 refine B1<|A6<|B7<|sv Z<|sv Z<|sv Z<|sv Z<|sq Z<|Bb Z G_hit ((J8 x1.2.2).set 6 (di 0)) Z (sq Z<|Bb Z G_hit (((J8 x1.2.2).set 6 (di 0)).set 7 (di<|C8 ((C8 (x1.1+x1.2.1)).tdiv 2))) Z (A1<|B7<|sd Z (A7 Z G_hit Z Z)<|sd Z (A7 Z (gq Z) Z Z)<|bs hz1 fun _ hv1 hz1=>B3 Z Z A2 (Nl _ _ _ hv1) (.inl Z) (A1<|cc Z hz1 (fun c2 hz1=> ?_)<|fun c2 hz1=> ?_)))
 refine B0<|sq Z<|sl Z G_hit Z<|sv Z<|A1<|E6<|F2 ?_
 cases hz1
 exact ⟨Z,(),(C9 Z Z)⟩
 refine B0<|sq Z<|sl Z G_hit Z<|sv Z<|sv Z<|A1<|E6<|F2 ?_
 cases hz1
 exact ⟨Z,(),(C9 Z Z)⟩
 refine C3 Z ?_
 cases hz1
 obtain rfl:=ez1 _ rfl
 refine ⟨nofun,B9 Z<|U0 ?_⟩
 exact ⟨(),(C9 Z Z)⟩
 rintro _ ⟨g1,q1⟩
 refine A5 q1<|B7<|sv Z<|sv Z<|sv Z<|sv Z<|A1<|A4<|J2 Z<|sq Z<|sl Z G_hit Z<|sv Z<|sv Z<|A1<|A4<|bs h fun y2 hy2 h=>D2 (fun s=> ∃g3:Unit,Sb ⟨T [(2,(.ptr (2,u1) 0)),(6,(di y2.1)),(8,(di<|Sj true 0<|C8 (y1.1 - 1)))],G [((2,u1),some<|.box 291 (J8 y2.2))]⟩ s) ?_ ?_
 refine A6<|E7 (X4 p2) (fun (x2:(Int×Int×Ref01Stripe)) (g4:Unit)=>⟨T [(2,(.ptr (2,u1) 0)),(3,(.ptr (3,u1) 0)),(6,(di x2.1)),(7,(di x2.2.1)),(8,(di<|Sj true 0<|C8 (y1.1 - 1)))],G [((2,u1),some<|.box 291 (J8 x2.2.2)),((3,u1),some<|.box 291 (J8 p2))]⟩) (0,y1.2.l,y1.2) () _ hy2 (C9 Z Z) ?_
 intro x2 g4 z2 hz2 ez2
 unfold X4 at hz2
 refine A4<|B7<|sv Z<|sv Z<|sv Z<|A1<|cc Z hz2 (fun c3 hz2=> ?_)<|fun c3 hz2=> ?_
 refine B1<|A6<|B7<|sv Z<|sv Z<|sv Z<|sv Z<|sv Z<|sq Z<|sl Z G_hit Z<|sq Z<|Bb Z G_hit ((J8 x2.2.2).set 6 (di<|C8 ((C8 ((C8 (x2.1+x2.2.1))+1)).tdiv 2))) Z (sq Z<|Bb Z G_hit (((J8 x2.2.2).set 6 (di<|C8 ((C8 ((C8 (x2.1+x2.2.1))+1)).tdiv 2))).set 7 (di x2.2.2.l)) Z (A1<|B7<|sd Z (A7 Z G_hit Z Z)<|sd Z (A7 Z (gq Z) Z Z)<|bs hz2 fun _ hv2 hz2=>B3 Z Z A2 (Nl _ _ _ hv2) (.inl Z) (A1<|cc Z hz2 (fun c4 hz2=> ?_)<|fun c4 hz2=> ?_)))
 refine A5 (s0:=⟨T [(2,(.ptr _ _)),(3,(.ptr _ _)),(7,(.d _)),(8,(.d _))],G [((2,u1),some<|.box 291 _),((3,u1),some<|.box 291 _)]⟩) (C9 Z Z) ?_
 refine B0<|sq Z<|sl Z G_hit Z<|sv Z<|A1<|E6<|F2 ?_
 cases hz2
 exact ⟨Z,(),(C9 Z Z)⟩
 refine A5 (s0:=⟨T [(2,(.ptr _ _)),(3,(.ptr _ _)),(6,(.d _)),(8,(.d _))],G [((2,u1),some<|.box 291 _),((3,u1),some<|.box 291 _)]⟩) (C9 Z Z) ?_
 refine B0<|sq Z<|sl Z G_hit Z<|sv Z<|sv Z<|A1<|E6<|F2 ?_
 cases hz2
 exact ⟨Z,(),(C9 Z Z)⟩
 refine C3 Z ?_
 cases hz2
 obtain rfl:=ez2 _ rfl
 refine ⟨nofun,B9 Z<|U0 ?_⟩
 exact ⟨(),(C9 Z Z)⟩
 rintro _ ⟨g3,q2⟩
 refine A5 q2<|A4<|J2 Z<|sv Z<|sq Z<|sl Z G_hit Z<|sv Z<|sv Z<|sv Z<|sv Z<|sv Z<|A1<|B5 ?_
 cases h
 exact A9 (.inr Z) (Zy (B4 Z) (B4 Z) C6 C6) (.refl _)
def U1 [Lp](v1:(List Ref01Stripe))(v2:(List Ref01Stripe))(x1:((List Cross)×Int×Int))(x2:((List Cross)×Int×Int)):Option (Stp ((List Cross)×Int×Int) (List Cross)):=
  cond (decide (x2.2.2< (v2.length:Int))) ((E5 v1 x1.2.2).bind fun v3=>(E5 v2 x2.2.2).bind fun v4=>(Ih v3 v4).bind fun v5=>(cond v5 ((E5 v1 x1.2.2).bind fun v6=>(E5 v2 x2.2.2).bind fun v7=>(Hg v6 v7).bind fun v8=>(E5 v2 x2.2.2).bind fun v9=>(E5 v1 x1.2.2).bind fun v10=>(Hg v9 v10).bind fun v11=>(Cj x2.1 [(Cross.mk (C8 (x1.2.1+v8.1)) (C8 (x1.2.1+v8.2)) (C8 (x2.2.1+v11.1)) (C8 (x2.2.1+v11.2)))]).bind fun v12=>some v12) (some x2.1)).bind fun y3=>(E5 v2 x2.2.2).bind fun v13=>some (.go (y3,(C8 (x2.2.1+v13.l)),(C8 (x2.2.2+1))))) (some (.out x2.1))
def U2 [Lp](v1:(List Ref01Stripe))(v2:(List Ref01Stripe))(x1:((List Cross)×Int×Int)):Option (Stp ((List Cross)×Int×Int) (List Cross)):=
  cond (decide (x1.2.2< (v1.length:Int))) ((loop (U1 v1 v2 x1) (x1.1,0,0)).bind fun y2=>(E5 v1 x1.2.2).bind fun v14=>some (.go (y2,(C8 (x1.2.1+v14.l)),(C8 (x1.2.2+1))))) (some (.out x1.1))
def Fc [Lp](p1:Curve)(p2:Int)(p3:Curve)(p4:Int):Option (List Cross):=
  cond ((((decide (p2<0))||(decide (p2>4000)))||(decide (p4<0)))||(decide (p4>4000))) (some []) ((Fl p1 p2).bind fun v1=>(Fl p3 p4).bind fun v2=>(loop (U2 v1 v2) ([],0,0)).bind fun y1=>some y1)
theorem Tq(p1 p2 p3 p4 r)(h:Fc p1 p2 p3 p4=some r):PCall prog 213 [(.agg [(.list (List.map M0 p1.Pts))]),(i64 p2),(.agg [(.list (List.map M0 p3.Pts))]),(i64 p4)] (.list (List.map Q6 r)):=by
 refine C5 (fk func213 ntmps213 (fun r=>if r==16 then [1014]else []) (by with_unfolding_all rfl)) (nl Z) ?_
 unfold Fc at h
 refine A5 (s0:=⟨T [(0,(.d _)),(1,(.d _)),(2,(.d _)),(3,(.d _))],G []⟩) (C9 Z Z) ?_
 refine lr<|fun u1 _=>sm Z<|sm Z<|sv Z<|A1<|A4<|B7<|sv Z<|sv Z<|sv Z<|gf Z (fun _=>Z)<|gf Z (vb Z Z Z)<|sd Z (Q5 Z Z<|fun hc=>A3<|L6 hc)<|sv Z<|gf Z (fun _=>Z)<|gf Z (vb Z Z Z)<|sd Z (Q5 Z Z<|fun hc=>A3<|L6 hc)<|sv Z<|gf Z (fun _=>Z)<|gf Z (vb Z Z Z)<|sd Z (Q5 Z Z<|fun hc=>A3<|L6 hc)<|A1<|cc Z h (fun c1 h=> ?_)<|fun c1 h=> ?_
 refine A4<|A5 (s0:=⟨T [],G []⟩) (C9 Z Z) ?_
 refine B0<|sv Z<|A1<|B5 ?_
 cases h
 exact A9 (.inr Z) (B6 (B4 Z) C6) DLe.nil
 refine B1<|A4<|A5 (s0:=⟨T [(1,(.d _)),(3,(.d _)),(4,(.ptr _ _)),(6,(.ptr _ _))],G [((4,u1),some<|.box 39 _),((6,u1),some<|.box 39 _)]⟩) (C9 Z Z) ?_
 refine B0<|sv Z<|A1<|A4<|J2 Z<|sd Z (A7 Z G_hit Z Z)<|sv Z<|bs h fun v1 hv1 h=>B3 Z Z A2 (Oc _ _ _ hv1) (.inl Z) (sd Z (A7 Z (gq Z) Z Z)<|sv Z<|bs h fun v2 hv2 h=>B3 Z Z A2 (Oc _ _ _ hv2) (.inl Z) (sv Z<|sv Z<|A1<|B7<|sv Z<|A1<|A4<|B7<|sv Z<|A1<|bs h fun y1 hy1 h=>D2 (fun s=> ∃g1:Nat,Sb ⟨T [(9,(oS y1 (100,g1)))],G [((100,g1),oB 226 4 Q6 y1)]⟩ s) ?_ ?_))
 refine A6<|E7 (U2 v1 v2) (fun (x1:((List Cross)×Int×Int)) (g2:Nat)=>⟨T [(9,(oS x1.1 (100,g2))),(10,(dl I3 v1)),(11,(dl I3 v2)),(12,(di x1.2.1)),(13,(di x1.2.2))],G [((100,g2),oB 226 4 Q6 x1.1)]⟩) ([],0,0) 0 _ hy1 (C0 (T3 Z)<|U9 trivial) ?_
 intro x1 g2 z1 hz1 ez1
 unfold U2 at hz1
 refine A4<|B7<|sv Z<|sv Z<|sd Z (D0 Z)<|sv Z<|A1<|cc Z hz1 (fun c2 hz1=> ?_)<|fun c2 hz1=> ?_
 refine B1<|A4<|A6<|B7<|sv Z<|A1<|A4<|B7<|sv Z<|A1<|bs hz1 fun y2 hy2 hz1=>D2 (fun s=> ∃g3:Nat,Sb ⟨T [(9,(oS y2 (100,g3))),(10,(dl I3 v1)),(11,(dl I3 v2)),(12,(di x1.2.1)),(13,(di x1.2.2))],G [((100,g3),oB 226 4 Q6 y2)]⟩ s) ?_ ?_
 refine A6<|E7 (U1 v1 v2 x1) (fun (x2:((List Cross)×Int×Int)) (g4:Nat)=>⟨T [(9,(oS x2.1 (100,g4))),(10,(dl I3 v1)),(11,(dl I3 v2)),(12,(di x1.2.1)),(13,(di x1.2.2)),(14,(di x2.2.1)),(15,(di x2.2.2))],G [((100,g4),oB 226 4 Q6 x2.1)]⟩) (x1.1,0,0) g2 _ hy2 (C0 (T3 Z)<|C2 G_hit trivial) ?_
 intro x2 g4 z2 hz2 ez2
 unfold U1 at hz2
 refine A4<|B7<|sv Z<|sv Z<|sd Z (D0 Z)<|sv Z<|A1<|cc Z hz2 (fun c3 hz2=> ?_)<|fun c3 hz2=> ?_
 refine B1<|A4<|A6<|A4<|A4<|J2 Z<|sv Z<|sv Z<|bs hz2 fun _ hv3 hz2=>sd Z (C7 Z Z hv3 Z)<|sd Z (D5 Z hv3 Z Z)<|sv Z<|sv Z<|bs hz2 fun _ hv4 hz2=>sd Z (C7 Z Z hv4 Z)<|sd Z (D5 Z hv4 Z Z)<|bs hz2 fun _ hv5 hz2=>B3 Z Z A2 (Nl _ _ _ hv5) (.inl Z) (A1<|bs hz2 fun y3 hy3 hz2=>D2 (fun s=> ∃g5:Nat,Sb ⟨T [(9,(oS y3 (100,g5))),(10,(dl I3 v1)),(11,(dl I3 v2)),(12,(di x1.2.1)),(13,(di x1.2.2)),(14,(di x2.2.1)),(15,(di x2.2.2))],G [((100,g5),oB 226 4 Q6 y3)]⟩ s) ?_ ?_)
 refine cc Z hy3 (fun c4 hy3=> ?_)<|fun c4 hy3=> ?_
 refine A4<|J2 Z<|sv Z<|sv Z<|bs hy3 fun _ hv6 hy3=>sd Z (C7 Z Z hv6 Z)<|sd Z (D5 Z hv6 Z Z)<|sv Z<|sv Z<|bs hy3 fun _ hv7 hy3=>sd Z (C7 Z Z hv7 Z)<|sd Z (D5 Z hv7 Z Z)<|bs hy3 fun v8 hv8 hy3=>B3 Z Z A2 (Ps _ _ _ hv8) (.inl Z) (sv Z<|sv Z<|sv Z<|sv Z<|sv Z<|A1<|A4<|A5 (s0:=⟨T [(9,(oS x2.1 (100,g4))),(10,(dl I3 v1)),(11,(dl I3 v2)),(12,(di x1.2.1)),(13,(di x1.2.2)),(14,(di x2.2.1)),(15,(di x2.2.2)),(16,(di v8.1)),(17,(di v8.2))],G [((100,g4),oB 226 4 Q6 x2.1)]⟩) (C0 (T3 Z)<|C2 G_hit trivial) ?_)
 refine J2 Z<|sv Z<|sv Z<|bs hy3 fun _ hv9 hy3=>sd Z (C7 Z Z hv9 Z)<|sd Z (D5 Z hv9 Z Z)<|sv Z<|sv Z<|bs hy3 fun _ hv10 hy3=>sd Z (C7 Z Z hv10 Z)<|sd Z (D5 Z hv10 Z Z)<|bs hy3 fun v11 hv11 hy3=>B3 Z Z A2 (Ps _ _ _ hv11) (.inl Z) (sv Z<|sv Z<|sv Z<|sv Z<|sv Z<|A1<|A5 (s0:=⟨T [(9,(oS x2.1 (100,g4))),(10,(dl I3 v1)),(11,(dl I3 v2)),(12,(di x1.2.1)),(13,(di x1.2.2)),(14,(di x2.2.1)),(15,(di x2.2.2)),(16,(di v8.1)),(17,(di v8.2)),(18,(di v11.1)),(19,(di v11.2))],G [((100,g4),oB 226 4 Q6 x2.1)]⟩) (C0 (T3 Z)<|C2 G_hit trivial) ?_)
 refine Bw fun u15 _=>C1 (oS x2.1 (100,g4)) Z Z (sv Z<|sv Z<|sv Z<|sv Z<|sv Z<|sv Z<|sv Z<|sv Z<|sv Z<|sv Z<|sv Z<|sv Z<|sv Z<|C1 (dl Q6 [(Cross.mk (C8 (x1.2.1+v8.1)) (C8 (x1.2.1+v8.2)) (C8 (x2.2.1+v11.1)) (C8 (x2.2.1+v11.2)))]) Z Z (bs hy3 fun _ hv12 hy3=>N9 Q6 (100,g4) x2.1 (Cross.mk (C8 (x1.2.1+v8.1)) (C8 (x1.2.1+v8.2)) (C8 (x2.2.1+v11.1)) (C8 (x2.2.1+v11.2))) [] _ (J7<|fun _=>Z) Z G_hit hv12 (ss Z<|A1 ?_)))
 cases hy3
 exact U0 ⟨u15,(C0 ⟨(.of (Dy<|T1 hv12).symm), .of Z, .of Z, .of Z, .of Z, .of Z, .of Z,trivial⟩<|U8 G_hit trivial)⟩
 refine B1 ?_
 cases hy3
 exact U0 ⟨g4,(C0 (T3 Z)<|C2 G_hit trivial)⟩
 rintro _ ⟨g5,q1⟩
 refine A5 q1<|B0<|sv Z<|sv Z<|sv Z<|bs hz2 fun _ hv13 hz2=>sd Z (C7 Z Z hv13 Z)<|sv Z<|sd Z (D9 Z hv13 Z)<|sv Z<|sv Z<|A1<|E6<|B0<|sv Z<|sv Z<|sv Z<|A1<|F2 ?_
 cases hz2
 exact ⟨Z,g5,(C0 (T3 Z)<|C2 G_hit trivial)⟩
 refine C3 Z ?_
 cases hz2
 obtain rfl:=ez2 _ rfl
 refine ⟨nofun,B9 Z<|U0 ?_⟩
 exact ⟨g4,(C0 (T3 Z)<|C2 G_hit trivial)⟩
 rintro _ ⟨g3,q2⟩
 refine A5 q2<|B0<|sv Z<|sv Z<|sv Z<|bs hz1 fun _ hv14 hz1=>sd Z (C7 Z Z hv14 Z)<|sv Z<|sd Z (D9 Z hv14 Z)<|sv Z<|sv Z<|A1<|E6<|B0<|sv Z<|sv Z<|sv Z<|A1<|F2 ?_
 cases hz1
 exact ⟨Z,g3,(C0 (T3 Z)<|C2 G_hit trivial)⟩
 refine C3 Z ?_
 cases hz1
 obtain rfl:=ez1 _ rfl
 refine ⟨nofun,B9 Z<|U0 ?_⟩
 exact ⟨g2,(C0 ⟨.of Z,trivial⟩<|C2 G_hit trivial)⟩
 rintro _ ⟨g1,q3⟩
 refine A5 q3<|B7<|C1 (oS y1 (100,g1)) Z Z (C1 (oS y1 (100,g1)) Z Z (A1<|B5 ?_))
 cases h
 exact A9 (.inr Z) (B6 (B4 Z)<|Ea G_hit) Dz
def Dt [Lp](p1:Map)(p2:Int)(p3:Int)(p4:Cross)(x1:Int):Option (Stp Int (Sum Unit Bool)):=
  cond (decide (x1< (p1.Zones.length:Int))) ((E5 p1.Zones x1).bind fun v1=>(Ei v1 p2).bind fun v2=>(E5 p1.Zones x1).bind fun v3=>(Ei v3 p3).bind fun v4=>cond (((((v2.2&&v4.2)&& (decide (v2.1.From≤p4.FromA)))&& (decide (p4.ToA≤v2.1.To)))&& (decide (v4.1.From≤p4.FromB)))&& (decide (p4.ToB≤v4.1.To))) (some (.out (.inr true))) (some (.go (C8 (x1+1))))) (some (.out (.inl ())))
def Hv [Lp](p1:Map)(p2:Int)(p3:Int)(p4:Cross):Option Bool:=
  thenS (loop (Dt p1 p2 p3 p4) 0) (fun _=>some false) (fun r=>some r)
theorem Wl(p1 p2 p3 p4 r)(h:Hv p1 p2 p3 p4=some r):PCall prog 214 [(.agg (L8 p1)),(i64 p2),(i64 p3),(.agg (Q6 p4))] (bo r):=by
 refine C5 (fk func214 ntmps214 m0 (by with_unfolding_all rfl)) (nl Z) ?_
 unfold Hv at h
 refine A5 (s0:=⟨T [(0,(.d _)),(1,(.d _)),(2,(.d _)),(3,(.d _))],G []⟩) (C9 Z Z) ?_
 refine lr<|fun u1 _=>sm Z<|sm Z<|sv Z<|A1<|A4<|B7<|sv Z<|A1<|js h fun z1 hz1 h=>D2 (fun s=> ∃(y1:Unit) (g1:Unit),z1= .inl y1∧Sb ⟨T [],G []⟩ s) ?_ ?_
 refine A6<|E7 (Dt p1 p2 p3 p4) (fun (x1:Int) (g2:Unit)=>⟨T [(1,(di p2)),(2,(di p3)),(4,(.ptr (4,u1) 0)),(7,(.ptr (7,u1) 0)),(9,(di x1))],G [((4,u1),some<|.box 27 (I7 p1)),((7,u1),some<|.box 226 (XA p4))]⟩) 0 () _ hz1 (C9 Z Z) ?_
 intro x1 g2 z2 hz2 ez2
 unfold Dt at hz2
 refine A4<|B7<|sv Z<|sq Z<|sl Z G_hit Z<|sd Z (D0 Z)<|sv Z<|A1<|cc Z hz2 (fun c1 hz2=> ?_)<|fun c1 hz2=> ?_
 refine B1<|A4<|A6<|lr<|fun u4 _=>sq Z<|sl Z G_hit Z<|sv Z<|bs hz2 fun _ hv1 hz2=>sd Z (C7 Z Z hv1 Z)<|sd Z (D5 Z hv1 Z Z)<|sv Z<|bs hz2 fun v2 hv2 hz2=>B3 Z Z A2 (Fj _ _ _ hv2) (.inl Z) (sv Z<|sv Z<|sv Z<|sm Z<|Bb Z G_hit (Fz v2.1) Z (sv Z<|A1<|A4<|A5 (s0:=⟨T [(1,(.d _)),(2,(.d _)),(4,(.ptr _ _)),(7,(.ptr _ _)),(9,(.d _)),(10,(.ptr _ _)),(11,(.d _))],G [((4,u1),some<|.box 27 _),((7,u1),some<|.box 226 _),((10,u4),some<|.box 91 _)]⟩) (C9 Z Z) ?_))
 refine Bw fun u5 _=>sq Z<|sl Z G_hit Z<|sv Z<|bs hz2 fun _ hv3 hz2=>sd Z (C7 Z Z hv3 Z)<|sd Z (D5 Z hv3 Z Z)<|sv Z<|bs hz2 fun v4 hv4 hz2=>B3 Z Z A2 (Fj _ _ _ hv4) (.inl Z) (sv Z<|sv Z<|sv Z<|sm Z<|Bb Z G_hit (Fz v4.1) Z (sv Z<|A1<|A4<|A5 (s0:=⟨T [(1,(.d _)),(2,(.d _)),(4,(.ptr _ _)),(7,(.ptr _ _)),(9,(.d _)),(10,(.ptr _ _)),(11,(.d _)),(12,(.ptr _ _)),(13,(.d _))],G [((4,u1),some<|.box 27 _),((7,u1),some<|.box 226 _),((10,u4),some<|.box 91 _),((12,u5),some<|.box 91 _)]⟩) (C9 Z Z) ?_))
 refine B0<|sv Z<|sv Z<|gt Z (fun _=>Z)<|sa Z Z Z<|sv Z<|gp Z (Q0 Z) (fun _=>Z) (gt Z (vl Z (gq Z) Z)<|gp Z (Q0 Z) (fun _=>Z) (gt Z (vl Z (gq Z) Z)<|gt Z (fun w6=>(Q1 (A3 w6) (A3 w6) Z))<|sa Z Z Z<|sv Z<|gp Z (Q0 Z) (fun _=>Z) (gt Z (vl Z (gq Z) Z)<|gp Z (Q0 Z) (fun _=>Z) (gt Z (vl Z (gq Z) Z)<|gt Z (fun w11=>(Q1 (A3 w11) (A3 w11) Z))<|sa Z Z Z<|sv Z<|gp Z (Q0 Z) (fun _=>Z) (gt Z (vl Z (gq Z) Z)<|gp Z (Q0 Z) (fun _=>Z) (gt Z (vl Z (gq Z) Z)<|gt Z (fun w16=>(Q1 (A3 w16) (A3 w16) Z))<|sa Z Z Z<|sv Z<|gp Z (Q0 Z) (fun _=>Z) (gt Z (vl Z (gq Z) Z)<|gp Z (Q0 Z) (fun _=>Z) (gt Z (vl Z (gq Z) Z)<|gt Z (fun w21=>(Q1 (A3 w21) (A3 w21) Z))<|sa Z Z Z<|A1<|cc Z hz2 (fun c2 hz2=> ?_)<|fun c2 hz2=> ?_))))))))
 refine A4<|A5 (s0:=⟨T [],G []⟩) (C9 Z Z) ?_
 refine B0<|sv Z<|A1<|B5 ?_
 cases hz2
 obtain rfl:=ez2 _ rfl
 refine ⟨nofun,F6 ?_⟩
 rw [bL]at h
 cases h
 exact A9 (.inr Z) (B6 (B4 Z) C6) (.refl _)
 refine B1<|E6<|A5 (s0:=⟨T [(1,(.d _)),(2,(.d _)),(4,(.ptr _ _)),(7,(.ptr _ _)),(9,(.d _))],G [((4,u1),some<|.box 27 _),((7,u1),some<|.box 226 _)]⟩) (C9 Z Z) ?_
 refine B0<|sv Z<|sv Z<|sv Z<|A1<|F2 ?_
 cases hz2
 exact ⟨Z,(),(C9 Z Z)⟩
 refine C3 Z ?_
 cases hz2
 obtain rfl:=ez2 _ rfl
 refine ⟨nofun,B9 Z<|U0 ?_⟩
 exact ⟨_,(),Z,(C9 Z Z)⟩
 rintro _ ⟨y1,g1,rfl,q1⟩
 rw [bK]at h
 refine A5 q1<|B7<|sv Z<|A1<|B5 ?_
 cases h
 exact A9 (.inr Z) (B6 (B4 Z) C6) (.refl _)
end
end Go.Abs.Roadsz
