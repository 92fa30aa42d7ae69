/-
  The functions, part 3.
-/
import Derived.Test.YtimbepcdlehjjaaGreatFns2
set_option maxRecDepth 20000
set_option maxHeartbeats 4000000
set_option linter.unusedVariables false
namespace Go.Abs.Roadsz
noncomputable section
open Go Go.Abs Go.Proofs Tryz
attribute [local irreducible] J0 Ij Di
def Cg (p1:(List Int))(p2:(List Int))(x1:Int):Option (Stp Int (Sum Unit Bool)):=
  cond ((decide (x1< (p1.length:Int)))&& (decide (x1< (p2.length:Int)))) ((E8 p1 x1).bind fun v1=>(E8 p2 x1).bind fun v2=>cond (v1 !=v2) (some (.out (.inr false))) (some (.go (H6 (x1+1))))) (some (.out (.inl ())))
def Dd [Lp](p1:(List Int))(p2:(List Int)):Option Bool:=
  thenS (loop (Cg p1 p2) 0) (fun _=>some ((p1.length:Int)==(p2.length:Int))) (fun r=>some r)
theorem Kq(p1 p2 r)(h:Dd p1 p2=some r):PCall prog 205 [(.list (List.map A6 p1)),(.list (List.map A6 p2))] (bo r):=by
 refine C4 (fk func205 ntmps205 m0 (by with_unfolding_all rfl)) (nl Z) ?_
 unfold Dd at h
 refine A7 (s0:=⟨T [(0,(.d _)),(1,(.d _))],G []⟩) (G1 Z Z) ?_
 refine B6<|sv Z<|A1<|A3<|B6<|sv Z<|A1<|js h fun z1 hz1 h=>F6 (fun s=> ∃(y1:Unit) (g1:Unit),z1= .inl y1∧Sb ⟨T [(0,(dl A6 p1)),(1,(dl A6 p2))],G []⟩ s) ?_ ?_
 refine A8<|G0 (Cg p1 p2) (fun (x1:Int) (g2:Unit)=>⟨T [(0,(dl A6 p1)),(1,(dl A6 p2)),(5,(di x1))],G []⟩) 0 () _ hz1 (G1 Z Z) ?_
 intro x1 g2 z2 hz2 ez2
 unfold Cg at hz2
 refine A3<|B6<|sv Z<|sv Z<|sd Z (D6 Z)<|sv Z<|sv Z<|gt Z (fun _=>Z)<|gt Z (fun _=>Z)<|gt Z (fun w3=>(D6<|A5 w3))<|gt Z (fun w4=>(J3 (A5 w4) (A5 w4) Z))<|sa Z Z Z<|A1<|cc Z hz2 (fun c1 hz2=> ?_)<|fun c1 hz2=> ?_
 refine B2<|A3<|A8<|A3<|Q1 Z<|sv Z<|sv Z<|bs hz2 fun _ hv1 hz2=>sd Z (F0 Z Z hv1 Z)<|sd Z (J8 Z hv1 Z)<|sv Z<|sv Z<|bs hz2 fun _ hv2 hz2=>sd Z (F0 Z Z hv2 Z)<|sd Z (J8 Z hv2 Z)<|sv Z<|A1<|cc Z hz2 (fun c2 hz2=> ?_)<|fun c2 hz2=> ?_
 refine B6<|sv Z<|A1<|B4 ?_
 cases hz2
 obtain rfl:=ez2 _ rfl
 refine ⟨nofun,G6 ?_⟩
 rw [bM]at h
 cases h
 exact B0 (.inr Z) (C1 (B1 Z) D4) (.refl _)
 refine B2<|E3<|B9<|sv Z<|sv Z<|sv Z<|A1<|G9 ?_
 cases hz2
 exact ⟨Z,(),(G1 Z Z)⟩
 refine D8 Z ?_
 cases hz2
 obtain rfl:=ez2 _ rfl
 refine ⟨nofun,D1 Z<|Az ?_⟩
 exact ⟨_,(),Z,(G1 Z Z)⟩
 rintro _ ⟨y1,g1,rfl,q1⟩
 rw [bL]at h
 refine A7 q1<|B6<|sv Z<|sd Z (D6 Z)<|sv Z<|sd Z (D6 Z)<|sv Z<|sv Z<|A1<|B4 ?_
 cases h
 exact B0 (.inr Z) (C1 (B1 Z) D4) (.refl _)
def Fd [Lp](p1:Lane)(p2:Lane):Option Bool:=
  ((cond (((p1.Kind==p2.Kind)&& (p1.Half==p2.Half))&& (p1.Limit==p2.Limit)) (Jv p1.Curve_ p2.Curve_) (some default))).bind fun v1=>((cond ((((p1.Kind==p2.Kind)&& (p1.Half==p2.Half))&& (p1.Limit==p2.Limit))&&v1) (Dd p1.Next p2.Next) (some default))).bind fun v2=>some (((((p1.Kind==p2.Kind)&& (p1.Half==p2.Half))&& (p1.Limit==p2.Limit))&&v1)&&v2)
theorem Sf(p1 p2 r)(h:Fd p1 p2=some r):PCall prog 109 [(.agg (G5 p1)),(.agg (G5 p2))] (bo r):=by
 refine C4 (fk func109 ntmps109 m0 (by with_unfolding_all rfl)) (nl Z) ?_
 unfold Fd at h
 refine A7 (s0:=⟨T [(0,(.d _)),(1,(.d _))],G []⟩) (G1 Z Z) ?_
 refine B6<|sm Z<|sn Z Z<|sv Z<|A1<|B6<|sq Z<|sl Z (gq Z) Z (sq Z<|sl Z G_hit Z<|sv Z<|sv Z<|gp Z (J1 Z) (fun _=>Z) (gt Z (vl Z (gq Z) Z)<|gp Z (J1 Z) (fun _=>Z) (gt Z (vl Z G_hit Z)<|gt Z (fun w5=>(J3 (A5 w5) (A5 w5) Z))<|sa Z Z Z<|sv Z<|gp Z (J1 Z) (fun _=>Z) (gt Z (vl Z (gq Z) Z)<|gp Z (J1 Z) (fun _=>Z) (gt Z (vl Z G_hit Z)<|gt Z (fun w10=>(J3 (A5 w10) (A5 w10) Z))<|sa Z Z Z<|sv Z<|gp Z (J1 Z) (fun _=>Z) (gt Z (fun w12=>(B5 (A5 w12) (gq Z) Z Z))<|gp Z (J1 Z) (fun _=>Z) (gt Z (fun w14=>(B5 (A5 w14) G_hit Z Z))<|bs h fun v1 hv1 h=> ?_)))))))
 refine S4 _ (bo v1) (J1 Z) (fun w15=>⟨_,[(.d (.agg [(.list (List.map P0 p1.Curve_.Pts))])),(.d (.agg [(.list (List.map P0 p2.Curve_.Pts))]))],_,_,(by simp only [A5 w15];rfl),Z,A2,Yj _ _ _<|L8 w15 hv1,(.inl Z)⟩) ?_
 refine sa Z Z Z<|sv Z<|gp Z (J1 Z) (fun _=>Z) (gt Z (vl Z (gq Z) Z)<|gp Z (J1 Z) (fun _=>Z) (gt Z (vl Z G_hit Z)<|bs h fun v2 hv2 h=> ?_))
 refine S4 _ (bo v2) (J1 Z) (fun w20=>⟨_,[(dl A6 p1.Next),(dl A6 p2.Next)],_,_,(by simp only [A5 w20];rfl),Z,A2,Kq _ _ _<|L8 w20 hv2,(.inl Z)⟩) ?_
 refine sa Z Z Z<|sv Z<|A1<|B4 ?_
 cases h
 exact B0 (.inr Z) (C1 (B1 Z) D4) (.refl _)
def Ci (p1:Zone)(p2:Zone)(x1:Int):Option (Stp Int (Sum Unit Bool)):=
  cond ((decide (x1< (p1.Parts.length:Int)))&& (decide (x1< (p2.Parts.length:Int)))) ((E8 p1.Parts x1).bind fun v1=>(E8 p2.Parts x1).bind fun v2=>cond (!(v1.Lane_==v2.Lane_&& (v1.From==v2.From&& (v1.To==v2.To&& (v1.Rank==v2.Rank&&true))))) (some (.out (.inr false))) (some (.go (H6 (x1+1))))) (some (.out (.inl ())))
def Fe [Lp](p1:Zone)(p2:Zone):Option Bool:=
  thenS (loop (Ci p1 p2) 0) (fun _=>some ((p1.Signal_==p2.Signal_)&& ((p1.Parts.length:Int)==(p2.Parts.length:Int)))) (fun r=>some r)
theorem Sg(p1 p2 r)(h:Fe p1 p2=some r):PCall prog 110 [(.agg [(.list (List.map H3 p1.Parts)),(i64 p1.Signal_)]),(.agg [(.list (List.map H3 p2.Parts)),(i64 p2.Signal_)])] (bo r):=by
 refine C4 (fk func110 ntmps110 m0 (by with_unfolding_all rfl)) (nl Z) ?_
 unfold Fe at h
 refine A7 (s0:=⟨T [(0,(.d _)),(1,(.d _))],G []⟩) (G1 Z Z) ?_
 refine lr<|fun u1 _=>sm Z<|sm Z<|sv Z<|A1<|A3<|B6<|sv Z<|A1<|js h fun z1 hz1 h=>F6 (fun s=> ∃(y1:Unit) (g1:Unit),z1= .inl y1∧Sb ⟨T [(2,(.ptr (2,u1) 0)),(3,(.ptr (3,u1) 0))],G [((2,u1),some<|.box 45 [(dl H3 p1.Parts),(di p1.Signal_)]),((3,u1),some<|.box 45 [(dl H3 p2.Parts),(di p2.Signal_)])]⟩ s) ?_ ?_
 refine A8<|G0 (Ci p1 p2) (fun (x1:Int) (g2:Unit)=>⟨T [(2,(.ptr (2,u1) 0)),(3,(.ptr (3,u1) 0)),(5,(di x1))],G [((2,u1),some<|.box 45 [(dl H3 p1.Parts),(di p1.Signal_)]),((3,u1),some<|.box 45 [(dl H3 p2.Parts),(di p2.Signal_)])]⟩) 0 () _ hz1 (G1 Z Z) ?_
 intro x1 g2 z2 hz2 ez2
 unfold Ci at hz2
 refine A3<|B6<|sv Z<|sq Z<|sl Z G_hit Z<|sd Z (D6 Z)<|sv Z<|sv Z<|gt Z (fun _=>Z)<|gp Z (J1 Z) (fun _=>Z) (gt Z (vl Z (gq Z) Z)<|gt Z (fun w4=>(D6<|A5 w4))<|gt Z (fun w5=>(J3 (A5 w5) (A5 w5) Z))<|sa Z Z Z<|A1<|cc Z hz2 (fun c1 hz2=> ?_)<|fun c1 hz2=> ?_)
 refine B2<|A3<|A8<|A3<|Q1 Z<|sq Z<|sl Z G_hit Z<|sv Z<|bs hz2 fun v1 hv1 hz2=>sd Z (F0 Z Z hv1 Z)<|sd Z (C8 Z hv1 Z Z)<|sq Z<|sl Z (gq Z) Z (sv Z<|bs hz2 fun v2 hv2 hz2=>sd Z (F0 Z Z hv2 Z)<|sd Z (C8 Z hv2 Z Z)<|A9 (.d (bo (!(v1.Lane_==v2.Lane_&& (v1.From==v2.From&& (v1.To==v2.To&& (v1.Rank==v2.Rank&&true))))))) Z Z (A1<|cc Z hz2 (fun c2 hz2=> ?_)<|fun c2 hz2=> ?_))
 refine A3<|A7 (s0:=⟨T [],G []⟩) (G1 Z Z) ?_
 refine B9<|sv Z<|A1<|B4 ?_
 cases hz2
 obtain rfl:=ez2 _ rfl
 refine ⟨nofun,G6 ?_⟩
 rw [bM]at h
 cases h
 exact B0 (.inr Z) (C1 (B1 Z) D4) (.refl _)
 refine B2<|E3<|A7 (s0:=⟨T [(2,(.ptr _ _)),(3,(.ptr _ _)),(5,(.d _))],G [((2,u1),some<|.box 45 _),((3,u1),some<|.box 45 _)]⟩) (G1 Z Z) ?_
 refine B9<|sv Z<|sv Z<|sv Z<|A1<|G9 ?_
 cases hz2
 exact ⟨Z,(),(G1 Z Z)⟩
 refine D8 Z ?_
 cases hz2
 obtain rfl:=ez2 _ rfl
 refine ⟨nofun,D1 Z<|Az ?_⟩
 exact ⟨_,(),Z,(G1 Z Z)⟩
 rintro _ ⟨y1,g1,rfl,q1⟩
 rw [bL]at h
 refine A7 q1<|B6<|sq Z<|sl Z G_hit Z<|sq Z<|sl Z (gq Z) Z (sv Z<|sv Z<|gp Z (J1 Z) (fun _=>Z) (gt Z (vl Z G_hit Z)<|gt Z (fun w8=>(D6<|A5 w8))<|gp Z (J1 Z) (fun _=>Z) (gt Z (vl Z (gq Z) Z)<|gt Z (fun w11=>(D6<|A5 w11))<|gt Z (fun w12=>(J3 (A5 w12) (A5 w12) Z))<|sa Z Z Z<|sv Z<|A1<|B4 ?_)))
 cases h
 exact B0 (.inr Z) (C1 (B1 Z) D4) (.refl _)
def Ah [Lp](p1:Signal)(p2:Signal)(x1:Int):Option (Stp Int (Sum Unit Bool)):=
  cond ((decide (x1< (p1.Phases.length:Int)))&& (decide (x1< (p2.Phases.length:Int)))) ((E8 p1.Phases x1).bind fun v1=>(E8 p2.Phases x1).bind fun v2=>((cond (!(v1.Ticks !=v2.Ticks)) (E8 p1.Phases x1) (some default))).bind fun v3=>((cond (!(v1.Ticks !=v2.Ticks)) (E8 p2.Phases x1) (some default))).bind fun v4=>((cond (!(v1.Ticks !=v2.Ticks)) (Dd v3.Green v4.Green) (some default))).bind fun v5=>cond ((v1.Ticks !=v2.Ticks)||(!v5)) (some (.out (.inr false))) (some (.go (H6 (x1+1))))) (some (.out (.inl ())))
def De [Lp](p1:Signal)(p2:Signal):Option Bool:=
  thenS (loop (Ah p1 p2) 0) (fun _=>some ((p1.Offset==p2.Offset)&& ((p1.Phases.length:Int)==(p2.Phases.length:Int)))) (fun r=>some r)
theorem Pm(p1 p2 r)(h:De p1 p2=some r):PCall prog 111 [(.agg [(i64 p1.Offset),(.list (List.map J2 p1.Phases))]),(.agg [(i64 p2.Offset),(.list (List.map J2 p2.Phases))])] (bo r):=by
 refine C4 (fk func111 ntmps111 m0 (by with_unfolding_all rfl)) (nl Z) ?_
 unfold De at h
 refine A7 (s0:=⟨T [(0,(.d _)),(1,(.d _))],G []⟩) (G1 Z Z) ?_
 refine lr<|fun u1 _=>sm Z<|sm Z<|sv Z<|A1<|A3<|B6<|sv Z<|A1<|js h fun z1 hz1 h=>F6 (fun s=> ∃(y1:Unit) (g1:Unit),z1= .inl y1∧Sb ⟨T [(2,(.ptr (2,u1) 0)),(3,(.ptr (3,u1) 0))],G [((2,u1),some<|.box 48 [(di p1.Offset),(dl J2 p1.Phases)]),((3,u1),some<|.box 48 [(di p2.Offset),(dl J2 p2.Phases)])]⟩ s) ?_ ?_
 refine A8<|G0 (Ah p1 p2) (fun (x1:Int) (g2:Unit)=>⟨T [(2,(.ptr (2,u1) 0)),(3,(.ptr (3,u1) 0)),(5,(di x1))],G [((2,u1),some<|.box 48 [(di p1.Offset),(dl J2 p1.Phases)]),((3,u1),some<|.box 48 [(di p2.Offset),(dl J2 p2.Phases)])]⟩) 0 () _ hz1 (G1 Z Z) ?_
 intro x1 g2 z2 hz2 ez2
 unfold Ah at hz2
 refine A3<|B6<|sv Z<|sq Z<|sl Z G_hit Z<|sd Z (D6 Z)<|sv Z<|sv Z<|gt Z (fun _=>Z)<|gp Z (J1 Z) (fun _=>Z) (gt Z (vl Z (gq Z) Z)<|gt Z (fun w4=>(D6<|A5 w4))<|gt Z (fun w5=>(J3 (A5 w5) (A5 w5) Z))<|sa Z Z Z<|A1<|cc Z hz2 (fun c1 hz2=> ?_)<|fun c1 hz2=> ?_)
 refine B2<|A3<|A8<|A3<|Q1 Z<|sq Z<|sl Z G_hit Z<|sv Z<|bs hz2 fun _ hv1 hz2=>sd Z (F0 Z Z hv1 Z)<|sv Z<|sd Z (J8 Z hv1 Z)<|sq Z<|sl Z (gq Z) Z (sv Z<|bs hz2 fun _ hv2 hz2=>sd Z (F0 Z Z hv2 Z)<|sv Z<|sd Z (J8 Z hv2 Z)<|sv Z<|sv Z<|gp Z (X3 Z) (fun _=>Z) (gf Z (vl Z G_hit Z)<|gf Z (fun _=>Z)<|bs hz2 fun v3 hv3 hz2=>gf Z (fun w9=>(F0 (A5 w9) (A5 w9) (L8 w9 hv3) Z)) ?_))
 refine gf Z (fun w10=>(by simp only [A5 w10];rfl)) ?_
 refine gf Z (fun w11=>(J8 (A5 w11) (L8 w11 hv3) Z))<|gp Z (X3 Z) (fun _=>Z) (gf Z (vl Z (gq Z) Z)<|gf Z (fun _=>Z)<|bs hz2 fun v4 hv4 hz2=>gf Z (fun w15=>(F0 (A5 w15) (A5 w15) (L8 w15 hv4) Z)) ?_)
 refine gf Z (fun w16=>(by simp only [A5 w16];rfl)) ?_
 refine gf Z (fun w17=>(J8 (A5 w17) (L8 w17 hv4) Z))<|bs hz2 fun v5 hv5 hz2=> ?_
 refine S4 _ (bo v5) (X3 Z) (fun w18=>⟨_,[(dl A6 v3.Green),(dl A6 v4.Green)],_,_,(by simp only [A5 w18];rfl),Z,A2,Kq _ _ _<|L8 w18 hv5,(.inl Z)⟩) ?_
 refine Ab _ (.d (bo (!v5))) Z (X3 Z) (fun w19=>(by simp only [A5 w19];rfl)) ?_
 refine sd Z (Gi Z Z<|fun hc=>A5<|Bd hc)<|A1<|cc Z hz2 (fun c2 hz2=> ?_)<|fun c2 hz2=> ?_
 refine A3<|A7 (s0:=⟨T [],G []⟩) (G1 Z Z) ?_
 refine B9<|sv Z<|A1<|B4 ?_
 cases hz2
 obtain rfl:=ez2 _ rfl
 refine ⟨nofun,G6 ?_⟩
 rw [bM]at h
 cases h
 exact B0 (.inr Z) (C1 (B1 Z) D4) (.refl _)
 refine B2<|E3<|A7 (s0:=⟨T [(2,(.ptr _ _)),(3,(.ptr _ _)),(5,(.d _))],G [((2,u1),some<|.box 48 _),((3,u1),some<|.box 48 _)]⟩) (G1 Z Z) ?_
 refine B9<|sv Z<|sv Z<|sv Z<|A1<|G9 ?_
 cases hz2
 exact ⟨Z,(),(G1 Z Z)⟩
 refine D8 Z ?_
 cases hz2
 obtain rfl:=ez2 _ rfl
 refine ⟨nofun,D1 Z<|Az ?_⟩
 exact ⟨_,(),Z,(G1 Z Z)⟩
 rintro _ ⟨y1,g1,rfl,q1⟩
 rw [bL]at h
 refine A7 q1<|B6<|sq Z<|sl Z G_hit Z<|sq Z<|sl Z (gq Z) Z (sv Z<|sv Z<|gp Z (J1 Z) (fun _=>Z) (gt Z (vl Z G_hit Z)<|gt Z (fun w22=>(D6<|A5 w22))<|gp Z (J1 Z) (fun _=>Z) (gt Z (vl Z (gq Z) Z)<|gt Z (fun w25=>(D6<|A5 w25))<|gt Z (fun w26=>(J3 (A5 w26) (A5 w26) Z))<|sa Z Z Z<|sv Z<|A1<|B4 ?_)))
 cases h
 exact B0 (.inr Z) (C1 (B1 Z) D4) (.refl _)
def Ar [Lp](p1:Map)(p2:Map)(p3:Int)(p4:Int):Option Bool:=
  cond (p3==1) ((E8 p1.Lanes p4).bind fun v1=>(E8 p2.Lanes p4).bind fun v2=>(Fd v1 v2).bind fun v3=>some v3) (cond (p3==2) ((E8 p1.Zones p4).bind fun v4=>(E8 p2.Zones p4).bind fun v5=>(Fe v4 v5).bind fun v6=>some v6) (cond (p3==3) ((E8 p1.Signals p4).bind fun v7=>(E8 p2.Signals p4).bind fun v8=>(De v7 v8).bind fun v9=>some v9) ((E8 p1.Works p4).bind fun v10=>(E8 p2.Works p4).bind fun v11=>some (v10.Lane_==v11.Lane_&& (v10.From==v11.From&& (v10.To==v11.To&& (v10.Begin==v11.Begin&& (v10.End==v11.End&& (v10.Limit==v11.Limit&&true)))))))))
theorem Tl(p1 p2 p3 p4 r)(h:Ar p1 p2 p3 p4=some r):PCall prog 85 [(.agg (Q8 p1)),(.agg (Q8 p2)),(i64 p3),(i64 p4)] (bo r):=by
 refine C4 (fk func85 ntmps85 m0 (by with_unfolding_all rfl)) (nl Z) ?_
 unfold Ar at h
 refine A7 (s0:=⟨T [(0,(.d _)),(1,(.d _)),(2,(.d _)),(3,(.d _))],G []⟩) (G1 Z Z) ?_
 refine B6<|sm Z<|sn Z Z<|sv Z<|A1<|A3<|B6<|sv Z<|A1<|A8<|B6<|sv Z<|sv Z<|A1<|cc Z h (fun c1 h=> ?_)<|fun c1 h=> ?_
 refine A3<|Q1 Z<|sq Z<|sl Z (gq Z) Z (sv Z<|bs h fun _ hv1 h=>sd Z (F0 Z Z hv1 Z)<|sd Z (C8 Z hv1 Z Z)<|sq Z<|sl Z G_hit Z<|sv Z<|bs h fun _ hv2 h=>sd Z (F0 Z Z hv2 Z)<|sd Z (C8 Z hv2 Z Z)<|bs h fun _ hv3 h=>B8 Z Z A2 (Sf _ _ _ hv3) (.inl Z) (sv Z<|A1<|B4 ?_))
 cases h
 exact B0 (.inr Z) (C1 (B1 Z) D4) (.refl _)
 refine B6<|sv Z<|sv Z<|A1<|cc Z h (fun c2 h=> ?_)<|fun c2 h=> ?_
 refine A3<|Q1 Z<|sq Z<|sl Z (gq Z) Z (sv Z<|bs h fun _ hv4 h=>sd Z (F0 Z Z hv4 Z)<|sd Z (C8 Z hv4 Z Z)<|sq Z<|sl Z G_hit Z<|sv Z<|bs h fun _ hv5 h=>sd Z (F0 Z Z hv5 Z)<|sd Z (C8 Z hv5 Z Z)<|bs h fun _ hv6 h=>B8 Z Z A2 (Sg _ _ _ hv6) (.inl Z) (sv Z<|A1<|B4 ?_))
 cases h
 exact B0 (.inr Z) (C1 (B1 Z) D4) (.refl _)
 refine B6<|sv Z<|sv Z<|A1<|cc Z h (fun c3 h=> ?_)<|fun c3 h=> ?_
 refine A3<|Q1 Z<|sq Z<|sl Z (gq Z) Z (sv Z<|bs h fun _ hv7 h=>sd Z (F0 Z Z hv7 Z)<|sd Z (C8 Z hv7 Z Z)<|sq Z<|sl Z G_hit Z<|sv Z<|bs h fun _ hv8 h=>sd Z (F0 Z Z hv8 Z)<|sd Z (C8 Z hv8 Z Z)<|bs h fun _ hv9 h=>B8 Z Z A2 (Pm _ _ _ hv9) (.inl Z) (sv Z<|A1<|B4 ?_))
 cases h
 exact B0 (.inr Z) (C1 (B1 Z) D4) (.refl _)
 refine B2<|E3<|A3<|Q1 Z<|sq Z<|sl Z (gq Z) Z (sv Z<|bs h fun v10 hv10 h=>sd Z (F0 Z Z hv10 Z)<|sd Z (C8 Z hv10 Z Z)<|sq Z<|sl Z G_hit Z<|sv Z<|bs h fun v11 hv11 h=>sd Z (F0 Z Z hv11 Z)<|sd Z (C8 Z hv11 Z Z)<|A9 (.d (bo (v10.Lane_==v11.Lane_&& (v10.From==v11.From&& (v10.To==v11.To&& (v10.Begin==v11.Begin&& (v10.End==v11.End&& (v10.Limit==v11.Limit&&true)))))))) Z Z (sv Z<|A1<|B4 ?_))
 cases h
 exact B0 (.inr Z) (C1 (B1 Z) D4) (.refl _)
def As [Lp](p1:Map)(p2:Map)(x1:Int)(x2:Int):Option (Stp Int (Sum Unit Bool)):=
  (Gj p1 x1).bind fun v3=>cond (decide (x2<v3)) ((Ar p1 p2 x1 x2).bind fun v4=>cond (!v4) (some (.out (.inr false))) (some (.go (H6 (x2+1))))) (some (.out (.inl ())))
def Gh [Lp](p1:Map)(p2:Map)(x1:Int):Option (Stp Int (Sum Unit Bool)):=
  cond (decide (x1≤4)) ((Gj p1 x1).bind fun v1=>(Gj p2 x1).bind fun v2=>cond (v1 !=v2) (some (.out (.inr false))) (thenS (loop (As p1 p2 x1) 0) (fun _=>some (.go (H6 (x1+1)))) (fun r=>some (.out (.inr r))))) (some (.out (.inl ())))
def Jw [Lp](p1:Map)(p2:Map):Option Bool:=
  thenS (loop (Gh p1 p2) 1) (fun _=>some (p1.Version==p2.Version)) (fun r=>some r)
theorem Yk(p1 p2 r)(h:Jw p1 p2=some r):PCall prog 20 [(.agg (Q8 p1)),(.agg (Q8 p2))] (bo r):=by
 refine C4 (fk func20 ntmps20 m0 (by with_unfolding_all rfl)) (nl Z) ?_
 unfold Jw at h
 refine A7 (s0:=⟨T [(0,(.d _)),(1,(.d _))],G []⟩) (G1 Z Z) ?_
 refine lr<|fun u1 _=>sm Z<|sm Z<|sv Z<|A1<|A3<|B6<|sv Z<|A1<|js h fun z1 hz1 h=>F6 (fun s=> ∃(y1:Unit) (g1:Unit),z1= .inl y1∧Sb ⟨T [(2,(.ptr (2,u1) 0)),(3,(.ptr (3,u1) 0))],G [((2,u1),some<|.box 27 (R3 p1)),((3,u1),some<|.box 27 (R3 p2))]⟩ s) ?_ ?_
 refine A8<|G0 (Gh p1 p2) (fun (x1:Int) (g2:Unit)=>⟨T [(2,(.ptr (2,u1) 0)),(3,(.ptr (3,u1) 0)),(5,(di x1))],G [((2,u1),some<|.box 27 (R3 p1)),((3,u1),some<|.box 27 (R3 p2))]⟩) 1 () _ hz1 (G1 Z Z) ?_
 intro x1 g2 z2 hz2 ez2
 unfold Gh at hz2
 refine A3<|B6<|sv Z<|sv Z<|A1<|cc Z hz2 (fun c1 hz2=> ?_)<|fun c1 hz2=> ?_
 refine B2<|A3<|A8<|A3<|A3<|Q1 Z<|sd Z (B5 Z G_hit Z Z)<|sv Z<|bs hz2 fun _ hv1 hz2=>B8 Z Z A2 (La _ _ _ hv1) (.inl Z) (sd Z (B5 Z (gq Z) Z Z)<|sv Z<|bs hz2 fun _ hv2 hz2=>B8 Z Z A2 (La _ _ _ hv2) (.inl Z) (sv Z<|A1<|cc Z hz2 (fun c2 hz2=> ?_)<|fun c2 hz2=> ?_))
 refine B6<|sv Z<|A1<|B4 ?_
 cases hz2
 obtain rfl:=ez2 _ rfl
 refine ⟨nofun,G6 ?_⟩
 rw [bM]at h
 cases h
 exact B0 (.inr Z) (C1 (B1 Z) D4) (.refl _)
 refine B2<|B6<|sv Z<|A1<|js hz2 fun z3 hz3 hz2=>F6 (fun s=> ∃(y2:Unit) (g3:Unit),z3= .inl y2∧Sb ⟨T [(2,(.ptr (2,u1) 0)),(3,(.ptr (3,u1) 0)),(5,(di x1))],G [((2,u1),some<|.box 27 (R3 p1)),((3,u1),some<|.box 27 (R3 p2))]⟩ s) ?_ ?_
 refine A8<|G0 (As p1 p2 x1) (fun (x2:Int) (g4:Unit)=>⟨T [(2,(.ptr (2,u1) 0)),(3,(.ptr (3,u1) 0)),(5,(di x1)),(6,(di x2))],G [((2,u1),some<|.box 27 (R3 p1)),((3,u1),some<|.box 27 (R3 p2))]⟩) 0 () _ hz3 (G1 Z Z) ?_
 intro x2 g4 z4 hz4 ez4
 unfold As at hz4
 refine A3<|B6<|sv Z<|sd Z (B5 Z G_hit Z Z)<|sv Z<|bs hz4 fun _ hv3 hz4=>B8 Z Z A2 (La _ _ _ hv3) (.inl Z) (sv Z<|A1<|cc Z hz4 (fun c3 hz4=> ?_)<|fun c3 hz4=> ?_)
 refine B2<|A3<|A8<|B6<|sd Z (B5 Z G_hit Z Z)<|sd Z (B5 Z (gq Z) Z Z)<|sv Z<|sv Z<|bs hz4 fun v4 hv4 hz4=>B8 Z Z A2 (Tl _ _ _ _ _ hv4) (.inl Z) (A9 (.d (bo (!v4))) Z Z (A1<|cc Z hz4 (fun c4 hz4=> ?_)<|fun c4 hz4=> ?_))
 refine B6<|sv Z<|A1<|B4 ?_
 cases hz4
 obtain rfl:=ez4 _ rfl
 refine ⟨nofun,G6 ?_⟩
 rw [bM]at hz2
 cases hz2
 obtain rfl:=ez2 _ rfl
 refine ⟨nofun,G6 ?_⟩
 rw [bM]at h
 cases h
 exact B0 (.inr Z) (C1 (B1 Z) D4) (.refl _)
 refine B2<|E3<|B9<|sv Z<|sv Z<|sv Z<|A1<|G9 ?_
 cases hz4
 exact ⟨Z,(),(G1 Z Z)⟩
 refine D8 Z ?_
 cases hz4
 obtain rfl:=ez4 _ rfl
 refine ⟨nofun,D1 Z<|Az ?_⟩
 exact ⟨_,(),Z,(G1 Z Z)⟩
 rintro _ ⟨y2,g3,rfl,q1⟩
 rw [bL]at hz2
 refine E3<|A7 q1<|B9<|sv Z<|sv Z<|sv Z<|A1<|G9 ?_
 cases hz2
 exact ⟨Z,(),(G1 Z Z)⟩
 refine D8 Z ?_
 cases hz2
 obtain rfl:=ez2 _ rfl
 refine ⟨nofun,D1 Z<|Az ?_⟩
 exact ⟨_,(),Z,(G1 Z Z)⟩
 rintro _ ⟨y1,g1,rfl,q2⟩
 rw [bL]at h
 refine A7 q2<|B6<|sq Z<|sl Z G_hit Z<|sq Z<|sl Z (gq Z) Z (sv Z<|sv Z<|A1<|B4 ?_)
 cases h
 exact B0 (.inr Z) (C1 (B1 Z) D4) (.refl _)
def U9 (p1:(List Int))(p2:Int)(x1:Int):Option (Stp Int (Sum Unit Int)):=
  cond (decide (x1< (p1.length:Int))) ((E8 p1 x1).bind fun v1=>cond (p2==v1) (some (.out (.inr x1))) (some (.go (H6 (x1+1))))) (some (.out (.inl ())))
def S6 [Lp](p1:(List Int))(p2:Int):Option Int:=
  thenS (loop (U9 p1 p2) 0) (fun _=>some (-1)) (fun r=>some r)
theorem Ln(p1 p2 r)(h:S6 p1 p2=some r):PCall prog 224 [(.list (List.map A6 p1)),(i64 p2)] (i64 r):=by
 refine C4 (fk func224 ntmps224 m0 (by with_unfolding_all rfl)) (nl Z) ?_
 unfold S6 at h
 refine A7 (s0:=⟨T [(0,(.d _)),(1,(.d _))],G []⟩) (G1 Z Z) ?_
 refine B6<|sv Z<|A1<|A3<|B6<|sv Z<|sd Z (D6 Z)<|sv Z<|A1<|js h fun z1 hz1 h=>F6 (fun s=> ∃(y1:Unit) (g1:Unit),z1= .inl y1∧Sb ⟨T [],G []⟩ s) ?_ ?_
 refine A8<|G0 (U9 p1 p2) (fun (x1:Int) (g2:Unit)=>⟨T [(0,(dl A6 p1)),(1,(di p2)),(7,(di (p1.length:Int))),(8,(di x1))],G []⟩) 0 () _ hz1 (G1 Z Z) ?_
 intro x1 g2 z2 hz2 ez2
 unfold U9 at hz2
 refine B6<|sv Z<|A1<|A3<|cc Z hz2 (fun c1 hz2=> ?_)<|fun c1 hz2=> ?_
 refine B2<|A3<|A8<|B6<|sv Z<|sv Z<|A1<|B6<|sv Z<|sv Z<|sv Z<|bs hz2 fun _ hv1 hz2=>sd Z (F0 Z Z hv1 Z)<|sd Z (J8 Z hv1 Z)<|sv Z<|A1<|cc Z hz2 (fun c2 hz2=> ?_)<|fun c2 hz2=> ?_
 refine B6<|sv Z<|sv Z<|A1<|B4 ?_
 cases hz2
 obtain rfl:=ez2 _ rfl
 refine ⟨nofun,G6 ?_⟩
 rw [bM]at h
 cases h
 exact B0 (.inr Z) (C1 (B1 Z) D4) (.refl _)
 refine B2<|E3<|B9<|sv Z<|sv Z<|A1<|G9 ?_
 cases hz2
 exact ⟨Z,(),(G1 Z Z)⟩
 refine D8 Z ?_
 cases hz2
 obtain rfl:=ez2 _ rfl
 refine ⟨nofun,D1 Z<|Az ?_⟩
 exact ⟨_,(),Z,(G1 Z Z)⟩
 rintro _ ⟨y1,g1,rfl,q1⟩
 rw [bL]at h
 refine A7 q1<|B6<|sv Z<|A1<|B4 ?_
 cases h
 exact B0 (.inr Z) (C1 (B1 Z) D4) (.refl _)
def I5 [Lp](p1:(List Int))(p2:Int):Option Bool:=
  (S6 p1 p2).bind fun v1=>some (decide (v1≥0))
theorem W1(p1 p2 r)(h:I5 p1 p2=some r):PCall prog 136 [(.list (List.map A6 p1)),(i64 p2)] (bo r):=by
 refine C4 (fk func136 ntmps136 m0 (by with_unfolding_all rfl)) (nl Z) ?_
 unfold I5 at h
 refine A7 (s0:=⟨T [(0,(.d _)),(1,(.d _))],G []⟩) (G1 Z Z) ?_
 refine B6<|sv Z<|A1<|B6<|sv Z<|sv Z<|bs h fun _ hv1 h=>B8 Z Z A2 (Ln _ _ _ hv1) (.inl Z) (sv Z<|sv Z<|A1<|B4 ?_)
 cases h
 exact B0 (.inr Z) (C1 (B1 Z) D4) (.refl _)
def W8 [Lp](p1:Map)(p2:Int)(x1:((List Int)×Int)):Option (Stp ((List Int)×Int) (List Int)):=
  cond (decide (x1.2< (p1.Lanes.length:Int))) ((E8 p1.Lanes x1.2).bind fun v1=>(I5 v1.Next p2).bind fun v2=>cond v2 ((X6 x1.1 [x1.2]).bind fun v3=>some (.go (v3,(H6 (x1.2+1))))) (some (.go (x1.1,(H6 (x1.2+1)))))) (some (.out x1.1))
def Y8 [Lp](p1:Map)(p2:Int):Option (List Int):=
  (loop (W8 p1 p2) ([],0)).bind fun y1=>some y1
theorem Iw(p1 p2 r)(h:Y8 p1 p2=some r):PCall prog 135 [(.agg (Q8 p1)),(i64 p2)] (.list (List.map A6 r)):=by
 refine C4 (fk func135 ntmps135 (fun r=>if r==6 then [1002]else []) (by with_unfolding_all rfl)) (nl Z) ?_
 unfold Y8 at h
 refine A7 (s0:=⟨T [(0,(.d _)),(1,(.d _))],G []⟩) (G1 Z Z) ?_
 refine B6<|sm Z<|sv Z<|A1<|B6<|sv Z<|A1<|A3<|B6<|sq Z<|sl Z G_hit Z<|sd Z (D6 Z)<|sv Z<|A1<|bs h fun y1 hy1 h=>F6 (fun s=> ∃g1:Nat,Sb ⟨T [(5,(oS y1 (23,g1)))],G [((23,g1),oB 3 1 A6 y1)]⟩ s) ?_ ?_
 refine A8<|G0 (W8 p1 p2) (fun (x1:((List Int)×Int)) (g2:Nat)=>⟨T [(1,(di p2)),(5,(oS x1.1 (23,g2))),(9,(dl G5 p1.Lanes)),(10,(di (p1.Lanes.length:Int))),(11,(di x1.2))],G [((23,g2),oB 3 1 A6 x1.1)]⟩) ([],0) 0 _ hy1 (C0 (V4 Z)<|M4 trivial) ?_
 intro x1 g2 z1 hz1 ez1
 unfold W8 at hz1
 refine B6<|sv Z<|A1<|A3<|cc Z hz1 (fun c1 hz1=> ?_)<|fun c1 hz1=> ?_
 refine B2<|A3<|A8<|B6<|sv Z<|bs hz1 fun v1 hv1 hz1=>sd Z (F0 Z Z hv1 Z)<|sd Z (C8 Z hv1 Z Z)<|sm Z<|sv Z<|Aa Z G_hit (In v1) Z (A1<|B6<|sq Z<|sl Z G_hit Z<|sv Z<|bs hz1 fun _ hv2 hz1=>B8 Z Z A2 (W1 _ _ _ hv2) (.inl Z) (A1<|cc Z hz1 (fun c2 hz1=> ?_)<|fun c2 hz1=> ?_))
 refine K8 fun u7 _=>A9 (oS x1.1 (23,g2)) Z Z (sv Z<|A9 (dl A6 [x1.2]) Z Z (bs hz1 fun _ hv3 hz1=>H9 A6 (23,g2) x1.1 x1.2 [] _ (E4<|fun _=>Z) Z (gq Z) hv3 (ss Z<|A1<|E3<|A7 (s0:=⟨T [(1,(.d _)),(5,(.sl _)),(9,(.d _)),(10,(.d _)),(11,(.d _))],G [((23,u7),some _)]⟩) (G1 Z Z) ?_)))
 refine B9<|sv Z<|sv Z<|A1<|G9 ?_
 cases hz1
 exact ⟨Z,u7,(C0 ⟨.of Z,(.of (Q7<|L4 hv3).symm), .of Z, .of Z, .of Z,trivial⟩<|H7 G_hit trivial)⟩
 refine B2<|E3<|B9<|sv Z<|sv Z<|A1<|G9 ?_
 cases hz1
 exact ⟨Z,g2,(C0 (V4 Z)<|C7 (gq Z) trivial)⟩
 refine D8 Z ?_
 cases hz1
 obtain rfl:=ez1 _ rfl
 refine ⟨nofun,D1 Z<|Az ?_⟩
 exact ⟨g2,(C0 ⟨.of Z,trivial⟩<|C7 G_hit trivial)⟩
 rintro _ ⟨g1,q1⟩
 refine A7 q1<|B6<|A9 (oS y1 (23,g1)) Z Z (A9 (oS y1 (23,g1)) Z Z (A1<|B4 ?_))
 cases h
 exact B0 (.inr Z) (C1 (B1 Z)<|Cx G_hit) Cw
def Hp (p1:Part)(p2:Int):Option Bool:=
  some (p1.Lane_==p2)
theorem Sh(p1 p2 r)(h:Hp p1 p2=some r):PCall prog 229 [(.agg (H3 p1)),(.bp [(i64 p2)] 0)] (bo r):=by
 refine C4 (fk func229 ntmps229 m0 (by with_unfolding_all rfl)) (nl Z) ?_
 unfold Hp at h
 refine A7 (s0:=⟨T [(0,(.d _)),(1,(.d _))],G []⟩) (G1 Z Z) ?_
 refine B6<|sm Z<|sv Z<|A1<|B6<|sq Z<|sl Z G_hit Z<|sv Z<|sv Z<|sv Z<|A1<|B4 ?_
 cases h
 exact B0 (.inr Z) (C1 (B1 Z) D4) (.refl _)
def I8 (p1:(List Part))(p2:Int)(x1:Int):Option (Stp Int (Sum Unit Int)):=
  cond (decide (x1< (p1.length:Int))) ((E8 p1 x1).bind fun v1=>(Hp v1 p2).bind fun v2=>cond v2 (some (.out (.inr x1))) (some (.go (H6 (x1+1))))) (some (.out (.inl ())))
def G4 [Lp](p1:(List Part))(p2:Int):Option Int:=
  thenS (loop (I8 p1 p2) 0) (fun _=>some (-1)) (fun r=>some r)
theorem Dh(p1 p2 r)(h:G4 p1 p2=some r):PCall prog 228 [(.list (List.map H3 p1)),(.fn (.func 229) [] [(.bp [(i64 p2)] 0)])] (i64 r):=by
 refine C4 (fk func228 ntmps228 m0 (by with_unfolding_all rfl)) (nl Z) ?_
 unfold G4 at h
 refine A7 (s0:=⟨T [(0,(.d _)),(1,(.d _))],G []⟩) (G1 Z Z) ?_
 refine B6<|sv Z<|A1<|A3<|B6<|sv Z<|sd Z (D6 Z)<|sv Z<|A1<|js h fun z1 hz1 h=>F6 (fun s=> ∃(y1:Unit) (g1:Unit),z1= .inl y1∧Sb ⟨T [],G []⟩ s) ?_ ?_
 refine A8<|G0 (I8 p1 p2) (fun (x1:Int) (g2:Unit)=>⟨T [(0,(dl H3 p1)),(1,(.d (.fn (.func 229) [] [(.bp [(i64 p2)] 0)]))),(7,(di (p1.length:Int))),(8,(di x1))],G []⟩) 0 () _ hz1 (G1 Z Z) ?_
 intro x1 g2 z2 hz2 ez2
 unfold I8 at hz2
 refine B6<|sv Z<|A1<|A3<|cc Z hz2 (fun c1 hz2=> ?_)<|fun c1 hz2=> ?_
 refine B2<|A3<|A8<|B6<|sv Z<|sv Z<|A1<|B6<|sv Z<|sv Z<|sv Z<|bs hz2 fun _ hv1 hz2=>sd Z (F0 Z Z hv1 Z)<|sd Z (C8 Z hv1 Z Z)<|bs hz2 fun _ hv2 hz2=>B8 Z Z A2 (Sh _ _ _ hv2) (.inl Z) (A1<|cc Z hz2 (fun c2 hz2=> ?_)<|fun c2 hz2=> ?_)
 refine B6<|sv Z<|sv Z<|A1<|B4 ?_
 cases hz2
 obtain rfl:=ez2 _ rfl
 refine ⟨nofun,G6 ?_⟩
 rw [bM]at h
 cases h
 exact B0 (.inr Z) (C1 (B1 Z) D4) (.refl _)
 refine B2<|E3<|B9<|sv Z<|sv Z<|A1<|G9 ?_
 cases hz2
 exact ⟨Z,(),(G1 Z Z)⟩
 refine D8 Z ?_
 cases hz2
 obtain rfl:=ez2 _ rfl
 refine ⟨nofun,D1 Z<|Az ?_⟩
 exact ⟨_,(),Z,(G1 Z Z)⟩
 rintro _ ⟨y1,g1,rfl,q1⟩
 rw [bL]at h
 refine A7 q1<|B6<|sv Z<|A1<|B4 ?_
 cases h
 exact B0 (.inr Z) (C1 (B1 Z) D4) (.refl _)
def Bf [Lp](p1:Zone)(p2:Int):Option (Part×Bool):=
  (G4 p1.Parts p2).bind fun v1=>cond (decide (v1<0)) (some ((Part.mk 0 0 0 0),false)) ((E8 p1.Parts v1).bind fun v2=>some (v2,true))
theorem Ig(p1 p2 r)(h:Bf p1 p2=some r):PCall prog 147 [(.agg [(.list (List.map H3 p1.Parts)),(i64 p1.Signal_)]),(i64 p2)] (.tup [(.agg (H3 r.1)),(bo r.2)]):=by
 refine C4 (fk func147 ntmps147 m0 (by with_unfolding_all rfl)) (nl Z) ?_
 unfold Bf at h
 refine A7 (s0:=⟨T [(0,(.d _)),(1,(.d _))],G []⟩) (G1 Z Z) ?_
 refine B6<|sm Z<|sn Z Z<|sm Z<|sv Z<|A1<|B6<|sq Z<|sl Z (gq Z) Z (A9 (.fn _ _ _) Z Z (bs h fun _ hv1 h=>B8 Z (rD<|J5 (Zh M3<|J5 (Kx (gq Z)<|rD M3) M3) M3) A2 (Dh _ _ _ hv1) (.inr Z) (sv Z<|A1<|A3<|B6<|sv Z<|sv Z<|A1<|cc Z h (fun c1 h=> ?_)<|fun c1 h=> ?_)))
 refine B6<|sv Z<|Aa Z G_hit (zs 4) Z (sv Z<|A1<|B4 ?_)
 cases h
 exact B0 (.inr Z) (Kn (I3 Z G_hit (nl Z) Z) (B1 Z) D4 D4) (.refl _)
 refine B2<|B6<|sq Z<|sl Z (gq Z) Z (sv Z<|bs h fun v2 hv2 h=>sd Z (F0 Z Z hv2 Z)<|sd Z (C8 Z hv2 Z Z)<|Aa Z G_hit (Pr v2) Z (sv Z<|A1<|B4 ?_))
 cases h
 exact B0 (.inr Z) (Kn (I3 Z G_hit (nl Z) Z) (B1 Z) D4 D4) (.refl _)
def W9 [Lp](p1:Map)(p2:Zone)(v2:(List Int))(x1:Int):Option (Stp Int (Sum Unit Bool)):=
  cond (decide (x1< (v2.length:Int))) ((E8 v2 x1).bind fun v3=>(Bf p2 v3).bind fun v4=>((cond (!(!v4.2)) (V6 p1 v3) (some default))).bind fun v5=>cond ((!v4.2)||(v4.1.To !=v5)) (some (.out (.inr false))) (some (.go (H6 (x1+1))))) (some (.out (.inl ())))
def An [Lp](p1:Map)(p2:Zone)(p3:Int):Option Bool:=
  (Bf p2 p3).bind fun v1=>cond ((!v1.2)||(v1.1.From !=0)) (some false) ((Y8 p1 p3).bind fun v2=>thenS (loop (W9 p1 p2 v2) 0) (fun _=>some true) (fun r=>some r))
theorem My(p1 p2 p3 r)(h:An p1 p2 p3=some r):PCall prog 181 [(.agg (Q8 p1)),(.agg [(.list (List.map H3 p2.Parts)),(i64 p2.Signal_)]),(i64 p3)] (bo r):=by
 refine C4 (fk func181 ntmps181 m0 (by with_unfolding_all rfl)) (nl Z) ?_
 unfold An at h
 refine A7 (s0:=⟨T [(0,(.d _)),(1,(.d _)),(2,(.d _))],G []⟩) (G1 Z Z) ?_
 refine lr<|fun u1 _=>sm Z<|sm Z<|sv Z<|A1<|B6<|sd Z (B5 Z G_hit Z Z)<|sv Z<|bs h fun v1 hv1 h=>B8 Z Z A2 (Ig _ _ _ hv1) (.inl Z) (sv Z<|sv Z<|sv Z<|sm Z<|Aa Z G_hit (Pr v1.1) Z (sv Z<|A1<|A3<|B6<|sv Z<|A9 (.d (bo (!v1.2))) Z Z (sv Z<|gp Z (X3 Z) (fun _=>Z) (gf Z (vl Z G_hit Z)<|gf Z (vb Z Z Z)<|sd Z (Gi Z Z<|fun hc=>A5<|Bd hc)<|A1<|cc Z h (fun c1 h=> ?_)<|fun c1 h=> ?_))))
 refine A3<|A7 (s0:=⟨T [],G []⟩) (G1 Z Z) ?_
 refine B9<|sv Z<|A1<|B4 ?_
 cases h
 exact B0 (.inr Z) (C1 (B1 Z) D4) (.refl _)
 refine B2<|A3<|A3<|A7 (s0:=⟨T [(2,(.d _)),(3,(.ptr _ _)),(4,(.ptr _ _))],G [((3,u1),some<|.box 27 _),((4,u1),some<|.box 45 _)]⟩) (G1 Z Z) ?_
 refine B9<|sd Z (B5 Z G_hit Z Z)<|sv Z<|bs h fun v2 hv2 h=>B8 Z Z A2 (Iw _ _ _ hv2) (.inl Z) (sd Z (D6 Z)<|sv Z<|A1<|js h fun z1 hz1 h=>F6 (fun s=> ∃(y1:Unit) (g1:Unit),z1= .inl y1∧Sb ⟨T [],G []⟩ s) ?_ ?_)
 refine A8<|G0 (W9 p1 p2 v2) (fun (x1:Int) (g2:Unit)=>⟨T [(3,(.ptr (3,u1) 0)),(4,(.ptr (4,u1) 0)),(28,(dl A6 v2)),(29,(di (v2.length:Int))),(30,(di x1))],G [((3,u1),some<|.box 27 (R3 p1)),((4,u1),some<|.box 45 [(dl H3 p2.Parts),(di p2.Signal_)])]⟩) 0 () _ hz1 (G1 Z Z) ?_
 intro x1 g2 z2 hz2 ez2
 unfold W9 at hz2
 refine B6<|sv Z<|A1<|A3<|cc Z hz2 (fun c2 hz2=> ?_)<|fun c2 hz2=> ?_
 refine B2<|A3<|A8<|B6<|bs hz2 fun v3 hv3 hz2=>sd Z (F0 Z Z hv3 Z)<|sd Z (J8 Z hv3 Z)<|sv Z<|A1<|B6<|sd Z (B5 Z (gq Z) Z Z)<|sv Z<|bs hz2 fun v4 hv4 hz2=>B8 Z Z A2 (Ig _ _ _ hv4) (.inl Z) (sv Z<|sv Z<|sv Z<|sm Z<|Aa Z G_hit (Pr v4.1) Z (sv Z<|A1<|A3<|Q1 Z<|sv Z<|A9 (.d (bo (!v4.2))) Z Z (sv Z<|gp Z (X3 Z) (fun _=>Z) (gf Z (vl Z G_hit Z)<|gf Z (fun _=>(B5 Z (gq Z) Z Z))<|gf Z (fun _=>Z)<|bs hz2 fun v5 hv5 hz2=> ?_))))
 refine S4 _ (i64 v5) (X3 Z) (fun w8=>⟨_,[(.d (.agg (Q8 p1))),(di v3)],_,_,(by simp only [A5 w8];rfl),Z,A2,Eg _ _ _<|L8 w8 hv5,(.inl Z)⟩) ?_
 refine gf Z (fun w9=>(J3 (A5 w9) (A5 w9) Z))<|sd Z (Gi Z Z<|fun hc=>A5<|Bd hc)<|A1<|cc Z hz2 (fun c3 hz2=> ?_)<|fun c3 hz2=> ?_
 refine A3<|A7 (s0:=⟨T [],G []⟩) (G1 Z Z) ?_
 refine B9<|sv Z<|A1<|B4 ?_
 cases hz2
 obtain rfl:=ez2 _ rfl
 refine ⟨nofun,G6 ?_⟩
 rw [bM]at h
 cases h
 exact B0 (.inr Z) (C1 (B1 Z) D4) (.refl _)
 refine B2<|E3<|A7 (s0:=⟨T [(3,(.ptr _ _)),(4,(.ptr _ _)),(28,(.d _)),(29,(.d _)),(30,(.d _))],G [((3,u1),some<|.box 27 _),((4,u1),some<|.box 45 _)]⟩) (G1 Z Z) ?_
 refine B9<|sv Z<|sv Z<|A1<|G9 ?_
 cases hz2
 exact ⟨Z,(),(G1 Z Z)⟩
 refine D8 Z ?_
 cases hz2
 obtain rfl:=ez2 _ rfl
 refine ⟨nofun,D1 Z<|Az ?_⟩
 exact ⟨_,(),Z,(G1 Z Z)⟩
 rintro _ ⟨y1,g1,rfl,q1⟩
 rw [bL]at h
 refine A7 q1<|B6<|sv Z<|A1<|B4 ?_
 cases h
 exact B0 (.inr Z) (C1 (B1 Z) D4) (.refl _)
def Bg (x1:(Int× (Int×Int×Int×Int×Int×Int×Int×Int×Int×Int×Int×Int)))(v1:Lane)(x2:(Int× (Int×Int×Int×Int×Int×Int×Int×Int×Int×Int×Int×Int))):Option (Stp (Int× (Int×Int×Int×Int×Int×Int×Int×Int×Int×Int×Int×Int)) (Int×Int×Int×Int×Int×Int×Int×Int×Int×Int×Int×Int)):=
  cond (decide (x2.1< (v1.Next.length:Int))) ((E8 v1.Next x2.1).bind fun v2=>(E8 ([x2.2.1,x2.2.2.1,x2.2.2.2.1,x2.2.2.2.2.1,x2.2.2.2.2.2.1,x2.2.2.2.2.2.2.1,x2.2.2.2.2.2.2.2.1,x2.2.2.2.2.2.2.2.2.1,x2.2.2.2.2.2.2.2.2.2.1,x2.2.2.2.2.2.2.2.2.2.2.1,x2.2.2.2.2.2.2.2.2.2.2.2.1,x2.2.2.2.2.2.2.2.2.2.2.2.2]:List Int) x1.1).bind fun v3=>(E8 ([x2.2.1,x2.2.2.1,x2.2.2.2.1,x2.2.2.2.2.1,x2.2.2.2.2.2.1,x2.2.2.2.2.2.2.1,x2.2.2.2.2.2.2.2.1,x2.2.2.2.2.2.2.2.2.1,x2.2.2.2.2.2.2.2.2.2.1,x2.2.2.2.2.2.2.2.2.2.2.1,x2.2.2.2.2.2.2.2.2.2.2.2.1,x2.2.2.2.2.2.2.2.2.2.2.2.2]:List Int) v2).bind fun v4=>(NN .u32 1 (IntKind.wrap .u64 v2)).bind fun v5=>(E8 ([x2.2.1,x2.2.2.1,x2.2.2.2.1,x2.2.2.2.2.1,x2.2.2.2.2.2.1,x2.2.2.2.2.2.2.1,x2.2.2.2.2.2.2.2.1,x2.2.2.2.2.2.2.2.2.1,x2.2.2.2.2.2.2.2.2.2.1,x2.2.2.2.2.2.2.2.2.2.2.1,x2.2.2.2.2.2.2.2.2.2.2.2.1,x2.2.2.2.2.2.2.2.2.2.2.2.2]:List Int) x1.1).bind fun v6=>(JJ ([x2.2.1,x2.2.2.1,x2.2.2.2.1,x2.2.2.2.2.1,x2.2.2.2.2.2.1,x2.2.2.2.2.2.2.1,x2.2.2.2.2.2.2.2.1,x2.2.2.2.2.2.2.2.2.1,x2.2.2.2.2.2.2.2.2.2.1,x2.2.2.2.2.2.2.2.2.2.2.1,x2.2.2.2.2.2.2.2.2.2.2.2.1,x2.2.2.2.2.2.2.2.2.2.2.2.2]:List Int) x1.1 (IntKind.wrap .u32 (((BitVec.ofInt (IntKind.bits .u32) v3|||(BitVec.ofInt (IntKind.bits .u32) (IntKind.wrap .u32 (((BitVec.ofInt (IntKind.bits .u32) v4|||(BitVec.ofInt (IntKind.bits .u32) v5)).toNat:Nat))))).toNat:Nat)))).bind fun v7=>some (.go ((H6 (x2.1+1)),((v7.getD 0 0),(v7.getD 1 0),(v7.getD 2 0),(v7.getD 3 0),(v7.getD 4 0),(v7.getD 5 0),(v7.getD 6 0),(v7.getD 7 0),(v7.getD 8 0),(v7.getD 9 0),(v7.getD 10 0),(v7.getD 11 0))))) (some (.out x2.2))
def Z8 [Lp](p1:Map)(x1:(Int× (Int×Int×Int×Int×Int×Int×Int×Int×Int×Int×Int×Int))):Option (Stp (Int× (Int×Int×Int×Int×Int×Int×Int×Int×Int×Int×Int×Int)) (Int×Int×Int×Int×Int×Int×Int×Int×Int×Int×Int×Int)):=
  cond (decide (x1.1≥0)) ((E8 p1.Lanes x1.1).bind fun v1=>(loop (Bg x1 v1) (0,x1.2)).bind fun y2=>some (.go ((H6 (x1.1 - 1)),y2))) (some (.out x1.2))
def Dk [Lp](p1:Map):Option (Int×Int×Int×Int×Int×Int×Int×Int×Int×Int×Int×Int):=
  (loop (Z8 p1) ((H6 ((p1.Lanes.length:Int) - 1)),(0,0,0,0,0,0,0,0,0,0,0,0))).bind fun y1=>some y1
theorem Xe(p1 r)(h:Dk p1=some r):PCall prog 244 [(.agg (Q8 p1))] (.agg [(.v (.int .u32 r.1)),(.v (.int .u32 r.2.1)),(.v (.int .u32 r.2.2.1)),(.v (.int .u32 r.2.2.2.1)),(.v (.int .u32 r.2.2.2.2.1)),(.v (.int .u32 r.2.2.2.2.2.1)),(.v (.int .u32 r.2.2.2.2.2.2.1)),(.v (.int .u32 r.2.2.2.2.2.2.2.1)),(.v (.int .u32 r.2.2.2.2.2.2.2.2.1)),(.v (.int .u32 r.2.2.2.2.2.2.2.2.2.1)),(.v (.int .u32 r.2.2.2.2.2.2.2.2.2.2.1)),(.v (.int .u32 r.2.2.2.2.2.2.2.2.2.2.2))]):=by
 refine C4 (fk func244 ntmps244 m0 (by with_unfolding_all rfl)) (nl Z) ?_
 unfold Dk at h
 refine A7 (s0:=⟨T [(0,(.d _))],G []⟩) (G1 Z Z) ?_
 refine lr<|fun u1 _=>sm Z<|sm Z<|A1<|lr<|fun u2 _=>sm Z<|A1<|A3<|B6<|sq Z<|sl Z (gq Z) Z (sd Z (D6 Z)<|sv Z<|sv Z<|A1<|bs h fun y1 hy1 h=>F6 (fun s=> ∃g1:Unit,Sb ⟨T [(2,(.ptr (2,u1) 0)),(3,(.ptr (3,u2) 0))],G [((2,u1),some<|.box 267 [(.d (.v (.int .u32 0))),(.d (.v (.int .u32 0))),(.d (.v (.int .u32 0))),(.d (.v (.int .u32 0))),(.d (.v (.int .u32 0))),(.d (.v (.int .u32 0))),(.d (.v (.int .u32 0))),(.d (.v (.int .u32 0))),(.d (.v (.int .u32 0))),(.d (.v (.int .u32 0))),(.d (.v (.int .u32 0))),(.d (.v (.int .u32 0)))]),((3,u2),some<|.box 267 [(.d (.v (.int .u32 y1.1))),(.d (.v (.int .u32 y1.2.1))),(.d (.v (.int .u32 y1.2.2.1))),(.d (.v (.int .u32 y1.2.2.2.1))),(.d (.v (.int .u32 y1.2.2.2.2.1))),(.d (.v (.int .u32 y1.2.2.2.2.2.1))),(.d (.v (.int .u32 y1.2.2.2.2.2.2.1))),(.d (.v (.int .u32 y1.2.2.2.2.2.2.2.1))),(.d (.v (.int .u32 y1.2.2.2.2.2.2.2.2.1))),(.d (.v (.int .u32 y1.2.2.2.2.2.2.2.2.2.1))),(.d (.v (.int .u32 y1.2.2.2.2.2.2.2.2.2.2.1))),(.d (.v (.int .u32 y1.2.2.2.2.2.2.2.2.2.2.2)))])]⟩ s) ?_ ?_)
 refine A8<|G0 (Z8 p1) (fun (x1:(Int× (Int×Int×Int×Int×Int×Int×Int×Int×Int×Int×Int×Int))) (g2:Unit)=>⟨T [(1,(.ptr (1,u1) 0)),(2,(.ptr (2,u1) 0)),(3,(.ptr (3,u2) 0)),(4,(di x1.1))],G [((1,u1),some<|.box 27 (R3 p1)),((2,u1),some<|.box 267 [(.d (.v (.int .u32 0))),(.d (.v (.int .u32 0))),(.d (.v (.int .u32 0))),(.d (.v (.int .u32 0))),(.d (.v (.int .u32 0))),(.d (.v (.int .u32 0))),(.d (.v (.int .u32 0))),(.d (.v (.int .u32 0))),(.d (.v (.int .u32 0))),(.d (.v (.int .u32 0))),(.d (.v (.int .u32 0))),(.d (.v (.int .u32 0)))]),((3,u2),some<|.box 267 [(.d (.v (.int .u32 x1.2.1))),(.d (.v (.int .u32 x1.2.2.1))),(.d (.v (.int .u32 x1.2.2.2.1))),(.d (.v (.int .u32 x1.2.2.2.2.1))),(.d (.v (.int .u32 x1.2.2.2.2.2.1))),(.d (.v (.int .u32 x1.2.2.2.2.2.2.1))),(.d (.v (.int .u32 x1.2.2.2.2.2.2.2.1))),(.d (.v (.int .u32 x1.2.2.2.2.2.2.2.2.1))),(.d (.v (.int .u32 x1.2.2.2.2.2.2.2.2.2.1))),(.d (.v (.int .u32 x1.2.2.2.2.2.2.2.2.2.2.1))),(.d (.v (.int .u32 x1.2.2.2.2.2.2.2.2.2.2.2.1))),(.d (.v (.int .u32 x1.2.2.2.2.2.2.2.2.2.2.2.2)))])]⟩) ((H6 ((p1.Lanes.length:Int) - 1)),(0,0,0,0,0,0,0,0,0,0,0,0)) () _ hy1 (G1 Z Z) ?_
 intro x1 g2 z1 hz1 ez1
 unfold Z8 at hz1
 refine A3<|B6<|sv Z<|sv Z<|A1<|cc Z hz1 (fun c1 hz1=> ?_)<|fun c1 hz1=> ?_
 refine B2<|A3<|A8<|B6<|sq Z<|sl Z G_hit Z<|sv Z<|bs hz1 fun v1 hv1 hz1=>sd Z (F0 Z Z hv1 Z)<|sv Z<|sd Z (J8 Z hv1 Z)<|sd Z (D6 Z)<|sv Z<|A1<|bs hz1 fun y2 hy2 hz1=>F6 (fun s=> ∃g3:Unit,Sb ⟨T [(1,(.ptr (1,u1) 0)),(2,(.ptr (2,u1) 0)),(3,(.ptr (3,u2) 0)),(4,(di x1.1))],G [((1,u1),some<|.box 27 (R3 p1)),((2,u1),some<|.box 267 [(.d (.v (.int .u32 0))),(.d (.v (.int .u32 0))),(.d (.v (.int .u32 0))),(.d (.v (.int .u32 0))),(.d (.v (.int .u32 0))),(.d (.v (.int .u32 0))),(.d (.v (.int .u32 0))),(.d (.v (.int .u32 0))),(.d (.v (.int .u32 0))),(.d (.v (.int .u32 0))),(.d (.v (.int .u32 0))),(.d (.v (.int .u32 0)))]),((3,u2),some<|.box 267 [(.d (.v (.int .u32 y2.1))),(.d (.v (.int .u32 y2.2.1))),(.d (.v (.int .u32 y2.2.2.1))),(.d (.v (.int .u32 y2.2.2.2.1))),(.d (.v (.int .u32 y2.2.2.2.2.1))),(.d (.v (.int .u32 y2.2.2.2.2.2.1))),(.d (.v (.int .u32 y2.2.2.2.2.2.2.1))),(.d (.v (.int .u32 y2.2.2.2.2.2.2.2.1))),(.d (.v (.int .u32 y2.2.2.2.2.2.2.2.2.1))),(.d (.v (.int .u32 y2.2.2.2.2.2.2.2.2.2.1))),(.d (.v (.int .u32 y2.2.2.2.2.2.2.2.2.2.2.1))),(.d (.v (.int .u32 y2.2.2.2.2.2.2.2.2.2.2.2)))])]⟩ s) ?_ ?_
 refine A8<|G0 (Bg x1 v1) (fun (x2:(Int× (Int×Int×Int×Int×Int×Int×Int×Int×Int×Int×Int×Int))) (g4:Unit)=>⟨T [(1,(.ptr (1,u1) 0)),(2,(.ptr (2,u1) 0)),(3,(.ptr (3,u2) 0)),(4,(di x1.1)),(20,(dl A6 v1.Next)),(21,(di (v1.Next.length:Int))),(22,(di x2.1))],G [((1,u1),some<|.box 27 (R3 p1)),((2,u1),some<|.box 267 [(.d (.v (.int .u32 0))),(.d (.v (.int .u32 0))),(.d (.v (.int .u32 0))),(.d (.v (.int .u32 0))),(.d (.v (.int .u32 0))),(.d (.v (.int .u32 0))),(.d (.v (.int .u32 0))),(.d (.v (.int .u32 0))),(.d (.v (.int .u32 0))),(.d (.v (.int .u32 0))),(.d (.v (.int .u32 0))),(.d (.v (.int .u32 0)))]),((3,u2),some<|.box 267 [(.d (.v (.int .u32 x2.2.1))),(.d (.v (.int .u32 x2.2.2.1))),(.d (.v (.int .u32 x2.2.2.2.1))),(.d (.v (.int .u32 x2.2.2.2.2.1))),(.d (.v (.int .u32 x2.2.2.2.2.2.1))),(.d (.v (.int .u32 x2.2.2.2.2.2.2.1))),(.d (.v (.int .u32 x2.2.2.2.2.2.2.2.1))),(.d (.v (.int .u32 x2.2.2.2.2.2.2.2.2.1))),(.d (.v (.int .u32 x2.2.2.2.2.2.2.2.2.2.1))),(.d (.v (.int .u32 x2.2.2.2.2.2.2.2.2.2.2.1))),(.d (.v (.int .u32 x2.2.2.2.2.2.2.2.2.2.2.2.1))),(.d (.v (.int .u32 x2.2.2.2.2.2.2.2.2.2.2.2.2)))])]⟩) (0,x1.2) () _ hy2 (G1 Z Z) ?_
 intro x2 g4 z2 hz2 ez2
 unfold Bg at hz2
 refine B6<|sv Z<|A1<|A3<|cc Z hz2 (fun c2 hz2=> ?_)<|fun c2 hz2=> ?_
 refine B2<|A3<|A8<|B6<|bs hz2 fun _ hv2 hz2=>sd Z (F0 Z Z hv2 Z)<|sd Z (J8 Z hv2 Z)<|sv Z<|A1<|Q1 Z<|sv Z<|bs hz2 fun _ hv3 hz2=>sp Z (Rv Z Z hv3 Z)<|sd Z (Xa (f:=fun x=>(.v (.int .u32 x))) Z (gq Z) hv3 Z)<|sv Z<|bs hz2 fun _ hv4 hz2=>sp Z (Rv Z Z hv4 Z)<|sd Z (Xa (f:=fun x=>(.v (.int .u32 x))) Z (gq Z) hv4 Z)<|sv Z<|sv Z<|bs hz2 fun _ hv5 hz2=>sd Z (VV Z Z hv5)<|sv Z<|sv Z<|bs hz2 fun _ hv6 hz2=>sp Z (Rv Z Z hv6 Z)<|bs hz2 fun v7 hv7 hz2=>Dp _ _ _ _ _ Z Z Z (gq Z) (VU (xs:=([x2.2.1,x2.2.2.1,x2.2.2.2.1,x2.2.2.2.2.1,x2.2.2.2.2.2.1,x2.2.2.2.2.2.2.1,x2.2.2.2.2.2.2.2.1,x2.2.2.2.2.2.2.2.2.1,x2.2.2.2.2.2.2.2.2.2.1,x2.2.2.2.2.2.2.2.2.2.2.1,x2.2.2.2.2.2.2.2.2.2.2.2.1,x2.2.2.2.2.2.2.2.2.2.2.2.2]:List Int)) hv7 Z) [(.d (.v (.int .u32 (v7.getD 0 0)))),(.d (.v (.int .u32 (v7.getD 1 0)))),(.d (.v (.int .u32 (v7.getD 2 0)))),(.d (.v (.int .u32 (v7.getD 3 0)))),(.d (.v (.int .u32 (v7.getD 4 0)))),(.d (.v (.int .u32 (v7.getD 5 0)))),(.d (.v (.int .u32 (v7.getD 6 0)))),(.d (.v (.int .u32 (v7.getD 7 0)))),(.d (.v (.int .u32 (v7.getD 8 0)))),(.d (.v (.int .u32 (v7.getD 9 0)))),(.d (.v (.int .u32 (v7.getD 10 0)))),(.d (.v (.int .u32 (v7.getD 11 0))))] (UD (fun x=>(.v (.int .u32 x))) 0 hv7) (A1<|E3<|A7 (s0:=⟨T [(1,(.ptr _ _)),(2,(.ptr _ _)),(3,(.ptr _ _)),(4,(.d _)),(20,(.d _)),(21,(.d _)),(22,(.d _))],G [((1,u1),some<|.box 27 _),((2,u1),some<|.box 267 _),((3,u2),some<|.box 267 _)]⟩) (G1 Z Z) ?_)
 refine B9<|sv Z<|sv Z<|A1<|G9 ?_
 cases hz2
 exact ⟨Z,(),(G1 Z Z)⟩
 refine D8 Z ?_
 cases hz2
 obtain rfl:=ez2 _ rfl
 refine ⟨nofun,D1 Z<|Az ?_⟩
 exact ⟨(),(G1 Z Z)⟩
 rintro _ ⟨g3,q1⟩
 refine E3<|A7 q1<|B9<|sv Z<|sv Z<|sv Z<|A1<|G9 ?_
 cases hz1
 exact ⟨Z,(),(G1 Z Z)⟩
 refine D8 Z ?_
 cases hz1
 obtain rfl:=ez1 _ rfl
 refine ⟨nofun,D1 Z<|Az ?_⟩
 exact ⟨(),(G1 Z Z)⟩
 rintro _ ⟨g1,q2⟩
 refine A7 q2<|B6<|sd Z (B5 Z (gq Z) Z Z)<|Aa Z G_hit [(.d (.v (.int .u32 y1.1))),(.d (.v (.int .u32 y1.2.1))),(.d (.v (.int .u32 y1.2.2.1))),(.d (.v (.int .u32 y1.2.2.2.1))),(.d (.v (.int .u32 y1.2.2.2.2.1))),(.d (.v (.int .u32 y1.2.2.2.2.2.1))),(.d (.v (.int .u32 y1.2.2.2.2.2.2.1))),(.d (.v (.int .u32 y1.2.2.2.2.2.2.2.1))),(.d (.v (.int .u32 y1.2.2.2.2.2.2.2.2.1))),(.d (.v (.int .u32 y1.2.2.2.2.2.2.2.2.2.1))),(.d (.v (.int .u32 y1.2.2.2.2.2.2.2.2.2.2.1))),(.d (.v (.int .u32 y1.2.2.2.2.2.2.2.2.2.2.2)))] Z (A1<|B4 ?_)
 cases h
 exact B0 (.inr Z) (C1 (I3 Z G_hit (nl Z) Z) D4) (.refl _)
def Eh (p1:Int)(p2:Int):Option Bool:=
  (RF .u32 p1 (IntKind.wrap .u64 p2)).bind fun v1=>some ((IntKind.wrap .u32 (((BitVec.ofInt (IntKind.bits .u32) v1&&&(BitVec.ofInt (IntKind.bits .u32) 1)).toNat:Nat)))==1)
theorem Tm(p1 p2 r)(h:Eh p1 p2=some r):PCall prog 247 [(.v (.int .u32 p1)),(i64 p2)] (bo r):=by
 refine C4 (fk func247 ntmps247 m0 (by with_unfolding_all rfl)) (nl Z) ?_
 unfold Eh at h
 refine A7 (s0:=⟨T [(0,(.d _)),(1,(.d _))],G []⟩) (G1 Z Z) ?_
 refine B6<|sv Z<|A1<|B6<|sv Z<|sv Z<|sv Z<|bs h fun _ hv1 h=>sd Z (VW Z Z hv1)<|sv Z<|sv Z<|sv Z<|A1<|B4 ?_
 cases h
 exact B0 (.inr Z) (C1 (B1 Z) D4) (.refl _)
def Ev (p1:Part)(p2:(Int×Int×Int×Int×Int×Int×Int×Int×Int×Int×Int×Int))(p3:Int):Option Bool:=
  (E8 ([p2.1,p2.2.1,p2.2.2.1,p2.2.2.2.1,p2.2.2.2.2.1,p2.2.2.2.2.2.1,p2.2.2.2.2.2.2.1,p2.2.2.2.2.2.2.2.1,p2.2.2.2.2.2.2.2.2.1,p2.2.2.2.2.2.2.2.2.2.1,p2.2.2.2.2.2.2.2.2.2.2.1,p2.2.2.2.2.2.2.2.2.2.2.2]:List Int) p1.Lane_).bind fun v1=>(Eh v1 p3).bind fun v2=>some v2
theorem Oj(p1 p2 p3 r)(h:Ev p1 p2 p3=some r):MCall prog 246 [(.d (.agg (H3 p1))),(.ptr (900000,0) 0),(.ptr (900001,0) 0)] [(.box 267 [(.d (.v (.int .u32 p2.1))),(.d (.v (.int .u32 p2.2.1))),(.d (.v (.int .u32 p2.2.2.1))),(.d (.v (.int .u32 p2.2.2.2.1))),(.d (.v (.int .u32 p2.2.2.2.2.1))),(.d (.v (.int .u32 p2.2.2.2.2.2.1))),(.d (.v (.int .u32 p2.2.2.2.2.2.2.1))),(.d (.v (.int .u32 p2.2.2.2.2.2.2.2.1))),(.d (.v (.int .u32 p2.2.2.2.2.2.2.2.2.1))),(.d (.v (.int .u32 p2.2.2.2.2.2.2.2.2.2.1))),(.d (.v (.int .u32 p2.2.2.2.2.2.2.2.2.2.2.1))),(.d (.v (.int .u32 p2.2.2.2.2.2.2.2.2.2.2.2)))]),(.box 3 [(di p3)])] (.d (bo r)) [some (.box 267 [(.d (.v (.int .u32 p2.1))),(.d (.v (.int .u32 p2.2.1))),(.d (.v (.int .u32 p2.2.2.1))),(.d (.v (.int .u32 p2.2.2.2.1))),(.d (.v (.int .u32 p2.2.2.2.2.1))),(.d (.v (.int .u32 p2.2.2.2.2.2.1))),(.d (.v (.int .u32 p2.2.2.2.2.2.2.1))),(.d (.v (.int .u32 p2.2.2.2.2.2.2.2.1))),(.d (.v (.int .u32 p2.2.2.2.2.2.2.2.2.1))),(.d (.v (.int .u32 p2.2.2.2.2.2.2.2.2.2.1))),(.d (.v (.int .u32 p2.2.2.2.2.2.2.2.2.2.2.1))),(.d (.v (.int .u32 p2.2.2.2.2.2.2.2.2.2.2.2)))]),some (.box 3 [(di p3)])] []:=by
 refine Vk (fk func246 ntmps246 m0 (by with_unfolding_all rfl)) Z (nl Z) ?_
 unfold Ev at h
 refine A7 (s0:=⟨T [(0,(.d _)),(1,(.ptr _ _)),(2,(.ptr _ _))],G [((900000,0),some<|.box 267 _),((900001,0),some<|.box 3 _)]⟩) (G1 Z Z) ?_
 refine B6<|sm Z<|sv Z<|A1<|A3<|Q1 Z<|sq Z<|sl Z G_hit Z<|bs h fun _ hv1 h=>sp Z (Rv Z Z hv1 Z)<|sd Z (Xa (f:=fun x=>(.v (.int .u32 x))) Z (gq Z) hv1 Z)<|sl Z (gq Z) Z (bs h fun _ hv2 h=>B8 Z Z A2 (Tm _ _ _ hv2) (.inl Z) (sv Z<|A1<|B4 ?_))
 obtain rfl:=(lC h)
 exact Wy (.inr Z) [] (Wz (B1 Z) D4) (.refl _) ⟨⟨_,_,_,(gq Z),Y4,Z,Mf,Z⟩,⟨_,_,_,(gq Z),Y4,Z,Mf,Z⟩,trivial⟩
def I0 (p1:(List Part))(p2:(Int×Int×Int×Int×Int×Int×Int×Int×Int×Int×Int×Int))(p3:Int)(x1:Int):Option (Stp Int (Sum Unit Int)):=
  cond (decide (x1< (p1.length:Int))) ((E8 p1 x1).bind fun v1=>(Ev v1 p2 p3).bind fun v2=>cond v2 (some (.out (.inr x1))) (some (.go (H6 (x1+1))))) (some (.out (.inl ())))
def F9 [Lp](p1:(List Part))(p2:(Int×Int×Int×Int×Int×Int×Int×Int×Int×Int×Int×Int))(p3:Int):Option Int:=
  thenS (loop (I0 p1 p2 p3) 0) (fun _=>some (-1)) (fun r=>some r)
theorem Ct(p1 p2 p3 r)(h:F9 p1 p2 p3=some r):MCall prog 228 [(dl H3 p1),(.fn (.func 246) [] [(.ptr (900000,0) 0),(.ptr (900001,0) 0)])] [(.box 267 [(.d (.v (.int .u32 p2.1))),(.d (.v (.int .u32 p2.2.1))),(.d (.v (.int .u32 p2.2.2.1))),(.d (.v (.int .u32 p2.2.2.2.1))),(.d (.v (.int .u32 p2.2.2.2.2.1))),(.d (.v (.int .u32 p2.2.2.2.2.2.1))),(.d (.v (.int .u32 p2.2.2.2.2.2.2.1))),(.d (.v (.int .u32 p2.2.2.2.2.2.2.2.1))),(.d (.v (.int .u32 p2.2.2.2.2.2.2.2.2.1))),(.d (.v (.int .u32 p2.2.2.2.2.2.2.2.2.2.1))),(.d (.v (.int .u32 p2.2.2.2.2.2.2.2.2.2.2.1))),(.d (.v (.int .u32 p2.2.2.2.2.2.2.2.2.2.2.2)))]),(.box 3 [(di p3)])] (di r) [some (.box 267 [(.d (.v (.int .u32 p2.1))),(.d (.v (.int .u32 p2.2.1))),(.d (.v (.int .u32 p2.2.2.1))),(.d (.v (.int .u32 p2.2.2.2.1))),(.d (.v (.int .u32 p2.2.2.2.2.1))),(.d (.v (.int .u32 p2.2.2.2.2.2.1))),(.d (.v (.int .u32 p2.2.2.2.2.2.2.1))),(.d (.v (.int .u32 p2.2.2.2.2.2.2.2.1))),(.d (.v (.int .u32 p2.2.2.2.2.2.2.2.2.1))),(.d (.v (.int .u32 p2.2.2.2.2.2.2.2.2.2.1))),(.d (.v (.int .u32 p2.2.2.2.2.2.2.2.2.2.2.1))),(.d (.v (.int .u32 p2.2.2.2.2.2.2.2.2.2.2.2)))]),some (.box 3 [(di p3)])] []:=by
 refine Vk (fk func228 ntmps228 (fun r=>if r==4 then [1004005]else []) (by with_unfolding_all rfl)) Z (nl Z) ?_
 unfold F9 at h
 refine A7 (s0:=⟨T [(0,(.d _)),(1,(.fn _ _ _))],G [((900000,0),some<|.box 267 _),((900001,0),some<|.box 3 _)]⟩) (G1 Z Z) ?_
 refine B6<|sv Z<|A1<|A3<|B6<|sv Z<|sd Z (D6 Z)<|sv Z<|A1<|js h fun z1 hz1 h=>F6 (fun s=> ∃(y1:Unit) (g1:Unit),z1= .inl y1∧Sb ⟨T [(1,(.fn (.func 246) [] [(.ptr (900000,0) 0),(.ptr (900001,0) 0)]))],G [((900000,0),some<|.box 267 [(.d (.v (.int .u32 p2.1))),(.d (.v (.int .u32 p2.2.1))),(.d (.v (.int .u32 p2.2.2.1))),(.d (.v (.int .u32 p2.2.2.2.1))),(.d (.v (.int .u32 p2.2.2.2.2.1))),(.d (.v (.int .u32 p2.2.2.2.2.2.1))),(.d (.v (.int .u32 p2.2.2.2.2.2.2.1))),(.d (.v (.int .u32 p2.2.2.2.2.2.2.2.1))),(.d (.v (.int .u32 p2.2.2.2.2.2.2.2.2.1))),(.d (.v (.int .u32 p2.2.2.2.2.2.2.2.2.2.1))),(.d (.v (.int .u32 p2.2.2.2.2.2.2.2.2.2.2.1))),(.d (.v (.int .u32 p2.2.2.2.2.2.2.2.2.2.2.2)))]),((900001,0),some<|.box 3 [(di p3)])]⟩ s) ?_ ?_
 refine A8<|G0 (I0 p1 p2 p3) (fun (x1:Int) (g2:Unit)=>⟨T [(0,(dl H3 p1)),(1,(.fn (.func 246) [] [(.ptr (900000,0) 0),(.ptr (900001,0) 0)])),(7,(di (p1.length:Int))),(8,(di x1))],G [((900000,0),some<|.box 267 [(.d (.v (.int .u32 p2.1))),(.d (.v (.int .u32 p2.2.1))),(.d (.v (.int .u32 p2.2.2.1))),(.d (.v (.int .u32 p2.2.2.2.1))),(.d (.v (.int .u32 p2.2.2.2.2.1))),(.d (.v (.int .u32 p2.2.2.2.2.2.1))),(.d (.v (.int .u32 p2.2.2.2.2.2.2.1))),(.d (.v (.int .u32 p2.2.2.2.2.2.2.2.1))),(.d (.v (.int .u32 p2.2.2.2.2.2.2.2.2.1))),(.d (.v (.int .u32 p2.2.2.2.2.2.2.2.2.2.1))),(.d (.v (.int .u32 p2.2.2.2.2.2.2.2.2.2.2.1))),(.d (.v (.int .u32 p2.2.2.2.2.2.2.2.2.2.2.2)))]),((900001,0),some<|.box 3 [(di p3)])]⟩) 0 () _ hz1 (G1 Z Z) ?_
 intro x1 g2 z2 hz2 ez2
 unfold I0 at hz2
 refine B6<|sv Z<|A1<|A3<|cc Z hz2 (fun c1 hz2=> ?_)<|fun c1 hz2=> ?_
 refine B2<|A3<|A8<|B6<|sv Z<|sv Z<|A1<|B6<|A9 (.fn _ _ _) Z Z (sv Z<|sv Z<|bs hz2 fun _ hv1 hz2=>sd Z (F0 Z Z hv1 Z)<|sd Z (C8 Z hv1 Z Z)<|bs hz2 fun v2 hv2 hz2=>DL (v:= .d (bo v2)) (us:= [(900000,0),(900001,0)]) (BH (Oj _ _ _ _ hv2) [(900000,0),(900001,0)] [(900000,0),(900001,0)] _ (((900001,0),some<|.box 3 [(di p3)])::(((900000,0),some<|.box 267 [(.d (.v (.int .u32 p2.1))),(.d (.v (.int .u32 p2.2.1))),(.d (.v (.int .u32 p2.2.2.1))),(.d (.v (.int .u32 p2.2.2.2.1))),(.d (.v (.int .u32 p2.2.2.2.2.1))),(.d (.v (.int .u32 p2.2.2.2.2.2.1))),(.d (.v (.int .u32 p2.2.2.2.2.2.2.1))),(.d (.v (.int .u32 p2.2.2.2.2.2.2.2.1))),(.d (.v (.int .u32 p2.2.2.2.2.2.2.2.2.1))),(.d (.v (.int .u32 p2.2.2.2.2.2.2.2.2.2.1))),(.d (.v (.int .u32 p2.2.2.2.2.2.2.2.2.2.2.1))),(.d (.v (.int .u32 p2.2.2.2.2.2.2.2.2.2.2.2)))])::_)) Z Es (Dq NF<|Dq (Ql G_hit Z)<|Dq (Ql (A4 Z G_hit) Z) Qm) (Gr G_hit<|Gr (A4 Z G_hit) Bz) ⟨⟨_,G_hit, .of Z⟩,⟨_,(A4 Z G_hit), .of Z⟩,trivial⟩ (fun _ h=>h) (UA<|Me Z) Z Z Z) (A1<|cc Z hz2 (fun c2 hz2=> ?_)<|fun c2 hz2=> ?_))
 refine B6<|sv Z<|sv Z<|A1<|B4 ?_
 cases hz2
 obtain rfl:=ez2 _ rfl
 refine ⟨nofun,G6 ?_⟩
 rw [bM]at h
 cases h
 exact Wy (.inr Z) [] (Wz (B1 Z) D4) (.refl _) ⟨⟨_,_,_,(gq Z),Y4,Z,Mf,Z⟩,⟨_,_,_,G_hit,Y4,Z,Mf,Z⟩,trivial⟩
 refine B2<|E3<|B9<|sv Z<|sv Z<|A1<|G9 ?_
 cases hz2
 exact ⟨Z,(),(G1 Z Z)⟩
 refine D8 Z ?_
 cases hz2
 obtain rfl:=ez2 _ rfl
 refine ⟨nofun,D1 Z<|Az ?_⟩
 exact ⟨_,(),Z,(G1 Z Z)⟩
 rintro _ ⟨y1,g1,rfl,q1⟩
 rw [bL]at h
 refine A7 q1<|B6<|sv Z<|A1<|B4 ?_
 cases h
 exact Wy (.inr Z) [] (Wz (B1 Z) D4) (.refl _) ⟨⟨_,_,_,G_hit,Y4,Z,Mf,Z⟩,⟨_,_,_,(gq Z),Y4,Z,Mf,Z⟩,trivial⟩
def F5 [Lp](p1:(List Part))(p2:(Int×Int×Int×Int×Int×Int×Int×Int×Int×Int×Int×Int))(p3:Int):Option Bool:=
  (F9 p1 p2 p3).bind fun v1=>some (decide (v1≥0))
theorem Bq(p1 p2 p3 r)(h:F5 p1 p2 p3=some r):MCall prog 245 [(dl H3 p1),(.fn (.func 246) [] [(.ptr (900000,0) 0),(.ptr (900001,0) 0)])] [(.box 267 [(.d (.v (.int .u32 p2.1))),(.d (.v (.int .u32 p2.2.1))),(.d (.v (.int .u32 p2.2.2.1))),(.d (.v (.int .u32 p2.2.2.2.1))),(.d (.v (.int .u32 p2.2.2.2.2.1))),(.d (.v (.int .u32 p2.2.2.2.2.2.1))),(.d (.v (.int .u32 p2.2.2.2.2.2.2.1))),(.d (.v (.int .u32 p2.2.2.2.2.2.2.2.1))),(.d (.v (.int .u32 p2.2.2.2.2.2.2.2.2.1))),(.d (.v (.int .u32 p2.2.2.2.2.2.2.2.2.2.1))),(.d (.v (.int .u32 p2.2.2.2.2.2.2.2.2.2.2.1))),(.d (.v (.int .u32 p2.2.2.2.2.2.2.2.2.2.2.2)))]),(.box 3 [(di p3)])] (.d (bo r)) [some (.box 267 [(.d (.v (.int .u32 p2.1))),(.d (.v (.int .u32 p2.2.1))),(.d (.v (.int .u32 p2.2.2.1))),(.d (.v (.int .u32 p2.2.2.2.1))),(.d (.v (.int .u32 p2.2.2.2.2.1))),(.d (.v (.int .u32 p2.2.2.2.2.2.1))),(.d (.v (.int .u32 p2.2.2.2.2.2.2.1))),(.d (.v (.int .u32 p2.2.2.2.2.2.2.2.1))),(.d (.v (.int .u32 p2.2.2.2.2.2.2.2.2.1))),(.d (.v (.int .u32 p2.2.2.2.2.2.2.2.2.2.1))),(.d (.v (.int .u32 p2.2.2.2.2.2.2.2.2.2.2.1))),(.d (.v (.int .u32 p2.2.2.2.2.2.2.2.2.2.2.2)))]),some (.box 3 [(di p3)])] []:=by
 refine Vk (fk func245 ntmps245 (fun r=>if r==1 then [1001002]else []) (by with_unfolding_all rfl)) Z (nl Z) ?_
 unfold F5 at h
 refine A7 (s0:=⟨T [(0,(.d _)),(1,(.fn _ _ _))],G [((900000,0),some<|.box 267 _),((900001,0),some<|.box 3 _)]⟩) (G1 Z Z) ?_
 refine B6<|sv Z<|A1<|B6<|sv Z<|A9 (.fn _ _ _) Z Z (bs h fun v1 hv1 h=>DL (v:= .d (i64 v1)) (us:= [(900000,0),(900001,0)]) (BH (Ct _ _ _ _ hv1) [(900000,0),(900001,0)] [(900000,0),(900001,0)] _ (((900001,0),some<|.box 3 [(di p3)])::(((900000,0),some<|.box 267 [(.d (.v (.int .u32 p2.1))),(.d (.v (.int .u32 p2.2.1))),(.d (.v (.int .u32 p2.2.2.1))),(.d (.v (.int .u32 p2.2.2.2.1))),(.d (.v (.int .u32 p2.2.2.2.2.1))),(.d (.v (.int .u32 p2.2.2.2.2.2.1))),(.d (.v (.int .u32 p2.2.2.2.2.2.2.1))),(.d (.v (.int .u32 p2.2.2.2.2.2.2.2.1))),(.d (.v (.int .u32 p2.2.2.2.2.2.2.2.2.1))),(.d (.v (.int .u32 p2.2.2.2.2.2.2.2.2.2.1))),(.d (.v (.int .u32 p2.2.2.2.2.2.2.2.2.2.2.1))),(.d (.v (.int .u32 p2.2.2.2.2.2.2.2.2.2.2.2)))])::_)) Z Es (Dq NF<|Dq (NG Z<|Dq (Ql G_hit Z)<|Dq (Ql (A4 Z G_hit) Z) Qm) Qm) (Gr G_hit<|Gr (A4 Z G_hit) Bz) ⟨⟨_,G_hit, .of Z⟩,⟨_,(A4 Z G_hit), .of Z⟩,trivial⟩ (fun _ h=>h) (UA<|Me Z) Z Z Z) (sv Z<|sv Z<|A1<|B4 ?_))
 cases h
 exact Wy (.inr Z) [] (Wz (B1 Z) D4) (.refl _) ⟨⟨_,_,_,(gq Z),Y4,Z,Mf,Z⟩,⟨_,_,_,G_hit,Y4,Z,Mf,Z⟩,trivial⟩
def Au [Lp](p1:Map)(p2:Zone)(p3:Int):Option Bool:=
  (Dk p1).bind fun v1=>(F5 p2.Parts v1 p3).bind fun v2=>some (!v2)
theorem Jx(p1 p2 p3 r)(h:Au p1 p2 p3=some r):PCall prog 184 [(.agg (Q8 p1)),(.agg [(.list (List.map H3 p2.Parts)),(i64 p2.Signal_)]),(i64 p3)] (bo r):=by
 refine C4 (fk func184 ntmps184 (fun r=>if r==2 then [1002003]else []) (by with_unfolding_all rfl)) (nl Z) ?_
 unfold Au at h
 refine A7 (s0:=⟨T [(0,(.d _)),(1,(.d _)),(2,(.d _))],G []⟩) (G1 Z Z) ?_
 refine lr<|fun u1 _=>sm Z<|sm Z<|sn Z Z<|sv Z<|A1<|lr<|fun u2 _=>sd Z (B5 Z (gq Z) Z Z)<|bs h fun v1 hv1 h=>B8 Z Z A2 (Xe _ _ hv1) (.inl Z) (sm Z<|Aa Z G_hit [(.d (.v (.int .u32 v1.1))),(.d (.v (.int .u32 v1.2.1))),(.d (.v (.int .u32 v1.2.2.1))),(.d (.v (.int .u32 v1.2.2.2.1))),(.d (.v (.int .u32 v1.2.2.2.2.1))),(.d (.v (.int .u32 v1.2.2.2.2.2.1))),(.d (.v (.int .u32 v1.2.2.2.2.2.2.1))),(.d (.v (.int .u32 v1.2.2.2.2.2.2.2.1))),(.d (.v (.int .u32 v1.2.2.2.2.2.2.2.2.1))),(.d (.v (.int .u32 v1.2.2.2.2.2.2.2.2.2.1))),(.d (.v (.int .u32 v1.2.2.2.2.2.2.2.2.2.2.1))),(.d (.v (.int .u32 v1.2.2.2.2.2.2.2.2.2.2.2)))] Z (A1<|B6<|sq Z<|sl Z (gq Z) Z (A9 (.fn _ _ _) Z Z (bs h fun v2 hv2 h=>DL (v:= .d (bo v2)) (us:= [(7,u2),(5,u1)]) (BH (Bq _ _ _ _ hv2) [(7,u2),(5,u1)] [(7,u2),(5,u1)] _ (((5,u1),some<|.box 3 [(di p3)])::(((7,u2),some<|.box 267 [(.d (.v (.int .u32 v1.1))),(.d (.v (.int .u32 v1.2.1))),(.d (.v (.int .u32 v1.2.2.1))),(.d (.v (.int .u32 v1.2.2.2.1))),(.d (.v (.int .u32 v1.2.2.2.2.1))),(.d (.v (.int .u32 v1.2.2.2.2.2.1))),(.d (.v (.int .u32 v1.2.2.2.2.2.2.1))),(.d (.v (.int .u32 v1.2.2.2.2.2.2.2.1))),(.d (.v (.int .u32 v1.2.2.2.2.2.2.2.2.1))),(.d (.v (.int .u32 v1.2.2.2.2.2.2.2.2.2.1))),(.d (.v (.int .u32 v1.2.2.2.2.2.2.2.2.2.2.1))),(.d (.v (.int .u32 v1.2.2.2.2.2.2.2.2.2.2.2)))])::_)) Z Es (Dq NF<|Dq (NG Z<|Dq (Ql G_hit Z)<|Dq (Ql (A4 Z<|A4 Z G_hit) Z) Qm) Qm) (Gr G_hit<|Gr (A4 Z<|A4 Z G_hit) Bz) ⟨⟨_,G_hit, .of Z⟩,⟨_,(A4 Z<|A4 Z G_hit), .of Z⟩,trivial⟩ (fun _ h=>h) (UA<|Me Z) Z Z Z) (A9 (.d (bo (!v2))) Z Z (sv Z<|A1<|B4 ?_))))))
 cases h
 exact B0 (.inr Z) (C1 (B1 Z) D4) (.refl _)
def S7 [Lp](p1:Int)(p2:Map)(p3:Zone):Option Bool:=
  (Au p2 p3 p1).bind fun v1=>some (!v1)
theorem Lo(p1 p2 p3 r)(h:S7 p1 p2 p3=some r):PCall prog 183 [(i64 p1),(.bp (Q8 p2) 0),(.bp [(.list (List.map H3 p3.Parts)),(i64 p3.Signal_)] 0)] (bo r):=by
 refine C4 (fk func183 ntmps183 m0 (by with_unfolding_all rfl)) (nl Z) ?_
 unfold S7 at h
 refine A7 (s0:=⟨T [(0,(.d _)),(1,(.d _)),(2,(.d _))],G []⟩) (G1 Z Z) ?_
 refine B6<|sv Z<|A1<|B6<|sv Z<|sv Z<|sv Z<|bs h fun v1 hv1 h=>B8 Z Z A2 (Jx _ _ _ _ hv1) (.inl Z) (A9 (.d (bo (!v1))) Z Z (sv Z<|A1<|B4 ?_))
 cases h
 exact B0 (.inr Z) (C1 (B1 Z) D4) (.refl _)
def D7 [Lp](p1:(List Int))(p2:Map)(p3:Zone)(x1:Int):Option (Stp Int (Sum Unit Int)):=
  cond (decide (x1< (p1.length:Int))) ((E8 p1 x1).bind fun v1=>(S7 v1 p2 p3).bind fun v2=>cond v2 (some (.out (.inr x1))) (some (.go (H6 (x1+1))))) (some (.out (.inl ())))
def F8 [Lp](p1:(List Int))(p2:Map)(p3:Zone):Option Int:=
  thenS (loop (D7 p1 p2 p3) 0) (fun _=>some (-1)) (fun r=>some r)
theorem Cq(p1 p2 p3 r)(h:F8 p1 p2 p3=some r):PCall prog 145 [(.list (List.map A6 p1)),(.fn (.func 183) [] [(.bp (Q8 p2) 0),(.bp [(.list (List.map H3 p3.Parts)),(i64 p3.Signal_)] 0)])] (i64 r):=by
 refine C4 (fk func145 ntmps145 m0 (by with_unfolding_all rfl)) (nl Z) ?_
 unfold F8 at h
 refine A7 (s0:=⟨T [(0,(.d _)),(1,(.d _))],G []⟩) (G1 Z Z) ?_
 refine B6<|sv Z<|A1<|A3<|B6<|sv Z<|sd Z (D6 Z)<|sv Z<|A1<|js h fun z1 hz1 h=>F6 (fun s=> ∃(y1:Unit) (g1:Unit),z1= .inl y1∧Sb ⟨T [],G []⟩ s) ?_ ?_
 refine A8<|G0 (D7 p1 p2 p3) (fun (x1:Int) (g2:Unit)=>⟨T [(0,(dl A6 p1)),(1,(.d (.fn (.func 183) [] [(.bp (Q8 p2) 0),(.bp [(.list (List.map H3 p3.Parts)),(i64 p3.Signal_)] 0)]))),(7,(di (p1.length:Int))),(8,(di x1))],G []⟩) 0 () _ hz1 (G1 Z Z) ?_
 intro x1 g2 z2 hz2 ez2
 unfold D7 at hz2
 refine B6<|sv Z<|A1<|A3<|cc Z hz2 (fun c1 hz2=> ?_)<|fun c1 hz2=> ?_
 refine B2<|A3<|A8<|B6<|sv Z<|sv Z<|A1<|B6<|sv Z<|sv Z<|sv Z<|bs hz2 fun _ hv1 hz2=>sd Z (F0 Z Z hv1 Z)<|sd Z (J8 Z hv1 Z)<|bs hz2 fun _ hv2 hz2=>B8 Z Z A2 (Lo _ _ _ _ hv2) (.inl Z) (A1<|cc Z hz2 (fun c2 hz2=> ?_)<|fun c2 hz2=> ?_)
 refine B6<|sv Z<|sv Z<|A1<|B4 ?_
 cases hz2
 obtain rfl:=ez2 _ rfl
 refine ⟨nofun,G6 ?_⟩
 rw [bM]at h
 cases h
 exact B0 (.inr Z) (C1 (B1 Z) D4) (.refl _)
 refine B2<|E3<|B9<|sv Z<|sv Z<|A1<|G9 ?_
 cases hz2
 exact ⟨Z,(),(G1 Z Z)⟩
 refine D8 Z ?_
 cases hz2
 obtain rfl:=ez2 _ rfl
 refine ⟨nofun,D1 Z<|Az ?_⟩
 exact ⟨_,(),Z,(G1 Z Z)⟩
 rintro _ ⟨y1,g1,rfl,q1⟩
 rw [bL]at h
 refine A7 q1<|B6<|sv Z<|A1<|B4 ?_
 cases h
 exact B0 (.inr Z) (C1 (B1 Z) D4) (.refl _)
def E9 [Lp](p1:(List Int))(p2:Map)(p3:Zone):Option Bool:=
  (F8 p1 p2 p3).bind fun v1=>some (decide (v1≥0))
theorem Bm(p1 p2 p3 r)(h:E9 p1 p2 p3=some r):PCall prog 182 [(.list (List.map A6 p1)),(.fn (.func 183) [] [(.bp (Q8 p2) 0),(.bp [(.list (List.map H3 p3.Parts)),(i64 p3.Signal_)] 0)])] (bo r):=by
 refine C4 (fk func182 ntmps182 m0 (by with_unfolding_all rfl)) (nl Z) ?_
 unfold E9 at h
 refine A7 (s0:=⟨T [(0,(.d _)),(1,(.d _))],G []⟩) (G1 Z Z) ?_
 refine B6<|sv Z<|A1<|B6<|sv Z<|sv Z<|bs h fun _ hv1 h=>B8 Z Z A2 (Cq _ _ _ _ hv1) (.inl Z) (sv Z<|sv Z<|A1<|B4 ?_)
 cases h
 exact B0 (.inr Z) (C1 (B1 Z) D4) (.refl _)
def S8 [Lp](p1:Zone)(p2:Map)(p3:Int)(p4:(List Int)):Option Bool:=
  (An p2 p1 p3).bind fun v1=>((cond v1 (E9 p4 p2 p1) (some default))).bind fun v2=>some (v1&& (!v2))
theorem Lq(p1 p2 p3 p4 r)(h:S8 p1 p2 p3 p4=some r):PCall prog 180 [(.agg [(.list (List.map H3 p1.Parts)),(i64 p1.Signal_)]),(.bp (Q8 p2) 0),(.bp [(i64 p3)] 0),(.bp [(.list (List.map A6 p4))] 0)] (bo r):=by
 refine C4 (fk func180 ntmps180 m0 (by with_unfolding_all rfl)) (nl Z) ?_
 unfold S8 at h
 refine A7 (s0:=⟨T [(0,(.d _)),(1,(.d _)),(2,(.d _)),(3,(.d _))],G []⟩) (G1 Z Z) ?_
 refine lr<|fun u1 _=>sm Z<|sv Z<|A1<|B6<|sv Z<|sd Z (B5 Z G_hit Z Z)<|sv Z<|bs h fun v1 hv1 h=>B8 Z Z A2 (My _ _ _ _ hv1) (.inl Z) (sv Z<|gt Z (fun _=>Z)<|Ab _ (.fn _ _ _) Z (J1 Z) (fun _=>Z) (bs h fun v2 hv2 h=> ?_))
 refine S4 v1 (bo v2) (J1 Z) (fun w3=>⟨_,[(dl A6 p4),(.fn (.func 183) [] [(.d (.bp (Q8 p2) 0)),(.ptr (4,u1) 0)])],_,_,(by simp only [A5 w3];rfl),(rD<|J5 (Zh M3<|rD<|J5 (Kx G_hit<|rD<|rD M3) M3) M3),A2,Bm _ _ _ _<|L8 w3 hv2,(.inr Z)⟩) ?_
 refine Ab _ (.d (bo (!v2))) Z (J1 Z) (fun w4=>(by simp only [A5 w4];rfl)) ?_
 refine sa Z Z Z<|sv Z<|A1<|B4 ?_
 cases h
 exact B0 (.inr Z) (C1 (B1 Z) D4) (.refl _)
def D2 [Lp](p1:(List Zone))(p2:Map)(p3:Int)(p4:(List Int))(x1:Int):Option (Stp Int (Sum Unit Int)):=
  cond (decide (x1< (p1.length:Int))) ((E8 p1 x1).bind fun v1=>(S8 v1 p2 p3 p4).bind fun v2=>cond v2 (some (.out (.inr x1))) (some (.go (H6 (x1+1))))) (some (.out (.inl ())))
def F7 [Lp](p1:(List Zone))(p2:Map)(p3:Int)(p4:(List Int)):Option Int:=
  thenS (loop (D2 p1 p2 p3 p4) 0) (fun _=>some (-1)) (fun r=>some r)
theorem Cj(p1 p2 p3 p4 r)(h:F7 p1 p2 p3 p4=some r):PCall prog 243 [(.list (List.map F4 p1)),(.fn (.func 180) [] [(.bp (Q8 p2) 0),(.bp [(i64 p3)] 0),(.bp [(.list (List.map A6 p4))] 0)])] (i64 r):=by
 refine C4 (fk func243 ntmps243 m0 (by with_unfolding_all rfl)) (nl Z) ?_
 unfold F7 at h
 refine A7 (s0:=⟨T [(0,(.d _)),(1,(.d _))],G []⟩) (G1 Z Z) ?_
 refine B6<|sv Z<|A1<|A3<|B6<|sv Z<|sd Z (D6 Z)<|sv Z<|A1<|js h fun z1 hz1 h=>F6 (fun s=> ∃(y1:Unit) (g1:Unit),z1= .inl y1∧Sb ⟨T [],G []⟩ s) ?_ ?_
 refine A8<|G0 (D2 p1 p2 p3 p4) (fun (x1:Int) (g2:Unit)=>⟨T [(0,(dl F4 p1)),(1,(.d (.fn (.func 180) [] [(.bp (Q8 p2) 0),(.bp [(i64 p3)] 0),(.bp [(.list (List.map A6 p4))] 0)]))),(7,(di (p1.length:Int))),(8,(di x1))],G []⟩) 0 () _ hz1 (G1 Z Z) ?_
 intro x1 g2 z2 hz2 ez2
 unfold D2 at hz2
 refine B6<|sv Z<|A1<|A3<|cc Z hz2 (fun c1 hz2=> ?_)<|fun c1 hz2=> ?_
 refine B2<|A3<|A8<|B6<|sv Z<|sv Z<|A1<|B6<|sv Z<|sv Z<|sv Z<|bs hz2 fun _ hv1 hz2=>sd Z (F0 Z Z hv1 Z)<|sd Z (C8 Z hv1 Z Z)<|bs hz2 fun _ hv2 hz2=>B8 Z Z A2 (Lq _ _ _ _ _ hv2) (.inl Z) (A1<|cc Z hz2 (fun c2 hz2=> ?_)<|fun c2 hz2=> ?_)
 refine B6<|sv Z<|sv Z<|A1<|B4 ?_
 cases hz2
 obtain rfl:=ez2 _ rfl
 refine ⟨nofun,G6 ?_⟩
 rw [bM]at h
 cases h
 exact B0 (.inr Z) (C1 (B1 Z) D4) (.refl _)
 refine B2<|E3<|B9<|sv Z<|sv Z<|A1<|G9 ?_
 cases hz2
 exact ⟨Z,(),(G1 Z Z)⟩
 refine D8 Z ?_
 cases hz2
 obtain rfl:=ez2 _ rfl
 refine ⟨nofun,D1 Z<|Az ?_⟩
 exact ⟨_,(),Z,(G1 Z Z)⟩
 rintro _ ⟨y1,g1,rfl,q1⟩
 rw [bL]at h
 refine A7 q1<|B6<|sv Z<|A1<|B4 ?_
 cases h
 exact B0 (.inr Z) (C1 (B1 Z) D4) (.refl _)
def D3 [Lp](p1:(List Zone))(p2:Map)(p3:Int)(p4:(List Int)):Option Bool:=
  (F7 p1 p2 p3 p4).bind fun v1=>some (decide (v1≥0))
theorem Bh(p1 p2 p3 p4 r)(h:D3 p1 p2 p3 p4=some r):PCall prog 179 [(.list (List.map F4 p1)),(.fn (.func 180) [] [(.bp (Q8 p2) 0),(.bp [(i64 p3)] 0),(.bp [(.list (List.map A6 p4))] 0)])] (bo r):=by
 refine C4 (fk func179 ntmps179 m0 (by with_unfolding_all rfl)) (nl Z) ?_
 unfold D3 at h
 refine A7 (s0:=⟨T [(0,(.d _)),(1,(.d _))],G []⟩) (G1 Z Z) ?_
 refine B6<|sv Z<|A1<|B6<|sv Z<|sv Z<|bs h fun _ hv1 h=>B8 Z Z A2 (Cj _ _ _ _ _ hv1) (.inl Z) (sv Z<|sv Z<|A1<|B4 ?_)
 cases h
 exact B0 (.inr Z) (C1 (B1 Z) D4) (.refl _)
def X0 [Lp](p1:Map)(x1:((List Clash)×Int)):Option (Stp ((List Clash)×Int) (List Clash)):=
  cond (decide (x1.2< (p1.Lanes.length:Int))) ((Y8 p1 x1.2).bind fun v1=>(D3 p1.Zones p1 x1.2 v1).bind fun v2=>cond ((decide ((v1.length:Int)>1))&& (!v2)) ((X6 x1.1 [(Clash.mk 1 (-1) x1.2 (-1))]).bind fun v3=>some (.go (v3,(H6 (x1.2+1))))) (some (.go (x1.1,(H6 (x1.2+1)))))) (some (.out x1.1))
def Ck [Lp](p1:Map):Option (List Clash):=
  (loop (X0 p1) ([],0)).bind fun y1=>some y1
theorem Ut(p1 r)(h:Ck p1=some r):PCall prog 77 [(.agg (Q8 p1))] (.list (List.map J6 r)):=by
 refine C4 (fk func77 ntmps77 (fun r=>if r==7 then [1003]else []) (by with_unfolding_all rfl)) (nl Z) ?_
 unfold Ck at h
 refine A7 (s0:=⟨T [(0,(.d _))],G []⟩) (G1 Z Z) ?_
 refine lr<|fun u1 _=>sm Z<|sv Z<|A1<|A3<|B6<|sq Z<|sl Z G_hit Z<|sd Z (D6 Z)<|sv Z<|A1<|bs h fun y1 hy1 h=>F6 (fun s=> ∃g1:Nat,Sb ⟨T [(2,(oS y1 (30,g1)))],G [((30,g1),oB 93 4 J6 y1)]⟩ s) ?_ ?_
 refine A8<|G0 (X0 p1) (fun (x1:((List Clash)×Int)) (g2:Nat)=>⟨T [(1,(.ptr (1,u1) 0)),(2,(oS x1.1 (30,g2))),(8,(di (p1.Lanes.length:Int))),(9,(di x1.2))],G [((1,u1),some<|.box 27 (R3 p1)),((30,g2),oB 93 4 J6 x1.1)]⟩) ([],0) 0 _ hy1 (C0 (V4 Z)<|B7 G_hit (.of Z)<|M4 trivial) ?_
 intro x1 g2 z1 hz1 ez1
 unfold X0 at hz1
 refine B6<|sv Z<|A1<|A3<|cc Z hz1 (fun c1 hz1=> ?_)<|fun c1 hz1=> ?_
 refine B2<|A3<|A8<|lr<|fun u4 _=>sv Z<|sm Z<|Aa Z G_hit [(di x1.2)] Z (A1<|B6<|sd Z (B5 Z (gq Z) Z Z)<|sl Z G_hit Z<|bs hz1 fun v1 hv1 hz1=>B8 Z Z A2 (Iw _ _ _ hv1) (.inl Z) (sm Z<|Aa Z G_hit [(dl A6 v1)] Z (A1<|B6<|sq Z<|sl Z (gq Z) Z (A9 (.fn _ _ _) Z Z (bs hz1 fun v2 hv2 hz1=>B8 Z (rD<|J5 (Zh M3<|J5 (Kx (gq Z)<|rD<|rD<|rD<|rD<|rD M3)<|J5 (Kx (gq Z)<|rD M3)<|J5 (Kx G_hit<|rD M3) M3) M3) A2 (Bh _ _ _ _ _ hv2) (.inr Z) (sv Z<|A1<|B6<|sl Z G_hit Z<|sd Z (D6 Z)<|sv Z<|sv Z<|gt Z (fun _=>Z) ?_))))))
 refine Ab _ (.d (bo (!v2))) Z (J1 Z) (fun w2=>(by simp only [A5 w2];rfl)) ?_
 refine sa Z Z Z<|A1<|cc Z hz1 (fun c2 hz1=> ?_)<|fun c2 hz1=> ?_
 refine A7 (s0:=⟨T [(1,(.ptr (1,u1) 0)),(2,(oS x1.1 (30,g2))),(3,(.ptr (3,u4) 0)),(8,(di (p1.Lanes.length:Int))),(9,(di x1.2))],G [((1,u1),some<|.box 27 (R3 p1)),((30,g2),oB 93 4 J6 x1.1),((3,u4),some<|.box 3 [(di x1.2)])]⟩) (C0 (V4 Z)<|sg Z<|C7 (gq Z)<|sg Z trivial) ?_
 refine K8 fun u8 _=>A9 (oS x1.1 (30,g2)) Z Z (sl Z (gq Z) Z (sv Z<|A9 (dl J6 [(Clash.mk 1 (-1) x1.2 (-1))]) Z Z (bs hz1 fun _ hv3 hz1=>H9 J6 (30,g2) x1.1 (Clash.mk 1 (-1) x1.2 (-1)) [] _ (E4<|fun _=>Z) Z (gq Z) hv3 (ss Z<|A1<|E3<|B9<|sv Z<|sv Z<|A1<|G9 ?_))))
 cases hz1
 exact ⟨Z,u8,(C0 ⟨.of Z,(.of (Q7<|L4 hv3).symm), .of Z, .of Z,trivial⟩<|sg Z<|H7 G_hit trivial)⟩
 refine B2<|E3<|A7 (s0:=⟨T [(1,(.ptr (1,u1) 0)),(2,(oS x1.1 (30,g2))),(8,(di (p1.Lanes.length:Int))),(9,(di x1.2))],G [((1,u1),some<|.box 27 (R3 p1)),((30,g2),oB 93 4 J6 x1.1)]⟩) (C0 (V4 Z)<|sg Z<|C7 (gq Z) trivial) ?_
 refine B9<|sv Z<|sv Z<|A1<|G9 ?_
 cases hz1
 exact ⟨Z,g2,(C0 (V4 Z)<|B7 G_hit (.of Z)<|C7 (gq Z) trivial)⟩
 refine D8 Z ?_
 cases hz1
 obtain rfl:=ez1 _ rfl
 refine ⟨nofun,D1 Z<|Az ?_⟩
 exact ⟨g2,(C0 ⟨.of Z,trivial⟩<|C7 (gq Z) trivial)⟩
 rintro _ ⟨g1,q1⟩
 refine A7 q1<|B6<|A9 (oS y1 (30,g1)) Z Z (A9 (oS y1 (30,g1)) Z Z (A1<|B4 ?_))
 cases h
 exact B0 (.inr Z) (C1 (B1 Z)<|Cx G_hit) Cw
def X1 [Lp](p1:Map)(x1:((List Clash)×Int))(v1:Zone)(x2:((List Clash)×Int)):Option (Stp ((List Clash)×Int) (List Clash)):=
  cond (decide (x2.2< (v1.Parts.length:Int))) ((E8 v1.Parts x2.2).bind fun v2=>(Au p1 v1 v2.Lane_).bind fun v3=>((cond (!v3) (An p1 v1 v2.Lane_) (some default))).bind fun v4=>cond ((!v3)&& (!v4)) ((X6 x2.1 [(Clash.mk 2 x1.2 v2.Lane_ (-1))]).bind fun v5=>some (.go (v5,(H6 (x2.2+1))))) (some (.go (x2.1,(H6 (x2.2+1)))))) (some (.out x2.1))
def X2 [Lp](p1:Map)(x1:((List Clash)×Int)):Option (Stp ((List Clash)×Int) (List Clash)):=
  cond (decide (x1.2< (p1.Zones.length:Int))) ((E8 p1.Zones x1.2).bind fun v1=>(loop (X1 p1 x1 v1) (x1.1,0)).bind fun y2=>some (.go (y2,(H6 (x1.2+1))))) (some (.out x1.1))
def Cl [Lp](p1:Map):Option (List Clash):=
  (loop (X2 p1) ([],0)).bind fun y1=>some y1
theorem Uu(p1 r)(h:Cl p1=some r):PCall prog 78 [(.agg (Q8 p1))] (.list (List.map J6 r)):=by
 refine C4 (fk func78 ntmps78 (fun r=>if r==8 then [1005]else []) (by with_unfolding_all rfl)) (nl Z) ?_
 unfold Cl at h
 refine A7 (s0:=⟨T [(0,(.d _))],G []⟩) (G1 Z Z) ?_
 refine lr<|fun u1 _=>sm Z<|sv Z<|A1<|A3<|B6<|sq Z<|sl Z G_hit Z<|sd Z (D6 Z)<|sv Z<|A1<|bs h fun y1 hy1 h=>F6 (fun s=> ∃g1:Nat,Sb ⟨T [(2,(oS y1 (42,g1)))],G [((42,g1),oB 93 4 J6 y1)]⟩ s) ?_ ?_
 refine A8<|G0 (X2 p1) (fun (x1:((List Clash)×Int)) (g2:Nat)=>⟨T [(1,(.ptr (1,u1) 0)),(2,(oS x1.1 (42,g2))),(8,(dl F4 p1.Zones)),(9,(di (p1.Zones.length:Int))),(10,(di x1.2))],G [((1,u1),some<|.box 27 (R3 p1)),((42,g2),oB 93 4 J6 x1.1)]⟩) ([],0) 0 _ hy1 (C0 (V4 Z)<|B7 G_hit (.of Z)<|M4 trivial) ?_
 intro x1 g2 z1 hz1 ez1
 unfold X2 at hz1
 refine B6<|sv Z<|A1<|A3<|cc Z hz1 (fun c1 hz1=> ?_)<|fun c1 hz1=> ?_
 refine B2<|A3<|A8<|lr<|fun u4 _=>sv Z<|bs hz1 fun v1 hv1 hz1=>sd Z (F0 Z Z hv1 Z)<|sd Z (C8 Z hv1 Z Z)<|sm Z<|sv Z<|Aa Z G_hit [(dl H3 v1.Parts),(di v1.Signal_)] Z (A1<|B6<|sq Z<|sl Z G_hit Z<|sd Z (D6 Z)<|sv Z<|A1<|bs hz1 fun y2 hy2 hz1=>F6 (fun s=> ∃g3:Nat,Sb ⟨T [(1,(.ptr (1,u1) 0)),(2,(oS y2 (42,g3))),(8,(dl F4 p1.Zones)),(9,(di (p1.Zones.length:Int))),(10,(di x1.2))],G [((1,u1),some<|.box 27 (R3 p1)),((42,g3),oB 93 4 J6 y2)]⟩ s) ?_ ?_)
 refine A8<|G0 (X1 p1 x1 v1) (fun (x2:((List Clash)×Int)) (g4:Nat)=>⟨T [(1,(.ptr (1,u1) 0)),(2,(oS x2.1 (42,g4))),(3,(di x1.2)),(4,(.ptr (4,u4) 0)),(8,(dl F4 p1.Zones)),(9,(di (p1.Zones.length:Int))),(10,(di x1.2)),(16,(dl H3 v1.Parts)),(17,(di (v1.Parts.length:Int))),(18,(di x2.2))],G [((1,u1),some<|.box 27 (R3 p1)),((4,u4),some<|.box 45 [(dl H3 v1.Parts),(di v1.Signal_)]),((42,g4),oB 93 4 J6 x2.1)]⟩) (x1.1,0) g2 _ hy2 (C0 (V4 Z)<|sg Z<|B7 G_hit (.of Z)<|C7 (gq Z) trivial) ?_
 intro x2 g4 z2 hz2 ez2
 unfold X1 at hz2
 refine B6<|sv Z<|A1<|A3<|cc Z hz2 (fun c2 hz2=> ?_)<|fun c2 hz2=> ?_
 refine B2<|A3<|A8<|lr<|fun u7 _=>bs hz2 fun v2 hv2 hz2=>sd Z (F0 Z Z hv2 Z)<|sd Z (C8 Z hv2 Z Z)<|sm Z<|Aa Z G_hit (Pr v2) Z (A1<|B6<|sd Z (B5 Z (gq Z) Z Z)<|sd Z (B5 Z (gq Z) Z Z)<|sq Z<|sl Z G_hit Z<|bs hz2 fun v3 hv3 hz2=>B8 Z Z A2 (Jx _ _ _ _ hv3) (.inl Z) (A9 (.d (bo (!v3))) Z Z (sv Z<|gt Z (fun _=>(B5 Z (gq Z) Z Z))<|gt Z (fun _=>(B5 Z (gq Z) Z Z))<|gp Z (J1 Z) (fun _=>Z) (gt Z (vl Z G_hit Z)<|bs hz2 fun v4 hv4 hz2=> ?_))))
 refine S4 _ (bo v4) (J1 Z) (fun w5=>⟨_,[(.d (.agg (Q8 p1))),(.d (.agg [(.list (List.map H3 v1.Parts)),(i64 v1.Signal_)])),(di v2.Lane_)],_,_,(by simp only [A5 w5];rfl),Z,A2,My _ _ _ _<|L8 w5 hv4,(.inl Z)⟩) ?_
 refine Ab _ (.d (bo (!v4))) Z (J1 Z) (fun w6=>(by simp only [A5 w6];rfl)) ?_
 refine sa Z Z Z<|A1<|cc Z hz2 (fun c3 hz2=> ?_)<|fun c3 hz2=> ?_
 refine A7 (s0:=⟨T [(1,(.ptr (1,u1) 0)),(2,(oS x2.1 (42,g4))),(3,(di x1.2)),(4,(.ptr (4,u4) 0)),(6,(.ptr (6,u7) 0)),(8,(dl F4 p1.Zones)),(9,(di (p1.Zones.length:Int))),(10,(di x1.2)),(16,(dl H3 v1.Parts)),(17,(di (v1.Parts.length:Int))),(18,(di x2.2))],G [((1,u1),some<|.box 27 (R3 p1)),((42,g4),oB 93 4 J6 x2.1),((4,u4),some<|.box 45 [(dl H3 v1.Parts),(di v1.Signal_)]),((6,u7),some<|.box 91 (Pr v2))]⟩) (C0 (V4 Z)<|sg Z<|C7 (gq Z)<|sg Z<|B7 G_hit (.of Z) trivial) ?_
 refine K8 fun u9 _=>A9 (oS x2.1 (42,g4)) Z Z (sv Z<|sq Z<|sl Z (gq Z) Z (sv Z<|A9 (dl J6 [(Clash.mk 2 x1.2 v2.Lane_ (-1))]) Z Z (bs hz2 fun _ hv5 hz2=>H9 J6 (42,g4) x2.1 (Clash.mk 2 x1.2 v2.Lane_ (-1)) [] _ (E4<|fun _=>Z) Z (gq Z) hv5 (ss Z<|A1<|E3<|A7 (s0:=⟨T [(1,(.ptr _ _)),(2,(.sl _)),(3,(.d _)),(4,(.ptr _ _)),(8,(.d _)),(9,(.d _)),(10,(.d _)),(16,(.d _)),(17,(.d _)),(18,(.d _))],G [((1,u1),some<|.box 27 _),((42,u9),some _),((4,u4),some<|.box 45 _)]⟩) (G1 Z Z) ?_))))
 refine B9<|sv Z<|sv Z<|A1<|G9 ?_
 cases hz2
 exact ⟨Z,u9,(C0 ⟨.of Z,(.of (Q7<|L4 hv5).symm), .of Z, .of Z, .of Z, .of Z, .of Z, .of Z, .of Z, .of Z,trivial⟩<|B7 G_hit (.of Z)<|sg Z<|H7 (gq Z) trivial)⟩
 refine B2<|E3<|A7 (s0:=⟨T [(1,(.ptr (1,u1) 0)),(2,(oS x2.1 (42,g4))),(3,(di x1.2)),(4,(.ptr (4,u4) 0)),(8,(dl F4 p1.Zones)),(9,(di (p1.Zones.length:Int))),(10,(di x1.2)),(16,(dl H3 v1.Parts)),(17,(di (v1.Parts.length:Int))),(18,(di x2.2))],G [((1,u1),some<|.box 27 (R3 p1)),((42,g4),oB 93 4 J6 x2.1),((4,u4),some<|.box 45 [(dl H3 v1.Parts),(di v1.Signal_)])]⟩) (C0 (V4 Z)<|sg Z<|C7 (gq Z)<|sg Z trivial) ?_
 refine B9<|sv Z<|sv Z<|A1<|G9 ?_
 cases hz2
 exact ⟨Z,g4,(C0 (V4 Z)<|B7 G_hit (.of Z)<|sg Z<|C7 (gq Z) trivial)⟩
 refine D8 Z ?_
 cases hz2
 obtain rfl:=ez2 _ rfl
 refine ⟨nofun,D1 Z<|Az ?_⟩
 exact ⟨g4,(C0 (V4 Z)<|B7 G_hit (.of Z)<|C7 (gq Z) trivial)⟩
 rintro _ ⟨g3,q1⟩
 refine E3<|A7 q1<|B9<|sv Z<|sv Z<|A1<|G9 ?_
 cases hz1
 exact ⟨Z,g3,(C0 (V4 Z)<|B7 G_hit (.of Z)<|C7 (gq Z) trivial)⟩
 refine D8 Z ?_
 cases hz1
 obtain rfl:=ez1 _ rfl
 refine ⟨nofun,D1 Z<|Az ?_⟩
 exact ⟨g2,(C0 ⟨.of Z,trivial⟩<|C7 (gq Z) trivial)⟩
 rintro _ ⟨g1,q2⟩
 refine A7 q2<|B6<|A9 (oS y1 (42,g1)) Z Z (A9 (oS y1 (42,g1)) Z Z (A1<|B4 ?_))
 cases h
 exact B0 (.inr Z) (C1 (B1 Z)<|Cx G_hit) Cw
def V0 [Lp](p1:Map)(p2:Zone)(x1:((List Int)×Int)):Option (Stp ((List Int)×Int) (List Int)):=
  cond (decide (x1.2< (p2.Parts.length:Int))) ((E8 p2.Parts x1.2).bind fun v1=>(Au p1 p2 v1.Lane_).bind fun v2=>cond v2 ((X6 x1.1 [v1.Lane_]).bind fun v3=>some (.go (v3,(H6 (x1.2+1))))) (some (.go (x1.1,(H6 (x1.2+1)))))) (some (.out x1.1))
def U2 [Lp](p1:Map)(p2:Zone):Option (List Int):=
  (loop (V0 p1 p2) ([],0)).bind fun y1=>some y1
theorem Ia(p1 p2 r)(h:U2 p1 p2=some r):PCall prog 248 [(.agg (Q8 p1)),(.agg [(.list (List.map H3 p2.Parts)),(i64 p2.Signal_)])] (.list (List.map A6 r)):=by
 refine C4 (fk func248 ntmps248 (fun r=>if r==6 then [1003]else []) (by with_unfolding_all rfl)) (nl Z) ?_
 unfold U2 at h
 refine A7 (s0:=⟨T [(0,(.d _)),(1,(.d _))],G []⟩) (G1 Z Z) ?_
 refine lr<|fun u1 _=>sm Z<|sm Z<|sv Z<|A1<|B6<|sv Z<|A1<|A3<|B6<|sq Z<|sl Z G_hit Z<|sd Z (D6 Z)<|sv Z<|A1<|bs h fun y1 hy1 h=>F6 (fun s=> ∃g1:Nat,Sb ⟨T [(5,(oS y1 (24,g1)))],G [((24,g1),oB 3 1 A6 y1)]⟩ s) ?_ ?_
 refine A8<|G0 (V0 p1 p2) (fun (x1:((List Int)×Int)) (g2:Nat)=>⟨T [(2,(.ptr (2,u1) 0)),(3,(.ptr (3,u1) 0)),(5,(oS x1.1 (24,g2))),(9,(dl H3 p2.Parts)),(10,(di (p2.Parts.length:Int))),(11,(di x1.2))],G [((2,u1),some<|.box 27 (R3 p1)),((3,u1),some<|.box 45 [(dl H3 p2.Parts),(di p2.Signal_)]),((24,g2),oB 3 1 A6 x1.1)]⟩) ([],0) 0 _ hy1 (C0 (V4 Z)<|sg Z<|B7 G_hit (.of Z)<|M4 trivial) ?_
 intro x1 g2 z1 hz1 ez1
 unfold V0 at hz1
 refine B6<|sv Z<|A1<|A3<|cc Z hz1 (fun c1 hz1=> ?_)<|fun c1 hz1=> ?_
 refine B2<|A3<|A8<|B6<|bs hz1 fun v1 hv1 hz1=>sd Z (F0 Z Z hv1 Z)<|sd Z (C8 Z hv1 Z Z)<|sm Z<|Aa Z G_hit (Pr v1) Z (A1<|B6<|sd Z (B5 Z (gq Z) Z Z)<|sd Z (B5 Z (gq Z) Z Z)<|sq Z<|sl Z G_hit Z<|bs hz1 fun _ hv2 hz1=>B8 Z Z A2 (Jx _ _ _ _ hv2) (.inl Z) (A1<|cc Z hz1 (fun c2 hz1=> ?_)<|fun c2 hz1=> ?_))
 refine K8 fun u7 _=>A9 (oS x1.1 (24,g2)) Z Z (sq Z<|sl Z G_hit Z<|A9 (dl A6 [v1.Lane_]) Z Z (bs hz1 fun _ hv3 hz1=>H9 A6 (24,g2) x1.1 v1.Lane_ [] _ (E4<|fun _=>Z) Z (gq Z) hv3 (ss Z<|A1<|E3<|A7 (s0:=⟨T [(2,(.ptr _ _)),(3,(.ptr _ _)),(5,(.sl _)),(9,(.d _)),(10,(.d _)),(11,(.d _))],G [((2,u1),some<|.box 27 _),((3,u1),some<|.box 45 _),((24,u7),some _)]⟩) (G1 Z Z) ?_)))
 refine B9<|sv Z<|sv Z<|A1<|G9 ?_
 cases hz1
 exact ⟨Z,u7,(C0 ⟨.of Z, .of Z,(.of (Q7<|L4 hv3).symm), .of Z, .of Z, .of Z,trivial⟩<|B7 G_hit (.of Z)<|sg Z<|H7 (gq Z) trivial)⟩
 refine B2<|E3<|B9<|sv Z<|sv Z<|A1<|G9 ?_
 cases hz1
 exact ⟨Z,g2,(C0 (V4 Z)<|sg Z<|sg Z<|C7 (gq Z) trivial)⟩
 refine D8 Z ?_
 cases hz1
 obtain rfl:=ez1 _ rfl
 refine ⟨nofun,D1 Z<|Az ?_⟩
 exact ⟨g2,(C0 ⟨.of Z,trivial⟩<|C7 (gq Z) trivial)⟩
 rintro _ ⟨g1,q1⟩
 refine A7 q1<|B6<|A9 (oS y1 (24,g1)) Z Z (A9 (oS y1 (24,g1)) Z Z (A1<|B4 ?_))
 cases h
 exact B0 (.inr Z) (C1 (B1 Z)<|Cx G_hit) Cw
def Cr [Lp](p1:Zone)(p2:Int)(p3:Int):Option Bool:=
  (Bf p1 p2).bind fun v1=>(Bf p1 p3).bind fun v2=>some ((p1.Signal_==0)&& (v1.1.Rank==v2.1.Rank))
theorem Tn(p1 p2 p3 r)(h:Cr p1 p2 p3=some r):PCall prog 186 [(.agg [(.list (List.map H3 p1.Parts)),(i64 p1.Signal_)]),(i64 p2),(i64 p3)] (bo r):=by
 refine C4 (fk func186 ntmps186 m0 (by with_unfolding_all rfl)) (nl Z) ?_
 unfold Cr at h
 refine A7 (s0:=⟨T [(0,(.d _)),(1,(.d _)),(2,(.d _))],G []⟩) (G1 Z Z) ?_
 refine lr<|fun u1 _=>sm Z<|sv Z<|A1<|lr<|fun u2 _=>sd Z (B5 Z G_hit Z Z)<|sv Z<|bs h fun v1 hv1 h=>B8 Z Z A2 (Ig _ _ _ hv1) (.inl Z) (sv Z<|sv Z<|sv Z<|sm Z<|Aa Z G_hit (Pr v1.1) Z (sv Z<|A1<|lr<|fun u3 _=>sd Z (B5 Z (gq Z) Z Z)<|sv Z<|bs h fun v2 hv2 h=>B8 Z Z A2 (Ig _ _ _ hv2) (.inl Z) (sv Z<|sv Z<|sv Z<|sm Z<|Aa Z G_hit (Pr v2.1) Z (sv Z<|A1<|A3<|A7 (s0:=⟨T [(3,(.ptr _ _)),(7,(.ptr _ _)),(9,(.ptr _ _))],G [((3,u1),some<|.box 45 _),((7,u2),some<|.box 91 _),((9,u3),some<|.box 91 _)]⟩) (G1 Z Z) ?_))))
 refine B9<|sq Z<|sl Z G_hit Z<|sv Z<|sv Z<|gp Z (J1 Z) (fun _=>Z) (gt Z (vl Z (gq Z) Z)<|gp Z (J1 Z) (fun _=>Z) (gt Z (vl Z (gq Z) Z)<|gt Z (fun w5=>(J3 (A5 w5) (A5 w5) Z))<|sa Z Z Z<|sv Z<|A1<|B4 ?_))
 cases h
 exact B0 (.inr Z) (C1 (B1 Z) D4) (.refl _)
def H8 [Lp](p2:Int)(x1:((List Clash)×Int))(v1:Zone)(v3:Int)(v4:List Int)(x3:((List Clash)×Int)):Option (Stp ((List Clash)×Int) (List Clash)):=
  cond (decide (x3.2< (v4.length:Int))) ((E8 v4 x3.2).bind fun v5=>(Cr v1 v3 v5).bind fun v6=>cond v6 ((X6 x3.1 [(Clash.mk p2 x1.2 v3 v5)]).bind fun v7=>some (.go (v7,(H6 (x3.2+1))))) (some (.go (x3.1,(H6 (x3.2+1)))))) (some (.out x3.1))
def K6 [Lp](p2:Int)(x1:((List Clash)×Int))(v1:Zone)(v2:(List Int))(x2:((List Clash)×Int)):Option (Stp ((List Clash)×Int) (List Clash)):=
  cond (decide (x2.2< (v2.length:Int))) ((E8 v2 x2.2).bind fun v3=>(Rn v2 (H6 (x2.2+1)) (v2.length:Int)).bind fun v4=>(loop (H8 p2 x1 v1 v3 v4) (x2.1,0)).bind fun y3=>some (.go (y3,(H6 (x2.2+1))))) (some (.out x2.1))
def K7 [Lp](p1:Map)(p2:Int)(x1:((List Clash)×Int)):Option (Stp ((List Clash)×Int) (List Clash)):=
  cond (decide (x1.2< (p1.Zones.length:Int))) ((E8 p1.Zones x1.2).bind fun v1=>(U2 p1 v1).bind fun v2=>(loop (K6 p2 x1 v1 v2) (x1.1,0)).bind fun y2=>some (.go (y2,(H6 (x1.2+1))))) (some (.out x1.1))
def N1 [Lp](p1:Map)(p2:Int):Option (List Clash):=
  (loop (K7 p1 p2) ([],0)).bind fun y1=>some y1
theorem Ix(p1 p2 r)(h:N1 p1 p2=some r):PCall prog 185 [(.agg (Q8 p1)),(i64 p2),(.fn (.func 186) [] [])] (.list (List.map J6 r)):=by
 refine C4 (fk func185 ntmps185 (fun r=>if r==12 then [1006]else []) (by with_unfolding_all rfl)) (nl Z) ?_
 unfold N1 at h
 refine A7 (s0:=⟨T [(0,(.d _)),(1,(.d _)),(2,(.d _))],G []⟩) (G1 Z Z) ?_
 refine lr<|fun u1 _=>sm Z<|sv Z<|A1<|A3<|B6<|sq Z<|sl Z G_hit Z<|sd Z (D6 Z)<|sv Z<|A1<|bs h fun y1 hy1 h=>F6 (fun s=> ∃g1:Nat,Sb ⟨T [(6,(oS y1 (53,g1)))],G [((53,g1),oB 93 4 J6 y1)]⟩ s) ?_ ?_
 refine A8<|G0 (K7 p1 p2) (fun (x1:((List Clash)×Int)) (g2:Nat)=>⟨T [(1,(di p2)),(2,(.d (.fn (.func 186) [] []))),(3,(.ptr (3,u1) 0)),(6,(oS x1.1 (53,g2))),(15,(dl F4 p1.Zones)),(16,(di (p1.Zones.length:Int))),(17,(di x1.2))],G [((3,u1),some<|.box 27 (R3 p1)),((53,g2),oB 93 4 J6 x1.1)]⟩) ([],0) 0 _ hy1 (C0 (V4 Z)<|B7 G_hit (.of Z)<|M4 trivial) ?_
 intro x1 g2 z1 hz1 ez1
 unfold K7 at hz1
 refine B6<|sv Z<|A1<|A3<|cc Z hz1 (fun c1 hz1=> ?_)<|fun c1 hz1=> ?_
 refine B2<|A3<|A8<|lr<|fun u4 _=>sv Z<|bs hz1 fun v1 hv1 hz1=>sd Z (F0 Z Z hv1 Z)<|sd Z (C8 Z hv1 Z Z)<|sm Z<|sv Z<|Aa Z G_hit [(dl H3 v1.Parts),(di v1.Signal_)] Z (A1<|B6<|sd Z (B5 Z (gq Z) Z Z)<|sd Z (B5 Z G_hit Z Z)<|bs hz1 fun v2 hv2 hz1=>B8 Z Z A2 (Ia _ _ _ hv2) (.inl Z) (sv Z<|A1<|B6<|sv Z<|sd Z (D6 Z)<|sv Z<|A1<|bs hz1 fun y2 hy2 hz1=>F6 (fun s=> ∃g3:Nat,Sb ⟨T [(1,(di p2)),(2,(.d (.fn (.func 186) [] []))),(3,(.ptr (3,u1) 0)),(6,(oS y2 (53,g3))),(15,(dl F4 p1.Zones)),(16,(di (p1.Zones.length:Int))),(17,(di x1.2))],G [((3,u1),some<|.box 27 (R3 p1)),((53,g3),oB 93 4 J6 y2)]⟩ s) ?_ ?_))
 refine A8<|G0 (K6 p2 x1 v1 v2) (fun (x2:((List Clash)×Int)) (g4:Nat)=>⟨T [(1,(di p2)),(2,(.d (.fn (.func 186) [] []))),(3,(.ptr (3,u1) 0)),(6,(oS x2.1 (53,g4))),(7,(di x1.2)),(8,(.ptr (8,u4) 0)),(9,(dl A6 v2)),(15,(dl F4 p1.Zones)),(16,(di (p1.Zones.length:Int))),(17,(di x1.2)),(25,(dl A6 v2)),(26,(di (v2.length:Int))),(27,(di x2.2))],G [((3,u1),some<|.box 27 (R3 p1)),((8,u4),some<|.box 45 [(dl H3 v1.Parts),(di v1.Signal_)]),((53,g4),oB 93 4 J6 x2.1)]⟩) (x1.1,0) g2 _ hy2 (C0 (V4 Z)<|sg Z<|B7 G_hit (.of Z)<|C7 (gq Z) trivial) ?_
 intro x2 g4 z2 hz2 ez2
 unfold K6 at hz2
 refine B6<|sv Z<|A1<|A3<|cc Z hz2 (fun c2 hz2=> ?_)<|fun c2 hz2=> ?_
 refine B2<|A3<|A8<|B6<|sv Z<|bs hz2 fun v3 hv3 hz2=>sd Z (F0 Z Z hv3 Z)<|sd Z (J8 Z hv3 Z)<|sv Z<|sv Z<|A1<|B6<|sv Z<|sv Z<|sv Z<|bs hz2 fun v4 hv4 hz2=>sd Z (HP Z (fun _=>Z) (QT Z) BE hv4)<|sd Z (D6 Z)<|sv Z<|A1<|bs hz2 fun y3 hy3 hz2=>F6 (fun s=> ∃g5:Nat,Sb ⟨T [(1,(di p2)),(2,(.d (.fn (.func 186) [] []))),(3,(.ptr (3,u1) 0)),(6,(oS y3 (53,g5))),(7,(di x1.2)),(8,(.ptr (8,u4) 0)),(9,(dl A6 v2)),(15,(dl F4 p1.Zones)),(16,(di (p1.Zones.length:Int))),(17,(di x1.2)),(25,(dl A6 v2)),(26,(di (v2.length:Int))),(27,(di x2.2))],G [((3,u1),some<|.box 27 (R3 p1)),((8,u4),some<|.box 45 [(dl H3 v1.Parts),(di v1.Signal_)]),((53,g5),oB 93 4 J6 y3)]⟩ s) ?_ ?_
 refine A8<|G0 (H8 p2 x1 v1 v3 v4) (fun (x3:((List Clash)×Int)) (g6:Nat)=>⟨T [(1,(di p2)),(2,(.d (.fn (.func 186) [] []))),(3,(.ptr (3,u1) 0)),(6,(oS x3.1 (53,g6))),(7,(di x1.2)),(8,(.ptr (8,u4) 0)),(9,(dl A6 v2)),(11,(di v3)),(15,(dl F4 p1.Zones)),(16,(di (p1.Zones.length:Int))),(17,(di x1.2)),(25,(dl A6 v2)),(26,(di (v2.length:Int))),(27,(di x2.2)),(35,(dl A6 v4)),(36,(di (v4.length:Int))),(37,(di x3.2))],G [((3,u1),some<|.box 27 (R3 p1)),((8,u4),some<|.box 45 [(dl H3 v1.Parts),(di v1.Signal_)]),((53,g6),oB 93 4 J6 x3.1)]⟩) (x2.1,0) g4 _ hy3 (C0 (V4 Z)<|B7 G_hit (.of Z)<|sg Z<|C7 (gq Z) trivial) ?_
 intro x3 g6 z3 hz3 ez3
 unfold H8 at hz3
 refine B6<|sv Z<|A1<|A3<|cc Z hz3 (fun c3 hz3=> ?_)<|fun c3 hz3=> ?_
 refine B2<|A3<|A8<|B6<|bs hz3 fun v5 hv5 hz3=>sd Z (F0 Z Z hv5 Z)<|sd Z (J8 Z hv5 Z)<|sv Z<|A1<|B6<|sv Z<|sd Z (B5 Z (gq Z) Z Z)<|sv Z<|sv Z<|bs hz3 fun _ hv6 hz3=>B8 Z Z A2 (Tn _ _ _ _ hv6) (.inl Z) (A1<|cc Z hz3 (fun c4 hz3=> ?_)<|fun c4 hz3=> ?_)
 refine A7 (s0:=⟨T [(1,(di p2)),(2,(.d (.fn (.func 186) [] []))),(3,(.ptr (3,u1) 0)),(6,(oS x3.1 (53,g6))),(7,(di x1.2)),(8,(.ptr (8,u4) 0)),(9,(dl A6 v2)),(11,(di v3)),(13,(di v5)),(15,(dl F4 p1.Zones)),(16,(di (p1.Zones.length:Int))),(17,(di x1.2)),(25,(dl A6 v2)),(26,(di (v2.length:Int))),(27,(di x2.2)),(35,(dl A6 v4)),(36,(di (v4.length:Int))),(37,(di x3.2))],G [((3,u1),some<|.box 27 (R3 p1)),((53,g6),oB 93 4 J6 x3.1),((8,u4),some<|.box 45 [(dl H3 v1.Parts),(di v1.Signal_)])]⟩) (C0 (V4 Z)<|B7 G_hit (.of Z)<|C7 (gq Z)<|sg Z trivial) ?_
 refine K8 fun u13 _=>A9 (oS x3.1 (53,g6)) Z Z (sv Z<|sv Z<|sv Z<|sv Z<|sv Z<|A9 (dl J6 [(Clash.mk p2 x1.2 v3 v5)]) Z Z (bs hz3 fun _ hv7 hz3=>H9 J6 (53,g6) x3.1 (Clash.mk p2 x1.2 v3 v5) [] _ (E4<|fun _=>Z) Z (gq Z) hv7 (ss Z<|A1<|E3<|A7 (s0:=⟨T [(1,(.d _)),(2,(.d _)),(3,(.ptr _ _)),(6,(.sl _)),(7,(.d _)),(8,(.ptr _ _)),(9,(.d _)),(11,(.d _)),(15,(.d _)),(16,(.d _)),(17,(.d _)),(25,(.d _)),(26,(.d _)),(27,(.d _)),(35,(.d _)),(36,(.d _)),(37,(.d _))],G [((3,u1),some<|.box 27 _),((53,u13),some _),((8,u4),some<|.box 45 _)]⟩) (G1 Z Z) ?_)))
 refine B9<|sv Z<|sv Z<|A1<|G9 ?_
 cases hz3
 exact ⟨Z,u13,(C0 ⟨.of Z, .of Z, .of Z,(.of (Q7<|L4 hv7).symm), .of Z, .of Z, .of Z, .of Z, .of Z, .of Z, .of Z, .of Z, .of Z, .of Z, .of Z, .of Z, .of Z,trivial⟩<|B7 G_hit (.of Z)<|sg Z<|H7 (gq Z) trivial)⟩
 refine B2<|E3<|A7 (s0:=⟨T [(1,(di p2)),(2,(.d (.fn (.func 186) [] []))),(3,(.ptr (3,u1) 0)),(6,(oS x3.1 (53,g6))),(7,(di x1.2)),(8,(.ptr (8,u4) 0)),(9,(dl A6 v2)),(11,(di v3)),(15,(dl F4 p1.Zones)),(16,(di (p1.Zones.length:Int))),(17,(di x1.2)),(25,(dl A6 v2)),(26,(di (v2.length:Int))),(27,(di x2.2)),(35,(dl A6 v4)),(36,(di (v4.length:Int))),(37,(di x3.2))],G [((3,u1),some<|.box 27 (R3 p1)),((53,g6),oB 93 4 J6 x3.1),((8,u4),some<|.box 45 [(dl H3 v1.Parts),(di v1.Signal_)])]⟩) (C0 (V4 Z)<|B7 G_hit (.of Z)<|C7 (gq Z)<|sg Z trivial) ?_
 refine B9<|sv Z<|sv Z<|A1<|G9 ?_
 cases hz3
 exact ⟨Z,g6,(C0 (V4 Z)<|B7 G_hit (.of Z)<|sg Z<|C7 (gq Z) trivial)⟩
 refine D8 Z ?_
 cases hz3
 obtain rfl:=ez3 _ rfl
 refine ⟨nofun,D1 Z<|Az ?_⟩
 exact ⟨g6,(C0 (V4 Z)<|B7 G_hit (.of Z)<|sg Z<|C7 (gq Z) trivial)⟩
 rintro _ ⟨g5,q1⟩
 refine E3<|A7 q1<|B9<|sv Z<|sv Z<|A1<|G9 ?_
 cases hz2
 exact ⟨Z,g5,(C0 (V4 Z)<|B7 G_hit (.of Z)<|sg Z<|C7 (gq Z) trivial)⟩
 refine D8 Z ?_
 cases hz2
 obtain rfl:=ez2 _ rfl
 refine ⟨nofun,D1 Z<|Az ?_⟩
 exact ⟨g4,(C0 (V4 Z)<|B7 G_hit (.of Z)<|C7 (gq Z) trivial)⟩
 rintro _ ⟨g3,q2⟩
 refine E3<|A7 q2<|B9<|sv Z<|sv Z<|A1<|G9 ?_
 cases hz1
 exact ⟨Z,g3,(C0 (V4 Z)<|B7 G_hit (.of Z)<|C7 (gq Z) trivial)⟩
 refine D8 Z ?_
 cases hz1
 obtain rfl:=ez1 _ rfl
 refine ⟨nofun,D1 Z<|Az ?_⟩
 exact ⟨g2,(C0 ⟨.of Z,trivial⟩<|C7 (gq Z) trivial)⟩
 rintro _ ⟨g1,q3⟩
 refine A7 q3<|B6<|A9 (oS y1 (53,g1)) Z Z (A9 (oS y1 (53,g1)) Z Z (A1<|B4 ?_))
 cases h
 exact B0 (.inr Z) (C1 (B1 Z)<|Cx G_hit) Cw
def Dl [Lp](p1:Map):Option (List Clash):=
  (N1 p1 3).bind fun v1=>some v1
theorem Xf(p1 r)(h:Dl p1=some r):PCall prog 79 [(.agg (Q8 p1))] (.list (List.map J6 r)):=by
 refine C4 (fk func79 ntmps79 m0 (by with_unfolding_all rfl)) (nl Z) ?_
 unfold Dl at h
 refine A7 (s0:=⟨T [(0,(.d _))],G []⟩) (G1 Z Z) ?_
 refine B6<|sm Z<|sv Z<|A1<|B6<|sd Z (B5 Z G_hit Z Z)<|bs h fun _ hv1 h=>B8 Z Z A2 (Ix _ _ _ hv1) (.inl Z) (sv Z<|A1<|B4 ?_)
 cases h
 exact B0 (.inr Z) (C1 (B1 Z) D4) (.refl _)
def S9 [Lp](p1:Phase)(p2:Int)(p3:Int):Option Bool:=
  (I5 p1.Green p2).bind fun v1=>((cond v1 (I5 p1.Green p3) (some default))).bind fun v2=>some (v1&&v2)
theorem Lr(p1 p2 p3 r)(h:S9 p1 p2 p3=some r):PCall prog 188 [(.agg [(i64 p1.Ticks),(.list (List.map A6 p1.Green))]),(.bp [(i64 p2)] 0),(.bp [(i64 p3)] 0)] (bo r):=by
 refine C4 (fk func188 ntmps188 m0 (by with_unfolding_all rfl)) (nl Z) ?_
 unfold S9 at h
 refine A7 (s0:=⟨T [(0,(.d _)),(1,(.d _)),(2,(.d _))],G []⟩) (G1 Z Z) ?_
 refine B6<|sm Z<|sv Z<|A1<|B6<|sq Z<|sl Z G_hit Z<|sv Z<|bs h fun v1 hv1 h=>B8 Z Z A2 (W1 _ _ _ hv1) (.inl Z) (sv Z<|gp Z (J1 Z) (fun _=>Z) (gt Z (vl Z G_hit Z)<|gt Z (fun _=>Z)<|bs h fun v2 hv2 h=> ?_))
 refine S4 v1 (bo v2) (J1 Z) (fun w4=>⟨_,[(dl A6 p1.Green),(di p3)],_,_,(by simp only [A5 w4];rfl),Z,A2,W1 _ _ _<|L8 w4 hv2,(.inl Z)⟩) ?_
 refine sa Z Z Z<|sv Z<|A1<|B4 ?_
 cases h
 exact B0 (.inr Z) (C1 (B1 Z) D4) (.refl _)
def C9 [Lp](p1:(List Phase))(p2:Int)(p3:Int)(x1:Int):Option (Stp Int (Sum Unit Int)):=
  cond (decide (x1< (p1.length:Int))) ((E8 p1 x1).bind fun v1=>(S9 v1 p2 p3).bind fun v2=>cond v2 (some (.out (.inr x1))) (some (.go (H6 (x1+1))))) (some (.out (.inl ())))
def E7 [Lp](p1:(List Phase))(p2:Int)(p3:Int):Option Int:=
  thenS (loop (C9 p1 p2 p3) 0) (fun _=>some (-1)) (fun r=>some r)
theorem Bi(p1 p2 p3 r)(h:E7 p1 p2 p3=some r):PCall prog 237 [(.list (List.map J2 p1)),(.fn (.func 188) [] [(.bp [(i64 p2)] 0),(.bp [(i64 p3)] 0)])] (i64 r):=by
 refine C4 (fk func237 ntmps237 m0 (by with_unfolding_all rfl)) (nl Z) ?_
 unfold E7 at h
 refine A7 (s0:=⟨T [(0,(.d _)),(1,(.d _))],G []⟩) (G1 Z Z) ?_
 refine B6<|sv Z<|A1<|A3<|B6<|sv Z<|sd Z (D6 Z)<|sv Z<|A1<|js h fun z1 hz1 h=>F6 (fun s=> ∃(y1:Unit) (g1:Unit),z1= .inl y1∧Sb ⟨T [],G []⟩ s) ?_ ?_
 refine A8<|G0 (C9 p1 p2 p3) (fun (x1:Int) (g2:Unit)=>⟨T [(0,(dl J2 p1)),(1,(.d (.fn (.func 188) [] [(.bp [(i64 p2)] 0),(.bp [(i64 p3)] 0)]))),(7,(di (p1.length:Int))),(8,(di x1))],G []⟩) 0 () _ hz1 (G1 Z Z) ?_
 intro x1 g2 z2 hz2 ez2
 unfold C9 at hz2
 refine B6<|sv Z<|A1<|A3<|cc Z hz2 (fun c1 hz2=> ?_)<|fun c1 hz2=> ?_
 refine B2<|A3<|A8<|B6<|sv Z<|sv Z<|A1<|B6<|sv Z<|sv Z<|sv Z<|bs hz2 fun _ hv1 hz2=>sd Z (F0 Z Z hv1 Z)<|sd Z (C8 Z hv1 Z Z)<|bs hz2 fun _ hv2 hz2=>B8 Z Z A2 (Lr _ _ _ _ hv2) (.inl Z) (A1<|cc Z hz2 (fun c2 hz2=> ?_)<|fun c2 hz2=> ?_)
 refine B6<|sv Z<|sv Z<|A1<|B4 ?_
 cases hz2
 obtain rfl:=ez2 _ rfl
 refine ⟨nofun,G6 ?_⟩
 rw [bM]at h
 cases h
 exact B0 (.inr Z) (C1 (B1 Z) D4) (.refl _)
 refine B2<|E3<|B9<|sv Z<|sv Z<|A1<|G9 ?_
 cases hz2
 exact ⟨Z,(),(G1 Z Z)⟩
 refine D8 Z ?_
 cases hz2
 obtain rfl:=ez2 _ rfl
 refine ⟨nofun,D1 Z<|Az ?_⟩
 exact ⟨_,(),Z,(G1 Z Z)⟩
 rintro _ ⟨y1,g1,rfl,q1⟩
 rw [bL]at h
 refine A7 q1<|B6<|sv Z<|A1<|B4 ?_
 cases h
 exact B0 (.inr Z) (C1 (B1 Z) D4) (.refl _)
def D0 [Lp](p1:(List Phase))(p2:Int)(p3:Int):Option Bool:=
  (E7 p1 p2 p3).bind fun v1=>some (decide (v1≥0))
theorem Ai(p1 p2 p3 r)(h:D0 p1 p2 p3=some r):PCall prog 172 [(.list (List.map J2 p1)),(.fn (.func 188) [] [(.bp [(i64 p2)] 0),(.bp [(i64 p3)] 0)])] (bo r):=by
 refine C4 (fk func172 ntmps172 m0 (by with_unfolding_all rfl)) (nl Z) ?_
 unfold D0 at h
 refine A7 (s0:=⟨T [(0,(.d _)),(1,(.d _))],G []⟩) (G1 Z Z) ?_
 refine B6<|sv Z<|A1<|B6<|sv Z<|sv Z<|bs h fun _ hv1 h=>B8 Z Z A2 (Bi _ _ _ _ hv1) (.inl Z) (sv Z<|sv Z<|A1<|B4 ?_)
 cases h
 exact B0 (.inr Z) (C1 (B1 Z) D4) (.refl _)
def T4 [Lp](p1:Zone)(p2:Int)(p3:Int)(p4:Map):Option Bool:=
  ((cond (decide (p1.Signal_>0)) (E8 p4.Signals (H6 (p1.Signal_ - 1))) (some default))).bind fun v1=>((cond (decide (p1.Signal_>0)) (D0 v1.Phases p2 p3) (some default))).bind fun v2=>some ((decide (p1.Signal_>0))&&v2)
theorem Ja(p1 p2 p3 p4 r)(h:T4 p1 p2 p3 p4=some r):PCall prog 187 [(.agg [(.list (List.map H3 p1.Parts)),(i64 p1.Signal_)]),(i64 p2),(i64 p3),(.bp (Q8 p4) 0)] (bo r):=by
 refine C4 (fk func187 ntmps187 m0 (by with_unfolding_all rfl)) (nl Z) ?_
 unfold T4 at h
 refine A7 (s0:=⟨T [(0,(.d _)),(1,(.d _)),(2,(.d _)),(3,(.d _))],G []⟩) (G1 Z Z) ?_
 refine lr<|fun u1 _=>sm Z<|sm Z<|sn Z Z<|sv Z<|A1<|B6<|sq Z<|sl Z (gq Z) Z (sv Z<|sv Z<|gt Z (fun _=>Z) ?_)
 refine gt Z (fun w2=>(by simp only [A5 w2];rfl)) ?_
 refine gp Z (J1 Z) (fun _=>Z) (gt Z (vl Z (gq Z) Z)<|gt Z (vb Z Z Z)<|bs h fun v1 hv1 h=>gt Z (fun w6=>(F0 (A5 w6) (A5 w6) (L8 w6 hv1) Z)) ?_)
 refine gt Z (fun w7=>(by simp only [A5 w7];rfl)) ?_
 refine gt Z (fun w8=>(J8 (A5 w8) (L8 w8 hv1) Z))<|Ab _ (.fn _ _ _) Z (J1 Z) (fun _=>Z) (bs h fun v2 hv2 h=> ?_)
 refine S4 _ (bo v2) (J1 Z) (fun w10=>⟨_,[(dl J2 v1.Phases),(.fn (.func 188) [] [(.ptr (5,u1) 0),(.ptr (6,u1) 0)])],_,_,(by simp only [A5 w10];rfl),(rD<|J5 (Zh M3<|J5 (Kx (gq Z)<|rD M3)<|J5 (Kx G_hit<|rD M3) M3) M3),A2,Ai _ _ _ _<|L8 w10 hv2,(.inr Z)⟩) ?_
 refine sa Z Z Z<|sv Z<|A1<|B4 ?_
 cases h
 exact B0 (.inr Z) (C1 (B1 Z) D4) (.refl _)
def Y1 [Lp](p2:Int)(p3:Map)(x1:((List Clash)×Int))(v1:Zone)(v3:Int)(v4:List Int)(x3:((List Clash)×Int)):Option (Stp ((List Clash)×Int) (List Clash)):=
  cond (decide (x3.2< (v4.length:Int))) ((E8 v4 x3.2).bind fun v5=>(T4 v1 v3 v5 p3).bind fun v6=>cond v6 ((X6 x3.1 [(Clash.mk p2 x1.2 v3 v5)]).bind fun v7=>some (.go (v7,(H6 (x3.2+1))))) (some (.go (x3.1,(H6 (x3.2+1)))))) (some (.out x3.1))
def Y2 [Lp](p2:Int)(p3:Map)(x1:((List Clash)×Int))(v1:Zone)(v2:(List Int))(x2:((List Clash)×Int)):Option (Stp ((List Clash)×Int) (List Clash)):=
  cond (decide (x2.2< (v2.length:Int))) ((E8 v2 x2.2).bind fun v3=>(Rn v2 (H6 (x2.2+1)) (v2.length:Int)).bind fun v4=>(loop (Y1 p2 p3 x1 v1 v3 v4) (x2.1,0)).bind fun y3=>some (.go (y3,(H6 (x2.2+1))))) (some (.out x2.1))
def Y3 [Lp](p1:Map)(p2:Int)(p3:Map)(x1:((List Clash)×Int)):Option (Stp ((List Clash)×Int) (List Clash)):=
  cond (decide (x1.2< (p1.Zones.length:Int))) ((E8 p1.Zones x1.2).bind fun v1=>(U2 p1 v1).bind fun v2=>(loop (Y2 p2 p3 x1 v1 v2) (x1.1,0)).bind fun y2=>some (.go (y2,(H6 (x1.2+1))))) (some (.out x1.1))
def Ew [Lp](p1:Map)(p2:Int)(p3:Map):Option (List Clash):=
  (loop (Y3 p1 p2 p3) ([],0)).bind fun y1=>some y1
theorem Tp(p1 p2 p3 r)(h:Ew p1 p2 p3=some r):PCall prog 185 [(.agg (Q8 p1)),(i64 p2),(.fn (.func 187) [] [(.bp (Q8 p3) 0)])] (.list (List.map J6 r)):=by
 refine C4 (fk func185 ntmps185 (fun r=>if r==12 then [1006]else []) (by with_unfolding_all rfl)) (nl Z) ?_
 unfold Ew at h
 refine A7 (s0:=⟨T [(0,(.d _)),(1,(.d _)),(2,(.d _))],G []⟩) (G1 Z Z) ?_
 refine lr<|fun u1 _=>sm Z<|sv Z<|A1<|A3<|B6<|sq Z<|sl Z G_hit Z<|sd Z (D6 Z)<|sv Z<|A1<|bs h fun y1 hy1 h=>F6 (fun s=> ∃g1:Nat,Sb ⟨T [(6,(oS y1 (53,g1)))],G [((53,g1),oB 93 4 J6 y1)]⟩ s) ?_ ?_
 refine A8<|G0 (Y3 p1 p2 p3) (fun (x1:((List Clash)×Int)) (g2:Nat)=>⟨T [(1,(di p2)),(2,(.d (.fn (.func 187) [] [(.bp (Q8 p3) 0)]))),(3,(.ptr (3,u1) 0)),(6,(oS x1.1 (53,g2))),(15,(dl F4 p1.Zones)),(16,(di (p1.Zones.length:Int))),(17,(di x1.2))],G [((3,u1),some<|.box 27 (R3 p1)),((53,g2),oB 93 4 J6 x1.1)]⟩) ([],0) 0 _ hy1 (C0 (V4 Z)<|B7 G_hit (.of Z)<|M4 trivial) ?_
 intro x1 g2 z1 hz1 ez1
 unfold Y3 at hz1
 refine B6<|sv Z<|A1<|A3<|cc Z hz1 (fun c1 hz1=> ?_)<|fun c1 hz1=> ?_
 refine B2<|A3<|A8<|lr<|fun u4 _=>sv Z<|bs hz1 fun v1 hv1 hz1=>sd Z (F0 Z Z hv1 Z)<|sd Z (C8 Z hv1 Z Z)<|sm Z<|sv Z<|Aa Z G_hit [(dl H3 v1.Parts),(di v1.Signal_)] Z (A1<|B6<|sd Z (B5 Z (gq Z) Z Z)<|sd Z (B5 Z G_hit Z Z)<|bs hz1 fun v2 hv2 hz1=>B8 Z Z A2 (Ia _ _ _ hv2) (.inl Z) (sv Z<|A1<|B6<|sv Z<|sd Z (D6 Z)<|sv Z<|A1<|bs hz1 fun y2 hy2 hz1=>F6 (fun s=> ∃g3:Nat,Sb ⟨T [(1,(di p2)),(2,(.d (.fn (.func 187) [] [(.bp (Q8 p3) 0)]))),(3,(.ptr (3,u1) 0)),(6,(oS y2 (53,g3))),(15,(dl F4 p1.Zones)),(16,(di (p1.Zones.length:Int))),(17,(di x1.2))],G [((3,u1),some<|.box 27 (R3 p1)),((53,g3),oB 93 4 J6 y2)]⟩ s) ?_ ?_))
 refine A8<|G0 (Y2 p2 p3 x1 v1 v2) (fun (x2:((List Clash)×Int)) (g4:Nat)=>⟨T [(1,(di p2)),(2,(.d (.fn (.func 187) [] [(.bp (Q8 p3) 0)]))),(3,(.ptr (3,u1) 0)),(6,(oS x2.1 (53,g4))),(7,(di x1.2)),(8,(.ptr (8,u4) 0)),(9,(dl A6 v2)),(15,(dl F4 p1.Zones)),(16,(di (p1.Zones.length:Int))),(17,(di x1.2)),(25,(dl A6 v2)),(26,(di (v2.length:Int))),(27,(di x2.2))],G [((3,u1),some<|.box 27 (R3 p1)),((8,u4),some<|.box 45 [(dl H3 v1.Parts),(di v1.Signal_)]),((53,g4),oB 93 4 J6 x2.1)]⟩) (x1.1,0) g2 _ hy2 (C0 (V4 Z)<|sg Z<|B7 G_hit (.of Z)<|C7 (gq Z) trivial) ?_
 intro x2 g4 z2 hz2 ez2
 unfold Y2 at hz2
 refine B6<|sv Z<|A1<|A3<|cc Z hz2 (fun c2 hz2=> ?_)<|fun c2 hz2=> ?_
 refine B2<|A3<|A8<|B6<|sv Z<|bs hz2 fun v3 hv3 hz2=>sd Z (F0 Z Z hv3 Z)<|sd Z (J8 Z hv3 Z)<|sv Z<|sv Z<|A1<|B6<|sv Z<|sv Z<|sv Z<|bs hz2 fun v4 hv4 hz2=>sd Z (HP Z (fun _=>Z) (QT Z) BE hv4)<|sd Z (D6 Z)<|sv Z<|A1<|bs hz2 fun y3 hy3 hz2=>F6 (fun s=> ∃g5:Nat,Sb ⟨T [(1,(di p2)),(2,(.d (.fn (.func 187) [] [(.bp (Q8 p3) 0)]))),(3,(.ptr (3,u1) 0)),(6,(oS y3 (53,g5))),(7,(di x1.2)),(8,(.ptr (8,u4) 0)),(9,(dl A6 v2)),(15,(dl F4 p1.Zones)),(16,(di (p1.Zones.length:Int))),(17,(di x1.2)),(25,(dl A6 v2)),(26,(di (v2.length:Int))),(27,(di x2.2))],G [((3,u1),some<|.box 27 (R3 p1)),((8,u4),some<|.box 45 [(dl H3 v1.Parts),(di v1.Signal_)]),((53,g5),oB 93 4 J6 y3)]⟩ s) ?_ ?_
 refine A8<|G0 (Y1 p2 p3 x1 v1 v3 v4) (fun (x3:((List Clash)×Int)) (g6:Nat)=>⟨T [(1,(di p2)),(2,(.d (.fn (.func 187) [] [(.bp (Q8 p3) 0)]))),(3,(.ptr (3,u1) 0)),(6,(oS x3.1 (53,g6))),(7,(di x1.2)),(8,(.ptr (8,u4) 0)),(9,(dl A6 v2)),(11,(di v3)),(15,(dl F4 p1.Zones)),(16,(di (p1.Zones.length:Int))),(17,(di x1.2)),(25,(dl A6 v2)),(26,(di (v2.length:Int))),(27,(di x2.2)),(35,(dl A6 v4)),(36,(di (v4.length:Int))),(37,(di x3.2))],G [((3,u1),some<|.box 27 (R3 p1)),((8,u4),some<|.box 45 [(dl H3 v1.Parts),(di v1.Signal_)]),((53,g6),oB 93 4 J6 x3.1)]⟩) (x2.1,0) g4 _ hy3 (C0 (V4 Z)<|B7 G_hit (.of Z)<|sg Z<|C7 (gq Z) trivial) ?_
 intro x3 g6 z3 hz3 ez3
 unfold Y1 at hz3
 refine B6<|sv Z<|A1<|A3<|cc Z hz3 (fun c3 hz3=> ?_)<|fun c3 hz3=> ?_
 refine B2<|A3<|A8<|B6<|bs hz3 fun v5 hv5 hz3=>sd Z (F0 Z Z hv5 Z)<|sd Z (J8 Z hv5 Z)<|sv Z<|A1<|B6<|sv Z<|sd Z (B5 Z (gq Z) Z Z)<|sv Z<|sv Z<|bs hz3 fun _ hv6 hz3=>B8 Z Z A2 (Ja _ _ _ _ _ hv6) (.inl Z) (A1<|cc Z hz3 (fun c4 hz3=> ?_)<|fun c4 hz3=> ?_)
 refine A7 (s0:=⟨T [(1,(di p2)),(2,(.d (.fn (.func 187) [] [(.bp (Q8 p3) 0)]))),(3,(.ptr (3,u1) 0)),(6,(oS x3.1 (53,g6))),(7,(di x1.2)),(8,(.ptr (8,u4) 0)),(9,(dl A6 v2)),(11,(di v3)),(13,(di v5)),(15,(dl F4 p1.Zones)),(16,(di (p1.Zones.length:Int))),(17,(di x1.2)),(25,(dl A6 v2)),(26,(di (v2.length:Int))),(27,(di x2.2)),(35,(dl A6 v4)),(36,(di (v4.length:Int))),(37,(di x3.2))],G [((3,u1),some<|.box 27 (R3 p1)),((53,g6),oB 93 4 J6 x3.1),((8,u4),some<|.box 45 [(dl H3 v1.Parts),(di v1.Signal_)])]⟩) (C0 (V4 Z)<|B7 G_hit (.of Z)<|C7 (gq Z)<|sg Z trivial) ?_
 refine K8 fun u13 _=>A9 (oS x3.1 (53,g6)) Z Z (sv Z<|sv Z<|sv Z<|sv Z<|sv Z<|A9 (dl J6 [(Clash.mk p2 x1.2 v3 v5)]) Z Z (bs hz3 fun _ hv7 hz3=>H9 J6 (53,g6) x3.1 (Clash.mk p2 x1.2 v3 v5) [] _ (E4<|fun _=>Z) Z (gq Z) hv7 (ss Z<|A1<|E3<|A7 (s0:=⟨T [(1,(.d _)),(2,(.d _)),(3,(.ptr _ _)),(6,(.sl _)),(7,(.d _)),(8,(.ptr _ _)),(9,(.d _)),(11,(.d _)),(15,(.d _)),(16,(.d _)),(17,(.d _)),(25,(.d _)),(26,(.d _)),(27,(.d _)),(35,(.d _)),(36,(.d _)),(37,(.d _))],G [((3,u1),some<|.box 27 _),((53,u13),some _),((8,u4),some<|.box 45 _)]⟩) (G1 Z Z) ?_)))
 refine B9<|sv Z<|sv Z<|A1<|G9 ?_
 cases hz3
 exact ⟨Z,u13,(C0 ⟨.of Z, .of Z, .of Z,(.of (Q7<|L4 hv7).symm), .of Z, .of Z, .of Z, .of Z, .of Z, .of Z, .of Z, .of Z, .of Z, .of Z, .of Z, .of Z, .of Z,trivial⟩<|B7 G_hit (.of Z)<|sg Z<|H7 (gq Z) trivial)⟩
 refine B2<|E3<|A7 (s0:=⟨T [(1,(di p2)),(2,(.d (.fn (.func 187) [] [(.bp (Q8 p3) 0)]))),(3,(.ptr (3,u1) 0)),(6,(oS x3.1 (53,g6))),(7,(di x1.2)),(8,(.ptr (8,u4) 0)),(9,(dl A6 v2)),(11,(di v3)),(15,(dl F4 p1.Zones)),(16,(di (p1.Zones.length:Int))),(17,(di x1.2)),(25,(dl A6 v2)),(26,(di (v2.length:Int))),(27,(di x2.2)),(35,(dl A6 v4)),(36,(di (v4.length:Int))),(37,(di x3.2))],G [((3,u1),some<|.box 27 (R3 p1)),((53,g6),oB 93 4 J6 x3.1),((8,u4),some<|.box 45 [(dl H3 v1.Parts),(di v1.Signal_)])]⟩) (C0 (V4 Z)<|B7 G_hit (.of Z)<|C7 (gq Z)<|sg Z trivial) ?_
 refine B9<|sv Z<|sv Z<|A1<|G9 ?_
 cases hz3
 exact ⟨Z,g6,(C0 (V4 Z)<|B7 G_hit (.of Z)<|sg Z<|C7 (gq Z) trivial)⟩
 refine D8 Z ?_
 cases hz3
 obtain rfl:=ez3 _ rfl
 refine ⟨nofun,D1 Z<|Az ?_⟩
 exact ⟨g6,(C0 (V4 Z)<|B7 G_hit (.of Z)<|sg Z<|C7 (gq Z) trivial)⟩
 rintro _ ⟨g5,q1⟩
 refine E3<|A7 q1<|B9<|sv Z<|sv Z<|A1<|G9 ?_
 cases hz2
 exact ⟨Z,g5,(C0 (V4 Z)<|B7 G_hit (.of Z)<|sg Z<|C7 (gq Z) trivial)⟩
 refine D8 Z ?_
 cases hz2
 obtain rfl:=ez2 _ rfl
 refine ⟨nofun,D1 Z<|Az ?_⟩
 exact ⟨g4,(C0 (V4 Z)<|B7 G_hit (.of Z)<|C7 (gq Z) trivial)⟩
 rintro _ ⟨g3,q2⟩
 refine E3<|A7 q2<|B9<|sv Z<|sv Z<|A1<|G9 ?_
 cases hz1
 exact ⟨Z,g3,(C0 (V4 Z)<|B7 G_hit (.of Z)<|C7 (gq Z) trivial)⟩
 refine D8 Z ?_
 cases hz1
 obtain rfl:=ez1 _ rfl
 refine ⟨nofun,D1 Z<|Az ?_⟩
 exact ⟨g2,(C0 ⟨.of Z,trivial⟩<|C7 (gq Z) trivial)⟩
 rintro _ ⟨g1,q3⟩
 refine A7 q3<|B6<|A9 (oS y1 (53,g1)) Z Z (A9 (oS y1 (53,g1)) Z Z (A1<|B4 ?_))
 cases h
 exact B0 (.inr Z) (C1 (B1 Z)<|Cx G_hit) Cw
def G8 [Lp](p2:Int)(p3:Map)(x1:((List Clash)×Int))(v1:Zone)(v3:Int)(v4:List Int)(x3:((List Clash)×Int)):Option (Stp ((List Clash)×Int) (List Clash)):=
  cond (decide (x3.2< (v4.length:Int))) ((E8 v4 x3.2).bind fun v5=>(T4 v1 v3 v5 p3).bind fun v6=>cond v6 ((X6 x3.1 [(Clash.mk p2 x1.2 v3 v5)]).bind fun v7=>some (.go (v7,(H6 (x3.2+1))))) (some (.go (x3.1,(H6 (x3.2+1)))))) (some (.out x3.1))
def J9 [Lp](p2:Int)(p3:Map)(x1:((List Clash)×Int))(v1:Zone)(v2:(List Int))(x2:((List Clash)×Int)):Option (Stp ((List Clash)×Int) (List Clash)):=
  cond (decide (x2.2< (v2.length:Int))) ((E8 v2 x2.2).bind fun v3=>(Rn v2 (H6 (x2.2+1)) (v2.length:Int)).bind fun v4=>(loop (G8 p2 p3 x1 v1 v3 v4) (x2.1,0)).bind fun y3=>some (.go (y3,(H6 (x2.2+1))))) (some (.out x2.1))
def K0 [Lp](p1:Map)(p2:Int)(p3:Map)(x1:((List Clash)×Int)):Option (Stp ((List Clash)×Int) (List Clash)):=
  cond (decide (x1.2< (p1.Zones.length:Int))) ((E8 p1.Zones x1.2).bind fun v1=>(U2 p1 v1).bind fun v2=>(loop (J9 p2 p3 x1 v1 v2) (x1.1,0)).bind fun y2=>some (.go (y2,(H6 (x1.2+1))))) (some (.out x1.1))
def L6 [Lp](p1:Map)(p2:Int)(p3:Map):Option (List Clash):=
  (loop (K0 p1 p2 p3) ([],0)).bind fun y1=>some y1
theorem Ib(p1 p2 p3 r)(h:L6 p1 p2 p3=some r):MCall prog 185 [(.d (.agg (Q8 p1))),(di p2),(.fn (.func 187) [] [(.ptr (900000,0) 0)])] [(.box 27 (R3 p3))] (dl J6 r) [some (.box 27 (R3 p3))] []:=by
 refine Vk (fk func185 ntmps185 (fun r=>if r==12 then [1006]else []) (by with_unfolding_all rfl)) Z (nl Z) ?_
 unfold L6 at h
 refine A7 (s0:=⟨T [(0,(.d _)),(1,(.d _)),(2,(.fn _ _ _))],G [((900000,0),some<|.box 27 _)]⟩) (G1 Z Z) ?_
 refine lr<|fun u1 _=>sm Z<|sv Z<|A1<|A3<|B6<|sq Z<|sl Z G_hit Z<|sd Z (D6 Z)<|sv Z<|A1<|bs h fun y1 hy1 h=>F6 (fun s=> ∃g1:Nat,Sb ⟨T [(2,(.fn (.func 187) [] [(.ptr (900000,0) 0)])),(6,(oS y1 (53,g1)))],G [((900000,0),some<|.box 27 (R3 p3)),((53,g1),oB 93 4 J6 y1)]⟩ s) ?_ ?_
 refine A8<|G0 (K0 p1 p2 p3) (fun (x1:((List Clash)×Int)) (g2:Nat)=>⟨T [(1,(di p2)),(2,(.fn (.func 187) [] [(.ptr (900000,0) 0)])),(3,(.ptr (3,u1) 0)),(6,(oS x1.1 (53,g2))),(15,(dl F4 p1.Zones)),(16,(di (p1.Zones.length:Int))),(17,(di x1.2))],G [((900000,0),some<|.box 27 (R3 p3)),((3,u1),some<|.box 27 (R3 p1)),((53,g2),oB 93 4 J6 x1.1)]⟩) ([],0) 0 _ hy1 (C0 (V4 Z)<|sg Z<|B7 G_hit (.of Z)<|M4 trivial) ?_
 intro x1 g2 z1 hz1 ez1
 unfold K0 at hz1
 refine B6<|sv Z<|A1<|A3<|cc Z hz1 (fun c1 hz1=> ?_)<|fun c1 hz1=> ?_
 refine B2<|A3<|A8<|lr<|fun u4 _=>sv Z<|bs hz1 fun v1 hv1 hz1=>sd Z (F0 Z Z hv1 Z)<|sd Z (C8 Z hv1 Z Z)<|sm Z<|sv Z<|Aa Z G_hit [(dl H3 v1.Parts),(di v1.Signal_)] Z (A1<|B6<|sd Z (B5 Z (gq Z) Z Z)<|sd Z (B5 Z G_hit Z Z)<|bs hz1 fun v2 hv2 hz1=>B8 Z Z A2 (Ia _ _ _ hv2) (.inl Z) (sv Z<|A1<|B6<|sv Z<|sd Z (D6 Z)<|sv Z<|A1<|bs hz1 fun y2 hy2 hz1=>F6 (fun s=> ∃g3:Nat,Sb ⟨T [(1,(di p2)),(2,(.fn (.func 187) [] [(.ptr (900000,0) 0)])),(3,(.ptr (3,u1) 0)),(6,(oS y2 (53,g3))),(15,(dl F4 p1.Zones)),(16,(di (p1.Zones.length:Int))),(17,(di x1.2))],G [((900000,0),some<|.box 27 (R3 p3)),((3,u1),some<|.box 27 (R3 p1)),((53,g3),oB 93 4 J6 y2)]⟩ s) ?_ ?_))
 refine A8<|G0 (J9 p2 p3 x1 v1 v2) (fun (x2:((List Clash)×Int)) (g4:Nat)=>⟨T [(1,(di p2)),(2,(.fn (.func 187) [] [(.ptr (900000,0) 0)])),(3,(.ptr (3,u1) 0)),(6,(oS x2.1 (53,g4))),(7,(di x1.2)),(8,(.ptr (8,u4) 0)),(9,(dl A6 v2)),(15,(dl F4 p1.Zones)),(16,(di (p1.Zones.length:Int))),(17,(di x1.2)),(25,(dl A6 v2)),(26,(di (v2.length:Int))),(27,(di x2.2))],G [((900000,0),some<|.box 27 (R3 p3)),((3,u1),some<|.box 27 (R3 p1)),((8,u4),some<|.box 45 [(dl H3 v1.Parts),(di v1.Signal_)]),((53,g4),oB 93 4 J6 x2.1)]⟩) (x1.1,0) g2 _ hy2 (C0 (V4 Z)<|sg Z<|sg Z<|B7 G_hit (.of Z)<|C7 (gq Z) trivial) ?_
 intro x2 g4 z2 hz2 ez2
 unfold J9 at hz2
 refine B6<|sv Z<|A1<|A3<|cc Z hz2 (fun c2 hz2=> ?_)<|fun c2 hz2=> ?_
 refine B2<|A3<|A8<|B6<|sv Z<|bs hz2 fun v3 hv3 hz2=>sd Z (F0 Z Z hv3 Z)<|sd Z (J8 Z hv3 Z)<|sv Z<|sv Z<|A1<|B6<|sv Z<|sv Z<|sv Z<|bs hz2 fun v4 hv4 hz2=>sd Z (HP Z (fun _=>Z) (QT Z) BE hv4)<|sd Z (D6 Z)<|sv Z<|A1<|bs hz2 fun y3 hy3 hz2=>F6 (fun s=> ∃g5:Nat,Sb ⟨T [(1,(di p2)),(2,(.fn (.func 187) [] [(.ptr (900000,0) 0)])),(3,(.ptr (3,u1) 0)),(6,(oS y3 (53,g5))),(7,(di x1.2)),(8,(.ptr (8,u4) 0)),(9,(dl A6 v2)),(15,(dl F4 p1.Zones)),(16,(di (p1.Zones.length:Int))),(17,(di x1.2)),(25,(dl A6 v2)),(26,(di (v2.length:Int))),(27,(di x2.2))],G [((900000,0),some<|.box 27 (R3 p3)),((3,u1),some<|.box 27 (R3 p1)),((8,u4),some<|.box 45 [(dl H3 v1.Parts),(di v1.Signal_)]),((53,g5),oB 93 4 J6 y3)]⟩ s) ?_ ?_
 refine A8<|G0 (G8 p2 p3 x1 v1 v3 v4) (fun (x3:((List Clash)×Int)) (g6:Nat)=>⟨T [(1,(di p2)),(2,(.fn (.func 187) [] [(.ptr (900000,0) 0)])),(3,(.ptr (3,u1) 0)),(6,(oS x3.1 (53,g6))),(7,(di x1.2)),(8,(.ptr (8,u4) 0)),(9,(dl A6 v2)),(11,(di v3)),(15,(dl F4 p1.Zones)),(16,(di (p1.Zones.length:Int))),(17,(di x1.2)),(25,(dl A6 v2)),(26,(di (v2.length:Int))),(27,(di x2.2)),(35,(dl A6 v4)),(36,(di (v4.length:Int))),(37,(di x3.2))],G [((900000,0),some<|.box 27 (R3 p3)),((3,u1),some<|.box 27 (R3 p1)),((8,u4),some<|.box 45 [(dl H3 v1.Parts),(di v1.Signal_)]),((53,g6),oB 93 4 J6 x3.1)]⟩) (x2.1,0) g4 _ hy3 (C0 (V4 Z)<|B7 G_hit (.of Z)<|sg Z<|sg Z<|C7 (gq Z) trivial) ?_
 intro x3 g6 z3 hz3 ez3
 unfold G8 at hz3
 refine B6<|sv Z<|A1<|A3<|cc Z hz3 (fun c3 hz3=> ?_)<|fun c3 hz3=> ?_
 refine B2<|A3<|A8<|B6<|bs hz3 fun v5 hv5 hz3=>sd Z (F0 Z Z hv5 Z)<|sd Z (J8 Z hv5 Z)<|sv Z<|A1<|B6<|A9 (.fn _ _ _) Z Z (sd Z (B5 Z (gq Z) Z Z)<|sv Z<|sv Z<|bs hz3 fun _ hv6 hz3=>B8 Z (rD<|rD<|rD<|J5 (Kx G_hit<|rD<|rD<|rD<|rD<|rD M3) M3) A2 (Ja _ _ _ _ _ hv6) (.inr Z) (A1<|cc Z hz3 (fun c4 hz3=> ?_)<|fun c4 hz3=> ?_))
 refine A7 (s0:=⟨T [(1,(di p2)),(2,(.fn (.func 187) [] [(.ptr (900000,0) 0)])),(3,(.ptr (3,u1) 0)),(6,(oS x3.1 (53,g6))),(7,(di x1.2)),(8,(.ptr (8,u4) 0)),(9,(dl A6 v2)),(11,(di v3)),(13,(di v5)),(15,(dl F4 p1.Zones)),(16,(di (p1.Zones.length:Int))),(17,(di x1.2)),(25,(dl A6 v2)),(26,(di (v2.length:Int))),(27,(di x2.2)),(35,(dl A6 v4)),(36,(di (v4.length:Int))),(37,(di x3.2))],G [((900000,0),some<|.box 27 (R3 p3)),((3,u1),some<|.box 27 (R3 p1)),((53,g6),oB 93 4 J6 x3.1),((8,u4),some<|.box 45 [(dl H3 v1.Parts),(di v1.Signal_)])]⟩) (C0 (V4 Z)<|B7 G_hit (.of Z)<|sg Z<|C7 (gq Z)<|sg Z trivial) ?_
 refine K8 fun u13 _=>A9 (oS x3.1 (53,g6)) Z Z (sv Z<|sv Z<|sv Z<|sv Z<|sv Z<|A9 (dl J6 [(Clash.mk p2 x1.2 v3 v5)]) Z Z (bs hz3 fun _ hv7 hz3=>H9 J6 (53,g6) x3.1 (Clash.mk p2 x1.2 v3 v5) [] _ (E4<|fun _=>Z) Z (gq Z) hv7 (ss Z<|A1<|E3<|A7 (s0:=⟨T [(1,(.d _)),(2,(.fn _ _ _)),(3,(.ptr _ _)),(6,(.sl _)),(7,(.d _)),(8,(.ptr _ _)),(9,(.d _)),(11,(.d _)),(15,(.d _)),(16,(.d _)),(17,(.d _)),(25,(.d _)),(26,(.d _)),(27,(.d _)),(35,(.d _)),(36,(.d _)),(37,(.d _))],G [((900000,0),some<|.box 27 _),((3,u1),some<|.box 27 _),((53,u13),some _),((8,u4),some<|.box 45 _)]⟩) (G1 Z Z) ?_)))
 refine B9<|sv Z<|sv Z<|A1<|G9 ?_
 cases hz3
 exact ⟨Z,u13,(C0 ⟨.of Z, .of Z, .of Z,(.of (Q7<|L4 hv7).symm), .of Z, .of Z, .of Z, .of Z, .of Z, .of Z, .of Z, .of Z, .of Z, .of Z, .of Z, .of Z, .of Z,trivial⟩<|B7 G_hit (.of Z)<|sg Z<|sg Z<|H7 (gq Z) trivial)⟩
 refine B2<|E3<|A7 (s0:=⟨T [(1,(di p2)),(2,(.fn (.func 187) [] [(.ptr (900000,0) 0)])),(3,(.ptr (3,u1) 0)),(6,(oS x3.1 (53,g6))),(7,(di x1.2)),(8,(.ptr (8,u4) 0)),(9,(dl A6 v2)),(11,(di v3)),(15,(dl F4 p1.Zones)),(16,(di (p1.Zones.length:Int))),(17,(di x1.2)),(25,(dl A6 v2)),(26,(di (v2.length:Int))),(27,(di x2.2)),(35,(dl A6 v4)),(36,(di (v4.length:Int))),(37,(di x3.2))],G [((900000,0),some<|.box 27 (R3 p3)),((3,u1),some<|.box 27 (R3 p1)),((53,g6),oB 93 4 J6 x3.1),((8,u4),some<|.box 45 [(dl H3 v1.Parts),(di v1.Signal_)])]⟩) (C0 (V4 Z)<|B7 G_hit (.of Z)<|sg Z<|C7 (gq Z)<|sg Z trivial) ?_
 refine B9<|sv Z<|sv Z<|A1<|G9 ?_
 cases hz3
 exact ⟨Z,g6,(C0 (V4 Z)<|B7 G_hit (.of Z)<|sg Z<|sg Z<|C7 (gq Z) trivial)⟩
 refine D8 Z ?_
 cases hz3
 obtain rfl:=ez3 _ rfl
 refine ⟨nofun,D1 Z<|Az ?_⟩
 exact ⟨g6,(C0 (V4 Z)<|B7 G_hit (.of Z)<|sg Z<|sg Z<|C7 (gq Z) trivial)⟩
 rintro _ ⟨g5,q1⟩
 refine E3<|A7 q1<|B9<|sv Z<|sv Z<|A1<|G9 ?_
 cases hz2
 exact ⟨Z,g5,(C0 (V4 Z)<|B7 G_hit (.of Z)<|sg Z<|sg Z<|C7 (gq Z) trivial)⟩
 refine D8 Z ?_
 cases hz2
 obtain rfl:=ez2 _ rfl
 refine ⟨nofun,D1 Z<|Az ?_⟩
 exact ⟨g4,(C0 (V4 Z)<|B7 G_hit (.of Z)<|sg Z<|C7 (gq Z) trivial)⟩
 rintro _ ⟨g3,q2⟩
 refine E3<|A7 q2<|B9<|sv Z<|sv Z<|A1<|G9 ?_
 cases hz1
 exact ⟨Z,g3,(C0 (V4 Z)<|B7 G_hit (.of Z)<|sg Z<|C7 (gq Z) trivial)⟩
 refine D8 Z ?_
 cases hz1
 obtain rfl:=ez1 _ rfl
 refine ⟨nofun,D1 Z<|Az ?_⟩
 exact ⟨g2,(C0 (V4 Z)<|B7 G_hit (.of Z)<|C7 (gq Z) trivial)⟩
 rintro _ ⟨g1,q3⟩
 refine A7 q3<|B6<|A9 (oS y1 (53,g1)) Z Z (A9 (oS y1 (53,g1)) Z Z (A1<|B4 ?_))
 obtain rfl:=(lC h)
 exact Wy (.inr Z) [(53,g1)] (Wz (B1 Z)<|Cx<|VP (.head _)<|gq Z) Cw ⟨⟨_,_,_,G_hit,(JG Z Y4),Z,Mf,Z⟩,trivial⟩
def Cm [Lp](p1:Map):Option (List Clash):=
  (L6 p1 4 p1).bind fun v1=>some v1
theorem Uv(p1 r)(h:Cm p1=some r):PCall prog 80 [(.agg (Q8 p1))] (.list (List.map J6 r)):=by
 refine C4 (fk func80 ntmps80 (fun r=>if r==1 then [1001002]else []) (by with_unfolding_all rfl)) (nl Z) ?_
 unfold Cm at h
 refine A7 (s0:=⟨T [(0,(.d _))],G []⟩) (G1 Z Z) ?_
 refine lr<|fun u1 _=>sm Z<|sv Z<|A1<|B6<|sd Z (B5 Z G_hit Z Z)<|A9 (.fn _ _ _) Z Z (bs h fun v1 hv1 h=>DL (v:= .d (.list (List.map J6 v1))) (us:= [(1,u1)]) (BH (Ib _ _ _ _ hv1) [(1,u1)] [(1,u1)] _ (((1,u1),some<|.box 27 (R3 p1))::_) Z Es (Dq NF<|Dq NF<|Dq (NG Z<|Dq (Ql G_hit Z) Qm) Qm) (Gr G_hit Bz) ⟨⟨_,G_hit, .of Z⟩,trivial⟩ (fun _ h=>h) nd1 Z Z Z) (sv Z<|A1<|B4 ?_))
 cases h
 exact B0 (.inr Z) (C1 (B1 Z) D4) (.refl _)
def Ei [Lp](p1:Map):Option Bool:=
  (Q5 p1).bind fun v1=>((cond (v1==0) (Ck p1) (some default))).bind fun v2=>((cond (v1==0) (Cl p1) (some default))).bind fun v3=>((cond (v1==0) (Dl p1) (some default))).bind fun v4=>((cond (v1==0) (Cm p1) (some default))).bind fun v5=>some ((v1==0)&& ((H6 ((H6 ((H6 ((v2.length:Int)+ (v3.length:Int)))+ (v4.length:Int)))+ (v5.length:Int)))==0))
theorem Si(p1 r)(h:Ei p1=some r):PCall prog 18 [(.agg (Q8 p1))] (bo r):=by
 refine C4 (fk func18 ntmps18 m0 (by with_unfolding_all rfl)) (nl Z) ?_
 unfold Ei at h
 refine A7 (s0:=⟨T [(0,(.d _))],G []⟩) (G1 Z Z) ?_
 refine B6<|sm Z<|sv Z<|A1<|A3<|Q1 Z<|sd Z (B5 Z G_hit Z Z)<|bs h fun _ hv1 h=>B8 Z Z A2 (Z2 _ _ hv1) (.inl Z) (sv Z<|sv Z<|gt Z (fun _=>(B5 Z G_hit Z Z))<|bs h fun v2 hv2 h=> ?_)
 refine S4 _ (.list (List.map J6 v2)) (J1 Z) (fun w2=>⟨_,[(.d (.agg (Q8 p1)))],_,_,(by simp only [A5 w2];rfl),Z,A2,Ut _ _<|L8 w2 hv2,(.inl Z)⟩) ?_
 refine gt Z (fun w3=>(D6<|A5 w3))<|gt Z (fun _=>(B5 Z G_hit Z Z))<|bs h fun v3 hv3 h=> ?_
 refine S4 _ (.list (List.map J6 v3)) (J1 Z) (fun w5=>⟨_,[(.d (.agg (Q8 p1)))],_,_,(by simp only [A5 w5];rfl),Z,A2,Uu _ _<|L8 w5 hv3,(.inl Z)⟩) ?_
 refine gt Z (fun w6=>(D6<|A5 w6))<|gt Z (fun w7=>(J3 (A5 w7) (A5 w7) Z))<|gt Z (fun _=>(B5 Z G_hit Z Z))<|bs h fun v4 hv4 h=> ?_
 refine S4 _ (.list (List.map J6 v4)) (J1 Z) (fun w9=>⟨_,[(.d (.agg (Q8 p1)))],_,_,(by simp only [A5 w9];rfl),Z,A2,Xf _ _<|L8 w9 hv4,(.inl Z)⟩) ?_
 refine gt Z (fun w10=>(D6<|A5 w10))<|gt Z (fun w11=>(J3 (A5 w11) (A5 w11) Z))<|gt Z (fun _=>(B5 Z G_hit Z Z))<|bs h fun v5 hv5 h=> ?_
 refine S4 _ (.list (List.map J6 v5)) (J1 Z) (fun w13=>⟨_,[(.d (.agg (Q8 p1)))],_,_,(by simp only [A5 w13];rfl),Z,A2,Uv _ _<|L8 w13 hv5,(.inl Z)⟩) ?_
 refine gt Z (fun w14=>(D6<|A5 w14))<|gt Z (fun w15=>(J3 (A5 w15) (A5 w15) Z))<|gt Z (vb Z Z Z)<|sa Z Z Z<|sv Z<|A1<|B4 ?_
 cases h
 exact B0 (.inr Z) (C1 (B1 Z) D4) (.refl _)
def Jj [Lp]:Option Map:=
  (R4 1 1500 [] [0,0,100000,0]).bind fun v1=>(R4 1 1500 [] [50000,(-50000),50000,50000]).bind fun v2=>some (Map.mk 0 [v1,v2] [(Zone.mk [(Part.mk 0 48000 52000 1),(Part.mk 1 48000 52000 0)] 0)] [] [])
theorem BM(r)(h:Jj=some r):PCall prog 58 [] (.agg (Q8 r)):=by
 refine C4 (fk func58 ntmps58 (fun r=>if r==1 then [1000,1002,1004,1007,1009]else []) (by with_unfolding_all rfl)) (nl Z) ?_
 unfold Jj at h
 refine A7 (s0:=⟨T [],G []⟩) (G1 Z Z) ?_
 refine B6<|sm Z<|A1<|B6<|A9 (dl A6 [0,0,100000,0]) Z Z (bs h fun v1 hv1 h=>B8 Z Z (.cons (.refl _) (.cons (.refl _) (.cons DLe.nil A2))) (P1 _ _ _ _ _ hv1) (.inl Z) (A9 (dl A6 [50000,(-50000),50000,50000]) Z Z (bs h fun v2 hv2 h=>B8 Z Z (.cons (.refl _) (.cons (.refl _) (.cons DLe.nil A2))) (P1 _ _ _ _ _ hv2) (.inl Z) (A9 (dl G5 [v1,v2]) Z (Ef G5 ([v1,v2]:List Lane) (fun _=>Z) Z Z ⟨Z,Z,Z,Z,Z,Z,trivial⟩ (fun _=>Z)) (sv Z<|sv Z<|A9 (dl H3 [(Part.mk 0 48000 52000 1),(Part.mk 1 48000 52000 0)]) Z Z (sv Z<|A9 (dl F4 [(Zone.mk [(Part.mk 0 48000 52000 1),(Part.mk 1 48000 52000 0)] 0)]) Z Z (sv Z<|Aa Z G_hit [(di 0),(dl G5 [v1,v2]),(dl F4 [(Zone.mk [(Part.mk 0 48000 52000 1),(Part.mk 1 48000 52000 0)] 0)]),(.d .nilS),(.d .nilS)] Z (A1<|B4 ?_))))))))
 cases h
 exact B0 (.inr Z) (C1 (I3 Z G_hit (nl Z) Z) D4) (.agg (ca Z<|ca Z<|ca Z<|.cons ⟨DLe.nil,Z⟩ (.cons ⟨DLe.nil,Z⟩ .nil)))
def W5 [Lp](p1:Map)(v7:List Int)(x1:(Int×Int)):Option (Stp (Int×Int) (Sum Unit Int)):=
  cond (decide (x1.2< (v7.length:Int))) ((E8 v7 x1.2).bind fun v8=>(E8 p1.Lanes x1.1).bind fun v9=>(I5 v9.Next v8).bind fun v10=>cond (!v10) (some (.out (.inr 13))) (some (.go (v8,(H6 (x1.2+1)))))) (some (.out (.inl ())))
def Ay [Lp](p1:Map)(p2:(List Int)):Option Int:=
  (Q5 p1).bind fun v1=>cond (v1 !=0) (some v1) (((cond (!(((p2.length:Int)==0)||(decide ((p2.length:Int)>8)))) (E8 p2 0) (some default))).bind fun v2=>((cond (!((((p2.length:Int)==0)||(decide ((p2.length:Int)>8)))||(decide (v2<0)))) (E8 p2 0) (some default))).bind fun v3=>((cond (!(((((p2.length:Int)==0)||(decide ((p2.length:Int)>8)))||(decide (v2<0)))||(decide (v3≥(p1.Lanes.length:Int))))) (E8 p2 0) (some default))).bind fun v4=>((cond (!(((((p2.length:Int)==0)||(decide ((p2.length:Int)>8)))||(decide (v2<0)))||(decide (v3≥(p1.Lanes.length:Int))))) (Y8 p1 v4) (some default))).bind fun v5=>cond ((((((p2.length:Int)==0)||(decide ((p2.length:Int)>8)))||(decide (v2<0)))||(decide (v3≥(p1.Lanes.length:Int))))||(decide ((v5.length:Int)>0))) (some 13) ((E8 p2 0).bind fun v6=>(Rn p2 1 (p2.length:Int)).bind fun v7=>thenS (loop (W5 p1 v7) (v6,0)) (fun _=>some 0) (fun r=>some r)))
theorem Pn(p1 p2 r)(h:Ay p1 p2=some r):PCall prog 36 [(.agg (Q8 p1)),(.list (List.map A6 p2))] (i64 r):=by
 refine C4 (fk func36 ntmps36 m0 (by with_unfolding_all rfl)) (nl Z) ?_
 unfold Ay at h
 refine A7 (s0:=⟨T [(0,(.d _)),(1,(.d _))],G []⟩) (G1 Z Z) ?_
 refine lr<|fun u1 _=>sm Z<|sv Z<|A1<|A3<|B6<|sd Z (B5 Z G_hit Z Z)<|bs h fun _ hv1 h=>B8 Z Z A2 (Z2 _ _ hv1) (.inl Z) (sv Z<|A1<|B6<|sv Z<|sv Z<|A1<|cc Z h (fun c1 h=> ?_)<|fun c1 h=> ?_)
 refine B6<|sv Z<|sv Z<|A1<|B4 ?_
 cases h
 exact B0 (.inr Z) (C1 (B1 Z) D4) (.refl _)
 refine B2<|A3<|A3<|Q1 Z<|sv Z<|sd Z (D6 Z)<|sv Z<|sv Z<|gf Z (fun _=>Z)<|gf Z (fun w2=>(D6<|A5 w2))<|gf Z (vb Z Z Z)<|sd Z (Gi Z Z<|fun hc=>A5<|Bd hc)<|sv Z<|gf Z (fun _=>Z)<|bs h fun _ hv2 h=>gf Z (fun w5=>(F0 (A5 w5) Z (L8 w5 hv2) Z))<|gf Z (fun w6=>(J8 (A5 w6) (L8 w6 hv2) Z))<|gf Z (vb Z Z Z)<|sd Z (Gi Z Z<|fun hc=>A5<|Bd hc)<|sv Z<|gf Z (fun _=>Z)<|bs h fun _ hv3 h=>gf Z (fun w9=>(F0 (A5 w9) Z (L8 w9 hv3) Z))<|gf Z (fun w10=>(J8 (A5 w10) (L8 w10 hv3) Z))<|gp Z (X3 Z) (fun _=>Z) (gf Z (vl Z G_hit Z)<|gf Z (fun w13=>(D6<|A5 w13))<|gf Z (fun w14=>(J3 (A5 w14) (A5 w14) Z))<|sd Z (Gi Z Z<|fun hc=>A5<|Bd hc)<|sv Z<|gf Z (fun _=>(B5 Z G_hit Z Z))<|gf Z (fun _=>Z)<|bs h fun v4 hv4 h=>gf Z (fun w17=>(F0 (A5 w17) Z (L8 w17 hv4) Z))<|gf Z (fun w18=>(J8 (A5 w18) (L8 w18 hv4) Z))<|bs h fun v5 hv5 h=> ?_)
 refine S4 _ (.list (List.map A6 v5)) (X3 Z) (fun w19=>⟨_,[(.d (.agg (Q8 p1))),(di v4)],_,_,(by simp only [A5 w19];rfl),Z,A2,Iw _ _ _<|L8 w19 hv5,(.inl Z)⟩) ?_
 refine gf Z (fun w20=>(D6<|A5 w20))<|gf Z (vb Z Z Z)<|sd Z (Gi Z Z<|fun hc=>A5<|Bd hc)<|A1<|cc Z h (fun c2 h=> ?_)<|fun c2 h=> ?_
 refine A3<|A7 (s0:=⟨T [],G []⟩) (G1 Z Z) ?_
 refine B9<|sv Z<|A1<|B4 ?_
 cases h
 exact B0 (.inr Z) (C1 (B1 Z) D4) (.refl _)
 refine B2<|A3<|A7 (s0:=⟨T [(1,(.d _)),(2,(.ptr _ _))],G [((2,u1),some<|.box 27 _)]⟩) (G1 Z Z) ?_
 refine B9<|sv Z<|bs h fun v6 hv6 h=>sd Z (F0 Z Z hv6 Z)<|sd Z (J8 Z hv6 Z)<|sv Z<|A1<|A3<|B6<|sv Z<|bs h fun v7 hv7 h=>sd Z (HP Z (fun _=>Z) (QT Z) BE hv7)<|sd Z (D6 Z)<|sv Z<|A1<|js h fun z1 hz1 h=>F6 (fun s=> ∃(y1:Unit) (g1:Unit),z1= .inl y1∧Sb ⟨T [],G []⟩ s) ?_ ?_
 refine A8<|G0 (W5 p1 v7) (fun (x1:(Int×Int)) (g2:Unit)=>⟨T [(2,(.ptr (2,u1) 0)),(6,(di x1.1)),(50,(dl A6 v7)),(51,(di (v7.length:Int))),(52,(di x1.2))],G [((2,u1),some<|.box 27 (R3 p1))]⟩) (v6,0) () _ hz1 (G1 Z Z) ?_
 intro x1 g2 z2 hz2 ez2
 unfold W5 at hz2
 refine B6<|sv Z<|A1<|A3<|cc Z hz2 (fun c3 hz2=> ?_)<|fun c3 hz2=> ?_
 refine B2<|A3<|A8<|B6<|bs hz2 fun _ hv8 hz2=>sd Z (F0 Z Z hv8 Z)<|sd Z (J8 Z hv8 Z)<|sv Z<|A1<|A3<|B6<|sq Z<|sl Z G_hit Z<|sv Z<|bs hz2 fun _ hv9 hz2=>sd Z (F0 Z Z hv9 Z)<|sv Z<|sd Z (J8 Z hv9 Z)<|sv Z<|bs hz2 fun v10 hv10 hz2=>B8 Z Z A2 (W1 _ _ _ hv10) (.inl Z) (A9 (.d (bo (!v10))) Z Z (A1<|cc Z hz2 (fun c4 hz2=> ?_)<|fun c4 hz2=> ?_))
 refine B6<|sv Z<|A1<|B4 ?_
 cases hz2
 obtain rfl:=ez2 _ rfl
 refine ⟨nofun,G6 ?_⟩
 rw [bM]at h
 cases h
 exact B0 (.inr Z) (C1 (B1 Z) D4) (.refl _)
 refine B2<|B9<|sv Z<|sv Z<|A1<|E3<|B9<|sv Z<|sv Z<|A1<|G9 ?_
 cases hz2
 exact ⟨Z,(),(G1 Z Z)⟩
 refine D8 Z ?_
 cases hz2
 obtain rfl:=ez2 _ rfl
 refine ⟨nofun,D1 Z<|Az ?_⟩
 exact ⟨_,(),Z,(G1 Z Z)⟩
 rintro _ ⟨y1,g1,rfl,q1⟩
 rw [bL]at h
 refine A7 q1<|B6<|sv Z<|A1<|B4 ?_
 cases h
 exact B0 (.inr Z) (C1 (B1 Z) D4) (.refl _)
def Bu [Lp](p1:Map)(p2:(List Int))(x1:(Int×RoadsWay)):Option (Stp (Int×RoadsWay) RoadsWay):=
  cond (decide (x1.1< (p2.length:Int))) ((E8 p2 x1.1).bind fun v2=>(X6 x1.2.starts [x1.2.length]).bind fun v3=>(V6 p1 v2).bind fun v4=>some (.go ((H6 (x1.1+1)),(RoadsWay.mk x1.2.Map_ x1.2.lanes v3 (H6 (x1.2.length+v4)))))) (some (.out x1.2))
def Ft [Lp](p1:Map)(p2:(List Int)):Option RoadsWay:=
  (Ay p1 p2).bind fun v1=>cond (v1 !=0) (some (RoadsWay.mk (Map.mk 0 [] [] [] []) [] [] 0)) ((loop (Bu p1 p2) (0,(RoadsWay.mk p1 p2 [] 0))).bind fun y1=>some y1)
theorem Uw(p1 p2 r)(h:Ft p1 p2=some r):PCall prog 133 [(.agg (Q8 p1)),(.list (List.map A6 p2))] (.agg (JL r)):=by
 refine C4 (fk func133 ntmps133 (fun r=>if r==7 then [1004]else []) (by with_unfolding_all rfl)) (nl Z) ?_
 unfold Ft at h
 refine A7 (s0:=⟨T [(0,(.d _)),(1,(.d _))],G []⟩) (G1 Z Z) ?_
 refine lr<|fun u1 _=>sm Z<|sm Z<|A1<|A3<|B6<|sd Z (B5 Z (gq Z) Z Z)<|sv Z<|bs h fun _ hv1 h=>B8 Z Z A2 (Pn _ _ _ hv1) (.inl Z) (sv Z<|A1<|cc Z h (fun c1 h=> ?_)<|fun c1 h=> ?_)
 refine B6<|sv Z<|Aa Z G_hit [(di 0),(.d .nilS),(.d .nilS),(.d .nilS),(.d .nilS),(.d .nilS),(.d .nilS),(di 0)] Z (A1<|B4 ?_)
 cases h
 exact B0 (.inr Z) (C1 (I3 Z G_hit (nl Z) Z) D4) (.agg (ca Z<|.cons ⟨DLe.nil,Z⟩ (.cons ⟨DLe.nil,Z⟩ (.cons ⟨DLe.nil,Z⟩ (.cons ⟨DLe.nil,Z⟩ (.cons ⟨DLe.nil,Z⟩ (.cons ⟨DLe.nil,Z⟩ (cz Z))))))))
 refine B2<|lr<|fun u4 _=>sd Z (B5 Z (gq Z) Z Z)<|sv Z<|sv Z<|sm Z<|Aa Z G_hit ((R3 p1)++ [(dl A6 p2),(.d .nilS),(di 0)]) Z (A1<|A3<|B6<|sv Z<|sd Z (D6 Z)<|sv Z<|A1<|bs h fun y1 hy1 h=>F6 (fun s=> ∃g1:Nat,Sb ⟨T [(4,(.ptr (4,u1) 0)),(5,(.ptr (5,u4) 0))],G [((4,u1),some<|.box 169 [(di 0),(.d .nilS),(.d .nilS),(.d .nilS),(.d .nilS),(.d .nilS),(.d .nilS),(di 0)]),((5,u4),some<|.box 169 ((Fk y1).set 6 (oS y1.starts (27,g1)))),((27,g1),oB 2 1 A6 y1.starts)]⟩ s) ?_ ?_)
 refine A8<|G0 (Bu p1 p2) (fun (x1:(Int×RoadsWay)) (g2:Nat)=>⟨T [(2,(.ptr (2,u1) 0)),(4,(.ptr (4,u1) 0)),(5,(.ptr (5,u4) 0)),(16,(dl A6 p2)),(17,(di (p2.length:Int))),(18,(di x1.1))],G [((2,u1),some<|.box 27 (R3 p1)),((4,u1),some<|.box 169 [(di 0),(.d .nilS),(.d .nilS),(.d .nilS),(.d .nilS),(.d .nilS),(.d .nilS),(di 0)]),((5,u4),some<|.box 169 ((Fk x1.2).set 6 (oS x1.2.starts (27,g2)))),((27,g2),oB 2 1 A6 x1.2.starts)]⟩) (0,(RoadsWay.mk p1 p2 [] 0)) 0 _ hy1 (C0 (V4 Z)<|sg Z<|sg Z<|B7 G_hit (.of Z)<|M4 trivial) ?_
 intro x1 g2 z1 hz1 ez1
 unfold Bu at hz1
 refine B6<|sv Z<|A1<|A3<|cc Z hz1 (fun c2 hz1=> ?_)<|fun c2 hz1=> ?_
 refine B2<|A3<|A8<|B6<|bs hz1 fun _ hv2 hz1=>sd Z (F0 Z Z hv2 Z)<|sd Z (J8 Z hv2 Z)<|sv Z<|A1<|lr<|fun u8 _=>sq Z<|A9 (oS x1.2.starts (27,g2)) Z (Bp Z (gq Z) Z) (sq Z<|sl Z (gq Z) Z (A9 (dl A6 [x1.2.length]) Z Z (bs hz1 fun _ hv3 hz1=>H9 A6 (27,g2) x1.2.starts x1.2.length [] _ (E4<|fun _=>Z) Z (gq Z) hv3 (sq Z<|Aa Z (gq Z) ((Fk x1.2).set 6 (.sl (27,u8))) Z (A1<|A7 (s0:=⟨T [(2,(.ptr _ _)),(4,(.ptr _ _)),(5,(.ptr _ _)),(7,(.d _)),(16,(.d _)),(17,(.d _)),(18,(.d _))],G [((2,u1),some<|.box 27 _),((4,u1),some<|.box 169 _),((5,u4),some<|.box 169 _),((27,u8),some _)]⟩) (G1 Z Z) ?_)))))
 refine Q1 Z<|sq Z<|sl Z (gq Z) Z (sd Z (B5 Z G_hit Z Z)<|sv Z<|bs hz1 fun v4 hv4 hz1=>B8 Z Z A2 (Eg _ _ _ hv4) (.inl Z) (sv Z<|sq Z<|Aa Z (gq Z) (((Fk x1.2).set 6 (.sl (27,u8))).set 7 (di<|H6 (x1.2.length+v4))) Z (A1<|E3<|B9<|sv Z<|sv Z<|A1<|G9 ?_)))
 cases hz1
 exact ⟨Z,u8,(C0 (V4 Z)<|sg Z<|sg Z<|B7 G_hit (.box (cv<|cv<|cv<|cv<|cv<|cv<|.cons (.of (Q7<|L4 hv3).symm) cw))<|H7 (gq Z) trivial)⟩
 refine D8 Z ?_
 cases hz1
 obtain rfl:=ez1 _ rfl
 refine ⟨nofun,D1 Z<|Az ?_⟩
 exact ⟨g2,(C0 (V4 Z)<|sg Z<|sg Z<|C7 (gq Z) trivial)⟩
 rintro _ ⟨g1,q1⟩
 refine A7 q1<|B6<|A9 (Ao ((Fk y1).set 6 (oS y1.starts (27,g1)))) Z (B5 Z (gq Z) Z Z) (Dp _ _ _ _ _ (Aj _) Z Z G_hit (nl Z) ((Fk y1).set 6 (oS y1.starts (27,g1))) Z (A1<|B4 ?_))
 cases h
 exact B0 (.inr Z) (C1 (I3 Z G_hit (nl Z) Z)<|Im<|rD<|rD<|rD<|rD<|rD<|rD<|J5 (Cx<|gq Z)<|rD M3) (.agg (ca Z<|ca Z<|ca Z<|ca Z<|ca Z<|ca Z<|.cons ⟨Cw,Z⟩ (cz Z)))
def Jy (p3:Int)(v1:RoadsWay)(x1:Int):Option (Stp Int Int):=
  (E8 v1.starts x1).bind fun v3=>cond (decide (v3>p3)) (some (.go (H6 (x1 - 1)))) (some (.out x1))
def Gv [Lp](p1:Map)(p2:(List Int))(p3:Int):Option (Int×Int×Bool):=
  (Ft p1 p2).bind fun v1=>((cond (!((v1.lanes.length:Int)==0)) (T3 p3 0 v1.length) (some default))).bind fun v2=>cond (((v1.lanes.length:Int)==0)||(!v2)) (some (0,0,false)) ((loop (Jy p3 v1) (H6 ((v1.lanes.length:Int) - 1))).bind fun y1=>(E8 v1.lanes y1).bind fun v4=>(E8 v1.starts y1).bind fun v5=>some (v4,(H6 (p3 - v5)),true))
theorem Xg(p1 p2 p3 r)(h:Gv p1 p2 p3=some r):PCall prog 34 [(.agg (Q8 p1)),(.list (List.map A6 p2)),(i64 p3)] (.tup [(i64 r.1),(i64 r.2.1),(bo r.2.2)]):=by
 refine C4 (fk func34 ntmps34 m0 (by with_unfolding_all rfl)) (nl Z) ?_
 unfold Gv at h
 refine A7 (s0:=⟨T [(0,(.d _)),(1,(.d _)),(2,(.d _))],G []⟩) (G1 Z Z) ?_
 refine B6<|sm Z<|sv Z<|sv Z<|sv Z<|A1<|lr<|fun u2 _=>sd Z (B5 Z G_hit Z Z)<|sv Z<|bs h fun v1 hv1 h=>B8 Z Z A2 (Uw _ _ _ hv1) (.inl Z) (sm Z<|Aa Z G_hit (Fk v1) Z (A1<|A3<|B6<|sq Z<|sl Z G_hit Z<|sd Z (D6 Z)<|sv Z<|sv Z<|gf Z (fun _=>Z)<|gp Z (X3 Z) (fun _=>Z) (gf Z (vl Z G_hit Z)<|bs h fun v2 hv2 h=> ?_)))
 refine S4 _ (bo v2) (X3 Z) (fun w4=>⟨_,[(di p3),(di 0),(di v1.length)],_,_,(by simp only [A5 w4];rfl),Z,A2,T0 _ _ _ _<|L8 w4 hv2,(.inl Z)⟩) ?_
 refine Ab _ (.d (bo (!v2))) Z (X3 Z) (fun w5=>(by simp only [A5 w5];rfl)) ?_
 refine sd Z (Gi Z Z<|fun hc=>A5<|Bd hc)<|A1<|cc Z h (fun c1 h=> ?_)<|fun c1 h=> ?_
 refine A3<|A7 (s0:=⟨T [],G []⟩) (G1 Z Z) ?_
 refine B9<|sv Z<|sv Z<|sv Z<|A1<|B4 ?_
 cases h
 exact B0 (.inr Z) (HO (B1 Z) (B1 Z) (B1 Z) D4 D4 D4) (.refl _)
 refine B2<|A3<|A7 (s0:=⟨T [(2,(.d _)),(9,(.ptr _ _))],G [((9,u2),some<|.box 169 _)]⟩) (G1 Z Z) ?_
 refine B9<|sq Z<|sl Z G_hit Z<|sd Z (D6 Z)<|sv Z<|sv Z<|A1<|A3<|bs h fun y1 hy1 h=>F6 (fun s=> ∃g1:Unit,Sb ⟨T [(2,(di p3)),(9,(.ptr (9,u2) 0)),(10,(di y1))],G [((9,u2),some<|.box 169 (Fk v1))]⟩ s) ?_ ?_
 refine A8<|G0 (Jy p3 v1) (fun (x1:Int) (g2:Unit)=>⟨T [(2,(di p3)),(9,(.ptr (9,u2) 0)),(10,(di x1))],G [((9,u2),some<|.box 169 (Fk v1))]⟩) (H6 ((v1.lanes.length:Int) - 1)) () _ hy1 (G1 Z Z) ?_
 intro x1 g2 z1 hz1 ez1
 unfold Jy at hz1
 refine A3<|B6<|sq Z<|sl Z G_hit Z<|sv Z<|bs hz1 fun _ hv3 hz1=>sd Z (F0 Z Z hv3 Z)<|sd Z (J8 Z hv3 Z)<|sv Z<|sv Z<|A1<|cc Z hz1 (fun c2 hz1=> ?_)<|fun c2 hz1=> ?_
 refine B2<|A8<|B9<|sv Z<|sv Z<|sv Z<|A1<|E3<|G9 ?_
 cases hz1
 exact ⟨Z,(),(G1 Z Z)⟩
 refine D8 Z ?_
 cases hz1
 obtain rfl:=ez1 _ rfl
 refine ⟨nofun,D1 Z<|Az ?_⟩
 exact ⟨(),(G1 Z Z)⟩
 rintro _ ⟨g1,q1⟩
 refine A7 q1<|A3<|Q1 Z<|sq Z<|sl Z G_hit Z<|sv Z<|bs h fun _ hv4 h=>sd Z (F0 Z Z hv4 Z)<|sd Z (J8 Z hv4 Z)<|sv Z<|sq Z<|sl Z G_hit Z<|sv Z<|bs h fun _ hv5 h=>sd Z (F0 Z Z hv5 Z)<|sd Z (J8 Z hv5 Z)<|sv Z<|sv Z<|sv Z<|sv Z<|A1<|B4 ?_
 cases h
 exact B0 (.inr Z) (HO (B1 Z) (B1 Z) (B1 Z) D4 D4 D4) (.refl _)
def Jz [Lp](p1:Map)(p2:Int):Option Bool:=
  ((cond ((decide (p2≥0))&& (decide (p2< (p1.Lanes.length:Int)))) (Q5 p1) (some default))).bind fun v1=>some (((decide (p2≥0))&& (decide (p2< (p1.Lanes.length:Int))))&& (v1==0))
theorem Ui(p1 p2 r)(h:Jz p1 p2=some r):PCall prog 159 [(.agg (Q8 p1)),(i64 p2)] (bo r):=by
 refine C4 (fk func159 ntmps159 m0 (by with_unfolding_all rfl)) (nl Z) ?_
 unfold Jz at h
 refine A7 (s0:=⟨T [(0,(.d _)),(1,(.d _))],G []⟩) (G1 Z Z) ?_
 refine B6<|sm Z<|sv Z<|A1<|B6<|sv Z<|sv Z<|sv Z<|gt Z (fun _=>Z)<|gp Z (J1 Z) (fun _=>Z) (gt Z (vl Z G_hit Z)<|gt Z (fun w4=>(D6<|A5 w4))<|gt Z (fun w5=>(J3 (A5 w5) (A5 w5) Z))<|sa Z Z Z<|sv Z<|gt Z (fun _=>(B5 Z G_hit Z Z))<|bs h fun v1 hv1 h=> ?_)
 refine S4 _ (i64 v1) (J1 Z) (fun w7=>⟨_,[(.d (.agg (Q8 p1)))],_,_,(by simp only [A5 w7];rfl),Z,A2,Z2 _ _<|L8 w7 hv1,(.inl Z)⟩) ?_
 refine gt Z (vb Z Z Z)<|sa Z Z Z<|sv Z<|A1<|B4 ?_
 cases h
 exact B0 (.inr Z) (C1 (B1 Z) D4) (.refl _)
def Fu [Lp](p1:Map)(p2:Int):Option Int:=
  (Jz p1 p2).bind fun v1=>cond (!v1) (some 0) ((V6 p1 p2).bind fun v2=>some v2)
theorem Ux(p1 p2 r)(h:Fu p1 p2=some r):PCall prog 61 [(.agg (Q8 p1)),(i64 p2)] (i64 r):=by
 refine C4 (fk func61 ntmps61 m0 (by with_unfolding_all rfl)) (nl Z) ?_
 unfold Fu at h
 refine A7 (s0:=⟨T [(0,(.d _)),(1,(.d _))],G []⟩) (G1 Z Z) ?_
 refine B6<|sm Z<|sv Z<|A1<|A3<|B6<|sd Z (B5 Z G_hit Z Z)<|sv Z<|bs h fun v1 hv1 h=>B8 Z Z A2 (Ui _ _ _ hv1) (.inl Z) (A9 (.d (bo (!v1))) Z Z (A1<|cc Z h (fun c1 h=> ?_)<|fun c1 h=> ?_))
 refine B6<|sv Z<|A1<|B4 ?_
 cases h
 exact B0 (.inr Z) (C1 (B1 Z) D4) (.refl _)
 refine B2<|B6<|sd Z (B5 Z G_hit Z Z)<|sv Z<|bs h fun _ hv2 h=>B8 Z Z A2 (Eg _ _ _ hv2) (.inl Z) (sv Z<|A1<|B4 ?_)
 cases h
 exact B0 (.inr Z) (C1 (B1 Z) D4) (.refl _)
def Ka (p1:Map)(p2:Int)(p3:Int)(p4:Int)(x1:(Int×Int)):Option (Stp (Int×Int) Int):=
  cond (decide (x1.2< (p1.Works.length:Int))) ((E8 p1.Works x1.2).bind fun v5=>((cond (v5.Lane_==p2) (T3 p3 v5.From v5.To) (some default))).bind fun v6=>((cond ((v5.Lane_==p2)&&v6) (T3 p4 v5.Begin (H6 (v5.End - 1))) (some default))).bind fun v7=>cond (((v5.Lane_==p2)&&v6)&&v7) (some (.go ((Fi false x1.1 v5.Limit),(H6 (x1.2+1))))) (some (.go (x1.1,(H6 (x1.2+1)))))) (some (.out x1.1))
def Gw [Lp](p1:Map)(p2:Int)(p3:Int)(p4:Int):Option Int:=
  (Jz p1 p2).bind fun v1=>((cond (!(!v1)) (V6 p1 p2) (some default))).bind fun v2=>((cond (!(!v1)) (T3 p3 0 v2) (some default))).bind fun v3=>cond ((!v1)||(!v3)) (some 0) ((E8 p1.Lanes p2).bind fun v4=>(loop (Ka p1 p2 p3 p4) (v4.Limit,0)).bind fun y1=>some y1)
theorem Xh(p1 p2 p3 p4 r)(h:Gw p1 p2 p3 p4=some r):PCall prog 56 [(.agg (Q8 p1)),(i64 p2),(i64 p3),(i64 p4)] (i64 r):=by
 refine C4 (fk func56 ntmps56 m0 (by with_unfolding_all rfl)) (nl Z) ?_
 unfold Gw at h
 refine A7 (s0:=⟨T [(0,(.d _)),(1,(.d _)),(2,(.d _)),(3,(.d _))],G []⟩) (G1 Z Z) ?_
 refine lr<|fun u1 _=>sm Z<|sv Z<|A1<|A3<|B6<|sd Z (B5 Z G_hit Z Z)<|sv Z<|bs h fun v1 hv1 h=>B8 Z Z A2 (Ui _ _ _ hv1) (.inl Z) (A9 (.d (bo (!v1))) Z Z (sv Z<|gf Z (fun _=>Z)<|gf Z (fun _=>(B5 Z G_hit Z Z))<|gf Z (fun _=>Z)<|bs h fun v2 hv2 h=> ?_))
 refine S4 _ (i64 v2) (X3 Z) (fun w4=>⟨_,[(.d (.agg (Q8 p1))),(di p2)],_,_,(by simp only [A5 w4];rfl),Z,A2,Eg _ _ _<|L8 w4 hv2,(.inl Z)⟩) ?_
 refine bs h fun v3 hv3 h=> ?_
 refine S4 _ (bo v3) (X3 Z) (fun w5=>⟨_,[(di p3),(di 0),(di v2)],_,_,(by simp only [A5 w5];rfl),Z,A2,T0 _ _ _ _<|L8 w5 hv3,(.inl Z)⟩) ?_
 refine Ab _ (.d (bo (!v3))) Z (X3 Z) (fun w6=>(by simp only [A5 w6];rfl)) ?_
 refine sd Z (Gi Z Z<|fun hc=>A5<|Bd hc)<|A1<|cc Z h (fun c1 h=> ?_)<|fun c1 h=> ?_
 refine B6<|sv Z<|A1<|B4 ?_
 cases h
 exact B0 (.inr Z) (C1 (B1 Z) D4) (.refl _)
 refine B2<|B6<|sq Z<|sl Z G_hit Z<|sv Z<|bs h fun v4 hv4 h=>sd Z (F0 Z Z hv4 Z)<|sv Z<|sd Z (J8 Z hv4 Z)<|sv Z<|A1<|A3<|A3<|A7 (s0:=⟨T [(1,(.d _)),(2,(.d _)),(3,(.d _)),(4,(.ptr _ _)),(9,(.d _))],G [((4,u1),some<|.box 27 _)]⟩) (G1 Z Z) ?_
 refine B9<|sq Z<|sl Z G_hit Z<|sd Z (D6 Z)<|sv Z<|A1<|bs h fun y1 hy1 h=>F6 (fun s=> ∃g1:Unit,Sb ⟨T [(9,(di y1))],G []⟩ s) ?_ ?_
 refine A8<|G0 (Ka p1 p2 p3 p4) (fun (x1:(Int×Int)) (g2:Unit)=>⟨T [(1,(di p2)),(2,(di p3)),(3,(di p4)),(9,(di x1.1)),(31,(dl I6 p1.Works)),(32,(di (p1.Works.length:Int))),(33,(di x1.2))],G []⟩) (v4.Limit,0) () _ hy1 (G1 Z Z) ?_
 intro x1 g2 z1 hz1 ez1
 unfold Ka at hz1
 refine B6<|sv Z<|A1<|A3<|cc Z hz1 (fun c2 hz1=> ?_)<|fun c2 hz1=> ?_
 refine B2<|A3<|A8<|lr<|fun u7 _=>bs hz1 fun v5 hv5 hz1=>sd Z (F0 Z Z hv5 Z)<|sd Z (C8 Z hv5 Z Z)<|sm Z<|Aa Z G_hit (DS v5) Z (A1<|B6<|sq Z<|sl Z G_hit Z<|sv Z<|sv Z<|sv Z<|gt Z (fun _=>Z)<|gp Z (J1 Z) (fun _=>Z) (gt Z (vl Z G_hit Z)<|gp Z (J1 Z) (fun _=>Z) (gt Z (vl Z G_hit Z)<|bs hz1 fun v6 hv6 hz1=> ?_)))
 refine S4 _ (bo v6) (J1 Z) (fun w12=>⟨_,[(di p3),(di v5.From),(di v5.To)],_,_,(by simp only [A5 w12];rfl),Z,A2,T0 _ _ _ _<|L8 w12 hv6,(.inl Z)⟩) ?_
 refine sa Z Z Z<|sv Z<|gt Z (fun _=>Z)<|gp Z (J1 Z) (fun _=>Z) (gt Z (vl Z G_hit Z)<|gp Z (J1 Z) (fun _=>Z) (gt Z (vl Z G_hit Z)<|gt Z (vb Z Z Z)<|bs hz1 fun v7 hv7 hz1=> ?_))
 refine S4 _ (bo v7) (J1 Z) (fun w19=>⟨_,[(di p4),(di v5.Begin),(di<|H6 (v5.End - 1))],_,_,(by simp only [A5 w19];rfl),Z,A2,T0 _ _ _ _<|L8 w19 hv7,(.inl Z)⟩) ?_
 refine sa Z Z Z<|A1<|cc Z hz1 (fun c3 hz1=> ?_)<|fun c3 hz1=> ?_
 refine A7 (s0:=⟨T [(1,(.d _)),(2,(.d _)),(3,(.d _)),(9,(.d _)),(11,(.ptr _ _)),(31,(.d _)),(32,(.d _)),(33,(.d _))],G [((11,u7),some<|.box 50 _)]⟩) (G1 Z Z) ?_
 refine B9<|sv Z<|sq Z<|sl Z G_hit Z<|sv Z<|sv Z<|A1<|E3<|B9<|sv Z<|sv Z<|A1<|G9 ?_
 cases hz1
 exact ⟨Z,(),(G1 Z Z)⟩
 refine B2<|E3<|A7 (s0:=⟨T [(1,(.d _)),(2,(.d _)),(3,(.d _)),(9,(.d _)),(31,(.d _)),(32,(.d _)),(33,(.d _))],G []⟩) (G1 Z Z) ?_
 refine B9<|sv Z<|sv Z<|A1<|G9 ?_
 cases hz1
 exact ⟨Z,(),(G1 Z Z)⟩
 refine D8 Z ?_
 cases hz1
 obtain rfl:=ez1 _ rfl
 refine ⟨nofun,D1 Z<|Az ?_⟩
 exact ⟨(),(G1 Z Z)⟩
 rintro _ ⟨g1,q1⟩
 refine A7 q1<|B6<|sv Z<|sv Z<|A1<|B4 ?_
 cases h
 exact B0 (.inr Z) (C1 (B1 Z) D4) (.refl _)
def Ff [Lp]:Option Bool:=
  (Jj).bind fun v1=>(Gv v1 [0] 60000).bind fun v2=>(Q5 v1).bind fun v3=>((cond (v3==0) (Ei v1) (some default))).bind fun v4=>((cond (((((v3==0)&&v4)&& (v2.1==0))&& (v2.2.1==60000))&&v2.2.2) (Fu v1 1) (some default))).bind fun v5=>((cond ((((((v3==0)&&v4)&& (v2.1==0))&& (v2.2.1==60000))&&v2.2.2)&& (v5==100000)) (Gw v1 0 10 5) (some default))).bind fun v6=>some (((((((v3==0)&&v4)&& (v2.1==0))&& (v2.2.1==60000))&&v2.2.2)&& (v5==100000))&& (v6==1500))
theorem Xi(r)(h:Ff=some r):PCall prog 14 [] (bo r):=by
 refine C4 (fk func14 ntmps14 (fun r=>if r==2 then [1001]else []) (by with_unfolding_all rfl)) (nl Z) ?_
 unfold Ff at h
 refine A7 (s0:=⟨T [],G []⟩) (G1 Z Z) ?_
 refine B6<|sv Z<|A1<|B6<|bs h fun v1 hv1 h=>B8 Z Z A2 (BM _ hv1) (.inl Z) (sm Z<|Aa Z G_hit (R3 v1) Z (A1<|B6<|sd Z (B5 Z G_hit Z Z)<|A9 (dl A6 [0]) Z Z (bs h fun _ hv2 h=>B8 Z Z A2 (Xg _ _ _ _ hv2) (.inl Z) (sv Z<|sv Z<|sv Z<|sv Z<|sv Z<|sv Z<|sv Z<|A1<|B6<|sd Z (B5 Z G_hit Z Z)<|bs h fun _ hv3 h=>B8 Z Z A2 (Z2 _ _ hv3) (.inl Z) (sv Z<|sv Z<|gt Z (fun _=>(B5 Z G_hit Z Z))<|bs h fun v4 hv4 h=> ?_)))))
 refine S4 _ (bo v4) (J1 Z) (fun w2=>⟨_,[(.d (.agg (Q8 v1)))],_,_,(by simp only [A5 w2];rfl),Z,A2,Si _ _<|L8 w2 hv4,(.inl Z)⟩) ?_
 refine sa Z Z Z<|sv Z<|gt Z (fun _=>Z)<|gt Z (vb Z Z Z)<|sa Z Z Z<|sv Z<|gt Z (fun _=>Z)<|gt Z (vb Z Z Z)<|sa Z Z Z<|sv Z<|gt Z (fun _=>Z)<|sa Z Z Z<|sv Z<|gt Z (fun _=>(B5 Z G_hit Z Z))<|bs h fun v5 hv5 h=> ?_
 refine S4 _ (i64 v5) (J1 Z) (fun w9=>⟨_,[(.d (.agg (Q8 v1))),(di 1)],_,_,(by simp only [A5 w9];rfl),Z,A2,Ux _ _ _<|L8 w9 hv5,(.inl Z)⟩) ?_
 refine gt Z (vb Z Z Z)<|sa Z Z Z<|sv Z<|gt Z (fun _=>(B5 Z G_hit Z Z))<|bs h fun v6 hv6 h=> ?_
 refine S4 _ (i64 v6) (J1 Z) (fun w12=>⟨_,[(.d (.agg (Q8 v1))),(di 0),(di 10),(di 5)],_,_,(by simp only [A5 w12];rfl),Z,A2,Xh _ _ _ _ _<|L8 w12 hv6,(.inl Z)⟩) ?_
 refine gt Z (vb Z Z Z)<|sa Z Z Z<|sv Z<|A1<|B4 ?_
 cases h
 exact B0 (.inr Z) (C1 (B1 Z) D4) (.refl _)
def Du [Lp](p1:Int)(p2:Int):Option Bool:=
  (Pc p1).bind fun v1=>(Pc p2).bind fun v2=>(Hz v1 v2).bind fun v3=>cond (v3.2 !=0) (some false) ((Ip v1 v3.1).bind fun v4=>cond ((v4.2 !=0)||(v4.1.Version !=(H6 (v1.Version+1)))) (some false) ((Hz (Map.mk v2.Version v4.1.Lanes v4.1.Zones v4.1.Signals v4.1.Works) v2).bind fun v5=>((cond ((v5.2==0)&& ((v5.1.Edits.length:Int)==0)) (Jw (Map.mk v2.Version v4.1.Lanes v4.1.Zones v4.1.Signals v4.1.Works) v2) (some default))).bind fun v6=>((cond (((v5.2==0)&& ((v5.1.Edits.length:Int)==0))&&v6) (Ei (Map.mk v2.Version v4.1.Lanes v4.1.Zones v4.1.Signals v4.1.Works)) (some default))).bind fun v7=>((cond ((((v5.2==0)&& ((v5.1.Edits.length:Int)==0))&&v6)&&v7) (Ff) (some default))).bind fun v8=>some (((((v5.2==0)&& ((v5.1.Edits.length:Int)==0))&&v6)&&v7)&&v8)))
theorem Ni(p1 p2 r)(h:Du p1 p2=some r):PCall prog 8 [(i64 p1),(i64 p2)] (bo r):=by
 refine C4 (fk func8 ntmps8 m0 (by with_unfolding_all rfl)) (nl Z) ?_
 unfold Du at h
 refine A7 (s0:=⟨T [(0,(.d _)),(1,(.d _))],G []⟩) (G1 Z Z) ?_
 refine B6<|sv Z<|A1<|lr<|fun u2 _=>sv Z<|bs h fun v1 hv1 h=>B8 Z Z A2 (Xb _ _ hv1) (.inl Z) (sv Z<|bs h fun v2 hv2 h=>B8 Z Z A2 (Xb _ _ hv2) (.inl Z) (sm Z<|sn Z Z<|Aa Z (gq Z) (R3 v1) Z (Aa Z (gq Z) (R3 v2) Z (A1<|lr<|fun u3 _=>sd Z (B5 Z (gq Z) Z Z)<|sd Z (B5 Z G_hit Z Z)<|bs h fun v3 hv3 h=>B8 Z Z A2 (Pu _ _ _ hv3) (.inl Z) (sv Z<|sv Z<|sv Z<|sm Z<|Aa Z G_hit [(di v3.1.Base),(dl G2 v3.1.Edits)] Z (sv Z<|A1<|A3<|A3<|A7 (s0:=⟨T [(5,(.ptr _ _)),(6,(.ptr _ _)),(7,(.ptr _ _)),(8,(.d _))],G [((5,u2),some<|.box 27 _),((6,u2),some<|.box 27 _),((7,u3),some<|.box 36 _)]⟩) (G1 Z Z) ?_))))))
 refine B9<|sv Z<|sv Z<|A1<|cc Z h (fun c1 h=> ?_)<|fun c1 h=> ?_
 refine B6<|sv Z<|A1<|B4 ?_
 cases h
 exact B0 (.inr Z) (C1 (B1 Z) D4) (.refl _)
 refine B2<|lr<|fun u6 _=>sd Z (B5 Z G_hit Z Z)<|sd Z (B5 Z (gq Z) Z Z)<|bs h fun v4 hv4 h=>B8 Z Z A2 (Xd _ _ _ hv4) (.inl Z) (sv Z<|sv Z<|sv Z<|sm Z<|Aa Z G_hit (R3 v4.1) Z (sv Z<|A1<|A3<|B6<|sv Z<|sv Z<|sv Z<|gp Z (X3 Z) (fun _=>Z) (gf Z (vl Z G_hit Z)<|gp Z (X3 Z) (fun _=>Z) (gf Z (vl Z (gq Z) Z)<|gf Z (vb Z Z Z)<|gf Z (fun w6=>(J3 (A5 w6) (A5 w6) Z))<|sd Z (Gi Z Z<|fun hc=>A5<|Bd hc)<|A1<|cc Z h (fun c2 h=> ?_)<|fun c2 h=> ?_))))
 refine A3<|A7 (s0:=⟨T [],G []⟩) (G1 Z Z) ?_
 refine B9<|sv Z<|A1<|B4 ?_
 cases h
 exact B0 (.inr Z) (C1 (B1 Z) D4) (.refl _)
 refine B2<|A3<|A7 (s0:=⟨T [(6,(.ptr _ _)),(9,(.ptr _ _))],G [((6,u2),some<|.box 27 _),((9,u6),some<|.box 27 _)]⟩) (G1 Z Z) ?_
 refine B9<|sq Z<|sl Z G_hit Z<|sq Z<|Aa Z (gq Z) ((R3 v4.1).set 0 (di v2.Version)) Z (A1<|B6<|sd Z (B5 Z G_hit Z Z)<|sd Z (B5 Z (gq Z) Z Z)<|bs h fun v5 hv5 h=>B8 Z Z A2 (Pu _ _ _ hv5) (.inl Z) (sv Z<|sv Z<|sv Z<|sm Z<|Aa Z G_hit [(di v5.1.Base),(dl G2 v5.1.Edits)] Z (sv Z<|A1<|B6<|sv Z<|sv Z<|sv Z<|gp Z (J1 Z) (fun _=>Z) (gt Z (vl Z G_hit Z)<|gt Z (fun w9=>(D6<|A5 w9))<|gt Z (vb Z Z Z)<|sa Z Z Z<|sv Z<|gt Z (fun _=>(B5 Z (gq Z) Z Z))<|gt Z (fun _=>(B5 Z (gq Z) Z Z))<|bs h fun v6 hv6 h=> ?_))))
 refine S4 _ (bo v6) (J1 Z) (fun w13=>⟨_,[(.d (.agg [(i64 v2.Version),(.list (List.map G5 v4.1.Lanes)),(.list (List.map F4 v4.1.Zones)),(.list (List.map E2 v4.1.Signals)),(.list (List.map I6 v4.1.Works))])),(.d (.agg (Q8 v2)))],_,_,(by simp only [A5 w13];rfl),Z,A2,Yk _ _ _<|L8 w13 hv6,(.inl Z)⟩) ?_
 refine sa Z Z Z<|sv Z<|gt Z (fun _=>(B5 Z (gq Z) Z Z))<|bs h fun v7 hv7 h=> ?_
 refine S4 _ (bo v7) (J1 Z) (fun w15=>⟨_,[(.d (.agg [(i64 v2.Version),(.list (List.map G5 v4.1.Lanes)),(.list (List.map F4 v4.1.Zones)),(.list (List.map E2 v4.1.Signals)),(.list (List.map I6 v4.1.Works))]))],_,_,(by simp only [A5 w15];rfl),Z,A2,Si _ _<|L8 w15 hv7,(.inl Z)⟩) ?_
 refine sa Z Z Z<|sv Z<|bs h fun v8 hv8 h=>S4 _ (bo v8) (J1 Z) (fun w16=>⟨_,_,_,_,Z,Z,A2,Xi _<|L8 w16 hv8,(.inl Z)⟩) (sa Z Z Z<|sv Z<|A1<|B4 ?_)
 cases h
 exact B0 (.inr Z) (C1 (B1 Z) D4) (.refl _)
end
end Go.Abs.Roadsz
