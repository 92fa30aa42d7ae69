/-
  The functions, part 5.
-/
import Derived.Test.YtimbepcdlehjjaaGreatFns4
set_option maxRecDepth 20000
set_option maxHeartbeats 4000000
set_option linter.unusedVariables false
namespace Go.Abs.Roadsz
noncomputable section
open Go Go.Abs Go.Proofs Tryz
attribute [local irreducible] L6 Fs Gl
def Ir [Lp](p1:Lane)(p2:Lane):Option Bool:=
  ((cond (((p1.Kind==p2.Kind)&& (p1.Half==p2.Half))&& (p1.Limit==p2.Limit)) (Ub p1.Curve_ p2.Curve_) (some default))).bind fun v1=>((cond ((((p1.Kind==p2.Kind)&& (p1.Half==p2.Half))&& (p1.Limit==p2.Limit))&&v1) (Iq p1.Next p2.Next) (some default))).bind fun v2=>some (((((p1.Kind==p2.Kind)&& (p1.Half==p2.Half))&& (p1.Limit==p2.Limit))&&v1)&&v2)
theorem Zq(p1 p2 r)(h:Ir p1 p2=some r):PCall prog 109 [(.agg (J7 p1)),(.agg (J7 p2))] (bo r):=by
 refine D7 (fk func109 ntmps109 m0 (by with_unfolding_all rfl)) (nl Z) ?_
 unfold Ir at h
 refine A7 (s0:=⟨T [(0,(.d _)),(1,(.d _))],G []⟩) (E3 Z Z) ?_
 refine B8<|sm Z<|sn Z Z<|sv Z<|A1<|B8<|sq Z<|sl Z (gq Z) Z (sq Z<|sl Z G_hit Z<|sv Z<|sv Z<|gp Z (L5 Z) (fun _=>Z) (gt Z (vl Z (gq Z) Z)<|gp Z (L5 Z) (fun _=>Z) (gt Z (vl Z G_hit Z)<|gt Z (fun w5=>(An (A8 w5) (A8 w5) Z))<|sa Z Z Z<|sv Z<|gp Z (L5 Z) (fun _=>Z) (gt Z (vl Z (gq Z) Z)<|gp Z (L5 Z) (fun _=>Z) (gt Z (vl Z G_hit Z)<|gt Z (fun w10=>(An (A8 w10) (A8 w10) Z))<|sa Z Z Z<|sv Z<|gp Z (L5 Z) (fun _=>Z) (gt Z (fun w12=>(C6 (A8 w12) (gq Z) Z Z))<|gp Z (L5 Z) (fun _=>Z) (gt Z (fun w14=>(C6 (A8 w14) G_hit Z Z))<|bs h fun v1 hv1 h=> ?_)))))))
 refine N0 _ (bo v1) (L5 Z) (fun w15=>⟨_,[(.d (.agg [(.list (List.map K4 p1.Curve_.Pts))])),(.d (.agg [(.list (List.map K4 p2.Curve_.Pts))]))],_,_,(by simp only [A8 w15];rfl),Z,A6,GU _ _ _<|H4 w15 hv1,(.inl Z)⟩) ?_
 refine sa Z Z Z<|sv Z<|gp Z (L5 Z) (fun _=>Z) (gt Z (vl Z (gq Z) Z)<|gp Z (L5 Z) (fun _=>Z) (gt Z (vl Z G_hit Z)<|bs h fun v2 hv2 h=> ?_))
 refine N0 _ (bo v2) (L5 Z) (fun w20=>⟨_,[(dl A4 p1.Next),(dl A4 p2.Next)],_,_,(by simp only [A8 w20];rfl),Z,A6,Ru _ _ _<|H4 w20 hv2,(.inl Z)⟩) ?_
 refine sa Z Z Z<|sv Z<|A1<|B9 ?_
 cases h
 exact B4 (.inr Z) (C5 (C0 Z) D4) (.refl _)
def By (p1:Zone)(p2:Zone)(x1:Int):Option (Stp Int (Sum Unit Bool)):=
  cond ((decide (x1< (p1.Parts.length:Int)))&& (decide (x1< (p2.Parts.length:Int)))) ((F0 p1.Parts x1).bind fun v1=>(F0 p2.Parts x1).bind fun v2=>cond (!(v1.Lane_==v2.Lane_&& (v1.From==v2.From&& (v1.To==v2.To&& (v1.Rank==v2.Rank&&true))))) (some (.out (.inr false))) (some (.go (K2 (x1+1))))) (some (.out (.inl ())))
def Ls [Lp](p1:Zone)(p2:Zone):Option Bool:=
  thenS (loop (By p1 p2) 0) (fun _=>some ((p1.Signal_==p2.Signal_)&& ((p1.Parts.length:Int)==(p2.Parts.length:Int)))) (fun r=>some r)
theorem Zr(p1 p2 r)(h:Ls p1 p2=some r):PCall prog 110 [(.agg [(.list (List.map G8 p1.Parts)),(i64 p1.Signal_)]),(.agg [(.list (List.map G8 p2.Parts)),(i64 p2.Signal_)])] (bo r):=by
 refine D7 (fk func110 ntmps110 m0 (by with_unfolding_all rfl)) (nl Z) ?_
 unfold Ls at h
 refine A7 (s0:=⟨T [(0,(.d _)),(1,(.d _))],G []⟩) (E3 Z Z) ?_
 refine lr<|fun u1 _=>sm Z<|sm Z<|sv Z<|A1<|A3<|B8<|sv Z<|A1<|js h fun z1 hz1 h=>D0 (fun s=> ∃(y1:Unit) (g1:Unit),z1= .inl y1∧Sb ⟨T [(2,(.ptr (2,u1) 0)),(3,(.ptr (3,u1) 0))],G [((2,u1),some<|.box 45 [(dl G8 p1.Parts),(di p1.Signal_)]),((3,u1),some<|.box 45 [(dl G8 p2.Parts),(di p2.Signal_)])]⟩ s) ?_ ?_
 refine A5<|D2 (By p1 p2) (fun (x1:Int) (g2:Unit)=>⟨T [(2,(.ptr (2,u1) 0)),(3,(.ptr (3,u1) 0)),(5,(di x1))],G [((2,u1),some<|.box 45 [(dl G8 p1.Parts),(di p1.Signal_)]),((3,u1),some<|.box 45 [(dl G8 p2.Parts),(di p2.Signal_)])]⟩) 0 () _ hz1 (E3 Z Z) ?_
 intro x1 g2 z2 hz2 ez2
 unfold By at hz2
 refine A3<|B8<|sv Z<|sq Z<|sl Z G_hit Z<|sd Z (C8 Z)<|sv Z<|sv Z<|gt Z (fun _=>Z)<|gp Z (L5 Z) (fun _=>Z) (gt Z (vl Z (gq Z) Z)<|gt Z (fun w4=>(C8<|A8 w4))<|gt Z (fun w5=>(An (A8 w5) (A8 w5) Z))<|sa Z Z Z<|A1<|cc Z hz2 (fun c1 hz2=> ?_)<|fun c1 hz2=> ?_)
 refine B3<|A3<|A5<|A3<|M8 Z<|sq Z<|sl Z G_hit Z<|sv Z<|bs hz2 fun v1 hv1 hz2=>sd Z (D8 Z Z hv1 Z)<|sd Z (D9 Z hv1 Z Z)<|sq Z<|sl Z (gq Z) Z (sv Z<|bs hz2 fun v2 hv2 hz2=>sd Z (D8 Z Z hv2 Z)<|sd Z (D9 Z hv2 Z Z)<|B6 (.d (bo (!(v1.Lane_==v2.Lane_&& (v1.From==v2.From&& (v1.To==v2.To&& (v1.Rank==v2.Rank&&true))))))) Z Z (A1<|cc Z hz2 (fun c2 hz2=> ?_)<|fun c2 hz2=> ?_))
 refine A3<|A7 (s0:=⟨T [],G []⟩) (E3 Z Z) ?_
 refine B5<|sv Z<|A1<|B9 ?_
 cases hz2
 obtain rfl:=ez2 _ rfl
 refine ⟨nofun,F8 ?_⟩
 rw [bN]at h
 cases h
 exact B4 (.inr Z) (C5 (C0 Z) D4) (.refl _)
 refine B3<|E0<|A7 (s0:=⟨T [(2,(.ptr _ _)),(3,(.ptr _ _)),(5,(.d _))],G [((2,u1),some<|.box 45 _),((3,u1),some<|.box 45 _)]⟩) (E3 Z Z) ?_
 refine B5<|sv Z<|sv Z<|sv Z<|A1<|D6 ?_
 cases hz2
 exact ⟨Z,(),(E3 Z Z)⟩
 refine C3 Z ?_
 cases hz2
 obtain rfl:=ez2 _ rfl
 refine ⟨nofun,C2 Z<|T4 ?_⟩
 exact ⟨_,(),Z,(E3 Z Z)⟩
 rintro _ ⟨y1,g1,rfl,q1⟩
 rw [bM]at h
 refine A7 q1<|B8<|sq Z<|sl Z G_hit Z<|sq Z<|sl Z (gq Z) Z (sv Z<|sv Z<|gp Z (L5 Z) (fun _=>Z) (gt Z (vl Z G_hit Z)<|gt Z (fun w8=>(C8<|A8 w8))<|gp Z (L5 Z) (fun _=>Z) (gt Z (vl Z (gq Z) Z)<|gt Z (fun w11=>(C8<|A8 w11))<|gt Z (fun w12=>(An (A8 w12) (A8 w12) Z))<|sa Z Z Z<|sv Z<|A1<|B9 ?_)))
 cases h
 exact B4 (.inr Z) (C5 (C0 Z) D4) (.refl _)
def Ak [Lp](p1:Signal)(p2:Signal)(x1:Int):Option (Stp Int (Sum Unit Bool)):=
  cond ((decide (x1< (p1.Phases.length:Int)))&& (decide (x1< (p2.Phases.length:Int)))) ((F0 p1.Phases x1).bind fun v1=>(F0 p2.Phases x1).bind fun v2=>((cond (!(v1.Ticks !=v2.Ticks)) (F0 p1.Phases x1) (some default))).bind fun v3=>((cond (!(v1.Ticks !=v2.Ticks)) (F0 p2.Phases x1) (some default))).bind fun v4=>((cond (!(v1.Ticks !=v2.Ticks)) (Iq v3.Green v4.Green) (some default))).bind fun v5=>cond ((v1.Ticks !=v2.Ticks)||(!v5)) (some (.out (.inr false))) (some (.go (K2 (x1+1))))) (some (.out (.inl ())))
def Jj [Lp](p1:Signal)(p2:Signal):Option Bool:=
  thenS (loop (Ak p1 p2) 0) (fun _=>some ((p1.Offset==p2.Offset)&& ((p1.Phases.length:Int)==(p2.Phases.length:Int)))) (fun r=>some r)
theorem Xb(p1 p2 r)(h:Jj p1 p2=some r):PCall prog 111 [(.agg [(i64 p1.Offset),(.list (List.map G2 p1.Phases))]),(.agg [(i64 p2.Offset),(.list (List.map G2 p2.Phases))])] (bo r):=by
 refine D7 (fk func111 ntmps111 m0 (by with_unfolding_all rfl)) (nl Z) ?_
 unfold Jj at h
 refine A7 (s0:=⟨T [(0,(.d _)),(1,(.d _))],G []⟩) (E3 Z Z) ?_
 refine lr<|fun u1 _=>sm Z<|sm Z<|sv Z<|A1<|A3<|B8<|sv Z<|A1<|js h fun z1 hz1 h=>D0 (fun s=> ∃(y1:Unit) (g1:Unit),z1= .inl y1∧Sb ⟨T [(2,(.ptr (2,u1) 0)),(3,(.ptr (3,u1) 0))],G [((2,u1),some<|.box 48 [(di p1.Offset),(dl G2 p1.Phases)]),((3,u1),some<|.box 48 [(di p2.Offset),(dl G2 p2.Phases)])]⟩ s) ?_ ?_
 refine A5<|D2 (Ak p1 p2) (fun (x1:Int) (g2:Unit)=>⟨T [(2,(.ptr (2,u1) 0)),(3,(.ptr (3,u1) 0)),(5,(di x1))],G [((2,u1),some<|.box 48 [(di p1.Offset),(dl G2 p1.Phases)]),((3,u1),some<|.box 48 [(di p2.Offset),(dl G2 p2.Phases)])]⟩) 0 () _ hz1 (E3 Z Z) ?_
 intro x1 g2 z2 hz2 ez2
 unfold Ak at hz2
 refine A3<|B8<|sv Z<|sq Z<|sl Z G_hit Z<|sd Z (C8 Z)<|sv Z<|sv Z<|gt Z (fun _=>Z)<|gp Z (L5 Z) (fun _=>Z) (gt Z (vl Z (gq Z) Z)<|gt Z (fun w4=>(C8<|A8 w4))<|gt Z (fun w5=>(An (A8 w5) (A8 w5) Z))<|sa Z Z Z<|A1<|cc Z hz2 (fun c1 hz2=> ?_)<|fun c1 hz2=> ?_)
 refine B3<|A3<|A5<|A3<|M8 Z<|sq Z<|sl Z G_hit Z<|sv Z<|bs hz2 fun _ hv1 hz2=>sd Z (D8 Z Z hv1 Z)<|sv Z<|sd Z (E9 Z hv1 Z)<|sq Z<|sl Z (gq Z) Z (sv Z<|bs hz2 fun _ hv2 hz2=>sd Z (D8 Z Z hv2 Z)<|sv Z<|sd Z (E9 Z hv2 Z)<|sv Z<|sv Z<|gp Z (N7 Z) (fun _=>Z) (gf Z (vl Z G_hit Z)<|gf Z (fun _=>Z)<|bs hz2 fun v3 hv3 hz2=>gf Z (fun w9=>(D8 (A8 w9) (A8 w9) (H4 w9 hv3) Z)) ?_))
 refine gf Z (fun w10=>(by simp only [A8 w10];rfl)) ?_
 refine gf Z (fun w11=>(E9 (A8 w11) (H4 w11 hv3) Z))<|gp Z (N7 Z) (fun _=>Z) (gf Z (vl Z (gq Z) Z)<|gf Z (fun _=>Z)<|bs hz2 fun v4 hv4 hz2=>gf Z (fun w15=>(D8 (A8 w15) (A8 w15) (H4 w15 hv4) Z)) ?_)
 refine gf Z (fun w16=>(by simp only [A8 w16];rfl)) ?_
 refine gf Z (fun w17=>(E9 (A8 w17) (H4 w17 hv4) Z))<|bs hz2 fun v5 hv5 hz2=> ?_
 refine N0 _ (bo v5) (N7 Z) (fun w18=>⟨_,[(dl A4 v3.Green),(dl A4 v4.Green)],_,_,(by simp only [A8 w18];rfl),Z,A6,Ru _ _ _<|H4 w18 hv5,(.inl Z)⟩) ?_
 refine T3 _ (.d (bo (!v5))) Z (N7 Z) (fun w19=>(by simp only [A8 w19];rfl)) ?_
 refine sd Z (X6 Z Z<|fun hc=>A8<|O7 hc)<|A1<|cc Z hz2 (fun c2 hz2=> ?_)<|fun c2 hz2=> ?_
 refine A3<|A7 (s0:=⟨T [],G []⟩) (E3 Z Z) ?_
 refine B5<|sv Z<|A1<|B9 ?_
 cases hz2
 obtain rfl:=ez2 _ rfl
 refine ⟨nofun,F8 ?_⟩
 rw [bN]at h
 cases h
 exact B4 (.inr Z) (C5 (C0 Z) D4) (.refl _)
 refine B3<|E0<|A7 (s0:=⟨T [(2,(.ptr _ _)),(3,(.ptr _ _)),(5,(.d _))],G [((2,u1),some<|.box 48 _),((3,u1),some<|.box 48 _)]⟩) (E3 Z Z) ?_
 refine B5<|sv Z<|sv Z<|sv Z<|A1<|D6 ?_
 cases hz2
 exact ⟨Z,(),(E3 Z Z)⟩
 refine C3 Z ?_
 cases hz2
 obtain rfl:=ez2 _ rfl
 refine ⟨nofun,C2 Z<|T4 ?_⟩
 exact ⟨_,(),Z,(E3 Z Z)⟩
 rintro _ ⟨y1,g1,rfl,q1⟩
 rw [bM]at h
 refine A7 q1<|B8<|sq Z<|sl Z G_hit Z<|sq Z<|sl Z (gq Z) Z (sv Z<|sv Z<|gp Z (L5 Z) (fun _=>Z) (gt Z (vl Z G_hit Z)<|gt Z (fun w22=>(C8<|A8 w22))<|gp Z (L5 Z) (fun _=>Z) (gt Z (vl Z (gq Z) Z)<|gt Z (fun w25=>(C8<|A8 w25))<|gt Z (fun w26=>(An (A8 w26) (A8 w26) Z))<|sa Z Z Z<|sv Z<|A1<|B9 ?_)))
 cases h
 exact B4 (.inr Z) (C5 (C0 Z) D4) (.refl _)
def Da [Lp](p1:Map)(p2:Map)(p3:Int)(p4:Int):Option Bool:=
  cond (p3==1) ((F0 p1.Lanes p4).bind fun v1=>(F0 p2.Lanes p4).bind fun v2=>(Ir v1 v2).bind fun v3=>some v3) (cond (p3==2) ((F0 p1.Zones p4).bind fun v4=>(F0 p2.Zones p4).bind fun v5=>(Ls v4 v5).bind fun v6=>some v6) (cond (p3==3) ((F0 p1.Signals p4).bind fun v7=>(F0 p2.Signals p4).bind fun v8=>(Jj v7 v8).bind fun v9=>some v9) ((F0 p1.Works p4).bind fun v10=>(F0 p2.Works p4).bind fun v11=>some (v10.Lane_==v11.Lane_&& (v10.From==v11.From&& (v10.To==v11.To&& (v10.Begin==v11.Begin&& (v10.End==v11.End&& (v10.Limit==v11.Limit&&true)))))))))
theorem BG(p1 p2 p3 p4 r)(h:Da p1 p2 p3 p4=some r):PCall prog 85 [(.agg (N8 p1)),(.agg (N8 p2)),(i64 p3),(i64 p4)] (bo r):=by
 refine D7 (fk func85 ntmps85 m0 (by with_unfolding_all rfl)) (nl Z) ?_
 unfold Da at h
 refine A7 (s0:=⟨T [(0,(.d _)),(1,(.d _)),(2,(.d _)),(3,(.d _))],G []⟩) (E3 Z Z) ?_
 refine B8<|sm Z<|sn Z Z<|sv Z<|A1<|A3<|B8<|sv Z<|A1<|A5<|B8<|sv Z<|sv Z<|A1<|cc Z h (fun c1 h=> ?_)<|fun c1 h=> ?_
 refine A3<|M8 Z<|sq Z<|sl Z (gq Z) Z (sv Z<|bs h fun _ hv1 h=>sd Z (D8 Z Z hv1 Z)<|sd Z (D9 Z hv1 Z Z)<|sq Z<|sl Z G_hit Z<|sv Z<|bs h fun _ hv2 h=>sd Z (D8 Z Z hv2 Z)<|sd Z (D9 Z hv2 Z Z)<|bs h fun _ hv3 h=>D1 Z Z A6 (Zq _ _ _ hv3) (.inl Z) (sv Z<|A1<|B9 ?_))
 cases h
 exact B4 (.inr Z) (C5 (C0 Z) D4) (.refl _)
 refine B8<|sv Z<|sv Z<|A1<|cc Z h (fun c2 h=> ?_)<|fun c2 h=> ?_
 refine A3<|M8 Z<|sq Z<|sl Z (gq Z) Z (sv Z<|bs h fun _ hv4 h=>sd Z (D8 Z Z hv4 Z)<|sd Z (D9 Z hv4 Z Z)<|sq Z<|sl Z G_hit Z<|sv Z<|bs h fun _ hv5 h=>sd Z (D8 Z Z hv5 Z)<|sd Z (D9 Z hv5 Z Z)<|bs h fun _ hv6 h=>D1 Z Z A6 (Zr _ _ _ hv6) (.inl Z) (sv Z<|A1<|B9 ?_))
 cases h
 exact B4 (.inr Z) (C5 (C0 Z) D4) (.refl _)
 refine B8<|sv Z<|sv Z<|A1<|cc Z h (fun c3 h=> ?_)<|fun c3 h=> ?_
 refine A3<|M8 Z<|sq Z<|sl Z (gq Z) Z (sv Z<|bs h fun _ hv7 h=>sd Z (D8 Z Z hv7 Z)<|sd Z (D9 Z hv7 Z Z)<|sq Z<|sl Z G_hit Z<|sv Z<|bs h fun _ hv8 h=>sd Z (D8 Z Z hv8 Z)<|sd Z (D9 Z hv8 Z Z)<|bs h fun _ hv9 h=>D1 Z Z A6 (Xb _ _ _ hv9) (.inl Z) (sv Z<|A1<|B9 ?_))
 cases h
 exact B4 (.inr Z) (C5 (C0 Z) D4) (.refl _)
 refine B3<|E0<|A3<|M8 Z<|sq Z<|sl Z (gq Z) Z (sv Z<|bs h fun v10 hv10 h=>sd Z (D8 Z Z hv10 Z)<|sd Z (D9 Z hv10 Z Z)<|sq Z<|sl Z G_hit Z<|sv Z<|bs h fun v11 hv11 h=>sd Z (D8 Z Z hv11 Z)<|sd Z (D9 Z hv11 Z Z)<|B6 (.d (bo (v10.Lane_==v11.Lane_&& (v10.From==v11.From&& (v10.To==v11.To&& (v10.Begin==v11.Begin&& (v10.End==v11.End&& (v10.Limit==v11.Limit&&true)))))))) Z Z (sv Z<|A1<|B9 ?_))
 cases h
 exact B4 (.inr Z) (C5 (C0 Z) D4) (.refl _)
def Ju [Lp](p1:Map)(p2:Map)(x1:Int)(x2:Int):Option (Stp Int (Sum Unit Bool)):=
  (Kh p1 x1).bind fun v3=>cond (decide (x2<v3)) ((Da p1 p2 x1 x2).bind fun v4=>cond (!v4) (some (.out (.inr false))) (some (.go (K2 (x2+1))))) (some (.out (.inl ())))
def Jv [Lp](p1:Map)(p2:Map)(x1:Int):Option (Stp Int (Sum Unit Bool)):=
  cond (decide (x1≤4)) ((Kh p1 x1).bind fun v1=>(Kh p2 x1).bind fun v2=>cond (v1 !=v2) (some (.out (.inr false))) (thenS (loop (Ju p1 p2 x1) 0) (fun _=>some (.go (K2 (x1+1)))) (fun r=>some (.out (.inr r))))) (some (.out (.inl ())))
def Ki [Lp](p1:Map)(p2:Map):Option Bool:=
  thenS (loop (Jv p1 p2) 1) (fun _=>some (p1.Version==p2.Version)) (fun r=>some r)
theorem So(p1 p2 r)(h:Ki p1 p2=some r):PCall prog 20 [(.agg (N8 p1)),(.agg (N8 p2))] (bo r):=by
 refine D7 (fk func20 ntmps20 m0 (by with_unfolding_all rfl)) (nl Z) ?_
 unfold Ki at h
 refine A7 (s0:=⟨T [(0,(.d _)),(1,(.d _))],G []⟩) (E3 Z Z) ?_
 refine lr<|fun u1 _=>sm Z<|sm Z<|sv Z<|A1<|A3<|B8<|sv Z<|A1<|js h fun z1 hz1 h=>D0 (fun s=> ∃(y1:Unit) (g1:Unit),z1= .inl y1∧Sb ⟨T [(2,(.ptr (2,u1) 0)),(3,(.ptr (3,u1) 0))],G [((2,u1),some<|.box 27 (F2 p1)),((3,u1),some<|.box 27 (F2 p2))]⟩ s) ?_ ?_
 refine A5<|D2 (Jv p1 p2) (fun (x1:Int) (g2:Unit)=>⟨T [(2,(.ptr (2,u1) 0)),(3,(.ptr (3,u1) 0)),(5,(di x1))],G [((2,u1),some<|.box 27 (F2 p1)),((3,u1),some<|.box 27 (F2 p2))]⟩) 1 () _ hz1 (E3 Z Z) ?_
 intro x1 g2 z2 hz2 ez2
 unfold Jv at hz2
 refine A3<|B8<|sv Z<|sv Z<|A1<|cc Z hz2 (fun c1 hz2=> ?_)<|fun c1 hz2=> ?_
 refine B3<|A3<|A5<|A3<|A3<|M8 Z<|sd Z (C6 Z G_hit Z Z)<|sv Z<|bs hz2 fun _ hv1 hz2=>D1 Z Z A6 (Sn _ _ _ hv1) (.inl Z) (sd Z (C6 Z (gq Z) Z Z)<|sv Z<|bs hz2 fun _ hv2 hz2=>D1 Z Z A6 (Sn _ _ _ hv2) (.inl Z) (sv Z<|A1<|cc Z hz2 (fun c2 hz2=> ?_)<|fun c2 hz2=> ?_))
 refine B8<|sv Z<|A1<|B9 ?_
 cases hz2
 obtain rfl:=ez2 _ rfl
 refine ⟨nofun,F8 ?_⟩
 rw [bN]at h
 cases h
 exact B4 (.inr Z) (C5 (C0 Z) D4) (.refl _)
 refine B3<|B8<|sv Z<|A1<|js hz2 fun z3 hz3 hz2=>D0 (fun s=> ∃(y2:Unit) (g3:Unit),z3= .inl y2∧Sb ⟨T [(2,(.ptr (2,u1) 0)),(3,(.ptr (3,u1) 0)),(5,(di x1))],G [((2,u1),some<|.box 27 (F2 p1)),((3,u1),some<|.box 27 (F2 p2))]⟩ s) ?_ ?_
 refine A5<|D2 (Ju p1 p2 x1) (fun (x2:Int) (g4:Unit)=>⟨T [(2,(.ptr (2,u1) 0)),(3,(.ptr (3,u1) 0)),(5,(di x1)),(6,(di x2))],G [((2,u1),some<|.box 27 (F2 p1)),((3,u1),some<|.box 27 (F2 p2))]⟩) 0 () _ hz3 (E3 Z Z) ?_
 intro x2 g4 z4 hz4 ez4
 unfold Ju at hz4
 refine A3<|B8<|sv Z<|sd Z (C6 Z G_hit Z Z)<|sv Z<|bs hz4 fun _ hv3 hz4=>D1 Z Z A6 (Sn _ _ _ hv3) (.inl Z) (sv Z<|A1<|cc Z hz4 (fun c3 hz4=> ?_)<|fun c3 hz4=> ?_)
 refine B3<|A3<|A5<|B8<|sd Z (C6 Z G_hit Z Z)<|sd Z (C6 Z (gq Z) Z Z)<|sv Z<|sv Z<|bs hz4 fun v4 hv4 hz4=>D1 Z Z A6 (BG _ _ _ _ _ hv4) (.inl Z) (B6 (.d (bo (!v4))) Z Z (A1<|cc Z hz4 (fun c4 hz4=> ?_)<|fun c4 hz4=> ?_))
 refine B8<|sv Z<|A1<|B9 ?_
 cases hz4
 obtain rfl:=ez4 _ rfl
 refine ⟨nofun,F8 ?_⟩
 rw [bN]at hz2
 cases hz2
 obtain rfl:=ez2 _ rfl
 refine ⟨nofun,F8 ?_⟩
 rw [bN]at h
 cases h
 exact B4 (.inr Z) (C5 (C0 Z) D4) (.refl _)
 refine B3<|E0<|B5<|sv Z<|sv Z<|sv Z<|A1<|D6 ?_
 cases hz4
 exact ⟨Z,(),(E3 Z Z)⟩
 refine C3 Z ?_
 cases hz4
 obtain rfl:=ez4 _ rfl
 refine ⟨nofun,C2 Z<|T4 ?_⟩
 exact ⟨_,(),Z,(E3 Z Z)⟩
 rintro _ ⟨y2,g3,rfl,q1⟩
 rw [bM]at hz2
 refine E0<|A7 q1<|B5<|sv Z<|sv Z<|sv Z<|A1<|D6 ?_
 cases hz2
 exact ⟨Z,(),(E3 Z Z)⟩
 refine C3 Z ?_
 cases hz2
 obtain rfl:=ez2 _ rfl
 refine ⟨nofun,C2 Z<|T4 ?_⟩
 exact ⟨_,(),Z,(E3 Z Z)⟩
 rintro _ ⟨y1,g1,rfl,q2⟩
 rw [bM]at h
 refine A7 q2<|B8<|sq Z<|sl Z G_hit Z<|sq Z<|sl Z (gq Z) Z (sv Z<|sv Z<|A1<|B9 ?_)
 cases h
 exact B4 (.inr Z) (C5 (C0 Z) D4) (.refl _)
def W3 (p1:(List Spot))(p2:(List Spot))(x1:Int):Option (Stp Int (Sum Unit Bool)):=
  cond (decide (x1< (p1.length:Int))) ((F0 p1 x1).bind fun v1=>(F0 p2 x1).bind fun v2=>cond (!(v1.X==v2.X&& (v1.Y==v2.Y&&true))) (some (.out (.inr false))) (some (.go (K2 (x1+1))))) (some (.out (.inl ())))
def Cw [Lp](p1:(List Spot))(p2:(List Spot)):Option Bool:=
  cond ((p1.length:Int) !=(p2.length:Int)) (some false) (thenS (loop (W3 p1 p2) 0) (fun _=>some true) (fun r=>some r))
theorem Ri(p1 p2 r)(h:Cw p1 p2=some r):PCall prog 251 [(.list (List.map K4 p1)),(.list (List.map K4 p2))] (bo r):=by
 refine D7 (fk func251 ntmps251 m0 (by with_unfolding_all rfl)) (nl Z) ?_
 unfold Cw at h
 refine A7 (s0:=⟨T [(0,(.d _)),(1,(.d _))],G []⟩) (E3 Z Z) ?_
 refine B8<|sv Z<|A1<|A3<|B8<|sv Z<|sd Z (C8 Z)<|sv Z<|sd Z (C8 Z)<|sv Z<|A1<|cc Z h (fun c1 h=> ?_)<|fun c1 h=> ?_
 refine B8<|sv Z<|A1<|B9 ?_
 cases h
 exact B4 (.inr Z) (C5 (C0 Z) D4) (.refl _)
 refine B3<|A3<|B8<|sv Z<|sd Z (C8 Z)<|sv Z<|A1<|js h fun z1 hz1 h=>D0 (fun s=> ∃(y1:Unit) (g1:Unit),z1= .inl y1∧Sb ⟨T [],G []⟩ s) ?_ ?_
 refine A5<|D2 (W3 p1 p2) (fun (x1:Int) (g2:Unit)=>⟨T [(0,(dl K4 p1)),(1,(dl K4 p2)),(12,(di (p1.length:Int))),(13,(di x1))],G []⟩) 0 () _ hz1 (E3 Z Z) ?_
 intro x1 g2 z2 hz2 ez2
 unfold W3 at hz2
 refine B8<|sv Z<|A1<|A3<|cc Z hz2 (fun c2 hz2=> ?_)<|fun c2 hz2=> ?_
 refine B3<|A3<|A5<|B8<|sv Z<|sv Z<|A1<|A3<|M8 Z<|sv Z<|sv Z<|bs hz2 fun v1 hv1 hz2=>sd Z (D8 Z Z hv1 Z)<|sd Z (D9 Z hv1 Z Z)<|sv Z<|sv Z<|bs hz2 fun v2 hv2 hz2=>sd Z (D8 Z Z hv2 Z)<|sd Z (D9 Z hv2 Z Z)<|B6 (.d (bo (!(v1.X==v2.X&& (v1.Y==v2.Y&&true))))) Z Z (A1<|cc Z hz2 (fun c3 hz2=> ?_)<|fun c3 hz2=> ?_)
 refine B8<|sv Z<|A1<|B9 ?_
 cases hz2
 obtain rfl:=ez2 _ rfl
 refine ⟨nofun,F8 ?_⟩
 rw [bN]at h
 cases h
 exact B4 (.inr Z) (C5 (C0 Z) D4) (.refl _)
 refine B3<|E0<|B5<|sv Z<|sv Z<|A1<|D6 ?_
 cases hz2
 exact ⟨Z,(),(E3 Z Z)⟩
 refine C3 Z ?_
 cases hz2
 obtain rfl:=ez2 _ rfl
 refine ⟨nofun,C2 Z<|T4 ?_⟩
 exact ⟨_,(),Z,(E3 Z Z)⟩
 rintro _ ⟨y1,g1,rfl,q1⟩
 rw [bM]at h
 refine A7 q1<|B8<|sv Z<|A1<|B9 ?_
 cases h
 exact B4 (.inr Z) (C5 (C0 Z) D4) (.refl _)
def Uc [Lp](p1:Curve)(p2:Curve):Option Bool:=
  (Cw p1.Pts p2.Pts).bind fun v1=>some v1
theorem GV(p1 p2 r)(h:Uc p1 p2=some r):PCall prog 198 [(.agg [(.list (List.map K4 p1.Pts))]),(.agg [(.list (List.map K4 p2.Pts))])] (bo r):=by
 refine D7 (fk func198 ntmps198 m0 (by with_unfolding_all rfl)) (nl Z) ?_
 unfold Uc at h
 refine A7 (s0:=⟨T [(0,(.d _)),(1,(.d _))],G []⟩) (E3 Z Z) ?_
 refine B8<|sm Z<|sn Z Z<|sv Z<|A1<|B8<|sq Z<|sl Z (gq Z) Z (sq Z<|sl Z G_hit Z<|bs h fun _ hv1 h=>D1 Z Z A6 (Ri _ _ _ hv1) (.inl Z) (sv Z<|A1<|B9 ?_))
 cases h
 exact B4 (.inr Z) (C5 (C0 Z) D4) (.refl _)
def Y4 (p1:(List Int))(p2:(List Int))(x1:Int):Option (Stp Int (Sum Unit Bool)):=
  cond (decide (x1< (p1.length:Int))) ((F0 p1 x1).bind fun v1=>(F0 p2 x1).bind fun v2=>cond (v1 !=v2) (some (.out (.inr false))) (some (.go (K2 (x1+1))))) (some (.out (.inl ())))
def Bp [Lp](p1:(List Int))(p2:(List Int)):Option Bool:=
  cond ((p1.length:Int) !=(p2.length:Int)) (some false) (thenS (loop (Y4 p1 p2) 0) (fun _=>some true) (fun r=>some r))
theorem Kx(p1 p2 r)(h:Bp p1 p2=some r):PCall prog 199 [(.list (List.map A4 p1)),(.list (List.map A4 p2))] (bo r):=by
 refine D7 (fk func199 ntmps199 m0 (by with_unfolding_all rfl)) (nl Z) ?_
 unfold Bp at h
 refine A7 (s0:=⟨T [(0,(.d _)),(1,(.d _))],G []⟩) (E3 Z Z) ?_
 refine B8<|sv Z<|A1<|A3<|B8<|sv Z<|sd Z (C8 Z)<|sv Z<|sd Z (C8 Z)<|sv Z<|A1<|cc Z h (fun c1 h=> ?_)<|fun c1 h=> ?_
 refine B8<|sv Z<|A1<|B9 ?_
 cases h
 exact B4 (.inr Z) (C5 (C0 Z) D4) (.refl _)
 refine B3<|A3<|B8<|sv Z<|sd Z (C8 Z)<|sv Z<|A1<|js h fun z1 hz1 h=>D0 (fun s=> ∃(y1:Unit) (g1:Unit),z1= .inl y1∧Sb ⟨T [],G []⟩ s) ?_ ?_
 refine A5<|D2 (Y4 p1 p2) (fun (x1:Int) (g2:Unit)=>⟨T [(0,(dl A4 p1)),(1,(dl A4 p2)),(12,(di (p1.length:Int))),(13,(di x1))],G []⟩) 0 () _ hz1 (E3 Z Z) ?_
 intro x1 g2 z2 hz2 ez2
 unfold Y4 at hz2
 refine B8<|sv Z<|A1<|A3<|cc Z hz2 (fun c2 hz2=> ?_)<|fun c2 hz2=> ?_
 refine B3<|A3<|A5<|B8<|sv Z<|sv Z<|A1<|A3<|M8 Z<|sv Z<|sv Z<|bs hz2 fun _ hv1 hz2=>sd Z (D8 Z Z hv1 Z)<|sd Z (E9 Z hv1 Z)<|sv Z<|sv Z<|bs hz2 fun _ hv2 hz2=>sd Z (D8 Z Z hv2 Z)<|sd Z (E9 Z hv2 Z)<|sv Z<|A1<|cc Z hz2 (fun c3 hz2=> ?_)<|fun c3 hz2=> ?_
 refine B8<|sv Z<|A1<|B9 ?_
 cases hz2
 obtain rfl:=ez2 _ rfl
 refine ⟨nofun,F8 ?_⟩
 rw [bN]at h
 cases h
 exact B4 (.inr Z) (C5 (C0 Z) D4) (.refl _)
 refine B3<|E0<|B5<|sv Z<|sv Z<|A1<|D6 ?_
 cases hz2
 exact ⟨Z,(),(E3 Z Z)⟩
 refine C3 Z ?_
 cases hz2
 obtain rfl:=ez2 _ rfl
 refine ⟨nofun,C2 Z<|T4 ?_⟩
 exact ⟨_,(),Z,(E3 Z Z)⟩
 rintro _ ⟨y1,g1,rfl,q1⟩
 rw [bM]at h
 refine A7 q1<|B8<|sv Z<|A1<|B9 ?_
 cases h
 exact B4 (.inr Z) (C5 (C0 Z) D4) (.refl _)
def Is [Lp](p1:Lane)(p2:Lane):Option Bool:=
  ((cond (((p1.Kind==p2.Kind)&& (p1.Half==p2.Half))&& (p1.Limit==p2.Limit)) (Uc p1.Curve_ p2.Curve_) (some default))).bind fun v1=>((cond ((((p1.Kind==p2.Kind)&& (p1.Half==p2.Half))&& (p1.Limit==p2.Limit))&&v1) (Bp p1.Next p2.Next) (some default))).bind fun v2=>some (((((p1.Kind==p2.Kind)&& (p1.Half==p2.Half))&& (p1.Limit==p2.Limit))&&v1)&&v2)
theorem Zs(p1 p2 r)(h:Is p1 p2=some r):PCall prog 96 [(.agg (J7 p1)),(.agg (J7 p2))] (bo r):=by
 refine D7 (fk func96 ntmps96 m0 (by with_unfolding_all rfl)) (nl Z) ?_
 unfold Is at h
 refine A7 (s0:=⟨T [(0,(.d _)),(1,(.d _))],G []⟩) (E3 Z Z) ?_
 refine B8<|sm Z<|sn Z Z<|sv Z<|A1<|B8<|sq Z<|sl Z (gq Z) Z (sq Z<|sl Z G_hit Z<|sv Z<|sv Z<|gp Z (L5 Z) (fun _=>Z) (gt Z (vl Z (gq Z) Z)<|gp Z (L5 Z) (fun _=>Z) (gt Z (vl Z G_hit Z)<|gt Z (fun w5=>(An (A8 w5) (A8 w5) Z))<|sa Z Z Z<|sv Z<|gp Z (L5 Z) (fun _=>Z) (gt Z (vl Z (gq Z) Z)<|gp Z (L5 Z) (fun _=>Z) (gt Z (vl Z G_hit Z)<|gt Z (fun w10=>(An (A8 w10) (A8 w10) Z))<|sa Z Z Z<|sv Z<|gp Z (L5 Z) (fun _=>Z) (gt Z (fun w12=>(C6 (A8 w12) (gq Z) Z Z))<|gp Z (L5 Z) (fun _=>Z) (gt Z (fun w14=>(C6 (A8 w14) G_hit Z Z))<|bs h fun v1 hv1 h=> ?_)))))))
 refine N0 _ (bo v1) (L5 Z) (fun w15=>⟨_,[(.d (.agg [(.list (List.map K4 p1.Curve_.Pts))])),(.d (.agg [(.list (List.map K4 p2.Curve_.Pts))]))],_,_,(by simp only [A8 w15];rfl),Z,A6,GV _ _ _<|H4 w15 hv1,(.inl Z)⟩) ?_
 refine sa Z Z Z<|sv Z<|gp Z (L5 Z) (fun _=>Z) (gt Z (vl Z (gq Z) Z)<|gp Z (L5 Z) (fun _=>Z) (gt Z (vl Z G_hit Z)<|bs h fun v2 hv2 h=> ?_))
 refine N0 _ (bo v2) (L5 Z) (fun w20=>⟨_,[(dl A4 p1.Next),(dl A4 p2.Next)],_,_,(by simp only [A8 w20];rfl),Z,A6,Kx _ _ _<|H4 w20 hv2,(.inl Z)⟩) ?_
 refine sa Z Z Z<|sv Z<|A1<|B9 ?_
 cases h
 exact B4 (.inr Z) (C5 (C0 Z) D4) (.refl _)
def I7 [Lp](p1:(List Lane))(p2:(List Lane))(x1:Int):Option (Stp Int (Sum Unit Bool)):=
  cond (decide (x1< (p1.length:Int))) ((F0 p1 x1).bind fun v1=>(F0 p2 x1).bind fun v2=>(Is v1 v2).bind fun v3=>cond (!v3) (some (.out (.inr false))) (some (.go (K2 (x1+1))))) (some (.out (.inl ())))
def L7 [Lp](p1:(List Lane))(p2:(List Lane)):Option Bool:=
  cond ((p1.length:Int) !=(p2.length:Int)) (some false) (thenS (loop (I7 p1 p2) 0) (fun _=>some true) (fun r=>some r))
theorem Cl(p1 p2 r)(h:L7 p1 p2=some r):PCall prog 129 [(.list (List.map J7 p1)),(.list (List.map J7 p2)),(.fn (.func 96) [] [])] (bo r):=by
 refine D7 (fk func129 ntmps129 m0 (by with_unfolding_all rfl)) (nl Z) ?_
 unfold L7 at h
 refine A7 (s0:=⟨T [(0,(.d _)),(1,(.d _)),(2,(.d _))],G []⟩) (E3 Z Z) ?_
 refine B8<|sv Z<|A1<|A3<|B8<|sv Z<|sd Z (C8 Z)<|sv Z<|sd Z (C8 Z)<|sv Z<|A1<|cc Z h (fun c1 h=> ?_)<|fun c1 h=> ?_
 refine B8<|sv Z<|A1<|B9 ?_
 cases h
 exact B4 (.inr Z) (C5 (C0 Z) D4) (.refl _)
 refine B3<|A3<|B8<|sv Z<|sd Z (C8 Z)<|sv Z<|A1<|js h fun z1 hz1 h=>D0 (fun s=> ∃(y1:Unit) (g1:Unit),z1= .inl y1∧Sb ⟨T [],G []⟩ s) ?_ ?_
 refine A5<|D2 (I7 p1 p2) (fun (x1:Int) (g2:Unit)=>⟨T [(1,(dl J7 p2)),(2,(.d (.fn (.func 96) [] []))),(15,(dl J7 p1)),(16,(di (p1.length:Int))),(17,(di x1))],G []⟩) 0 () _ hz1 (E3 Z Z) ?_
 intro x1 g2 z2 hz2 ez2
 unfold I7 at hz2
 refine B8<|sv Z<|A1<|A3<|cc Z hz2 (fun c2 hz2=> ?_)<|fun c2 hz2=> ?_
 refine B3<|A3<|A5<|B8<|sv Z<|bs hz2 fun v1 hv1 hz2=>sd Z (D8 Z Z hv1 Z)<|sd Z (D9 Z hv1 Z Z)<|sm Z<|sv Z<|V6 Z G_hit (T6 v1) Z (A1<|B8<|sv Z<|sv Z<|bs hz2 fun v2 hv2 hz2=>sd Z (D8 Z Z hv2 Z)<|sd Z (D9 Z hv2 Z Z)<|sm Z<|V6 Z G_hit (T6 v2) Z (A1<|B8<|sv Z<|sd Z (C6 Z (gq Z) Z Z)<|sd Z (C6 Z G_hit Z Z)<|bs hz2 fun v3 hv3 hz2=>D1 Z Z A6 (Zs _ _ _ hv3) (.inl Z) (B6 (.d (bo (!v3))) Z Z (A1<|cc Z hz2 (fun c3 hz2=> ?_)<|fun c3 hz2=> ?_))))
 refine A3<|A7 (s0:=⟨T [],G []⟩) (E3 Z Z) ?_
 refine B5<|sv Z<|A1<|B9 ?_
 cases hz2
 obtain rfl:=ez2 _ rfl
 refine ⟨nofun,F8 ?_⟩
 rw [bN]at h
 cases h
 exact B4 (.inr Z) (C5 (C0 Z) D4) (.refl _)
 refine B3<|E0<|A7 (s0:=⟨T [(1,(.d _)),(2,(.d _)),(15,(.d _)),(16,(.d _)),(17,(.d _))],G []⟩) (E3 Z Z) ?_
 refine B5<|sv Z<|sv Z<|A1<|D6 ?_
 cases hz2
 exact ⟨Z,(),(E3 Z Z)⟩
 refine C3 Z ?_
 cases hz2
 obtain rfl:=ez2 _ rfl
 refine ⟨nofun,C2 Z<|T4 ?_⟩
 exact ⟨_,(),Z,(E3 Z Z)⟩
 rintro _ ⟨y1,g1,rfl,q1⟩
 rw [bM]at h
 refine A7 q1<|B8<|sv Z<|A1<|B9 ?_
 cases h
 exact B4 (.inr Z) (C5 (C0 Z) D4) (.refl _)
def W4 (p1:(List Part))(p2:(List Part))(x1:Int):Option (Stp Int (Sum Unit Bool)):=
  cond (decide (x1< (p1.length:Int))) ((F0 p1 x1).bind fun v1=>(F0 p2 x1).bind fun v2=>cond (!(v1.Lane_==v2.Lane_&& (v1.From==v2.From&& (v1.To==v2.To&& (v1.Rank==v2.Rank&&true))))) (some (.out (.inr false))) (some (.go (K2 (x1+1))))) (some (.out (.inl ())))
def Cx [Lp](p1:(List Part))(p2:(List Part)):Option Bool:=
  cond ((p1.length:Int) !=(p2.length:Int)) (some false) (thenS (loop (W4 p1 p2) 0) (fun _=>some true) (fun r=>some r))
theorem Rj(p1 p2 r)(h:Cx p1 p2=some r):PCall prog 200 [(.list (List.map G8 p1)),(.list (List.map G8 p2))] (bo r):=by
 refine D7 (fk func200 ntmps200 m0 (by with_unfolding_all rfl)) (nl Z) ?_
 unfold Cx at h
 refine A7 (s0:=⟨T [(0,(.d _)),(1,(.d _))],G []⟩) (E3 Z Z) ?_
 refine B8<|sv Z<|A1<|A3<|B8<|sv Z<|sd Z (C8 Z)<|sv Z<|sd Z (C8 Z)<|sv Z<|A1<|cc Z h (fun c1 h=> ?_)<|fun c1 h=> ?_
 refine B8<|sv Z<|A1<|B9 ?_
 cases h
 exact B4 (.inr Z) (C5 (C0 Z) D4) (.refl _)
 refine B3<|A3<|B8<|sv Z<|sd Z (C8 Z)<|sv Z<|A1<|js h fun z1 hz1 h=>D0 (fun s=> ∃(y1:Unit) (g1:Unit),z1= .inl y1∧Sb ⟨T [],G []⟩ s) ?_ ?_
 refine A5<|D2 (W4 p1 p2) (fun (x1:Int) (g2:Unit)=>⟨T [(0,(dl G8 p1)),(1,(dl G8 p2)),(12,(di (p1.length:Int))),(13,(di x1))],G []⟩) 0 () _ hz1 (E3 Z Z) ?_
 intro x1 g2 z2 hz2 ez2
 unfold W4 at hz2
 refine B8<|sv Z<|A1<|A3<|cc Z hz2 (fun c2 hz2=> ?_)<|fun c2 hz2=> ?_
 refine B3<|A3<|A5<|B8<|sv Z<|sv Z<|A1<|A3<|M8 Z<|sv Z<|sv Z<|bs hz2 fun v1 hv1 hz2=>sd Z (D8 Z Z hv1 Z)<|sd Z (D9 Z hv1 Z Z)<|sv Z<|sv Z<|bs hz2 fun v2 hv2 hz2=>sd Z (D8 Z Z hv2 Z)<|sd Z (D9 Z hv2 Z Z)<|B6 (.d (bo (!(v1.Lane_==v2.Lane_&& (v1.From==v2.From&& (v1.To==v2.To&& (v1.Rank==v2.Rank&&true))))))) Z Z (A1<|cc Z hz2 (fun c3 hz2=> ?_)<|fun c3 hz2=> ?_)
 refine B8<|sv Z<|A1<|B9 ?_
 cases hz2
 obtain rfl:=ez2 _ rfl
 refine ⟨nofun,F8 ?_⟩
 rw [bN]at h
 cases h
 exact B4 (.inr Z) (C5 (C0 Z) D4) (.refl _)
 refine B3<|E0<|B5<|sv Z<|sv Z<|A1<|D6 ?_
 cases hz2
 exact ⟨Z,(),(E3 Z Z)⟩
 refine C3 Z ?_
 cases hz2
 obtain rfl:=ez2 _ rfl
 refine ⟨nofun,C2 Z<|T4 ?_⟩
 exact ⟨_,(),Z,(E3 Z Z)⟩
 rintro _ ⟨y1,g1,rfl,q1⟩
 rw [bM]at h
 refine A7 q1<|B8<|sv Z<|A1<|B9 ?_
 cases h
 exact B4 (.inr Z) (C5 (C0 Z) D4) (.refl _)
def Iu [Lp](p1:Zone)(p2:Zone):Option Bool:=
  ((cond (p1.Signal_==p2.Signal_) (Cx p1.Parts p2.Parts) (some default))).bind fun v1=>some ((p1.Signal_==p2.Signal_)&&v1)
theorem Zt(p1 p2 r)(h:Iu p1 p2=some r):PCall prog 99 [(.agg [(.list (List.map G8 p1.Parts)),(i64 p1.Signal_)]),(.agg [(.list (List.map G8 p2.Parts)),(i64 p2.Signal_)])] (bo r):=by
 refine D7 (fk func99 ntmps99 m0 (by with_unfolding_all rfl)) (nl Z) ?_
 unfold Iu at h
 refine A7 (s0:=⟨T [(0,(.d _)),(1,(.d _))],G []⟩) (E3 Z Z) ?_
 refine B8<|sm Z<|sn Z Z<|sv Z<|A1<|B8<|sq Z<|sl Z (gq Z) Z (sq Z<|sl Z G_hit Z<|sv Z<|sv Z<|gp Z (L5 Z) (fun _=>Z) (gt Z (vl Z (gq Z) Z)<|gp Z (L5 Z) (fun _=>Z) (gt Z (vl Z G_hit Z)<|bs h fun v1 hv1 h=> ?_)))
 refine N0 _ (bo v1) (L5 Z) (fun w5=>⟨_,[(dl G8 p1.Parts),(dl G8 p2.Parts)],_,_,(by simp only [A8 w5];rfl),Z,A6,Rj _ _ _<|H4 w5 hv1,(.inl Z)⟩) ?_
 refine sa Z Z Z<|sv Z<|A1<|B9 ?_
 cases h
 exact B4 (.inr Z) (C5 (C0 Z) D4) (.refl _)
def I8 [Lp](p1:(List Zone))(p2:(List Zone))(x1:Int):Option (Stp Int (Sum Unit Bool)):=
  cond (decide (x1< (p1.length:Int))) ((F0 p1 x1).bind fun v1=>(F0 p2 x1).bind fun v2=>(Iu v1 v2).bind fun v3=>cond (!v3) (some (.out (.inr false))) (some (.go (K2 (x1+1))))) (some (.out (.inl ())))
def L8 [Lp](p1:(List Zone))(p2:(List Zone)):Option Bool:=
  cond ((p1.length:Int) !=(p2.length:Int)) (some false) (thenS (loop (I8 p1 p2) 0) (fun _=>some true) (fun r=>some r))
theorem Cm(p1 p2 r)(h:L8 p1 p2=some r):PCall prog 130 [(.list (List.map J2 p1)),(.list (List.map J2 p2)),(.fn (.func 99) [] [])] (bo r):=by
 refine D7 (fk func130 ntmps130 m0 (by with_unfolding_all rfl)) (nl Z) ?_
 unfold L8 at h
 refine A7 (s0:=⟨T [(0,(.d _)),(1,(.d _)),(2,(.d _))],G []⟩) (E3 Z Z) ?_
 refine B8<|sv Z<|A1<|A3<|B8<|sv Z<|sd Z (C8 Z)<|sv Z<|sd Z (C8 Z)<|sv Z<|A1<|cc Z h (fun c1 h=> ?_)<|fun c1 h=> ?_
 refine B8<|sv Z<|A1<|B9 ?_
 cases h
 exact B4 (.inr Z) (C5 (C0 Z) D4) (.refl _)
 refine B3<|A3<|B8<|sv Z<|sd Z (C8 Z)<|sv Z<|A1<|js h fun z1 hz1 h=>D0 (fun s=> ∃(y1:Unit) (g1:Unit),z1= .inl y1∧Sb ⟨T [],G []⟩ s) ?_ ?_
 refine A5<|D2 (I8 p1 p2) (fun (x1:Int) (g2:Unit)=>⟨T [(1,(dl J2 p2)),(2,(.d (.fn (.func 99) [] []))),(15,(dl J2 p1)),(16,(di (p1.length:Int))),(17,(di x1))],G []⟩) 0 () _ hz1 (E3 Z Z) ?_
 intro x1 g2 z2 hz2 ez2
 unfold I8 at hz2
 refine B8<|sv Z<|A1<|A3<|cc Z hz2 (fun c2 hz2=> ?_)<|fun c2 hz2=> ?_
 refine B3<|A3<|A5<|B8<|sv Z<|bs hz2 fun v1 hv1 hz2=>sd Z (D8 Z Z hv1 Z)<|sd Z (D9 Z hv1 Z Z)<|sm Z<|sv Z<|V6 Z G_hit [(dl G8 v1.Parts),(di v1.Signal_)] Z (A1<|B8<|sv Z<|sv Z<|bs hz2 fun v2 hv2 hz2=>sd Z (D8 Z Z hv2 Z)<|sd Z (D9 Z hv2 Z Z)<|sm Z<|V6 Z G_hit [(dl G8 v2.Parts),(di v2.Signal_)] Z (A1<|B8<|sv Z<|sd Z (C6 Z (gq Z) Z Z)<|sd Z (C6 Z G_hit Z Z)<|bs hz2 fun v3 hv3 hz2=>D1 Z Z A6 (Zt _ _ _ hv3) (.inl Z) (B6 (.d (bo (!v3))) Z Z (A1<|cc Z hz2 (fun c3 hz2=> ?_)<|fun c3 hz2=> ?_))))
 refine A3<|A7 (s0:=⟨T [],G []⟩) (E3 Z Z) ?_
 refine B5<|sv Z<|A1<|B9 ?_
 cases hz2
 obtain rfl:=ez2 _ rfl
 refine ⟨nofun,F8 ?_⟩
 rw [bN]at h
 cases h
 exact B4 (.inr Z) (C5 (C0 Z) D4) (.refl _)
 refine B3<|E0<|A7 (s0:=⟨T [(1,(.d _)),(2,(.d _)),(15,(.d _)),(16,(.d _)),(17,(.d _))],G []⟩) (E3 Z Z) ?_
 refine B5<|sv Z<|sv Z<|A1<|D6 ?_
 cases hz2
 exact ⟨Z,(),(E3 Z Z)⟩
 refine C3 Z ?_
 cases hz2
 obtain rfl:=ez2 _ rfl
 refine ⟨nofun,C2 Z<|T4 ?_⟩
 exact ⟨_,(),Z,(E3 Z Z)⟩
 rintro _ ⟨y1,g1,rfl,q1⟩
 rw [bM]at h
 refine A7 q1<|B8<|sv Z<|A1<|B9 ?_
 cases h
 exact B4 (.inr Z) (C5 (C0 Z) D4) (.refl _)
def Dv [Lp](p1:Phase)(p2:Phase):Option Bool:=
  ((cond (p1.Ticks==p2.Ticks) (Bp p1.Green p2.Green) (some default))).bind fun v1=>some ((p1.Ticks==p2.Ticks)&&v1)
theorem Uy(p1 p2 r)(h:Dv p1 p2=some r):PCall prog 202 [(.agg [(i64 p1.Ticks),(.list (List.map A4 p1.Green))]),(.agg [(i64 p2.Ticks),(.list (List.map A4 p2.Green))])] (bo r):=by
 refine D7 (fk func202 ntmps202 m0 (by with_unfolding_all rfl)) (nl Z) ?_
 unfold Dv at h
 refine A7 (s0:=⟨T [(0,(.d _)),(1,(.d _))],G []⟩) (E3 Z Z) ?_
 refine B8<|sm Z<|sn Z Z<|sv Z<|A1<|B8<|sq Z<|sl Z (gq Z) Z (sq Z<|sl Z G_hit Z<|sv Z<|sv Z<|gp Z (L5 Z) (fun _=>Z) (gt Z (vl Z (gq Z) Z)<|gp Z (L5 Z) (fun _=>Z) (gt Z (vl Z G_hit Z)<|bs h fun v1 hv1 h=> ?_)))
 refine N0 _ (bo v1) (L5 Z) (fun w5=>⟨_,[(dl A4 p1.Green),(dl A4 p2.Green)],_,_,(by simp only [A8 w5];rfl),Z,A6,Kx _ _ _<|H4 w5 hv1,(.inl Z)⟩) ?_
 refine sa Z Z Z<|sv Z<|A1<|B9 ?_
 cases h
 exact B4 (.inr Z) (C5 (C0 Z) D4) (.refl _)
def G5 [Lp](p1:(List Phase))(p2:(List Phase))(x1:Int):Option (Stp Int (Sum Unit Bool)):=
  cond (decide (x1< (p1.length:Int))) ((F0 p1 x1).bind fun v1=>(F0 p2 x1).bind fun v2=>(Dv v1 v2).bind fun v3=>cond (!v3) (some (.out (.inr false))) (some (.go (K2 (x1+1))))) (some (.out (.inl ())))
def K0 [Lp](p1:(List Phase))(p2:(List Phase)):Option Bool:=
  cond ((p1.length:Int) !=(p2.length:Int)) (some false) (thenS (loop (G5 p1 p2) 0) (fun _=>some true) (fun r=>some r))
theorem Z9(p1 p2 r)(h:K0 p1 p2=some r):PCall prog 201 [(.list (List.map G2 p1)),(.list (List.map G2 p2)),(.fn (.func 202) [] [])] (bo r):=by
 refine D7 (fk func201 ntmps201 m0 (by with_unfolding_all rfl)) (nl Z) ?_
 unfold K0 at h
 refine A7 (s0:=⟨T [(0,(.d _)),(1,(.d _)),(2,(.d _))],G []⟩) (E3 Z Z) ?_
 refine B8<|sv Z<|A1<|A3<|B8<|sv Z<|sd Z (C8 Z)<|sv Z<|sd Z (C8 Z)<|sv Z<|A1<|cc Z h (fun c1 h=> ?_)<|fun c1 h=> ?_
 refine B8<|sv Z<|A1<|B9 ?_
 cases h
 exact B4 (.inr Z) (C5 (C0 Z) D4) (.refl _)
 refine B3<|A3<|B8<|sv Z<|sd Z (C8 Z)<|sv Z<|A1<|js h fun z1 hz1 h=>D0 (fun s=> ∃(y1:Unit) (g1:Unit),z1= .inl y1∧Sb ⟨T [],G []⟩ s) ?_ ?_
 refine A5<|D2 (G5 p1 p2) (fun (x1:Int) (g2:Unit)=>⟨T [(1,(dl G2 p2)),(2,(.d (.fn (.func 202) [] []))),(15,(dl G2 p1)),(16,(di (p1.length:Int))),(17,(di x1))],G []⟩) 0 () _ hz1 (E3 Z Z) ?_
 intro x1 g2 z2 hz2 ez2
 unfold G5 at hz2
 refine B8<|sv Z<|A1<|A3<|cc Z hz2 (fun c2 hz2=> ?_)<|fun c2 hz2=> ?_
 refine B3<|A3<|A5<|B8<|sv Z<|bs hz2 fun v1 hv1 hz2=>sd Z (D8 Z Z hv1 Z)<|sd Z (D9 Z hv1 Z Z)<|sm Z<|sv Z<|V6 Z G_hit [(di v1.Ticks),(dl A4 v1.Green)] Z (A1<|B8<|sv Z<|sv Z<|bs hz2 fun v2 hv2 hz2=>sd Z (D8 Z Z hv2 Z)<|sd Z (D9 Z hv2 Z Z)<|sm Z<|V6 Z G_hit [(di v2.Ticks),(dl A4 v2.Green)] Z (A1<|B8<|sv Z<|sd Z (C6 Z (gq Z) Z Z)<|sd Z (C6 Z G_hit Z Z)<|bs hz2 fun v3 hv3 hz2=>D1 Z Z A6 (Uy _ _ _ hv3) (.inl Z) (B6 (.d (bo (!v3))) Z Z (A1<|cc Z hz2 (fun c3 hz2=> ?_)<|fun c3 hz2=> ?_))))
 refine A3<|A7 (s0:=⟨T [],G []⟩) (E3 Z Z) ?_
 refine B5<|sv Z<|A1<|B9 ?_
 cases hz2
 obtain rfl:=ez2 _ rfl
 refine ⟨nofun,F8 ?_⟩
 rw [bN]at h
 cases h
 exact B4 (.inr Z) (C5 (C0 Z) D4) (.refl _)
 refine B3<|E0<|A7 (s0:=⟨T [(1,(.d _)),(2,(.d _)),(15,(.d _)),(16,(.d _)),(17,(.d _))],G []⟩) (E3 Z Z) ?_
 refine B5<|sv Z<|sv Z<|A1<|D6 ?_
 cases hz2
 exact ⟨Z,(),(E3 Z Z)⟩
 refine C3 Z ?_
 cases hz2
 obtain rfl:=ez2 _ rfl
 refine ⟨nofun,C2 Z<|T4 ?_⟩
 exact ⟨_,(),Z,(E3 Z Z)⟩
 rintro _ ⟨y1,g1,rfl,q1⟩
 rw [bM]at h
 refine A7 q1<|B8<|sv Z<|A1<|B9 ?_
 cases h
 exact B4 (.inr Z) (C5 (C0 Z) D4) (.refl _)
def Gb [Lp](p1:Signal)(p2:Signal):Option Bool:=
  ((cond (p1.Offset==p2.Offset) (K0 p1.Phases p2.Phases) (some default))).bind fun v1=>some ((p1.Offset==p2.Offset)&&v1)
theorem Xc(p1 p2 r)(h:Gb p1 p2=some r):PCall prog 102 [(.agg [(i64 p1.Offset),(.list (List.map G2 p1.Phases))]),(.agg [(i64 p2.Offset),(.list (List.map G2 p2.Phases))])] (bo r):=by
 refine D7 (fk func102 ntmps102 m0 (by with_unfolding_all rfl)) (nl Z) ?_
 unfold Gb at h
 refine A7 (s0:=⟨T [(0,(.d _)),(1,(.d _))],G []⟩) (E3 Z Z) ?_
 refine B8<|sm Z<|sn Z Z<|sv Z<|A1<|B8<|sq Z<|sl Z (gq Z) Z (sq Z<|sl Z G_hit Z<|sv Z<|sv Z<|gp Z (L5 Z) (fun _=>Z) (gt Z (vl Z (gq Z) Z)<|gp Z (L5 Z) (fun _=>Z) (gt Z (vl Z G_hit Z)<|bs h fun v1 hv1 h=> ?_)))
 refine N0 _ (bo v1) (L5 Z) (fun w5=>⟨_,[(dl G2 p1.Phases),(dl G2 p2.Phases),(.d (.fn (.func 202) [] []))],_,_,(by simp only [A8 w5];rfl),Z,A6,Z9 _ _ _<|H4 w5 hv1,(.inl Z)⟩) ?_
 refine sa Z Z Z<|sv Z<|A1<|B9 ?_
 cases h
 exact B4 (.inr Z) (C5 (C0 Z) D4) (.refl _)
def G1 [Lp](p1:(List Signal))(p2:(List Signal))(x1:Int):Option (Stp Int (Sum Unit Bool)):=
  cond (decide (x1< (p1.length:Int))) ((F0 p1 x1).bind fun v1=>(F0 p2 x1).bind fun v2=>(Gb v1 v2).bind fun v3=>cond (!v3) (some (.out (.inr false))) (some (.go (K2 (x1+1))))) (some (.out (.inl ())))
def J5 [Lp](p1:(List Signal))(p2:(List Signal)):Option Bool:=
  cond ((p1.length:Int) !=(p2.length:Int)) (some false) (thenS (loop (G1 p1 p2) 0) (fun _=>some true) (fun r=>some r))
theorem Y7(p1 p2 r)(h:J5 p1 p2=some r):PCall prog 131 [(.list (List.map J9 p1)),(.list (List.map J9 p2)),(.fn (.func 102) [] [])] (bo r):=by
 refine D7 (fk func131 ntmps131 m0 (by with_unfolding_all rfl)) (nl Z) ?_
 unfold J5 at h
 refine A7 (s0:=⟨T [(0,(.d _)),(1,(.d _)),(2,(.d _))],G []⟩) (E3 Z Z) ?_
 refine B8<|sv Z<|A1<|A3<|B8<|sv Z<|sd Z (C8 Z)<|sv Z<|sd Z (C8 Z)<|sv Z<|A1<|cc Z h (fun c1 h=> ?_)<|fun c1 h=> ?_
 refine B8<|sv Z<|A1<|B9 ?_
 cases h
 exact B4 (.inr Z) (C5 (C0 Z) D4) (.refl _)
 refine B3<|A3<|B8<|sv Z<|sd Z (C8 Z)<|sv Z<|A1<|js h fun z1 hz1 h=>D0 (fun s=> ∃(y1:Unit) (g1:Unit),z1= .inl y1∧Sb ⟨T [],G []⟩ s) ?_ ?_
 refine A5<|D2 (G1 p1 p2) (fun (x1:Int) (g2:Unit)=>⟨T [(1,(dl J9 p2)),(2,(.d (.fn (.func 102) [] []))),(15,(dl J9 p1)),(16,(di (p1.length:Int))),(17,(di x1))],G []⟩) 0 () _ hz1 (E3 Z Z) ?_
 intro x1 g2 z2 hz2 ez2
 unfold G1 at hz2
 refine B8<|sv Z<|A1<|A3<|cc Z hz2 (fun c2 hz2=> ?_)<|fun c2 hz2=> ?_
 refine B3<|A3<|A5<|B8<|sv Z<|bs hz2 fun v1 hv1 hz2=>sd Z (D8 Z Z hv1 Z)<|sd Z (D9 Z hv1 Z Z)<|sm Z<|sv Z<|V6 Z G_hit [(di v1.Offset),(dl G2 v1.Phases)] Z (A1<|B8<|sv Z<|sv Z<|bs hz2 fun v2 hv2 hz2=>sd Z (D8 Z Z hv2 Z)<|sd Z (D9 Z hv2 Z Z)<|sm Z<|V6 Z G_hit [(di v2.Offset),(dl G2 v2.Phases)] Z (A1<|B8<|sv Z<|sd Z (C6 Z (gq Z) Z Z)<|sd Z (C6 Z G_hit Z Z)<|bs hz2 fun v3 hv3 hz2=>D1 Z Z A6 (Xc _ _ _ hv3) (.inl Z) (B6 (.d (bo (!v3))) Z Z (A1<|cc Z hz2 (fun c3 hz2=> ?_)<|fun c3 hz2=> ?_))))
 refine A3<|A7 (s0:=⟨T [],G []⟩) (E3 Z Z) ?_
 refine B5<|sv Z<|A1<|B9 ?_
 cases hz2
 obtain rfl:=ez2 _ rfl
 refine ⟨nofun,F8 ?_⟩
 rw [bN]at h
 cases h
 exact B4 (.inr Z) (C5 (C0 Z) D4) (.refl _)
 refine B3<|E0<|A7 (s0:=⟨T [(1,(.d _)),(2,(.d _)),(15,(.d _)),(16,(.d _)),(17,(.d _))],G []⟩) (E3 Z Z) ?_
 refine B5<|sv Z<|sv Z<|A1<|D6 ?_
 cases hz2
 exact ⟨Z,(),(E3 Z Z)⟩
 refine C3 Z ?_
 cases hz2
 obtain rfl:=ez2 _ rfl
 refine ⟨nofun,C2 Z<|T4 ?_⟩
 exact ⟨_,(),Z,(E3 Z Z)⟩
 rintro _ ⟨y1,g1,rfl,q1⟩
 rw [bM]at h
 refine A7 q1<|B8<|sv Z<|A1<|B9 ?_
 cases h
 exact B4 (.inr Z) (C5 (C0 Z) D4) (.refl _)
def W5 (p1:(List Work))(p2:(List Work))(x1:Int):Option (Stp Int (Sum Unit Bool)):=
  cond (decide (x1< (p1.length:Int))) ((F0 p1 x1).bind fun v1=>(F0 p2 x1).bind fun v2=>cond (!(v1.Lane_==v2.Lane_&& (v1.From==v2.From&& (v1.To==v2.To&& (v1.Begin==v2.Begin&& (v1.End==v2.End&& (v1.Limit==v2.Limit&&true))))))) (some (.out (.inr false))) (some (.go (K2 (x1+1))))) (some (.out (.inl ())))
def Cy [Lp](p1:(List Work))(p2:(List Work)):Option Bool:=
  cond ((p1.length:Int) !=(p2.length:Int)) (some false) (thenS (loop (W5 p1 p2) 0) (fun _=>some true) (fun r=>some r))
theorem Rk(p1 p2 r)(h:Cy p1 p2=some r):PCall prog 132 [(.list (List.map R1 p1)),(.list (List.map R1 p2))] (bo r):=by
 refine D7 (fk func132 ntmps132 m0 (by with_unfolding_all rfl)) (nl Z) ?_
 unfold Cy at h
 refine A7 (s0:=⟨T [(0,(.d _)),(1,(.d _))],G []⟩) (E3 Z Z) ?_
 refine B8<|sv Z<|A1<|A3<|B8<|sv Z<|sd Z (C8 Z)<|sv Z<|sd Z (C8 Z)<|sv Z<|A1<|cc Z h (fun c1 h=> ?_)<|fun c1 h=> ?_
 refine B8<|sv Z<|A1<|B9 ?_
 cases h
 exact B4 (.inr Z) (C5 (C0 Z) D4) (.refl _)
 refine B3<|A3<|B8<|sv Z<|sd Z (C8 Z)<|sv Z<|A1<|js h fun z1 hz1 h=>D0 (fun s=> ∃(y1:Unit) (g1:Unit),z1= .inl y1∧Sb ⟨T [],G []⟩ s) ?_ ?_
 refine A5<|D2 (W5 p1 p2) (fun (x1:Int) (g2:Unit)=>⟨T [(0,(dl R1 p1)),(1,(dl R1 p2)),(12,(di (p1.length:Int))),(13,(di x1))],G []⟩) 0 () _ hz1 (E3 Z Z) ?_
 intro x1 g2 z2 hz2 ez2
 unfold W5 at hz2
 refine B8<|sv Z<|A1<|A3<|cc Z hz2 (fun c2 hz2=> ?_)<|fun c2 hz2=> ?_
 refine B3<|A3<|A5<|B8<|sv Z<|sv Z<|A1<|A3<|M8 Z<|sv Z<|sv Z<|bs hz2 fun v1 hv1 hz2=>sd Z (D8 Z Z hv1 Z)<|sd Z (D9 Z hv1 Z Z)<|sv Z<|sv Z<|bs hz2 fun v2 hv2 hz2=>sd Z (D8 Z Z hv2 Z)<|sd Z (D9 Z hv2 Z Z)<|B6 (.d (bo (!(v1.Lane_==v2.Lane_&& (v1.From==v2.From&& (v1.To==v2.To&& (v1.Begin==v2.Begin&& (v1.End==v2.End&& (v1.Limit==v2.Limit&&true))))))))) Z Z (A1<|cc Z hz2 (fun c3 hz2=> ?_)<|fun c3 hz2=> ?_)
 refine B8<|sv Z<|A1<|B9 ?_
 cases hz2
 obtain rfl:=ez2 _ rfl
 refine ⟨nofun,F8 ?_⟩
 rw [bN]at h
 cases h
 exact B4 (.inr Z) (C5 (C0 Z) D4) (.refl _)
 refine B3<|E0<|B5<|sv Z<|sv Z<|A1<|D6 ?_
 cases hz2
 exact ⟨Z,(),(E3 Z Z)⟩
 refine C3 Z ?_
 cases hz2
 obtain rfl:=ez2 _ rfl
 refine ⟨nofun,C2 Z<|T4 ?_⟩
 exact ⟨_,(),Z,(E3 Z Z)⟩
 rintro _ ⟨y1,g1,rfl,q1⟩
 rw [bM]at h
 refine A7 q1<|B8<|sv Z<|A1<|B9 ?_
 cases h
 exact B4 (.inr Z) (C5 (C0 Z) D4) (.refl _)
def Mp [Lp](p1:Map)(p2:Map):Option Bool:=
  ((cond (p1.Version==p2.Version) (L7 p1.Lanes p2.Lanes) (some default))).bind fun v1=>((cond ((p1.Version==p2.Version)&&v1) (L8 p1.Zones p2.Zones) (some default))).bind fun v2=>((cond (((p1.Version==p2.Version)&&v1)&&v2) (J5 p1.Signals p2.Signals) (some default))).bind fun v3=>((cond ((((p1.Version==p2.Version)&&v1)&&v2)&&v3) (Cy p1.Works p2.Works) (some default))).bind fun v4=>some (((((p1.Version==p2.Version)&&v1)&&v2)&&v3)&&v4)
theorem Xn(p1 p2 r)(h:Mp p1 p2=some r):PCall prog 32 [(.agg (N8 p1)),(.agg (N8 p2))] (bo r):=by
 refine D7 (fk func32 ntmps32 m0 (by with_unfolding_all rfl)) (nl Z) ?_
 unfold Mp at h
 refine A7 (s0:=⟨T [(0,(.d _)),(1,(.d _))],G []⟩) (E3 Z Z) ?_
 refine B8<|sm Z<|sn Z Z<|sv Z<|A1<|B8<|sq Z<|sl Z (gq Z) Z (sq Z<|sl Z G_hit Z<|sv Z<|sv Z<|gp Z (L5 Z) (fun _=>Z) (gt Z (vl Z (gq Z) Z)<|gp Z (L5 Z) (fun _=>Z) (gt Z (vl Z G_hit Z)<|bs h fun v1 hv1 h=> ?_)))
 refine N0 _ (bo v1) (L5 Z) (fun w5=>⟨_,[(dl J7 p1.Lanes),(dl J7 p2.Lanes),(.d (.fn (.func 96) [] []))],_,_,(by simp only [A8 w5];rfl),Z,A6,Cl _ _ _<|H4 w5 hv1,(.inl Z)⟩) ?_
 refine sa Z Z Z<|sv Z<|gp Z (L5 Z) (fun _=>Z) (gt Z (vl Z (gq Z) Z)<|gp Z (L5 Z) (fun _=>Z) (gt Z (vl Z G_hit Z)<|bs h fun v2 hv2 h=> ?_))
 refine N0 _ (bo v2) (L5 Z) (fun w10=>⟨_,[(dl J2 p1.Zones),(dl J2 p2.Zones),(.d (.fn (.func 99) [] []))],_,_,(by simp only [A8 w10];rfl),Z,A6,Cm _ _ _<|H4 w10 hv2,(.inl Z)⟩) ?_
 refine sa Z Z Z<|sv Z<|gp Z (L5 Z) (fun _=>Z) (gt Z (vl Z (gq Z) Z)<|gp Z (L5 Z) (fun _=>Z) (gt Z (vl Z G_hit Z)<|bs h fun v3 hv3 h=> ?_))
 refine N0 _ (bo v3) (L5 Z) (fun w15=>⟨_,[(dl J9 p1.Signals),(dl J9 p2.Signals),(.d (.fn (.func 102) [] []))],_,_,(by simp only [A8 w15];rfl),Z,A6,Y7 _ _ _<|H4 w15 hv3,(.inl Z)⟩) ?_
 refine sa Z Z Z<|sv Z<|gp Z (L5 Z) (fun _=>Z) (gt Z (vl Z (gq Z) Z)<|gp Z (L5 Z) (fun _=>Z) (gt Z (vl Z G_hit Z)<|bs h fun v4 hv4 h=> ?_))
 refine N0 _ (bo v4) (L5 Z) (fun w20=>⟨_,[(dl R1 p1.Works),(dl R1 p2.Works)],_,_,(by simp only [A8 w20];rfl),Z,A6,Rk _ _ _<|H4 w20 hv4,(.inl Z)⟩) ?_
 refine sa Z Z Z<|sv Z<|A1<|B9 ?_
 cases h
 exact B4 (.inr Z) (C5 (C0 Z) D4) (.refl _)
def Ud (p1:Curve):Option Curve:=
  (Q4 ([]:List Spot) p1.Pts).bind fun v1=>some (Curve.mk v1)
theorem GW(p1 r)(h:Ud p1=some r):PCall prog 167 [(.agg [(.list (List.map K4 p1.Pts))])] (.agg [(.list (List.map K4 r.Pts))]):=by
 refine D7 (fk func167 ntmps167 m0 (by with_unfolding_all rfl)) (nl Z) ?_
 unfold Ud at h
 refine A7 (s0:=⟨T [(0,(.d _))],G []⟩) (E3 Z Z) ?_
 refine B8<|sm Z<|sn Z Z<|A1<|lr<|fun u2 _=>Zg (.sl _) (.arr 148 2 (List.map K4 ([]:List Spot))) Z Z (sq Z<|sl Z (gq Z) Z (bs h fun _ hv1 h=>Mz K4 _ _ _ _ (E1<|fun _=>Z) Z G_hit hv1 (B6 (.agg _) Z Z (V6 Z (gq Z) [(.sl (6,u2))] Z (A1<|B9 ?_)))))
 cases h
 exact B4 (.inr Z) (C5 (L0 Z G_hit (nl Z) Z)<|WR<|L9 (ER<|gq Z) N1) (.refl _)
def Mq (p1:(List Int)):Option (List Int):=
  (Q4 ([]:List Int) p1).bind fun v1=>some v1
theorem Xo(p1 r)(h:Mq p1=some r):PCall prog 168 [(.list (List.map A4 p1))] (.list (List.map A4 r)):=by
 refine D7 (fk func168 ntmps168 m0 (by with_unfolding_all rfl)) (nl Z) ?_
 unfold Mq at h
 refine A7 (s0:=⟨T [(0,(.d _))],G []⟩) (E3 Z Z) ?_
 refine B8<|sv Z<|A1<|lr<|fun u2 hu2=>sv Z<|bs h fun v1 hv1 h=>IF A4 (4,u2) ([]:List Int) p1 _ (E1<|fun _=>Z) Z (Gm hu2) hv1 (Gm hu2) (B6 (oS v1 (4,u2)) Z Z (A1<|B9 ?_))
 cases h
 exact B4 (.inr Z) (C5 (C0 Z)<|U9 G_hit) U8
def Jw (p1:Lane):Option Lane:=
  (Ud p1.Curve_).bind fun v1=>(Mq p1.Next).bind fun v2=>some (Lane.mk p1.Kind v1 p1.Half p1.Limit v2)
theorem BH(p1 r)(h:Jw p1=some r):PCall prog 62 [(.agg (J7 p1))] (.agg (J7 r)):=by
 refine D7 (fk func62 ntmps62 m0 (by with_unfolding_all rfl)) (nl Z) ?_
 unfold Jw at h
 refine A7 (s0:=⟨T [(0,(.d _))],G []⟩) (E3 Z Z) ?_
 refine B8<|sm Z<|sn Z Z<|A1<|B8<|sq Z<|sd Z (C6 Z (gq Z) Z Z)<|bs h fun v1 hv1 h=>D1 Z Z A6 (GW _ _ hv1) (.inl Z) (sq Z<|V6 Z (gq Z) ((T6 p1).set 1 (dl K4 v1.Pts)) Z (A1<|B8<|sq Z<|sl Z G_hit Z<|bs h fun v2 hv2 h=>D1 Z Z A6 (Xo _ _ hv2) (.inl Z) (sq Z<|V6 Z G_hit (((T6 p1).set 1 (dl K4 v1.Pts)).set 4 (dl A4 v2)) Z (A1<|B8<|sd Z (C6 Z G_hit Z Z)<|V6 Z (gq Z) (((T6 p1).set 1 (dl K4 v1.Pts)).set 4 (dl A4 v2)) Z (A1<|B9 ?_)))))
 cases h
 exact B4 (.inr Z) (C5 (L0 Z G_hit (nl Z) Z) D4) (.refl _)
def Jx (p1:Zone):Option Zone:=
  (Q4 ([]:List Part) p1.Parts).bind fun v1=>some (Zone.mk v1 p1.Signal_)
theorem BI(p1 r)(h:Jx p1=some r):PCall prog 63 [(.agg [(.list (List.map G8 p1.Parts)),(i64 p1.Signal_)])] (.agg [(.list (List.map G8 r.Parts)),(i64 r.Signal_)]):=by
 refine D7 (fk func63 ntmps63 m0 (by with_unfolding_all rfl)) (nl Z) ?_
 unfold Jx at h
 refine A7 (s0:=⟨T [(0,(.d _))],G []⟩) (E3 Z Z) ?_
 refine B8<|sm Z<|sn Z Z<|A1<|lr<|fun u2 hu2=>sq Z<|sl Z (gq Z) Z (bs h fun v1 hv1 h=>IF G8 (5,u2) ([]:List Part) p1.Parts _ (E1<|fun _=>Z) Z (Gm hu2) hv1 (Gm hu2) (sq Z<|U7 _ _ _ _ _ (Ps _ _) Z Z (gq Z) (nl Z) [(oS v1 (5,u2)),(di p1.Signal_)] Z (A1<|B8<|B6 (Df [(oS v1 (5,u2)),(di p1.Signal_)]) Z (C6 Z G_hit Z Z) (U7 _ _ _ _ _ (Cs _) Z Z (gq Z) (nl Z) [(oS v1 (5,u2)),(di p1.Signal_)] Z (A1<|B9 ?_)))))
 cases h
 exact B4 (.inr Z) (C5 (L0 Z G_hit (nl Z) Z)<|Lh<|L9 (U9<|gq Z)<|rD N1) (.agg (.cons ⟨U8,Z⟩ (cz Z)))
def Dw (p1:Signal)(x1:((List Phase)×Int)):Option (Stp ((List Phase)×Int) (List Phase)):=
  cond (decide (x1.2< (p1.Phases.length:Int))) ((F0 p1.Phases x1.2).bind fun v1=>(F0 p1.Phases x1.2).bind fun v2=>(Mq v2.Green).bind fun v3=>(Q4 x1.1 [(Phase.mk v1.Ticks v3)]).bind fun v4=>some (.go (v4,(K2 (x1.2+1))))) (some (.out x1.1))
def Hi [Lp](p1:Signal):Option Signal:=
  (loop (Dw p1) ([],0)).bind fun y1=>some (Signal.mk p1.Offset y1)
theorem Yh(p1 r)(h:Hi p1=some r):PCall prog 64 [(.agg [(i64 p1.Offset),(.list (List.map G2 p1.Phases))])] (.agg [(i64 r.Offset),(.list (List.map G2 r.Phases))]):=by
 refine D7 (fk func64 ntmps64 (fun r=>if r==5 then [1015]else []) (by with_unfolding_all rfl)) (nl Z) ?_
 unfold Hi at h
 refine A7 (s0:=⟨T [(0,(.d _))],G []⟩) (E3 Z Z) ?_
 refine lr<|fun u1 _=>sm Z<|sm Z<|A1<|B8<|sv Z<|A1<|A3<|B8<|sv Z<|A1<|bs h fun y1 hy1 h=>D0 (fun s=> ∃g1:Nat,Sb ⟨T [(1,(.ptr (1,u1) 0)),(2,(.ptr (2,u1) 0)),(3,(oS y1 (28,g1)))],G [((1,u1),some<|.box 48 [(di p1.Offset),(dl G2 p1.Phases)]),((2,u1),some<|.box 48 [(di 0),(.d .nilS)]),((28,g1),oB 97 2 G2 y1)]⟩ s) ?_ ?_
 refine A5<|D2 (Dw p1) (fun (x1:((List Phase)×Int)) (g2:Nat)=>⟨T [(1,(.ptr (1,u1) 0)),(2,(.ptr (2,u1) 0)),(3,(oS x1.1 (28,g2))),(4,(di x1.2))],G [((1,u1),some<|.box 48 [(di p1.Offset),(dl G2 p1.Phases)]),((2,u1),some<|.box 48 [(di 0),(.d .nilS)]),((28,g2),oB 97 2 G2 x1.1)]⟩) ([],0) 0 _ hy1 (B7 (K8 Z)<|sg Z<|A2 G_hit (.of Z)<|O6 trivial) ?_
 intro x1 g2 z1 hz1 ez1
 unfold Dw at hz1
 refine A3<|B8<|sv Z<|sq Z<|sl Z G_hit Z<|sd Z (C8 Z)<|sv Z<|A1<|cc Z hz1 (fun c1 hz1=> ?_)<|fun c1 hz1=> ?_
 refine B3<|A3<|A5<|Si Z fun u5 _=>B6 (oS x1.1 (28,g2)) Z Z (sq Z<|sl Z G_hit Z<|sv Z<|bs hz1 fun v1 hv1 hz1=>sd Z (D8 Z Z hv1 Z)<|sv Z<|sd Z (E9 Z hv1 Z)<|sq Z<|sl Z G_hit Z<|sv Z<|bs hz1 fun _ hv2 hz1=>sd Z (D8 Z Z hv2 Z)<|sv Z<|sd Z (E9 Z hv2 Z)<|bs hz1 fun v3 hv3 hz1=>D1 Z Z A6 (Xo _ _ hv3) (.inl Z) (sv Z<|B6 (dl G2 [(Phase.mk v1.Ticks v3)]) Z Z (bs hz1 fun _ hv4 hz1=>G7 G2 (28,g2) x1.1 (Phase.mk v1.Ticks v3) [] _ (E1<|fun _=>Z) Z (gq Z) hv4 (ss Z<|A1<|E0<|A7 (s0:=⟨T [(1,(.ptr _ _)),(2,(.ptr _ _)),(3,(.sl _)),(4,(.d _))],G [((1,u1),some<|.box 48 _),((2,u1),some<|.box 48 _),((28,u5),some _)]⟩) (E3 Z Z) ?_))))
 refine B5<|sv Z<|sv Z<|sv Z<|A1<|D6 ?_
 cases hz1
 exact ⟨Z,u5,(B7 ⟨.of Z, .of Z,(.of (T1<|K5 hv4).symm), .of Z,trivial⟩<|A2 G_hit (.of Z)<|sg Z<|K9 (gq Z) trivial)⟩
 refine C3 Z ?_
 cases hz1
 obtain rfl:=ez1 _ rfl
 refine ⟨nofun,C2 Z<|T4 ?_⟩
 exact ⟨g2,(B7 (K8 Z)<|A2 G_hit (.of Z)<|sg Z<|B0 (gq Z) trivial)⟩
 rintro _ ⟨g1,q1⟩
 refine A7 q1<|B8<|B6 (oS y1 (28,g1)) Z Z (sq Z<|U7 _ _ _ _ _ (Ps _ _) Z Z G_hit (nl Z) [(di p1.Offset),(oS y1 (28,g1))] Z (A1<|B8<|B6 (Df [(di p1.Offset),(oS y1 (28,g1))]) Z (C6 Z G_hit Z Z) (U7 _ _ _ _ _ (Cs _) Z Z (gq Z) (nl Z) [(di p1.Offset),(oS y1 (28,g1))] Z (A1<|B9 ?_))))
 cases h
 exact B4 (.inr Z) (C5 (L0 Z G_hit (nl Z) Z)<|Lh<|rD<|L9 (U9<|gq Z) N1) (.agg (ca Z<|.cons ⟨U8,Z⟩ .nil))
def Jy [Lp](p1:Map)(x3:(Int×Map)):Option (Stp (Int×Map) Map):=
  cond (decide (x3.1< (p1.Signals.length:Int))) ((F0 p1.Signals x3.1).bind fun v8=>(Hi v8).bind fun v9=>(Q4 x3.2.Signals [v9]).bind fun v10=>some (.go ((K2 (x3.1+1)),(Map.mk x3.2.Version x3.2.Lanes x3.2.Zones v10 x3.2.Works)))) (some (.out x3.2))
def Jz (p1:Map)(x2:(Int×Map)):Option (Stp (Int×Map) Map):=
  cond (decide (x2.1< (p1.Zones.length:Int))) ((F0 p1.Zones x2.1).bind fun v5=>(Jx v5).bind fun v6=>(Q4 x2.2.Zones [v6]).bind fun v7=>some (.go ((K2 (x2.1+1)),(Map.mk x2.2.Version x2.2.Lanes v7 [] x2.2.Works)))) (some (.out (Map.mk x2.2.Version x2.2.Lanes x2.2.Zones [] x2.2.Works)))
def Ka (p1:Map)(x1:(Int×Map)):Option (Stp (Int×Map) Map):=
  cond (decide (x1.1< (p1.Lanes.length:Int))) ((F0 p1.Lanes x1.1).bind fun v2=>(Jw v2).bind fun v3=>(Q4 x1.2.Lanes [v3]).bind fun v4=>some (.go ((K2 (x1.1+1)),(Map.mk x1.2.Version v4 [] [] x1.2.Works)))) (some (.out (Map.mk x1.2.Version x1.2.Lanes [] [] x1.2.Works)))
def Qw [Lp](p1:Map):Option Map:=
  (Q4 ([]:List Work) p1.Works).bind fun v1=>(loop (Ka p1) (0,(Map.mk p1.Version [] [] [] v1))).bind fun y1=>(loop (Jz p1) (0,(Map.mk y1.Version y1.Lanes [] [] y1.Works))).bind fun y2=>(loop (Jy p1) (0,(Map.mk y2.Version y2.Lanes y2.Zones [] y2.Works))).bind fun y3=>some y3
theorem GX(p1 r)(h:Qw p1=some r):PCall prog 15 [(.agg (N8 p1))] (.agg (N8 r)):=by
 refine D7 (fk func15 ntmps15 (fun r=>if r==5 then [1008]else if r==9 then [1008]else if r==13 then [1008]else []) (by with_unfolding_all rfl)) (nl Z) ?_
 unfold Qw at h
 refine A7 (s0:=⟨T [(0,(.d _))],G []⟩) (E3 Z Z) ?_
 refine lr<|fun u1 _=>sm Z<|sm Z<|A1<|A3<|Zh fun u2 hu2=>X8 (.ptr _ _) Z Z (X8 (.d _) Z (U6 Z (gq Z) Z) (X8 (.ptr _ _) Z Z (X8 (.d _) Z (U6 Z (gq Z) Z) (bs h fun v1 hv1 h=>IH R1 p1.Works _ (E1<|fun _=>Z) Z hv1 (Gm hu2) ?_))))
 refine X8 (Df [(di p1.Version),(.d .nilS),(.d .nilS),(.d .nilS),(oS v1 (11,u2))]) Z (by generalize v1=x1;cases x1<;>rfl) ?_
 refine iS (.ptr _ _) (.box _ _) Z Z (Zi _ _ _ _ _ (Cs _) Z Z G_hit (nl Z) [(di p1.Version),(.d .nilS),(.d .nilS),(.d .nilS),(oS v1 (11,u2))] Z (MA<|MN (fun q=>⟨⟨by first|rfl|((generalize v1=l0;cases l0)<;>rfl),q⟩,⟨by first|rfl|((generalize v1=l0;cases l0)<;>rfl),q⟩⟩) ?_))
 refine A3<|B8<|sv Z<|A1<|bs h fun y1 hy1 h=>D0 (fun s=> ∃g1:(Nat×Nat),Sb ⟨T [(1,(.ptr (1,u1) 0)),(2,(.ptr (2,u1) 0)),(3,(.ptr (3,u2) 0))],G [((1,u1),some<|.box 27 (F2 p1)),((2,u1),some<|.box 27 [(di 0),(.d .nilS),(.d .nilS),(.d .nilS),(.d .nilS)]),((3,u2),some<|.box 27 [(di y1.Version),(oS y1.Lanes (29,g1.1)),(.d .nilS),(.d .nilS),(oS y1.Works (11,g1.2))]),((29,g1.1),oB 42 5 J7 y1.Lanes),((11,g1.2),oB 50 6 R1 y1.Works)]⟩ s) ?_ ?_
 refine A5<|D2 (Ka p1) (fun (x1:(Int×Map)) (g2:(Nat×Nat))=>⟨T [(1,(.ptr (1,u1) 0)),(2,(.ptr (2,u1) 0)),(3,(.ptr (3,u2) 0)),(4,(di x1.1))],G [((1,u1),some<|.box 27 (F2 p1)),((2,u1),some<|.box 27 [(di 0),(.d .nilS),(.d .nilS),(.d .nilS),(.d .nilS)]),((3,u2),some<|.box 27 [(di x1.2.Version),(oS x1.2.Lanes (29,g2.1)),(.d .nilS),(.d .nilS),(oS x1.2.Works (11,g2.2))]),((29,g2.1),oB 42 5 J7 x1.2.Lanes),((11,g2.2),oB 50 6 R1 x1.2.Works)]⟩) (0,(Map.mk p1.Version [] [] [] v1)) (0,u2) _ hy1 (B7 (K8 Z)<|sg Z<|sg Z<|A2 G_hit (.of Z)<|O6<|B0 (gq Z) trivial) ?_
 intro x1 g2 z1 hz1 ez1
 unfold Ka at hz1
 refine A3<|B8<|sv Z<|sq Z<|sl Z G_hit Z<|sd Z (C8 Z)<|sv Z<|A1<|cc Z hz1 (fun c1 hz1=> ?_)<|fun c1 hz1=> ?_
 refine B3<|A3<|A5<|Si Z fun u5 _=>sq Z<|B6 (oS x1.2.Lanes (29,g2.1)) Z (U6 Z (gq Z) Z) (sq Z<|sl Z G_hit Z<|sv Z<|bs hz1 fun _ hv2 hz1=>sd Z (D8 Z Z hv2 Z)<|sd Z (D9 Z hv2 Z Z)<|bs hz1 fun v3 hv3 hz1=>D1 Z Z A6 (BH _ _ hv3) (.inl Z) (B6 (dl J7 [v3]) Z Z (bs hz1 fun v4 hv4 hz1=>G7 J7 (29,g2.1) x1.2.Lanes v3 [] _ (E1<|fun _=>Z) Z (gq Z) hv4 (sq Z<|V6 Z (gq Z) [(di x1.2.Version),(.sl (29,u5)),(.d .nilS),(.d .nilS),(oS x1.2.Works (11,g2.2))] Z (A1<|E0<|A7 (s0:=⟨T [(1,(.ptr (1,u1) 0)),(2,(.ptr (2,u1) 0)),(3,(.ptr (3,u2) 0)),(4,(di x1.1))],G [((1,u1),some<|.box 27 (F2 p1)),((2,u1),some<|.box 27 [(di 0),(.d .nilS),(.d .nilS),(.d .nilS),(.d .nilS)]),((3,u2),some<|.box 27 [(di x1.2.Version),(.sl (29,u5)),(.d .nilS),(.d .nilS),(oS x1.2.Works (11,g2.2))]),((29,u5),some<|.arr 42 5 (List.map J7 v4)),((11,g2.2),oB 50 6 R1 x1.2.Works)]⟩) (B7 (K8 Z)<|sg Z<|sg Z<|A2 G_hit (.of Z)<|sg Z<|B0 (gq Z) trivial) ?_)))))
 refine B5<|sv Z<|sv Z<|sv Z<|A1<|D6 ?_
 cases hz1
 exact ⟨Z,(u5,g2.2),(B7 (K8 Z)<|A2 G_hit (.of Z)<|sg Z<|A2 (gq Z) (.box (cv<|.cons (.of (T1<|K5 hv4).symm) cw)) (K9 (gq Z)<|B0 (gq Z) trivial))⟩
 refine C3 Z ?_
 cases hz1
 obtain rfl:=ez1 _ rfl
 refine ⟨nofun,C2 Z<|T4 ?_⟩
 exact ⟨(g2.1,g2.2),(B7 (K8 Z)<|A2 G_hit (.of Z)<|sg Z<|sg Z<|B0 (gq Z)<|B0 (gq Z) trivial)⟩
 rintro _ ⟨g1,q1⟩
 refine A7 q1<|A3<|B8<|sv Z<|A1<|bs h fun y2 hy2 h=>D0 (fun s=> ∃g3:(Nat×Nat×Nat),Sb ⟨T [(1,(.ptr (1,u1) 0)),(2,(.ptr (2,u1) 0)),(3,(.ptr (3,u2) 0))],G [((1,u1),some<|.box 27 (F2 p1)),((2,u1),some<|.box 27 [(di 0),(.d .nilS),(.d .nilS),(.d .nilS),(.d .nilS)]),((3,u2),some<|.box 27 [(di y2.Version),(oS y2.Lanes (29,g3.1)),(oS y2.Zones (47,g3.2.1)),(.d .nilS),(oS y2.Works (11,g3.2.2))]),((29,g3.1),oB 42 5 J7 y2.Lanes),((47,g3.2.1),oB 45 2 J2 y2.Zones),((11,g3.2.2),oB 50 6 R1 y2.Works)]⟩ s) ?_ ?_
 refine A5<|D2 (Jz p1) (fun (x2:(Int×Map)) (g4:(Nat×Nat×Nat))=>⟨T [(1,(.ptr (1,u1) 0)),(2,(.ptr (2,u1) 0)),(3,(.ptr (3,u2) 0)),(5,(di x2.1))],G [((1,u1),some<|.box 27 (F2 p1)),((2,u1),some<|.box 27 [(di 0),(.d .nilS),(.d .nilS),(.d .nilS),(.d .nilS)]),((3,u2),some<|.box 27 [(di x2.2.Version),(oS x2.2.Lanes (29,g4.1)),(oS x2.2.Zones (47,g4.2.1)),(.d .nilS),(oS x2.2.Works (11,g4.2.2))]),((29,g4.1),oB 42 5 J7 x2.2.Lanes),((47,g4.2.1),oB 45 2 J2 x2.2.Zones),((11,g4.2.2),oB 50 6 R1 x2.2.Works)]⟩) (0,(Map.mk y1.Version y1.Lanes [] [] y1.Works)) (g1.1,0,g1.2) _ hy2 (B7 (K8 Z)<|A2 G_hit (.of Z)<|sg Z<|sg Z<|B0 (gq Z)<|O6<|B0 (gq Z) trivial) ?_
 intro x2 g4 z2 hz2 ez2
 unfold Jz at hz2
 refine A3<|B8<|sv Z<|sq Z<|sl Z G_hit Z<|sd Z (C8 Z)<|sv Z<|A1<|cc Z hz2 (fun c2 hz2=> ?_)<|fun c2 hz2=> ?_
 refine B3<|A3<|A5<|Si Z fun u9 _=>sq Z<|B6 (oS x2.2.Zones (47,g4.2.1)) Z (U6 Z (gq Z) Z) (sq Z<|sl Z G_hit Z<|sv Z<|bs hz2 fun _ hv5 hz2=>sd Z (D8 Z Z hv5 Z)<|sd Z (D9 Z hv5 Z Z)<|bs hz2 fun v6 hv6 hz2=>D1 Z Z A6 (BI _ _ hv6) (.inl Z) (B6 (dl J2 [v6]) Z Z (bs hz2 fun v7 hv7 hz2=>G7 J2 (47,g4.2.1) x2.2.Zones v6 [] _ (E1<|fun _=>Z) Z (gq Z) hv7 (sq Z<|V6 Z (gq Z) [(di x2.2.Version),(oS x2.2.Lanes (29,g4.1)),(.sl (47,u9)),(.d .nilS),(oS x2.2.Works (11,g4.2.2))] Z (A1<|E0<|A7 (s0:=⟨T [(1,(.ptr (1,u1) 0)),(2,(.ptr (2,u1) 0)),(3,(.ptr (3,u2) 0)),(5,(di x2.1))],G [((1,u1),some<|.box 27 (F2 p1)),((2,u1),some<|.box 27 [(di 0),(.d .nilS),(.d .nilS),(.d .nilS),(.d .nilS)]),((3,u2),some<|.box 27 [(di x2.2.Version),(oS x2.2.Lanes (29,g4.1)),(.sl (47,u9)),(.d .nilS),(oS x2.2.Works (11,g4.2.2))]),((29,g4.1),oB 42 5 J7 x2.2.Lanes),((47,u9),some<|.arr 45 2 (List.map J2 v7)),((11,g4.2.2),oB 50 6 R1 x2.2.Works)]⟩) (B7 (K8 Z)<|sg Z<|sg Z<|A2 G_hit (.of Z)<|B0 (gq Z)<|sg Z<|B0 (gq Z) trivial) ?_)))))
 refine B5<|sv Z<|sv Z<|sv Z<|A1<|D6 ?_
 cases hz2
 exact ⟨Z,(g4.1,u9,g4.2.2),(B7 (K8 Z)<|A2 G_hit (.of Z)<|sg Z<|A2 (gq Z) (.box (cv<|cv<|.cons (.of (T1<|K5 hv7).symm) cw)) (B0 (gq Z)<|K9 (gq Z)<|B0 (gq Z) trivial))⟩
 refine C3 Z ?_
 cases hz2
 obtain rfl:=ez2 _ rfl
 refine ⟨nofun,C2 Z<|T4 ?_⟩
 exact ⟨(g4.1,g4.2.1,g4.2.2),(B7 (K8 Z)<|A2 G_hit (.of Z)<|sg Z<|sg Z<|B0 (gq Z)<|B0 (gq Z)<|B0 (gq Z) trivial)⟩
 rintro _ ⟨g3,q2⟩
 refine A7 q2<|A3<|B8<|sv Z<|A1<|bs h fun y3 hy3 h=>D0 (fun s=> ∃g5:(Nat×Nat×Nat×Nat),Sb ⟨T [(2,(.ptr (2,u1) 0)),(3,(.ptr (3,u2) 0))],G [((2,u1),some<|.box 27 [(di 0),(.d .nilS),(.d .nilS),(.d .nilS),(.d .nilS)]),((3,u2),some<|.box 27 [(di y3.Version),(oS y3.Lanes (29,g5.1)),(oS y3.Zones (47,g5.2.1)),(oS y3.Signals (65,g5.2.2.1)),(oS y3.Works (11,g5.2.2.2))]),((29,g5.1),oB 42 5 J7 y3.Lanes),((47,g5.2.1),oB 45 2 J2 y3.Zones),((65,g5.2.2.1),oB 48 2 J9 y3.Signals),((11,g5.2.2.2),oB 50 6 R1 y3.Works)]⟩ s) ?_ ?_
 refine A5<|D2 (Jy p1) (fun (x3:(Int×Map)) (g6:(Nat×Nat×Nat×Nat))=>⟨T [(1,(.ptr (1,u1) 0)),(2,(.ptr (2,u1) 0)),(3,(.ptr (3,u2) 0)),(6,(di x3.1))],G [((1,u1),some<|.box 27 (F2 p1)),((2,u1),some<|.box 27 [(di 0),(.d .nilS),(.d .nilS),(.d .nilS),(.d .nilS)]),((3,u2),some<|.box 27 [(di x3.2.Version),(oS x3.2.Lanes (29,g6.1)),(oS x3.2.Zones (47,g6.2.1)),(oS x3.2.Signals (65,g6.2.2.1)),(oS x3.2.Works (11,g6.2.2.2))]),((29,g6.1),oB 42 5 J7 x3.2.Lanes),((47,g6.2.1),oB 45 2 J2 x3.2.Zones),((65,g6.2.2.1),oB 48 2 J9 x3.2.Signals),((11,g6.2.2.2),oB 50 6 R1 x3.2.Works)]⟩) (0,(Map.mk y2.Version y2.Lanes y2.Zones [] y2.Works)) (g3.1,g3.2.1,0,g3.2.2) _ hy3 (B7 (K8 Z)<|A2 G_hit (.of Z)<|sg Z<|sg Z<|B0 (gq Z)<|B0 (gq Z)<|O6<|B0 (gq Z) trivial) ?_
 intro x3 g6 z3 hz3 ez3
 unfold Jy at hz3
 refine A3<|B8<|sv Z<|sq Z<|sl Z G_hit Z<|sd Z (C8 Z)<|sv Z<|A1<|cc Z hz3 (fun c3 hz3=> ?_)<|fun c3 hz3=> ?_
 refine B3<|A3<|A5<|Si Z fun u13 _=>sq Z<|B6 (oS x3.2.Signals (65,g6.2.2.1)) Z (U6 Z (gq Z) Z) (sq Z<|sl Z G_hit Z<|sv Z<|bs hz3 fun _ hv8 hz3=>sd Z (D8 Z Z hv8 Z)<|sd Z (D9 Z hv8 Z Z)<|bs hz3 fun v9 hv9 hz3=>D1 Z Z A6 (Yh _ _ hv9) (.inl Z) (B6 (dl J9 [v9]) Z Z (bs hz3 fun v10 hv10 hz3=>G7 J9 (65,g6.2.2.1) x3.2.Signals v9 [] _ (E1<|fun _=>Z) Z (gq Z) hv10 (sq Z<|V6 Z (gq Z) [(di x3.2.Version),(oS x3.2.Lanes (29,g6.1)),(oS x3.2.Zones (47,g6.2.1)),(.sl (65,u13)),(oS x3.2.Works (11,g6.2.2.2))] Z (A1<|E0<|A7 (s0:=⟨T [(1,(.ptr (1,u1) 0)),(2,(.ptr (2,u1) 0)),(3,(.ptr (3,u2) 0)),(6,(di x3.1))],G [((1,u1),some<|.box 27 (F2 p1)),((2,u1),some<|.box 27 [(di 0),(.d .nilS),(.d .nilS),(.d .nilS),(.d .nilS)]),((3,u2),some<|.box 27 [(di x3.2.Version),(oS x3.2.Lanes (29,g6.1)),(oS x3.2.Zones (47,g6.2.1)),(.sl (65,u13)),(oS x3.2.Works (11,g6.2.2.2))]),((29,g6.1),oB 42 5 J7 x3.2.Lanes),((47,g6.2.1),oB 45 2 J2 x3.2.Zones),((65,u13),some<|.arr 48 2 (List.map J9 v10)),((11,g6.2.2.2),oB 50 6 R1 x3.2.Works)]⟩) (B7 (K8 Z)<|sg Z<|sg Z<|A2 G_hit (.of Z)<|B0 (gq Z)<|B0 (gq Z)<|sg Z<|B0 (gq Z) trivial) ?_)))))
 refine B5<|sv Z<|sv Z<|sv Z<|A1<|D6 ?_
 cases hz3
 exact ⟨Z,(g6.1,g6.2.1,u13,g6.2.2.2),(B7 (K8 Z)<|A2 G_hit (.of Z)<|sg Z<|A2 (gq Z) (.box (cv<|cv<|cv<|.cons (.of (T1<|K5 hv10).symm) cw)) (B0 (gq Z)<|B0 (gq Z)<|K9 (gq Z)<|B0 (gq Z) trivial))⟩
 refine C3 Z ?_
 cases hz3
 obtain rfl:=ez3 _ rfl
 refine ⟨nofun,C2 Z<|T4 ?_⟩
 exact ⟨(g6.1,g6.2.1,g6.2.2.1,g6.2.2.2),(B7 (K8 Z)<|sg Z<|sg Z<|B0 (gq Z)<|B0 (gq Z)<|B0 (gq Z)<|B0 (gq Z) trivial)⟩
 rintro _ ⟨g5,q3⟩
 refine A7 q3<|B8<|B6 (Df [(di y3.Version),(oS y3.Lanes (29,g5.1)),(oS y3.Zones (47,g5.2.1)),(oS y3.Signals (65,g5.2.2.1)),(oS y3.Works (11,g5.2.2.2))]) Z (C6 Z (gq Z) Z Z) (U7 _ _ _ _ _ (Cs _) Z Z G_hit (nl Z) [(di y3.Version),(oS y3.Lanes (29,g5.1)),(oS y3.Zones (47,g5.2.1)),(oS y3.Signals (65,g5.2.2.1)),(oS y3.Works (11,g5.2.2.2))] Z (A1<|B9 ?_))
 cases h
 exact B4 (.inr Z) (C5 (L0 Z G_hit (nl Z) Z)<|Lh<|rD<|L9 (U9<|gq Z)<|L9 (U9<|gq Z)<|L9 (U9<|gq Z)<|L9 (U9<|gq Z) N1) (.agg (ca Z<|.cons ⟨U8,Z⟩ (.cons ⟨U8,Z⟩ (.cons ⟨U8,Z⟩ (.cons ⟨U8,Z⟩ .nil)))))
def Gv (p1:List Spot):Option (List Spot):=Q4 [] p1
theorem Ih (p1:List Spot)(a0:D)(hl:Q4 ([]:List Spot) p1=some p1)(hn: ∀h,H8 (T [(3, .d a0),(2, .d .nilS),(0, .d a0)]) h (.isnil false (.t 3))=some (.d (bo false)))(he: ∀h,X5 h 2 (.d a0)=some (List.map K4 p1)):
    PCall prog 269 [a0] (.list (List.map K4 p1)):=by
  refine D7 (fk func269 ntmps269 m0 (by with_unfolding_all rfl)) (Nat.le_of_ble_eq_true Z) ?_
  refine (A7 (s0:=⟨T [(0, .d a0)],G []⟩) (B7 ⟨.of Z,trivial⟩ trivial) ?_)
  refine A3 ?_
  refine M6 fun _ _=> ?_
  refine B6 (.d .nilS) Z Z ?_
  refine A1 ?_
  refine A3 ?_
  refine A3 ?_
  refine M6 fun _ _=> ?_
  refine B6 (.d a0) Z Z ?_
  refine B6 (.d (bo false)) Z (hn _) ?_
  refine A1 ?_
  refine Zf Z ?_
  refine B3 ?_
  refine A3 ?_
  refine M6 fun _ _=> ?_
  refine Zg (.sl _) (.arr 148 2 (List.map K4 ([]:List Spot))) Z Z ?_
  refine B6 (.d a0) Z Z ?_
  refine Mz K4 _ [] p1 _ (he _) Z G_hit hl ?_
  refine B6 (.sl _) Z Z ?_
  refine A1 ?_
  refine B9 ?_
  exact B4 (.inr Z) (C5 (C0 Z)<|ER G_hit) (.refl _)
theorem Rl(p1 r)(h:Gv p1=some r):PCall prog 269 [.list (List.map K4 p1)] (.list (List.map K4 r)):=by
  have hr:r=p1:=by obtain ⟨_,rfl⟩:=Db h;rfl
  subst hr
  cases r with
  |cons x xs=>exact Ih (x::xs) _ h (fun _=>rfl) fun _=>E1 (fun _=>rfl)
  |nil=>
   refine PCall.nil fun A cap=> ?_
   cases A with
   |some A=>exact Ih [] (.v (.slice (some A) 0 cap)) h (fun _=>rfl) fun _=>rfl
   |none=>
    refine D7 (fk func269 ntmps269 m0 (by with_unfolding_all rfl)) (Nat.le_of_ble_eq_true Z) ?_
    refine (A7 (s0:=⟨T [(0, .d (.v (.slice none 0 cap)))],G []⟩) (B7 ⟨.of Z,trivial⟩ trivial) ?_)
    refine A3 ?_
    refine M6 fun _ _=> ?_
    refine B6 (.d .nilS) Z Z ?_
    refine A1 ?_
    refine A3 ?_
    refine A3 ?_
    refine M6 fun _ _=> ?_
    refine B6 (.d _) Z Z ?_
    refine B6 (.d (bo true)) Z Z ?_
    refine A1 ?_
    refine DH Z ?_
    refine A3 ?_
    refine M6 fun _ _=> ?_
    refine B6 (.d .nilS) Z Z ?_
    refine A1 ?_
    refine B9 ?_
    exact B4 (.inr Z) (C5 (C0 Z) D4) .nil
def Mt (p1:(List Spot)):Option Curve:=
  (Gv p1).bind fun v1=>some (Curve.mk v1)
theorem BJ(p1 r)(h:Mt p1=some r):PCall prog 250 [(.list (List.map K4 p1))] (.agg [(.list (List.map K4 r.Pts))]):=by
 refine D7 (fk func250 ntmps250 m0 (by with_unfolding_all rfl)) (nl Z) ?_
 unfold Mt at h
 refine A7 (s0:=⟨T [(0,(.d _))],G []⟩) (E3 Z Z) ?_
 refine B8<|sm Z<|A1<|B8<|sv Z<|bs h fun v1 hv1 h=>D1 Z Z A6 (Rl _ _ hv1) (.inl Z) (sv Z<|V6 Z G_hit [(dl K4 v1)] Z (A1<|B9 ?_))
 cases h
 exact B4 (.inr Z) (C5 (L0 Z G_hit (nl Z) Z) D4) (.refl _)
def Ue (p1:Curve):Option Curve:=
  (Mt p1.Pts).bind fun v1=>some v1
theorem GY(p1 r)(h:Ue p1=some r):PCall prog 194 [(.agg [(.list (List.map K4 p1.Pts))])] (.agg [(.list (List.map K4 r.Pts))]):=by
 refine D7 (fk func194 ntmps194 m0 (by with_unfolding_all rfl)) (nl Z) ?_
 unfold Ue at h
 refine A7 (s0:=⟨T [(0,(.d _))],G []⟩) (E3 Z Z) ?_
 refine B8<|sm Z<|sn Z Z<|A1<|B8<|sq Z<|sl Z (gq Z) Z (bs h fun v1 hv1 h=>D1 Z Z A6 (BJ _ _ hv1) (.inl Z) (V6 Z G_hit [(dl K4 v1.Pts)] Z (A1<|B9 ?_)))
 cases h
 exact B4 (.inr Z) (C5 (L0 Z G_hit (nl Z) Z) D4) (.refl _)
def Bq (p1:List Int):Option (List Int):=Q4 [] p1
theorem Jl (p1:List Int)(a0:D)(hl:Q4 ([]:List Int) p1=some p1)(hn: ∀h,H8 (T [(3, .d a0),(2, .d .nilS),(0, .d a0)]) h (.isnil false (.t 3))=some (.d (bo false)))(he: ∀h,X5 h 1 (.d a0)=some (List.map A4 p1)):
    PCall prog 195 [a0] (.list (List.map A4 p1)):=by
  refine D7 (fk func195 ntmps195 m0 (by with_unfolding_all rfl)) (Nat.le_of_ble_eq_true Z) ?_
  refine (A7 (s0:=⟨T [(0, .d a0)],G []⟩) (B7 ⟨.of Z,trivial⟩ trivial) ?_)
  refine A3 ?_
  refine M6 fun _ _=> ?_
  refine B6 (.d .nilS) Z Z ?_
  refine A1 ?_
  refine A3 ?_
  refine A3 ?_
  refine M6 fun _ _=> ?_
  refine B6 (.d a0) Z Z ?_
  refine B6 (.d (bo false)) Z (hn _) ?_
  refine A1 ?_
  refine Zf Z ?_
  refine B3 ?_
  refine A3 ?_
  refine M6 fun _ _=> ?_
  refine Zg (.sl _) (.arr 3 1 (List.map A4 ([]:List Int))) Z Z ?_
  refine B6 (.d a0) Z Z ?_
  refine Mz A4 _ [] p1 _ (he _) Z G_hit hl ?_
  refine B6 (.sl _) Z Z ?_
  refine A1 ?_
  refine B9 ?_
  exact B4 (.inr Z) (C5 (C0 Z)<|ER G_hit) (.refl _)
theorem Ky(p1 r)(h:Bq p1=some r):PCall prog 195 [.list (List.map A4 p1)] (.list (List.map A4 r)):=by
  have hr:r=p1:=by obtain ⟨_,rfl⟩:=Db h;rfl
  subst hr
  cases r with
  |cons x xs=>exact Jl (x::xs) _ h (fun _=>rfl) fun _=>E1 (fun _=>rfl)
  |nil=>
   refine PCall.nil fun A cap=> ?_
   cases A with
   |some A=>exact Jl [] (.v (.slice (some A) 0 cap)) h (fun _=>rfl) fun _=>rfl
   |none=>
    refine D7 (fk func195 ntmps195 m0 (by with_unfolding_all rfl)) (Nat.le_of_ble_eq_true Z) ?_
    refine (A7 (s0:=⟨T [(0, .d (.v (.slice none 0 cap)))],G []⟩) (B7 ⟨.of Z,trivial⟩ trivial) ?_)
    refine A3 ?_
    refine M6 fun _ _=> ?_
    refine B6 (.d .nilS) Z Z ?_
    refine A1 ?_
    refine A3 ?_
    refine A3 ?_
    refine M6 fun _ _=> ?_
    refine B6 (.d _) Z Z ?_
    refine B6 (.d (bo true)) Z Z ?_
    refine A1 ?_
    refine DH Z ?_
    refine A3 ?_
    refine M6 fun _ _=> ?_
    refine B6 (.d .nilS) Z Z ?_
    refine A1 ?_
    refine B9 ?_
    exact B4 (.inr Z) (C5 (C0 Z) D4) .nil
def Hu (p1:Lane):Option Lane:=
  (Ue p1.Curve_).bind fun v1=>(Bq p1.Next).bind fun v2=>some (Lane.mk p1.Kind v1 p1.Half p1.Limit v2)
theorem BK(p1 r)(h:Hu p1=some r):PCall prog 87 [(.agg (J7 p1))] (.agg (J7 r)):=by
 refine D7 (fk func87 ntmps87 m0 (by with_unfolding_all rfl)) (nl Z) ?_
 unfold Hu at h
 refine A7 (s0:=⟨T [(0,(.d _))],G []⟩) (E3 Z Z) ?_
 refine B8<|sm Z<|sn Z Z<|A1<|A3<|M8 Z<|sq Z<|sd Z (C6 Z (gq Z) Z Z)<|bs h fun v1 hv1 h=>D1 Z Z A6 (GY _ _ hv1) (.inl Z) (sq Z<|sl Z (gq Z) Z (bs h fun v2 hv2 h=>D1 Z Z A6 (Ky _ _ hv2) (.inl Z) (sq Z<|V6 Z (gq Z) ((T6 p1).set 1 (dl K4 v1.Pts)) Z (sq Z<|V6 Z G_hit (((T6 p1).set 1 (dl K4 v1.Pts)).set 4 (dl A4 v2)) Z (A1<|B8<|sd Z (C6 Z G_hit Z Z)<|V6 Z (gq Z) (((T6 p1).set 1 (dl K4 v1.Pts)).set 4 (dl A4 v2)) Z (A1<|B9 ?_))))))
 cases h
 exact B4 (.inr Z) (C5 (L0 Z G_hit (nl Z) Z) D4) (.refl _)
def Aa (p1:(List Lane))(x1:((List Lane)×Int)):Option (Stp ((List Lane)×Int) (List Lane)):=
  cond (decide (x1.2< (p1.length:Int))) ((F0 p1 x1.2).bind fun v1=>(Hu v1).bind fun v2=>(Q4 x1.1 [v2]).bind fun v3=>some (.go (v3,(K2 (x1.2+1))))) (some (.out x1.1))
def Br [Lp](p1:(List Lane)):Option (List Lane):=
  (loop (Aa p1) ([],0)).bind fun y1=>some y1
theorem Lu(p1 r)(h:Br p1=some r):PCall prog 154 [(.list (List.map J7 p1)),(.fn (.func 87) [] [])] (.list (List.map J7 r)):=by
 refine D7 (fk func154 ntmps154 (fun r=>if r==5 then [1004]else []) (by with_unfolding_all rfl)) (nl Z) ?_
 unfold Br at h
 refine A7 (s0:=⟨T [(0,(.d _)),(1,(.d _))],G []⟩) (E3 Z Z) ?_
 refine B8<|sv Z<|A1<|B8<|sv Z<|A1<|A3<|B8<|sv Z<|sd Z (C8 Z)<|sv Z<|A1<|bs h fun y1 hy1 h=>D0 (fun s=> ∃g1:Nat,Sb ⟨T [(5,(oS y1 (19,g1)))],G [((19,g1),oB 42 5 J7 y1)]⟩ s) ?_ ?_
 refine A5<|D2 (Aa p1) (fun (x1:((List Lane)×Int)) (g2:Nat)=>⟨T [(1,(.d (.fn (.func 87) [] []))),(5,(oS x1.1 (19,g2))),(8,(dl J7 p1)),(9,(di (p1.length:Int))),(10,(di x1.2))],G [((19,g2),oB 42 5 J7 x1.1)]⟩) ([],0) 0 _ hy1 (B7 (K8 Z)<|O6 trivial) ?_
 intro x1 g2 z1 hz1 ez1
 unfold Aa at hz1
 refine B8<|sv Z<|A1<|A3<|cc Z hz1 (fun c1 hz1=> ?_)<|fun c1 hz1=> ?_
 refine B3<|A3<|A5<|B8<|bs hz1 fun v1 hv1 hz1=>sd Z (D8 Z Z hv1 Z)<|sd Z (D9 Z hv1 Z Z)<|sm Z<|V6 Z G_hit (T6 v1) Z (A1<|M6 fun u6 _=>B6 (oS x1.1 (19,g2)) Z Z (sv Z<|sd Z (C6 Z G_hit Z Z)<|bs hz1 fun v2 hv2 hz1=>D1 Z Z A6 (BK _ _ hv2) (.inl Z) (B6 (dl J7 [v2]) Z Z (bs hz1 fun _ hv3 hz1=>G7 J7 (19,g2) x1.1 v2 [] _ (E1<|fun _=>Z) Z (gq Z) hv3 (ss Z<|A1<|E0<|B5<|sv Z<|sv Z<|A1<|D6 ?_)))))
 cases hz1
 exact ⟨Z,u6,(B7 ⟨.of Z,(.of (T1<|K5 hv3).symm), .of Z, .of Z, .of Z,trivial⟩<|K9 G_hit trivial)⟩
 refine C3 Z ?_
 cases hz1
 obtain rfl:=ez1 _ rfl
 refine ⟨nofun,C2 Z<|T4 ?_⟩
 exact ⟨g2,(B7 ⟨.of Z,trivial⟩<|B0 G_hit trivial)⟩
 rintro _ ⟨g1,q1⟩
 refine A7 q1<|B8<|B6 (oS y1 (19,g1)) Z Z (B6 (oS y1 (19,g1)) Z Z (A1<|B9 ?_))
 cases h
 exact B4 (.inr Z) (C5 (C0 Z)<|U9 G_hit) U8
def Gw (p1:List Part):Option (List Part):=Q4 [] p1
theorem Ii (p1:List Part)(a0:D)(hl:Q4 ([]:List Part) p1=some p1)(hn: ∀h,H8 (T [(3, .d a0),(2, .d .nilS),(0, .d a0)]) h (.isnil false (.t 3))=some (.d (bo false)))(he: ∀h,X5 h 4 (.d a0)=some (List.map G8 p1)):
    PCall prog 196 [a0] (.list (List.map G8 p1)):=by
  refine D7 (fk func196 ntmps196 m0 (by with_unfolding_all rfl)) (Nat.le_of_ble_eq_true Z) ?_
  refine (A7 (s0:=⟨T [(0, .d a0)],G []⟩) (B7 ⟨.of Z,trivial⟩ trivial) ?_)
  refine A3 ?_
  refine M6 fun _ _=> ?_
  refine B6 (.d .nilS) Z Z ?_
  refine A1 ?_
  refine A3 ?_
  refine A3 ?_
  refine M6 fun _ _=> ?_
  refine B6 (.d a0) Z Z ?_
  refine B6 (.d (bo false)) Z (hn _) ?_
  refine A1 ?_
  refine Zf Z ?_
  refine B3 ?_
  refine A3 ?_
  refine M6 fun _ _=> ?_
  refine Zg (.sl _) (.arr 91 4 (List.map G8 ([]:List Part))) Z Z ?_
  refine B6 (.d a0) Z Z ?_
  refine Mz G8 _ [] p1 _ (he _) Z G_hit hl ?_
  refine B6 (.sl _) Z Z ?_
  refine A1 ?_
  refine B9 ?_
  exact B4 (.inr Z) (C5 (C0 Z)<|ER G_hit) (.refl _)
theorem Rm(p1 r)(h:Gw p1=some r):PCall prog 196 [.list (List.map G8 p1)] (.list (List.map G8 r)):=by
  have hr:r=p1:=by obtain ⟨_,rfl⟩:=Db h;rfl
  subst hr
  cases r with
  |cons x xs=>exact Ii (x::xs) _ h (fun _=>rfl) fun _=>E1 (fun _=>rfl)
  |nil=>
   refine PCall.nil fun A cap=> ?_
   cases A with
   |some A=>exact Ii [] (.v (.slice (some A) 0 cap)) h (fun _=>rfl) fun _=>rfl
   |none=>
    refine D7 (fk func196 ntmps196 m0 (by with_unfolding_all rfl)) (Nat.le_of_ble_eq_true Z) ?_
    refine (A7 (s0:=⟨T [(0, .d (.v (.slice none 0 cap)))],G []⟩) (B7 ⟨.of Z,trivial⟩ trivial) ?_)
    refine A3 ?_
    refine M6 fun _ _=> ?_
    refine B6 (.d .nilS) Z Z ?_
    refine A1 ?_
    refine A3 ?_
    refine A3 ?_
    refine M6 fun _ _=> ?_
    refine B6 (.d _) Z Z ?_
    refine B6 (.d (bo true)) Z Z ?_
    refine A1 ?_
    refine DH Z ?_
    refine A3 ?_
    refine M6 fun _ _=> ?_
    refine B6 (.d .nilS) Z Z ?_
    refine A1 ?_
    refine B9 ?_
    exact B4 (.inr Z) (C5 (C0 Z) D4) .nil
def Hv (p1:Zone):Option Zone:=
  (Gw p1.Parts).bind fun v1=>some (Zone.mk v1 p1.Signal_)
theorem BL(p1 r)(h:Hv p1=some r):PCall prog 89 [(.agg [(.list (List.map G8 p1.Parts)),(i64 p1.Signal_)])] (.agg [(.list (List.map G8 r.Parts)),(i64 r.Signal_)]):=by
 refine D7 (fk func89 ntmps89 m0 (by with_unfolding_all rfl)) (nl Z) ?_
 unfold Hv at h
 refine A7 (s0:=⟨T [(0,(.d _))],G []⟩) (E3 Z Z) ?_
 refine B8<|sm Z<|sn Z Z<|A1<|B8<|sq Z<|sl Z (gq Z) Z (bs h fun v1 hv1 h=>D1 Z Z A6 (Rm _ _ hv1) (.inl Z) (sq Z<|V6 Z (gq Z) [(dl G8 v1),(di p1.Signal_)] Z (A1<|B8<|sd Z (C6 Z G_hit Z Z)<|V6 Z (gq Z) [(dl G8 v1),(di p1.Signal_)] Z (A1<|B9 ?_))))
 cases h
 exact B4 (.inr Z) (C5 (L0 Z G_hit (nl Z) Z) D4) (.refl _)
def Ab (p1:(List Zone))(x1:((List Zone)×Int)):Option (Stp ((List Zone)×Int) (List Zone)):=
  cond (decide (x1.2< (p1.length:Int))) ((F0 p1 x1.2).bind fun v1=>(Hv v1).bind fun v2=>(Q4 x1.1 [v2]).bind fun v3=>some (.go (v3,(K2 (x1.2+1))))) (some (.out x1.1))
def Bs [Lp](p1:(List Zone)):Option (List Zone):=
  (loop (Ab p1) ([],0)).bind fun y1=>some y1
theorem Lv(p1 r)(h:Bs p1=some r):PCall prog 155 [(.list (List.map J2 p1)),(.fn (.func 89) [] [])] (.list (List.map J2 r)):=by
 refine D7 (fk func155 ntmps155 (fun r=>if r==5 then [1004]else []) (by with_unfolding_all rfl)) (nl Z) ?_
 unfold Bs at h
 refine A7 (s0:=⟨T [(0,(.d _)),(1,(.d _))],G []⟩) (E3 Z Z) ?_
 refine B8<|sv Z<|A1<|B8<|sv Z<|A1<|A3<|B8<|sv Z<|sd Z (C8 Z)<|sv Z<|A1<|bs h fun y1 hy1 h=>D0 (fun s=> ∃g1:Nat,Sb ⟨T [(5,(oS y1 (19,g1)))],G [((19,g1),oB 45 2 J2 y1)]⟩ s) ?_ ?_
 refine A5<|D2 (Ab p1) (fun (x1:((List Zone)×Int)) (g2:Nat)=>⟨T [(1,(.d (.fn (.func 89) [] []))),(5,(oS x1.1 (19,g2))),(8,(dl J2 p1)),(9,(di (p1.length:Int))),(10,(di x1.2))],G [((19,g2),oB 45 2 J2 x1.1)]⟩) ([],0) 0 _ hy1 (B7 (K8 Z)<|O6 trivial) ?_
 intro x1 g2 z1 hz1 ez1
 unfold Ab at hz1
 refine B8<|sv Z<|A1<|A3<|cc Z hz1 (fun c1 hz1=> ?_)<|fun c1 hz1=> ?_
 refine B3<|A3<|A5<|B8<|bs hz1 fun v1 hv1 hz1=>sd Z (D8 Z Z hv1 Z)<|sd Z (D9 Z hv1 Z Z)<|sm Z<|V6 Z G_hit [(dl G8 v1.Parts),(di v1.Signal_)] Z (A1<|M6 fun u6 _=>B6 (oS x1.1 (19,g2)) Z Z (sv Z<|sd Z (C6 Z G_hit Z Z)<|bs hz1 fun v2 hv2 hz1=>D1 Z Z A6 (BL _ _ hv2) (.inl Z) (B6 (dl J2 [v2]) Z Z (bs hz1 fun _ hv3 hz1=>G7 J2 (19,g2) x1.1 v2 [] _ (E1<|fun _=>Z) Z (gq Z) hv3 (ss Z<|A1<|E0<|B5<|sv Z<|sv Z<|A1<|D6 ?_)))))
 cases hz1
 exact ⟨Z,u6,(B7 ⟨.of Z,(.of (T1<|K5 hv3).symm), .of Z, .of Z, .of Z,trivial⟩<|K9 G_hit trivial)⟩
 refine C3 Z ?_
 cases hz1
 obtain rfl:=ez1 _ rfl
 refine ⟨nofun,C2 Z<|T4 ?_⟩
 exact ⟨g2,(B7 ⟨.of Z,trivial⟩<|B0 G_hit trivial)⟩
 rintro _ ⟨g1,q1⟩
 refine A7 q1<|B8<|B6 (oS y1 (19,g1)) Z Z (B6 (oS y1 (19,g1)) Z Z (A1<|B9 ?_))
 cases h
 exact B4 (.inr Z) (C5 (C0 Z)<|U9 G_hit) U8
def Bm (p1:List Phase):Option (List Phase):=Q4 [] p1
theorem Gi (p1:List Phase)(a0:D)(hl:Q4 ([]:List Phase) p1=some p1)(hn: ∀h,H8 (T [(3, .d a0),(2, .d .nilS),(0, .d a0)]) h (.isnil false (.t 3))=some (.d (bo false)))(he: ∀h,X5 h 2 (.d a0)=some (List.map G2 p1)):
    PCall prog 197 [a0] (.list (List.map G2 p1)):=by
  refine D7 (fk func197 ntmps197 m0 (by with_unfolding_all rfl)) (Nat.le_of_ble_eq_true Z) ?_
  refine (A7 (s0:=⟨T [(0, .d a0)],G []⟩) (B7 ⟨.of Z,trivial⟩ trivial) ?_)
  refine A3 ?_
  refine M6 fun _ _=> ?_
  refine B6 (.d .nilS) Z Z ?_
  refine A1 ?_
  refine A3 ?_
  refine A3 ?_
  refine M6 fun _ _=> ?_
  refine B6 (.d a0) Z Z ?_
  refine B6 (.d (bo false)) Z (hn _) ?_
  refine A1 ?_
  refine Zf Z ?_
  refine B3 ?_
  refine A3 ?_
  refine M6 fun _ _=> ?_
  refine Zg (.sl _) (.arr 97 2 (List.map G2 ([]:List Phase))) Z Z ?_
  refine B6 (.d a0) Z Z ?_
  refine Mz G2 _ [] p1 _ (he _) Z G_hit hl ?_
  refine B6 (.sl _) Z Z ?_
  refine A1 ?_
  refine B9 ?_
  exact B4 (.inr Z) (C5 (C0 Z)<|ER G_hit) (.refl _)
theorem Pn(p1 r)(h:Bm p1=some r):PCall prog 197 [.list (List.map G2 p1)] (.list (List.map G2 r)):=by
  have hr:r=p1:=by obtain ⟨_,rfl⟩:=Db h;rfl
  subst hr
  cases r with
  |cons x xs=>exact Gi (x::xs) _ h (fun _=>rfl) fun _=>E1 (fun _=>rfl)
  |nil=>
   refine PCall.nil fun A cap=> ?_
   cases A with
   |some A=>exact Gi [] (.v (.slice (some A) 0 cap)) h (fun _=>rfl) fun _=>rfl
   |none=>
    refine D7 (fk func197 ntmps197 m0 (by with_unfolding_all rfl)) (Nat.le_of_ble_eq_true Z) ?_
    refine (A7 (s0:=⟨T [(0, .d (.v (.slice none 0 cap)))],G []⟩) (B7 ⟨.of Z,trivial⟩ trivial) ?_)
    refine A3 ?_
    refine M6 fun _ _=> ?_
    refine B6 (.d .nilS) Z Z ?_
    refine A1 ?_
    refine A3 ?_
    refine A3 ?_
    refine M6 fun _ _=> ?_
    refine B6 (.d _) Z Z ?_
    refine B6 (.d (bo true)) Z Z ?_
    refine A1 ?_
    refine DH Z ?_
    refine A3 ?_
    refine M6 fun _ _=> ?_
    refine B6 (.d .nilS) Z Z ?_
    refine A1 ?_
    refine B9 ?_
    exact B4 (.inr Z) (C5 (C0 Z) D4) .nil
theorem Pc(p1 r)(h:Bm p1=some r):MCall prog 197 [.d (.list (List.map G2 p1))] [] (oE r (800000,0)) [] [oB 97 2 G2 r]:=by
  cases p1 with
  |nil=>
   have hr:r= []:=by obtain ⟨_,rfl⟩:=Db h;rfl
   subst hr
   exact MCall.ofP<|Pn [] [] h
  |cons x xs=>
  have hr:Q4 ([]:List Phase) (x::xs)=some r:=h
  have e:=(Db hr).2
  rw [lO]at e
  rw [RJ (K5 hr),RD (K5 hr)]
  refine cL (fk func197 ntmps197 m0 (by with_unfolding_all rfl)) Z (Nat.le_of_ble_eq_true Z) ?_
  refine (A7 (s0:=⟨T [(0, .d (.list (List.map G2 (x::xs))))],G []⟩) (B7 ⟨.of Z,trivial⟩ trivial) ?_)
  refine A3 ?_
  refine M6 fun _ _=> ?_
  refine B6 (.d .nilS) Z Z ?_
  refine A1 ?_
  refine A3 ?_
  refine A3 ?_
  refine M6 fun _ _=> ?_
  refine B6 (.d (.list (List.map G2 (x::xs)))) Z Z ?_
  refine B6 (.d (bo false)) Z Z ?_
  refine A1 ?_
  refine Zf Z ?_
  refine B3 ?_
  refine A3 ?_
  refine M6 fun u3 _=> ?_
  refine Zg (.sl _) (.arr 97 2 (List.map G2 ([]:List Phase))) Z Z ?_
  refine B6 (.d (.list (List.map G2 (x::xs)))) Z Z ?_
  refine Mz G2 _ [] (x::xs) _ (E1<|fun _=>Z) Z G_hit hr ?_
  refine B6 (.sl _) Z Z ?_
  refine A1 ?_
  refine B9 ?_
  exact iT (v1:= .sl (7,u3)) (.inr Z) (iU<|C0 Z) (.of Z) [((7,u3),some<|.arr 97 2 (List.map G2 r))] (A2 G_hit (.of Z) trivial) (XH [(7,u3)] Z trivial ⟨G_hit,trivial⟩ Z (by simp only [lS,List.not_mem_nil,or_false,forall_eq];exact fun i=>XG rfl i) nd1)
def Bf (v1:(List Phase))(x1:(Int×Signal)):Option (Stp (Int×Signal) Signal):=
  cond (decide (x1.1< (v1.length:Int))) ((F0 x1.2.Phases x1.1).bind fun v2=>(Bq v2.Green).bind fun v3=>(F0 x1.2.Phases x1.1).bind fun v4=>some (.go ((K2 (x1.1+1)),(Signal.mk x1.2.Offset (JO x1.2.Phases x1.1 (Phase.mk v4.Ticks v3)))))) (some (.out x1.2))
def Eo [Lp](p1:Signal):Option Signal:=
  (Bm p1.Phases).bind fun v1=>(loop (Bf v1) (0,(Signal.mk p1.Offset v1))).bind fun y1=>some y1
theorem Yi(p1 r)(h:Eo p1=some r):PCall prog 91 [(.agg [(i64 p1.Offset),(.list (List.map G2 p1.Phases))])] (.agg [(i64 r.Offset),(.list (List.map G2 r.Phases))]):=by
 refine D7 (fk func91 ntmps91 (fun r=>if r==1 then [1001002]else []) (by with_unfolding_all rfl)) (nl Z) ?_
 unfold Eo at h
 refine A7 (s0:=⟨T [(0,(.d _))],G []⟩) (E3 Z Z) ?_
 refine lr<|fun u1 _=>sm Z<|sm Z<|A1<|lr<|fun u2 _=>sq Z<|sl Z (gq Z) Z (bs h fun v1 hv1 h=> ?_)
 refine V5 (v:=oE v1 (10010020,u2)) (us:= [(10010020,u2)]) (iX (Pc _ _ hv1) [] [] _ (((10010020,u2),oB 97 2 G2 v1)::_) Z F3 Z E2 trivial (fun _ h=>h) List.nodup_nil (by generalize v1=x1;cases x1<;>rfl) Z (gJ (Z)) Z) ?_
 refine sp Z Z<|U7 _ _ _ _ _ (TL _ _) Z Z (gq Z) (nl Z) [(di p1.Offset),(oE v1 (10010020,u2))] Z (A1<|A3<|B8<|sq Z<|B6 (oE v1 (10010020,u2)) Z (U6 Z G_hit Z) (sd Z (gI (f:=G2) Z (gq Z))<|sv Z<|A1<|bs h fun y1 hy1 h=>D0 (fun s=> ∃g1:Nat,Sb ⟨T [(1,(.ptr (1,u1) 0)),(2,(.ptr (2,u1) 0))],G [((1,u1),some<|.box 48 [(di y1.Offset),(oE y1.Phases (10010020,g1))]),((2,u1),some<|.box 48 [(di 0),(.d .nilS)]),((10010020,g1),oB 97 2 G2 y1.Phases)]⟩ s) ?_ ?_))
 refine A5<|D2 (Bf v1) (fun (x1:(Int×Signal)) (g2:Nat)=>⟨T [(1,(.ptr (1,u1) 0)),(2,(.ptr (2,u1) 0)),(10,(di (v1.length:Int))),(11,(di x1.1))],G [((1,u1),some<|.box 48 [(di x1.2.Offset),(oE x1.2.Phases (10010020,g2))]),((2,u1),some<|.box 48 [(di 0),(.d .nilS)]),((10010020,g2),oB 97 2 G2 x1.2.Phases)]⟩) (0,(Signal.mk p1.Offset v1)) u2 _ hy1 (B7 (K8 Z)<|A2 G_hit (.of Z)<|sg Z<|B0 (gq Z) trivial) ?_
 intro x1 g2 z1 hz1 ez1
 unfold Bf at hz1
 refine B8<|sv Z<|A1<|A3<|cc Z hz1 (fun c1 hz1=> ?_)<|fun c1 hz1=> ?_
 refine B3<|A3<|A5<|B8<|sv Z<|sv Z<|A1<|M8 Z<|sq Z<|B6 (oE x1.2.Phases (10010020,g2)) Z (U6 Z G_hit Z) (sv Z<|sq Z<|B6 (oE x1.2.Phases (10010020,g2)) Z (U6 Z G_hit Z) (sv Z<|bs hz1 fun _ hv2 hz1=>B6 (.aptr _ _ _ _) Z (XK Z Z (gq Z) hv2) (B6 (.aptr _ _ _ _) Z Z (sd Z (cC Z (JP (gq Z)<|Wt hv2) hv2 Z)<|bs hz1 fun v3 hv3 hz1=>D1 Z Z A6 (Ky _ _ hv3) (.inl Z) (bs hz1 fun v4 hv4 hz1=>B6 (.aptr _ _ _ _) Z (XK Z Z (gq Z) hv4) (B6 (.aptr _ _ _ _) Z Z ?_))))))
 rw [RJ (Wt hv4)]
 refine WV G2 _ _ _ (x1.1) _ (Phase.mk v4.Ticks v3) [(.list (List.map A4 v3))] Z Z Z (JP (gq Z)<|Wt hv4) hv4 (nl Z) Z (A1<|E0<|A7 (s0:=⟨T [(1,(.ptr _ _)),(2,(.ptr _ _)),(10,(.d _)),(11,(.d _))],G [((1,u1),some<|.box 48 _),((10010020,g2),some _),((2,u1),some<|.box 48 _)]⟩) (E3 Z Z) ?_)
 refine B5<|sv Z<|sv Z<|A1<|D6 ?_
 cases hz1
 exact ⟨Z,g2,(B7 (K8 Z)<|A2 G_hit (.box (cv<|.cons (.of (RJ<|cB<|Wt hv4).symm) .nil))<|sg Z<|K9 (gq Z) trivial)⟩
 refine C3 Z ?_
 cases hz1
 obtain rfl:=ez1 _ rfl
 refine ⟨nofun,C2 Z<|T4 ?_⟩
 exact ⟨g2,(B7 (K8 Z)<|A2 G_hit (.of Z)<|sg Z<|B0 (gq Z) trivial)⟩
 rintro _ ⟨g1,q1⟩
 refine A7 q1<|B8<|B6 (Df [(di y1.Offset),(oE y1.Phases (10010020,g1))]) Z (C6 Z G_hit Z Z) (U7 _ _ _ _ _ (Cs _) Z Z (gq Z) (nl Z) [(di y1.Offset),(oE y1.Phases (10010020,g1))] Z (A1<|B9 ?_))
 cases h
 exact B4 (.inr Z) (C5 (L0 Z G_hit (nl Z) Z)<|Lh<|rD<|L9 (iW<|gq Z) N1) (.refl _)
def W6 [Lp](p1:(List Signal))(x1:((List Signal)×Int)):Option (Stp ((List Signal)×Int) (List Signal)):=
  cond (decide (x1.2< (p1.length:Int))) ((F0 p1 x1.2).bind fun v1=>(Eo v1).bind fun v2=>(Q4 x1.1 [v2]).bind fun v3=>some (.go (v3,(K2 (x1.2+1))))) (some (.out x1.1))
def Y8 [Lp](p1:(List Signal)):Option (List Signal):=
  (loop (W6 p1) ([],0)).bind fun y1=>some y1
theorem Jn(p1 r)(h:Y8 p1=some r):PCall prog 156 [(.list (List.map J9 p1)),(.fn (.func 91) [] [])] (.list (List.map J9 r)):=by
 refine D7 (fk func156 ntmps156 (fun r=>if r==5 then [1004]else []) (by with_unfolding_all rfl)) (nl Z) ?_
 unfold Y8 at h
 refine A7 (s0:=⟨T [(0,(.d _)),(1,(.d _))],G []⟩) (E3 Z Z) ?_
 refine B8<|sv Z<|A1<|B8<|sv Z<|A1<|A3<|B8<|sv Z<|sd Z (C8 Z)<|sv Z<|A1<|bs h fun y1 hy1 h=>D0 (fun s=> ∃g1:Nat,Sb ⟨T [(5,(oS y1 (19,g1)))],G [((19,g1),oB 48 2 J9 y1)]⟩ s) ?_ ?_
 refine A5<|D2 (W6 p1) (fun (x1:((List Signal)×Int)) (g2:Nat)=>⟨T [(1,(.d (.fn (.func 91) [] []))),(5,(oS x1.1 (19,g2))),(8,(dl J9 p1)),(9,(di (p1.length:Int))),(10,(di x1.2))],G [((19,g2),oB 48 2 J9 x1.1)]⟩) ([],0) 0 _ hy1 (B7 (K8 Z)<|O6 trivial) ?_
 intro x1 g2 z1 hz1 ez1
 unfold W6 at hz1
 refine B8<|sv Z<|A1<|A3<|cc Z hz1 (fun c1 hz1=> ?_)<|fun c1 hz1=> ?_
 refine B3<|A3<|A5<|B8<|bs hz1 fun v1 hv1 hz1=>sd Z (D8 Z Z hv1 Z)<|sd Z (D9 Z hv1 Z Z)<|sm Z<|V6 Z G_hit [(di v1.Offset),(dl G2 v1.Phases)] Z (A1<|M6 fun u6 _=>B6 (oS x1.1 (19,g2)) Z Z (sv Z<|sd Z (C6 Z G_hit Z Z)<|bs hz1 fun v2 hv2 hz1=>D1 Z Z A6 (Yi _ _ hv2) (.inl Z) (B6 (dl J9 [v2]) Z Z (bs hz1 fun _ hv3 hz1=>G7 J9 (19,g2) x1.1 v2 [] _ (E1<|fun _=>Z) Z (gq Z) hv3 (ss Z<|A1<|E0<|B5<|sv Z<|sv Z<|A1<|D6 ?_)))))
 cases hz1
 exact ⟨Z,u6,(B7 ⟨.of Z,(.of (T1<|K5 hv3).symm), .of Z, .of Z, .of Z,trivial⟩<|K9 G_hit trivial)⟩
 refine C3 Z ?_
 cases hz1
 obtain rfl:=ez1 _ rfl
 refine ⟨nofun,C2 Z<|T4 ?_⟩
 exact ⟨g2,(B7 ⟨.of Z,trivial⟩<|B0 G_hit trivial)⟩
 rintro _ ⟨g1,q1⟩
 refine A7 q1<|B8<|B6 (oS y1 (19,g1)) Z Z (B6 (oS y1 (19,g1)) Z Z (A1<|B9 ?_))
 cases h
 exact B4 (.inr Z) (C5 (C0 Z)<|U9 G_hit) U8
def Kb (p1:Work):Option Work:=
  some p1
theorem BM(p1 r)(h:Kb p1=some r):PCall prog 158 [(.agg (R1 p1))] (.agg (R1 r)):=by
 refine D7 (fk func158 ntmps158 m0 (by with_unfolding_all rfl)) (nl Z) ?_
 unfold Kb at h
 refine A7 (s0:=⟨T [(0,(.d _))],G []⟩) (E3 Z Z) ?_
 refine B8<|sm Z<|sn Z Z<|A1<|B8<|sd Z (C6 Z (gq Z) Z Z)<|V6 Z G_hit (II p1) Z (A1<|B9 ?_)
 cases h
 exact B4 (.inr Z) (C5 (L0 Z G_hit (nl Z) Z) D4) (.refl _)
def Ac (p1:(List Work))(x1:((List Work)×Int)):Option (Stp ((List Work)×Int) (List Work)):=
  cond (decide (x1.2< (p1.length:Int))) ((F0 p1 x1.2).bind fun v1=>(Kb v1).bind fun v2=>(Q4 x1.1 [v2]).bind fun v3=>some (.go (v3,(K2 (x1.2+1))))) (some (.out x1.1))
def Bt [Lp](p1:(List Work)):Option (List Work):=
  (loop (Ac p1) ([],0)).bind fun y1=>some y1
theorem Lw(p1 r)(h:Bt p1=some r):PCall prog 157 [(.list (List.map R1 p1)),(.fn (.func 158) [] [])] (.list (List.map R1 r)):=by
 refine D7 (fk func157 ntmps157 (fun r=>if r==5 then [1004]else []) (by with_unfolding_all rfl)) (nl Z) ?_
 unfold Bt at h
 refine A7 (s0:=⟨T [(0,(.d _)),(1,(.d _))],G []⟩) (E3 Z Z) ?_
 refine B8<|sv Z<|A1<|B8<|sv Z<|A1<|A3<|B8<|sv Z<|sd Z (C8 Z)<|sv Z<|A1<|bs h fun y1 hy1 h=>D0 (fun s=> ∃g1:Nat,Sb ⟨T [(5,(oS y1 (19,g1)))],G [((19,g1),oB 50 6 R1 y1)]⟩ s) ?_ ?_
 refine A5<|D2 (Ac p1) (fun (x1:((List Work)×Int)) (g2:Nat)=>⟨T [(1,(.d (.fn (.func 158) [] []))),(5,(oS x1.1 (19,g2))),(8,(dl R1 p1)),(9,(di (p1.length:Int))),(10,(di x1.2))],G [((19,g2),oB 50 6 R1 x1.1)]⟩) ([],0) 0 _ hy1 (B7 (K8 Z)<|O6 trivial) ?_
 intro x1 g2 z1 hz1 ez1
 unfold Ac at hz1
 refine B8<|sv Z<|A1<|A3<|cc Z hz1 (fun c1 hz1=> ?_)<|fun c1 hz1=> ?_
 refine B3<|A3<|A5<|B8<|bs hz1 fun v1 hv1 hz1=>sd Z (D8 Z Z hv1 Z)<|sd Z (D9 Z hv1 Z Z)<|sm Z<|V6 Z G_hit (II v1) Z (A1<|M6 fun u6 _=>B6 (oS x1.1 (19,g2)) Z Z (sv Z<|sd Z (C6 Z G_hit Z Z)<|bs hz1 fun v2 hv2 hz1=>D1 Z Z A6 (BM _ _ hv2) (.inl Z) (B6 (dl R1 [v2]) Z Z (bs hz1 fun _ hv3 hz1=>G7 R1 (19,g2) x1.1 v2 [] _ (E1<|fun _=>Z) Z (gq Z) hv3 (ss Z<|A1<|E0<|B5<|sv Z<|sv Z<|A1<|D6 ?_)))))
 cases hz1
 exact ⟨Z,u6,(B7 ⟨.of Z,(.of (T1<|K5 hv3).symm), .of Z, .of Z, .of Z,trivial⟩<|K9 G_hit trivial)⟩
 refine C3 Z ?_
 cases hz1
 obtain rfl:=ez1 _ rfl
 refine ⟨nofun,C2 Z<|T4 ?_⟩
 exact ⟨g2,(B7 ⟨.of Z,trivial⟩<|B0 G_hit trivial)⟩
 rintro _ ⟨g1,q1⟩
 refine A7 q1<|B8<|B6 (oS y1 (19,g1)) Z Z (B6 (oS y1 (19,g1)) Z Z (A1<|B9 ?_))
 cases h
 exact B4 (.inr Z) (C5 (C0 Z)<|U9 G_hit) U8
def Uf [Lp](p1:Map):Option Map:=
  (Br p1.Lanes).bind fun v1=>(Bs p1.Zones).bind fun v2=>(Y8 p1.Signals).bind fun v3=>(Bt p1.Works).bind fun v4=>some (Map.mk p1.Version v1 v2 v3 v4)
theorem GZ(p1 r)(h:Uf p1=some r):PCall prog 51 [(.agg (N8 p1))] (.agg (N8 r)):=by
 refine D7 (fk func51 ntmps51 m0 (by with_unfolding_all rfl)) (nl Z) ?_
 unfold Uf at h
 refine A7 (s0:=⟨T [(0,(.d _))],G []⟩) (E3 Z Z) ?_
 refine B8<|sm Z<|sn Z Z<|A1<|A3<|M8 Z<|sq Z<|sl Z (gq Z) Z (sq Z<|sl Z (gq Z) Z (bs h fun v1 hv1 h=>D1 Z Z A6 (Lu _ _ hv1) (.inl Z) (sq Z<|sl Z (gq Z) Z (bs h fun v2 hv2 h=>D1 Z Z A6 (Lv _ _ hv2) (.inl Z) (sq Z<|sl Z (gq Z) Z (bs h fun v3 hv3 h=>D1 Z Z A6 (Jn _ _ hv3) (.inl Z) (sq Z<|sl Z (gq Z) Z (bs h fun v4 hv4 h=>D1 Z Z A6 (Lw _ _ hv4) (.inl Z) (sv Z<|V6 Z G_hit [(di p1.Version),(dl J7 v1),(dl J2 v2),(dl J9 v3),(dl R1 v4)] Z (A1<|B9 ?_))))))))))
 cases h
 exact B4 (.inr Z) (C5 (L0 Z G_hit (nl Z) Z) D4) (.refl _)
def Jk [Lp](p1:Map)(p2:Map)(p3:ByteArray):Option Bool:=
  (Pu p1).bind fun v1=>((cond (!(!v1)) (Pu p2) (some default))).bind fun v2=>cond (((!v1)||(!v2))||(decide ((p3.size:Int)>6000))) ((Gg).bind fun v3=>some v3) ((Gh p1).bind fun v4=>(Kw p1).bind fun v5=>cond ((!(v4.1.toList==v5.1.toList))||(v4.2 !=v5.2)) (some false) ((Mn p3).bind fun v6=>(Mo p3).bind fun v7=>((cond (!(v6.2 !=v7.2)) (Ki v6.1 v7.1) (some default))).bind fun v8=>cond ((v6.2 !=v7.2)||(!v8)) (some false) ((Mp p1 p2).bind fun v9=>(Ki p1 p2).bind fun v10=>((cond (v9==v10) (Qw p1) (some default))).bind fun v11=>((cond (v9==v10) (Mp p1 v11) (some default))).bind fun v12=>((cond ((v9==v10)&&v12) (Uf p1) (some default))).bind fun v13=>((cond ((v9==v10)&&v12) (Ki v13 p1) (some default))).bind fun v14=>((cond (((v9==v10)&&v12)&&v14) (Gg) (some default))).bind fun v15=>some ((((v9==v10)&&v12)&&v14)&&v15))))
theorem Xd(p1 p2 p3 r)(h:Jk p1 p2 p3=some r):PCall prog 10 [(.agg (N8 p1)),(.agg (N8 p2)),(O0 p3)] (bo r):=by
 refine D7 (fk func10 ntmps10 m0 (by with_unfolding_all rfl)) (nl Z) ?_
 unfold Jk at h
 refine A7 (s0:=⟨T [(0,(.d _)),(1,(.d _)),(2,(.d _))],G []⟩) (E3 Z Z) ?_
 refine lr<|fun u1 _=>sm Z<|sm Z<|sv Z<|A1<|A3<|B8<|sd Z (C6 Z (gq Z) Z Z)<|bs h fun v1 hv1 h=>D1 Z Z A6 (Zn _ _ hv1) (.inl Z) (B6 (.d (bo (!v1))) Z Z (sv Z<|gf Z (fun _=>(C6 Z G_hit Z Z))<|bs h fun v2 hv2 h=> ?_))
 refine N0 _ (bo v2) (N7 Z) (fun w2=>⟨_,[(.d (.agg (N8 p2)))],_,_,(by simp only [A8 w2];rfl),Z,A6,Zn _ _<|H4 w2 hv2,(.inl Z)⟩) ?_
 refine T3 _ (.d (bo (!v2))) Z (N7 Z) (fun w3=>(by simp only [A8 w3];rfl)) ?_
 refine sd Z (X6 Z Z<|fun hc=>A8<|O7 hc)<|sv Z<|gf Z (fun _=>Z)<|gf Z (fun w5=>(Vs<|A8 w5))<|gf Z (vb Z Z Z)<|sd Z (X6 Z Z<|fun hc=>A8<|O7 hc)<|A1<|cc Z h (fun c1 h=> ?_)<|fun c1 h=> ?_
 refine B8<|bs h fun _ hv3 h=>D1 Z Z A6 (Vz _ hv3) (.inl Z) (sv Z<|A1<|B9 ?_)
 cases h
 exact B4 (.inr Z) (C5 (C0 Z) D4) (.refl _)
 refine B3<|B8<|sd Z (C6 Z (gq Z) Z Z)<|bs h fun _ hv4 h=>D1 Z Z A6 (Wa _ _ hv4) (.inl Z) (sv Z<|sv Z<|sv Z<|sv Z<|sv Z<|A1<|A3<|A7 (s0:=⟨T [(2,(.d _)),(3,(.ptr _ _)),(4,(.ptr _ _)),(7,(.d _)),(8,(.d _))],G [((3,u1),some<|.box 27 _),((4,u1),some<|.box 27 _)]⟩) (E3 Z Z) ?_)
 refine B5<|sd Z (C6 Z G_hit Z Z)<|bs h fun _ hv5 h=>D1 Z Z A6 (FJ _ _ hv5) (.inl Z) (sv Z<|sv Z<|sv Z<|sv Z<|sv Z<|A1<|A3<|B8<|sv Z<|sv Z<|sd Z (FD Z Z)<|sv Z<|gf Z (fun _=>Z)<|gf Z (fun _=>Z)<|gf Z (fun w9=>(An (A8 w9) (A8 w9) Z))<|sd Z (X6 Z Z<|fun hc=>A8<|O7 hc)<|A1<|cc Z h (fun c2 h=> ?_)<|fun c2 h=> ?_)
 refine B8<|sv Z<|A1<|B9 ?_
 cases h
 exact B4 (.inr Z) (C5 (C0 Z) D4) (.refl _)
 refine B3<|lr<|fun u8 _=>sv Z<|bs h fun v6 hv6 h=>D1 Z Z A6 (GR _ _ hv6) (.inl Z) (sv Z<|sv Z<|sv Z<|sm Z<|V6 Z G_hit (F2 v6.1) Z (sv Z<|A1<|A3<|A7 (s0:=⟨T [(2,(.d _)),(3,(.ptr _ _)),(4,(.ptr _ _)),(8,(.d _)),(11,(.ptr _ _))],G [((3,u1),some<|.box 27 _),((4,u1),some<|.box 27 _),((11,u8),some<|.box 27 _)]⟩) (E3 Z Z) ?_))
 refine B5<|sv Z<|bs h fun v7 hv7 h=>D1 Z Z A6 (GS _ _ hv7) (.inl Z) (sv Z<|sv Z<|sv Z<|sm Z<|V6 Z G_hit (F2 v7.1) Z (sv Z<|A1<|A3<|B8<|sv Z<|sv Z<|sv Z<|sv Z<|gf Z (fun _=>(C6 Z (gq Z) Z Z))<|gf Z (fun _=>(C6 Z G_hit Z Z))<|bs h fun v8 hv8 h=> ?_))
 refine N0 _ (bo v8) (N7 Z) (fun w12=>⟨_,[(.d (.agg (N8 v6.1))),(.d (.agg (N8 v7.1)))],_,_,(by simp only [A8 w12];rfl),Z,A6,So _ _ _<|H4 w12 hv8,(.inl Z)⟩) ?_
 refine T3 _ (.d (bo (!v8))) Z (N7 Z) (fun w13=>(by simp only [A8 w13];rfl)) ?_
 refine sd Z (X6 Z Z<|fun hc=>A8<|O7 hc)<|A1<|cc Z h (fun c3 h=> ?_)<|fun c3 h=> ?_
 refine A3<|A7 (s0:=⟨T [],G []⟩) (E3 Z Z) ?_
 refine B5<|sv Z<|A1<|B9 ?_
 cases h
 exact B4 (.inr Z) (C5 (C0 Z) D4) (.refl _)
 refine B3<|A3<|A7 (s0:=⟨T [(3,(.ptr _ _)),(4,(.ptr _ _))],G [((3,u1),some<|.box 27 _),((4,u1),some<|.box 27 _)]⟩) (E3 Z Z) ?_
 refine M8 Z<|sd Z (C6 Z G_hit Z Z)<|sd Z (C6 Z (gq Z) Z Z)<|bs h fun v9 hv9 h=>D1 Z Z A6 (Xn _ _ _ hv9) (.inl Z) (sd Z (C6 Z G_hit Z Z)<|sd Z (C6 Z (gq Z) Z Z)<|bs h fun v10 hv10 h=>D1 Z Z A6 (So _ _ _ hv10) (.inl Z) (B6 (.d (bo (v9==v10))) Z Z (sv Z<|gt Z (fun _=>(C6 Z G_hit Z Z))<|gt Z (fun _=>(C6 Z G_hit Z Z))<|bs h fun v11 hv11 h=> ?_)))
 refine N0 _ (.agg (N8 v11)) (L5 Z) (fun w16=>⟨_,[(.d (.agg (N8 p1)))],_,_,(by simp only [A8 w16];rfl),Z,A6,GX _ _<|H4 w16 hv11,(.inl Z)⟩) ?_
 refine bs h fun v12 hv12 h=> ?_
 refine N0 _ (bo v12) (L5 Z) (fun w17=>⟨_,[(.d (.agg (N8 p1))),(.d (.agg (N8 v11)))],_,_,(by simp only [A8 w17];rfl),Z,A6,Xn _ _ _<|H4 w17 hv12,(.inl Z)⟩) ?_
 refine sa Z Z Z<|sv Z<|gt Z (fun _=>(C6 Z G_hit Z Z))<|bs h fun v13 hv13 h=> ?_
 refine N0 _ (.agg (N8 v13)) (L5 Z) (fun w19=>⟨_,[(.d (.agg (N8 p1)))],_,_,(by simp only [A8 w19];rfl),Z,A6,GZ _ _<|H4 w19 hv13,(.inl Z)⟩) ?_
 refine gt Z (fun _=>(C6 Z G_hit Z Z))<|bs h fun v14 hv14 h=> ?_
 refine N0 _ (bo v14) (L5 Z) (fun w21=>⟨_,[(.d (.agg (N8 v13))),(.d (.agg (N8 p1)))],_,_,(by simp only [A8 w21];rfl),Z,A6,So _ _ _<|H4 w21 hv14,(.inl Z)⟩) ?_
 refine sa Z Z Z<|sv Z<|bs h fun v15 hv15 h=>N0 _ (bo v15) (L5 Z) (fun w22=>⟨_,_,_,_,Z,Z,A6,Vz _<|H4 w22 hv15,(.inl Z)⟩) (sa Z Z Z<|sv Z<|A1<|B9 ?_)
 cases h
 exact B4 (.inr Z) (C5 (C0 Z) D4) (.refl _)
end
end Go.Abs.Roadsz
