/-
  The functions, part 2.
-/
import Derived.Test.YtimbepcdlehjjaaGreatFns1
set_option maxRecDepth 20000
set_option maxHeartbeats 4000000
set_option linter.unusedVariables false
namespace Go.Abs.Roadsz
noncomputable section
open Go Go.Abs Go.Proofs Tryz
attribute [local irreducible] H7 Ix Db
def S5 [Lp](p1:Zone)(p2:Map)(p3:Int)(p4:(List Int)):Option Bool:=
  (Cu p2 p1 p3).bind fun v1=>((cond v1 (F7 p4 p2 p1) (some default))).bind fun v2=>some (v1&& (!v2))
theorem Ku(p1 p2 p3 p4 r)(h:S5 p1 p2 p3 p4=some r):PCall prog 180 [(.agg [(.list (List.map G1 p1.Parts)),(i64 p1.Signal_)]),(.bp (O1 p2) 0),(.bp [(i64 p3)] 0),(.bp [(.list (List.map A7 p4))] 0)] (bo r):=by
 refine C0 (fk func180 ntmps180 m0 (by with_unfolding_all rfl)) (nl Z) ?_
 unfold S5 at h
 refine A5 (s0:=⟨T [(0,(.d _)),(1,(.d _)),(2,(.d _)),(3,(.d _))],G []⟩) (D2 Z Z) ?_
 refine lr<|fun u1 _=>sm Z<|sv Z<|A1<|B5<|sv Z<|sd Z (B3 Z G_hit Z Z)<|sv Z<|bs h fun v1 hv1 h=>B8 Z Z A3 (Md _ _ _ _ hv1) (.inl Z) (sv Z<|gt Z (fun _=>Z)<|Ck _ (.fn _ _ _) Z (P4 Z) (fun _=>Z) (bs h fun v2 hv2 h=> ?_))
 refine L4 v1 (bo v2) (P4 Z) (fun w3=>⟨_,[(dl A7 p4),(.fn (.func 183) [] [(.d (.bp (O1 p2) 0)),(.ptr (4,u1) 0)])],_,_,(by simp only [A4 w3];rfl),(rD<|O4 (Yj K9<|rD<|O4 (Ki G_hit<|rD<|rD K9) K9) K9),A3,Ah _ _ _ _<|G0 w3 hv2,(.inr Z)⟩) ?_
 refine Ck _ (.d (bo (!v2))) Z (P4 Z) (fun w4=>(by simp only [A4 w4];rfl)) ?_
 refine sa Z Z Z<|sv Z<|A1<|B1 ?_
 cases h
 exact A8 (.inr Z) (B4 (B2 Z) C2) (.refl _)
def E8 [Lp](p1:(List Zone))(p2:Map)(p3:Int)(p4:(List Int))(x1:Int):Option (Stp Int (Sum Unit Int)):=
  cond (decide (x1< (p1.length:Int))) ((D6 p1 x1).bind fun v1=>(S5 v1 p2 p3 p4).bind fun v2=>cond v2 (some (.out (.inr x1))) (some (.go (I8 (x1+1))))) (some (.out (.inl ())))
def G2 [Lp](p1:(List Zone))(p2:Map)(p3:Int)(p4:(List Int)):Option Int:=
  thenS (loop (E8 p1 p2 p3 p4) 0) (fun _=>some (-1)) (fun r=>some r)
theorem Be(p1 p2 p3 p4 r)(h:G2 p1 p2 p3 p4=some r):PCall prog 243 [(.list (List.map N8 p1)),(.fn (.func 180) [] [(.bp (O1 p2) 0),(.bp [(i64 p3)] 0),(.bp [(.list (List.map A7 p4))] 0)])] (i64 r):=by
 refine C0 (fk func243 ntmps243 m0 (by with_unfolding_all rfl)) (nl Z) ?_
 unfold G2 at h
 refine A5 (s0:=⟨T [(0,(.d _)),(1,(.d _))],G []⟩) (D2 Z Z) ?_
 refine B5<|sv Z<|A1<|A2<|B5<|sv Z<|sd Z (C1 Z)<|sv Z<|A1<|js h fun z1 hz1 h=>D5 (fun s=> ∃(y1:Unit) (g1:Unit),z1= .inl y1∧Sb ⟨T [],G []⟩ s) ?_ ?_
 refine A6<|E0 (E8 p1 p2 p3 p4) (fun (x1:Int) (g2:Unit)=>⟨T [(0,(dl N8 p1)),(1,(.d (.fn (.func 180) [] [(.bp (O1 p2) 0),(.bp [(i64 p3)] 0),(.bp [(.list (List.map A7 p4))] 0)]))),(7,(di (p1.length:Int))),(8,(di x1))],G []⟩) 0 () _ hz1 (D2 Z Z) ?_
 intro x1 g2 z2 hz2 ez2
 unfold E8 at hz2
 refine B5<|sv Z<|A1<|A2<|cc Z hz2 (fun c1 hz2=> ?_)<|fun c1 hz2=> ?_
 refine A9<|A2<|A6<|B5<|sv Z<|sv Z<|A1<|B5<|sv Z<|sv Z<|sv Z<|bs hz2 fun _ hv1 hz2=>sd Z (C9 Z Z hv1 Z)<|sd Z (B9 Z hv1 Z Z)<|bs hz2 fun _ hv2 hz2=>B8 Z Z A3 (Ku _ _ _ _ _ hv2) (.inl Z) (A1<|cc Z hz2 (fun c2 hz2=> ?_)<|fun c2 hz2=> ?_)
 refine B5<|sv Z<|sv Z<|A1<|B1 ?_
 cases hz2
 obtain rfl:=ez2 _ rfl
 refine ⟨nofun,E4 ?_⟩
 rw [bJ]at h
 cases h
 exact A8 (.inr Z) (B4 (B2 Z) C2) (.refl _)
 refine A9<|D9<|B0<|sv Z<|sv Z<|A1<|E7 ?_
 cases hz2
 exact ⟨Z,(),(D2 Z Z)⟩
 refine C5 Z ?_
 cases hz2
 obtain rfl:=ez2 _ rfl
 refine ⟨nofun,C4 Z<|Y5 ?_⟩
 exact ⟨_,(),Z,(D2 Z Z)⟩
 rintro _ ⟨y1,g1,rfl,q1⟩
 rw [bI]at h
 refine A5 q1<|B5<|sv Z<|A1<|B1 ?_
 cases h
 exact A8 (.inr Z) (B4 (B2 Z) C2) (.refl _)
def E9 [Lp](p1:(List Zone))(p2:Map)(p3:Int)(p4:(List Int)):Option Bool:=
  (G2 p1 p2 p3 p4).bind fun v1=>some (decide (v1≥0))
theorem Z4(p1 p2 p3 p4 r)(h:E9 p1 p2 p3 p4=some r):PCall prog 179 [(.list (List.map N8 p1)),(.fn (.func 180) [] [(.bp (O1 p2) 0),(.bp [(i64 p3)] 0),(.bp [(.list (List.map A7 p4))] 0)])] (bo r):=by
 refine C0 (fk func179 ntmps179 m0 (by with_unfolding_all rfl)) (nl Z) ?_
 unfold E9 at h
 refine A5 (s0:=⟨T [(0,(.d _)),(1,(.d _))],G []⟩) (D2 Z Z) ?_
 refine B5<|sv Z<|A1<|B5<|sv Z<|sv Z<|bs h fun _ hv1 h=>B8 Z Z A3 (Be _ _ _ _ _ hv1) (.inl Z) (sv Z<|sv Z<|A1<|B1 ?_)
 cases h
 exact A8 (.inr Z) (B4 (B2 Z) C2) (.refl _)
def Ar [Lp](p1:Map)(x1:((List Clash)×Int)):Option (Stp ((List Clash)×Int) (List Clash)):=
  cond (decide (x1.2< (p1.Lanes.length:Int))) ((Bd p1 x1.2).bind fun v1=>(E9 p1.Zones p1 x1.2 v1).bind fun v2=>cond ((decide ((v1.length:Int)>1))&& (!v2)) ((U5 x1.1 [(Clash.mk 1 (-1) x1.2 (-1))]).bind fun v3=>some (.go (v3,(I8 (x1.2+1))))) (some (.go (x1.1,(I8 (x1.2+1)))))) (some (.out x1.1))
def Ep [Lp](p1:Map):Option (List Clash):=
  (loop (Ar p1) ([],0)).bind fun y1=>some y1
theorem Tx(p1 r)(h:Ep p1=some r):PCall prog 77 [(.agg (O1 p1))] (.list (List.map I7 r)):=by
 refine C0 (fk func77 ntmps77 (fun r=>if r==7 then [1003]else []) (by with_unfolding_all rfl)) (nl Z) ?_
 unfold Ep at h
 refine A5 (s0:=⟨T [(0,(.d _))],G []⟩) (D2 Z Z) ?_
 refine lr<|fun u1 _=>sm Z<|sv Z<|A1<|A2<|B5<|sq Z<|sl Z G_hit Z<|sd Z (C1 Z)<|sv Z<|A1<|bs h fun y1 hy1 h=>D5 (fun s=> ∃g1:Nat,Sb ⟨T [(2,(oS y1 (30,g1)))],G [((30,g1),oB 93 4 I7 y1)]⟩ s) ?_ ?_
 refine A6<|E0 (Ar p1) (fun (x1:((List Clash)×Int)) (g2:Nat)=>⟨T [(1,(.ptr (1,u1) 0)),(2,(oS x1.1 (30,g2))),(8,(di (p1.Lanes.length:Int))),(9,(di x1.2))],G [((1,u1),some<|.box 27 (I4 p1)),((30,g2),oB 93 4 I7 x1.1)]⟩) ([],0) 0 _ hy1 (C3 (U2 Z)<|B7 G_hit (.of Z)<|Y1 trivial) ?_
 intro x1 g2 z1 hz1 ez1
 unfold Ar at hz1
 refine B5<|sv Z<|A1<|A2<|cc Z hz1 (fun c1 hz1=> ?_)<|fun c1 hz1=> ?_
 refine A9<|A2<|A6<|lr<|fun u4 _=>sv Z<|sm Z<|Aj Z G_hit [(di x1.2)] Z (A1<|B5<|sd Z (B3 Z (gq Z) Z Z)<|sl Z G_hit Z<|bs hz1 fun v1 hv1 hz1=>B8 Z Z A3 (Ht _ _ _ hv1) (.inl Z) (sm Z<|Aj Z G_hit [(dl A7 v1)] Z (A1<|B5<|sq Z<|sl Z (gq Z) Z (B6 (.fn _ _ _) Z Z (bs hz1 fun v2 hv2 hz1=>B8 Z (rD<|O4 (Yj K9<|O4 (Ki (gq Z)<|rD<|rD<|rD<|rD<|rD K9)<|O4 (Ki (gq Z)<|rD K9)<|O4 (Ki G_hit<|rD K9) K9) K9) A3 (Z4 _ _ _ _ _ hv2) (.inr Z) (sv Z<|A1<|B5<|sl Z G_hit Z<|sd Z (C1 Z)<|sv Z<|sv Z<|gt Z (fun _=>Z) ?_))))))
 refine Ck _ (.d (bo (!v2))) Z (P4 Z) (fun w2=>(by simp only [A4 w2];rfl)) ?_
 refine sa Z Z Z<|A1<|cc Z hz1 (fun c2 hz1=> ?_)<|fun c2 hz1=> ?_
 refine A5 (s0:=⟨T [(1,(.ptr (1,u1) 0)),(2,(oS x1.1 (30,g2))),(3,(.ptr (3,u4) 0)),(8,(di (p1.Lanes.length:Int))),(9,(di x1.2))],G [((1,u1),some<|.box 27 (I4 p1)),((30,g2),oB 93 4 I7 x1.1),((3,u4),some<|.box 3 [(di x1.2)])]⟩) (C3 (U2 Z)<|sg Z<|D3 (gq Z)<|sg Z trivial) ?_
 refine O9 fun u8 _=>B6 (oS x1.1 (30,g2)) Z Z (sl Z (gq Z) Z (sv Z<|B6 (dl I7 [(Clash.mk 1 (-1) x1.2 (-1))]) Z Z (bs hz1 fun _ hv3 hz1=>J2 I7 (30,g2) x1.1 (Clash.mk 1 (-1) x1.2 (-1)) [] _ (F4<|fun _=>Z) Z (gq Z) hv3 (ss Z<|A1<|D9<|B0<|sv Z<|sv Z<|A1<|E7 ?_))))
 cases hz1
 exact ⟨Z,u8,(C3 ⟨.of Z,(.of (Ai<|O0 hv3).symm), .of Z, .of Z,trivial⟩<|sg Z<|P5 G_hit trivial)⟩
 refine A9<|D9<|A5 (s0:=⟨T [(1,(.ptr (1,u1) 0)),(2,(oS x1.1 (30,g2))),(8,(di (p1.Lanes.length:Int))),(9,(di x1.2))],G [((1,u1),some<|.box 27 (I4 p1)),((30,g2),oB 93 4 I7 x1.1)]⟩) (C3 (U2 Z)<|sg Z<|D3 (gq Z) trivial) ?_
 refine B0<|sv Z<|sv Z<|A1<|E7 ?_
 cases hz1
 exact ⟨Z,g2,(C3 (U2 Z)<|B7 G_hit (.of Z)<|D3 (gq Z) trivial)⟩
 refine C5 Z ?_
 cases hz1
 obtain rfl:=ez1 _ rfl
 refine ⟨nofun,C4 Z<|Y5 ?_⟩
 exact ⟨g2,(C3 ⟨.of Z,trivial⟩<|D3 (gq Z) trivial)⟩
 rintro _ ⟨g1,q1⟩
 refine A5 q1<|B5<|B6 (oS y1 (30,g1)) Z Z (B6 (oS y1 (30,g1)) Z Z (A1<|B1 ?_))
 cases h
 exact A8 (.inr Z) (B4 (B2 Z)<|Ed G_hit) Ec
def As [Lp](p1:Map)(x1:((List Clash)×Int))(v1:Zone)(x2:((List Clash)×Int)):Option (Stp ((List Clash)×Int) (List Clash)):=
  cond (decide (x2.2< (v1.Parts.length:Int))) ((D6 v1.Parts x2.2).bind fun v2=>(Cl p1 v1 v2.Lane_).bind fun v3=>((cond (!v3) (Cu p1 v1 v2.Lane_) (some default))).bind fun v4=>cond ((!v3)&& (!v4)) ((U5 x2.1 [(Clash.mk 2 x1.2 v2.Lane_ (-1))]).bind fun v5=>some (.go (v5,(I8 (x2.2+1))))) (some (.go (x2.1,(I8 (x2.2+1)))))) (some (.out x2.1))
def Au [Lp](p1:Map)(x1:((List Clash)×Int)):Option (Stp ((List Clash)×Int) (List Clash)):=
  cond (decide (x1.2< (p1.Zones.length:Int))) ((D6 p1.Zones x1.2).bind fun v1=>(loop (As p1 x1 v1) (x1.1,0)).bind fun y2=>some (.go (y2,(I8 (x1.2+1))))) (some (.out x1.1))
def Er [Lp](p1:Map):Option (List Clash):=
  (loop (Au p1) ([],0)).bind fun y1=>some y1
theorem Ty(p1 r)(h:Er p1=some r):PCall prog 78 [(.agg (O1 p1))] (.list (List.map I7 r)):=by
 refine C0 (fk func78 ntmps78 (fun r=>if r==8 then [1005]else []) (by with_unfolding_all rfl)) (nl Z) ?_
 unfold Er at h
 refine A5 (s0:=⟨T [(0,(.d _))],G []⟩) (D2 Z Z) ?_
 refine lr<|fun u1 _=>sm Z<|sv Z<|A1<|A2<|B5<|sq Z<|sl Z G_hit Z<|sd Z (C1 Z)<|sv Z<|A1<|bs h fun y1 hy1 h=>D5 (fun s=> ∃g1:Nat,Sb ⟨T [(2,(oS y1 (42,g1)))],G [((42,g1),oB 93 4 I7 y1)]⟩ s) ?_ ?_
 refine A6<|E0 (Au p1) (fun (x1:((List Clash)×Int)) (g2:Nat)=>⟨T [(1,(.ptr (1,u1) 0)),(2,(oS x1.1 (42,g2))),(8,(dl N8 p1.Zones)),(9,(di (p1.Zones.length:Int))),(10,(di x1.2))],G [((1,u1),some<|.box 27 (I4 p1)),((42,g2),oB 93 4 I7 x1.1)]⟩) ([],0) 0 _ hy1 (C3 (U2 Z)<|B7 G_hit (.of Z)<|Y1 trivial) ?_
 intro x1 g2 z1 hz1 ez1
 unfold Au at hz1
 refine B5<|sv Z<|A1<|A2<|cc Z hz1 (fun c1 hz1=> ?_)<|fun c1 hz1=> ?_
 refine A9<|A2<|A6<|lr<|fun u4 _=>sv Z<|bs hz1 fun v1 hv1 hz1=>sd Z (C9 Z Z hv1 Z)<|sd Z (B9 Z hv1 Z Z)<|sm Z<|sv Z<|Aj Z G_hit [(dl G1 v1.Parts),(di v1.Signal_)] Z (A1<|B5<|sq Z<|sl Z G_hit Z<|sd Z (C1 Z)<|sv Z<|A1<|bs hz1 fun y2 hy2 hz1=>D5 (fun s=> ∃g3:Nat,Sb ⟨T [(1,(.ptr (1,u1) 0)),(2,(oS y2 (42,g3))),(8,(dl N8 p1.Zones)),(9,(di (p1.Zones.length:Int))),(10,(di x1.2))],G [((1,u1),some<|.box 27 (I4 p1)),((42,g3),oB 93 4 I7 y2)]⟩ s) ?_ ?_)
 refine A6<|E0 (As p1 x1 v1) (fun (x2:((List Clash)×Int)) (g4:Nat)=>⟨T [(1,(.ptr (1,u1) 0)),(2,(oS x2.1 (42,g4))),(3,(di x1.2)),(4,(.ptr (4,u4) 0)),(8,(dl N8 p1.Zones)),(9,(di (p1.Zones.length:Int))),(10,(di x1.2)),(16,(dl G1 v1.Parts)),(17,(di (v1.Parts.length:Int))),(18,(di x2.2))],G [((1,u1),some<|.box 27 (I4 p1)),((4,u4),some<|.box 45 [(dl G1 v1.Parts),(di v1.Signal_)]),((42,g4),oB 93 4 I7 x2.1)]⟩) (x1.1,0) g2 _ hy2 (C3 (U2 Z)<|sg Z<|B7 G_hit (.of Z)<|D3 (gq Z) trivial) ?_
 intro x2 g4 z2 hz2 ez2
 unfold As at hz2
 refine B5<|sv Z<|A1<|A2<|cc Z hz2 (fun c2 hz2=> ?_)<|fun c2 hz2=> ?_
 refine A9<|A2<|A6<|lr<|fun u7 _=>bs hz2 fun v2 hv2 hz2=>sd Z (C9 Z Z hv2 Z)<|sd Z (B9 Z hv2 Z Z)<|sm Z<|Aj Z G_hit (Nh v2) Z (A1<|B5<|sd Z (B3 Z (gq Z) Z Z)<|sd Z (B3 Z (gq Z) Z Z)<|sq Z<|sl Z G_hit Z<|bs hz2 fun v3 hv3 hz2=>B8 Z Z A3 (Ji _ _ _ _ hv3) (.inl Z) (B6 (.d (bo (!v3))) Z Z (sv Z<|gt Z (fun _=>(B3 Z (gq Z) Z Z))<|gt Z (fun _=>(B3 Z (gq Z) Z Z))<|gp Z (P4 Z) (fun _=>Z) (gt Z (vl Z G_hit Z)<|bs hz2 fun v4 hv4 hz2=> ?_))))
 refine L4 _ (bo v4) (P4 Z) (fun w5=>⟨_,[(.d (.agg (O1 p1))),(.d (.agg [(.list (List.map G1 v1.Parts)),(i64 v1.Signal_)])),(di v2.Lane_)],_,_,(by simp only [A4 w5];rfl),Z,A3,Md _ _ _ _<|G0 w5 hv4,(.inl Z)⟩) ?_
 refine Ck _ (.d (bo (!v4))) Z (P4 Z) (fun w6=>(by simp only [A4 w6];rfl)) ?_
 refine sa Z Z Z<|A1<|cc Z hz2 (fun c3 hz2=> ?_)<|fun c3 hz2=> ?_
 refine A5 (s0:=⟨T [(1,(.ptr (1,u1) 0)),(2,(oS x2.1 (42,g4))),(3,(di x1.2)),(4,(.ptr (4,u4) 0)),(6,(.ptr (6,u7) 0)),(8,(dl N8 p1.Zones)),(9,(di (p1.Zones.length:Int))),(10,(di x1.2)),(16,(dl G1 v1.Parts)),(17,(di (v1.Parts.length:Int))),(18,(di x2.2))],G [((1,u1),some<|.box 27 (I4 p1)),((42,g4),oB 93 4 I7 x2.1),((4,u4),some<|.box 45 [(dl G1 v1.Parts),(di v1.Signal_)]),((6,u7),some<|.box 91 (Nh v2))]⟩) (C3 (U2 Z)<|sg Z<|D3 (gq Z)<|sg Z<|B7 G_hit (.of Z) trivial) ?_
 refine O9 fun u9 _=>B6 (oS x2.1 (42,g4)) Z Z (sv Z<|sq Z<|sl Z (gq Z) Z (sv Z<|B6 (dl I7 [(Clash.mk 2 x1.2 v2.Lane_ (-1))]) Z Z (bs hz2 fun _ hv5 hz2=>J2 I7 (42,g4) x2.1 (Clash.mk 2 x1.2 v2.Lane_ (-1)) [] _ (F4<|fun _=>Z) Z (gq Z) hv5 (ss Z<|A1<|D9<|A5 (s0:=⟨T [(1,(.ptr _ _)),(2,(.sl _)),(3,(.d _)),(4,(.ptr _ _)),(8,(.d _)),(9,(.d _)),(10,(.d _)),(16,(.d _)),(17,(.d _)),(18,(.d _))],G [((1,u1),some<|.box 27 _),((42,u9),some _),((4,u4),some<|.box 45 _)]⟩) (D2 Z Z) ?_))))
 refine B0<|sv Z<|sv Z<|A1<|E7 ?_
 cases hz2
 exact ⟨Z,u9,(C3 ⟨.of Z,(.of (Ai<|O0 hv5).symm), .of Z, .of Z, .of Z, .of Z, .of Z, .of Z, .of Z, .of Z,trivial⟩<|B7 G_hit (.of Z)<|sg Z<|P5 (gq Z) trivial)⟩
 refine A9<|D9<|A5 (s0:=⟨T [(1,(.ptr (1,u1) 0)),(2,(oS x2.1 (42,g4))),(3,(di x1.2)),(4,(.ptr (4,u4) 0)),(8,(dl N8 p1.Zones)),(9,(di (p1.Zones.length:Int))),(10,(di x1.2)),(16,(dl G1 v1.Parts)),(17,(di (v1.Parts.length:Int))),(18,(di x2.2))],G [((1,u1),some<|.box 27 (I4 p1)),((42,g4),oB 93 4 I7 x2.1),((4,u4),some<|.box 45 [(dl G1 v1.Parts),(di v1.Signal_)])]⟩) (C3 (U2 Z)<|sg Z<|D3 (gq Z)<|sg Z trivial) ?_
 refine B0<|sv Z<|sv Z<|A1<|E7 ?_
 cases hz2
 exact ⟨Z,g4,(C3 (U2 Z)<|B7 G_hit (.of Z)<|sg Z<|D3 (gq Z) trivial)⟩
 refine C5 Z ?_
 cases hz2
 obtain rfl:=ez2 _ rfl
 refine ⟨nofun,C4 Z<|Y5 ?_⟩
 exact ⟨g4,(C3 (U2 Z)<|B7 G_hit (.of Z)<|D3 (gq Z) trivial)⟩
 rintro _ ⟨g3,q1⟩
 refine D9<|A5 q1<|B0<|sv Z<|sv Z<|A1<|E7 ?_
 cases hz1
 exact ⟨Z,g3,(C3 (U2 Z)<|B7 G_hit (.of Z)<|D3 (gq Z) trivial)⟩
 refine C5 Z ?_
 cases hz1
 obtain rfl:=ez1 _ rfl
 refine ⟨nofun,C4 Z<|Y5 ?_⟩
 exact ⟨g2,(C3 ⟨.of Z,trivial⟩<|D3 (gq Z) trivial)⟩
 rintro _ ⟨g1,q2⟩
 refine A5 q2<|B5<|B6 (oS y1 (42,g1)) Z Z (B6 (oS y1 (42,g1)) Z Z (A1<|B1 ?_))
 cases h
 exact A8 (.inr Z) (B4 (B2 Z)<|Ed G_hit) Ec
def Y9 [Lp](p1:Map)(p2:Zone)(x1:((List Int)×Int)):Option (Stp ((List Int)×Int) (List Int)):=
  cond (decide (x1.2< (p2.Parts.length:Int))) ((D6 p2.Parts x1.2).bind fun v1=>(Cl p1 p2 v1.Lane_).bind fun v2=>cond v2 ((U5 x1.1 [v1.Lane_]).bind fun v3=>some (.go (v3,(I8 (x1.2+1))))) (some (.go (x1.1,(I8 (x1.2+1)))))) (some (.out x1.1))
def Y6 [Lp](p1:Map)(p2:Zone):Option (List Int):=
  (loop (Y9 p1 p2) ([],0)).bind fun y1=>some y1
theorem Gx(p1 p2 r)(h:Y6 p1 p2=some r):PCall prog 248 [(.agg (O1 p1)),(.agg [(.list (List.map G1 p2.Parts)),(i64 p2.Signal_)])] (.list (List.map A7 r)):=by
 refine C0 (fk func248 ntmps248 (fun r=>if r==6 then [1003]else []) (by with_unfolding_all rfl)) (nl Z) ?_
 unfold Y6 at h
 refine A5 (s0:=⟨T [(0,(.d _)),(1,(.d _))],G []⟩) (D2 Z Z) ?_
 refine lr<|fun u1 _=>sm Z<|sm Z<|sv Z<|A1<|B5<|sv Z<|A1<|A2<|B5<|sq Z<|sl Z G_hit Z<|sd Z (C1 Z)<|sv Z<|A1<|bs h fun y1 hy1 h=>D5 (fun s=> ∃g1:Nat,Sb ⟨T [(5,(oS y1 (24,g1)))],G [((24,g1),oB 3 1 A7 y1)]⟩ s) ?_ ?_
 refine A6<|E0 (Y9 p1 p2) (fun (x1:((List Int)×Int)) (g2:Nat)=>⟨T [(2,(.ptr (2,u1) 0)),(3,(.ptr (3,u1) 0)),(5,(oS x1.1 (24,g2))),(9,(dl G1 p2.Parts)),(10,(di (p2.Parts.length:Int))),(11,(di x1.2))],G [((2,u1),some<|.box 27 (I4 p1)),((3,u1),some<|.box 45 [(dl G1 p2.Parts),(di p2.Signal_)]),((24,g2),oB 3 1 A7 x1.1)]⟩) ([],0) 0 _ hy1 (C3 (U2 Z)<|sg Z<|B7 G_hit (.of Z)<|Y1 trivial) ?_
 intro x1 g2 z1 hz1 ez1
 unfold Y9 at hz1
 refine B5<|sv Z<|A1<|A2<|cc Z hz1 (fun c1 hz1=> ?_)<|fun c1 hz1=> ?_
 refine A9<|A2<|A6<|B5<|bs hz1 fun v1 hv1 hz1=>sd Z (C9 Z Z hv1 Z)<|sd Z (B9 Z hv1 Z Z)<|sm Z<|Aj Z G_hit (Nh v1) Z (A1<|B5<|sd Z (B3 Z (gq Z) Z Z)<|sd Z (B3 Z (gq Z) Z Z)<|sq Z<|sl Z G_hit Z<|bs hz1 fun _ hv2 hz1=>B8 Z Z A3 (Ji _ _ _ _ hv2) (.inl Z) (A1<|cc Z hz1 (fun c2 hz1=> ?_)<|fun c2 hz1=> ?_))
 refine O9 fun u7 _=>B6 (oS x1.1 (24,g2)) Z Z (sq Z<|sl Z G_hit Z<|B6 (dl A7 [v1.Lane_]) Z Z (bs hz1 fun _ hv3 hz1=>J2 A7 (24,g2) x1.1 v1.Lane_ [] _ (F4<|fun _=>Z) Z (gq Z) hv3 (ss Z<|A1<|D9<|A5 (s0:=⟨T [(2,(.ptr _ _)),(3,(.ptr _ _)),(5,(.sl _)),(9,(.d _)),(10,(.d _)),(11,(.d _))],G [((2,u1),some<|.box 27 _),((3,u1),some<|.box 45 _),((24,u7),some _)]⟩) (D2 Z Z) ?_)))
 refine B0<|sv Z<|sv Z<|A1<|E7 ?_
 cases hz1
 exact ⟨Z,u7,(C3 ⟨.of Z, .of Z,(.of (Ai<|O0 hv3).symm), .of Z, .of Z, .of Z,trivial⟩<|B7 G_hit (.of Z)<|sg Z<|P5 (gq Z) trivial)⟩
 refine A9<|D9<|B0<|sv Z<|sv Z<|A1<|E7 ?_
 cases hz1
 exact ⟨Z,g2,(C3 (U2 Z)<|sg Z<|sg Z<|D3 (gq Z) trivial)⟩
 refine C5 Z ?_
 cases hz1
 obtain rfl:=ez1 _ rfl
 refine ⟨nofun,C4 Z<|Y5 ?_⟩
 exact ⟨g2,(C3 ⟨.of Z,trivial⟩<|D3 (gq Z) trivial)⟩
 rintro _ ⟨g1,q1⟩
 refine A5 q1<|B5<|B6 (oS y1 (24,g1)) Z Z (B6 (oS y1 (24,g1)) Z Z (A1<|B1 ?_))
 cases h
 exact A8 (.inr Z) (B4 (B2 Z)<|Ed G_hit) Ec
def Dq [Lp](p1:Zone)(p2:Int)(p3:Int):Option Bool:=
  (Ct p1 p2).bind fun v1=>(Ct p1 p3).bind fun v2=>some ((p1.Signal_==0)&& (v1.1.Rank==v2.1.Rank))
theorem Sh(p1 p2 p3 r)(h:Dq p1 p2 p3=some r):PCall prog 186 [(.agg [(.list (List.map G1 p1.Parts)),(i64 p1.Signal_)]),(i64 p2),(i64 p3)] (bo r):=by
 refine C0 (fk func186 ntmps186 m0 (by with_unfolding_all rfl)) (nl Z) ?_
 unfold Dq at h
 refine A5 (s0:=⟨T [(0,(.d _)),(1,(.d _)),(2,(.d _))],G []⟩) (D2 Z Z) ?_
 refine lr<|fun u1 _=>sm Z<|sv Z<|A1<|lr<|fun u2 _=>sd Z (B3 Z G_hit Z Z)<|sv Z<|bs h fun v1 hv1 h=>B8 Z Z A3 (Hf _ _ _ hv1) (.inl Z) (sv Z<|sv Z<|sv Z<|sm Z<|Aj Z G_hit (Nh v1.1) Z (sv Z<|A1<|lr<|fun u3 _=>sd Z (B3 Z (gq Z) Z Z)<|sv Z<|bs h fun v2 hv2 h=>B8 Z Z A3 (Hf _ _ _ hv2) (.inl Z) (sv Z<|sv Z<|sv Z<|sm Z<|Aj Z G_hit (Nh v2.1) Z (sv Z<|A1<|A2<|A5 (s0:=⟨T [(3,(.ptr _ _)),(7,(.ptr _ _)),(9,(.ptr _ _))],G [((3,u1),some<|.box 45 _),((7,u2),some<|.box 91 _),((9,u3),some<|.box 91 _)]⟩) (D2 Z Z) ?_))))
 refine B0<|sq Z<|sl Z G_hit Z<|sv Z<|sv Z<|gp Z (P4 Z) (fun _=>Z) (gt Z (vl Z (gq Z) Z)<|gp Z (P4 Z) (fun _=>Z) (gt Z (vl Z (gq Z) Z)<|gt Z (fun w5=>(T1 (A4 w5) (A4 w5) Z))<|sa Z Z Z<|sv Z<|A1<|B1 ?_))
 cases h
 exact A8 (.inr Z) (B4 (B2 Z) C2) (.refl _)
def L5 [Lp](p2:Int)(x1:((List Clash)×Int))(v1:Zone)(v3:Int)(v4:List Int)(x3:((List Clash)×Int)):Option (Stp ((List Clash)×Int) (List Clash)):=
  cond (decide (x3.2< (v4.length:Int))) ((D6 v4 x3.2).bind fun v5=>(Dq v1 v3 v5).bind fun v6=>cond v6 ((U5 x3.1 [(Clash.mk p2 x1.2 v3 v5)]).bind fun v7=>some (.go (v7,(I8 (x3.2+1))))) (some (.go (x3.1,(I8 (x3.2+1)))))) (some (.out x3.1))
def L6 [Lp](p2:Int)(x1:((List Clash)×Int))(v1:Zone)(v2:(List Int))(x2:((List Clash)×Int)):Option (Stp ((List Clash)×Int) (List Clash)):=
  cond (decide (x2.2< (v2.length:Int))) ((D6 v2 x2.2).bind fun v3=>(CD v2 (I8 (x2.2+1)) (v2.length:Int)).bind fun v4=>(loop (L5 p2 x1 v1 v3 v4) (x2.1,0)).bind fun y3=>some (.go (y3,(I8 (x2.2+1))))) (some (.out x2.1))
def L7 [Lp](p1:Map)(p2:Int)(x1:((List Clash)×Int)):Option (Stp ((List Clash)×Int) (List Clash)):=
  cond (decide (x1.2< (p1.Zones.length:Int))) ((D6 p1.Zones x1.2).bind fun v1=>(Y6 p1 v1).bind fun v2=>(loop (L6 p2 x1 v1 v2) (x1.1,0)).bind fun y2=>some (.go (y2,(I8 (x1.2+1))))) (some (.out x1.1))
def P2 [Lp](p1:Map)(p2:Int):Option (List Clash):=
  (loop (L7 p1 p2) ([],0)).bind fun y1=>some y1
theorem Hu(p1 p2 r)(h:P2 p1 p2=some r):PCall prog 185 [(.agg (O1 p1)),(i64 p2),(.fn (.func 186) [] [])] (.list (List.map I7 r)):=by
 refine C0 (fk func185 ntmps185 (fun r=>if r==12 then [1006]else []) (by with_unfolding_all rfl)) (nl Z) ?_
 unfold P2 at h
 refine A5 (s0:=⟨T [(0,(.d _)),(1,(.d _)),(2,(.d _))],G []⟩) (D2 Z Z) ?_
 refine lr<|fun u1 _=>sm Z<|sv Z<|A1<|A2<|B5<|sq Z<|sl Z G_hit Z<|sd Z (C1 Z)<|sv Z<|A1<|bs h fun y1 hy1 h=>D5 (fun s=> ∃g1:Nat,Sb ⟨T [(6,(oS y1 (53,g1)))],G [((53,g1),oB 93 4 I7 y1)]⟩ s) ?_ ?_
 refine A6<|E0 (L7 p1 p2) (fun (x1:((List Clash)×Int)) (g2:Nat)=>⟨T [(1,(di p2)),(2,(.d (.fn (.func 186) [] []))),(3,(.ptr (3,u1) 0)),(6,(oS x1.1 (53,g2))),(15,(dl N8 p1.Zones)),(16,(di (p1.Zones.length:Int))),(17,(di x1.2))],G [((3,u1),some<|.box 27 (I4 p1)),((53,g2),oB 93 4 I7 x1.1)]⟩) ([],0) 0 _ hy1 (C3 (U2 Z)<|B7 G_hit (.of Z)<|Y1 trivial) ?_
 intro x1 g2 z1 hz1 ez1
 unfold L7 at hz1
 refine B5<|sv Z<|A1<|A2<|cc Z hz1 (fun c1 hz1=> ?_)<|fun c1 hz1=> ?_
 refine A9<|A2<|A6<|lr<|fun u4 _=>sv Z<|bs hz1 fun v1 hv1 hz1=>sd Z (C9 Z Z hv1 Z)<|sd Z (B9 Z hv1 Z Z)<|sm Z<|sv Z<|Aj Z G_hit [(dl G1 v1.Parts),(di v1.Signal_)] Z (A1<|B5<|sd Z (B3 Z (gq Z) Z Z)<|sd Z (B3 Z G_hit Z Z)<|bs hz1 fun v2 hv2 hz1=>B8 Z Z A3 (Gx _ _ _ hv2) (.inl Z) (sv Z<|A1<|B5<|sv Z<|sd Z (C1 Z)<|sv Z<|A1<|bs hz1 fun y2 hy2 hz1=>D5 (fun s=> ∃g3:Nat,Sb ⟨T [(1,(di p2)),(2,(.d (.fn (.func 186) [] []))),(3,(.ptr (3,u1) 0)),(6,(oS y2 (53,g3))),(15,(dl N8 p1.Zones)),(16,(di (p1.Zones.length:Int))),(17,(di x1.2))],G [((3,u1),some<|.box 27 (I4 p1)),((53,g3),oB 93 4 I7 y2)]⟩ s) ?_ ?_))
 refine A6<|E0 (L6 p2 x1 v1 v2) (fun (x2:((List Clash)×Int)) (g4:Nat)=>⟨T [(1,(di p2)),(2,(.d (.fn (.func 186) [] []))),(3,(.ptr (3,u1) 0)),(6,(oS x2.1 (53,g4))),(7,(di x1.2)),(8,(.ptr (8,u4) 0)),(9,(dl A7 v2)),(15,(dl N8 p1.Zones)),(16,(di (p1.Zones.length:Int))),(17,(di x1.2)),(25,(dl A7 v2)),(26,(di (v2.length:Int))),(27,(di x2.2))],G [((3,u1),some<|.box 27 (I4 p1)),((8,u4),some<|.box 45 [(dl G1 v1.Parts),(di v1.Signal_)]),((53,g4),oB 93 4 I7 x2.1)]⟩) (x1.1,0) g2 _ hy2 (C3 (U2 Z)<|sg Z<|B7 G_hit (.of Z)<|D3 (gq Z) trivial) ?_
 intro x2 g4 z2 hz2 ez2
 unfold L6 at hz2
 refine B5<|sv Z<|A1<|A2<|cc Z hz2 (fun c2 hz2=> ?_)<|fun c2 hz2=> ?_
 refine A9<|A2<|A6<|B5<|sv Z<|bs hz2 fun v3 hv3 hz2=>sd Z (C9 Z Z hv3 Z)<|sd Z (F5 Z hv3 Z)<|sv Z<|sv Z<|A1<|B5<|sv Z<|sv Z<|sv Z<|bs hz2 fun v4 hv4 hz2=>sd Z (GM Z (fun _=>Z) (OS Z) Zz hv4)<|sd Z (C1 Z)<|sv Z<|A1<|bs hz2 fun y3 hy3 hz2=>D5 (fun s=> ∃g5:Nat,Sb ⟨T [(1,(di p2)),(2,(.d (.fn (.func 186) [] []))),(3,(.ptr (3,u1) 0)),(6,(oS y3 (53,g5))),(7,(di x1.2)),(8,(.ptr (8,u4) 0)),(9,(dl A7 v2)),(15,(dl N8 p1.Zones)),(16,(di (p1.Zones.length:Int))),(17,(di x1.2)),(25,(dl A7 v2)),(26,(di (v2.length:Int))),(27,(di x2.2))],G [((3,u1),some<|.box 27 (I4 p1)),((8,u4),some<|.box 45 [(dl G1 v1.Parts),(di v1.Signal_)]),((53,g5),oB 93 4 I7 y3)]⟩ s) ?_ ?_
 refine A6<|E0 (L5 p2 x1 v1 v3 v4) (fun (x3:((List Clash)×Int)) (g6:Nat)=>⟨T [(1,(di p2)),(2,(.d (.fn (.func 186) [] []))),(3,(.ptr (3,u1) 0)),(6,(oS x3.1 (53,g6))),(7,(di x1.2)),(8,(.ptr (8,u4) 0)),(9,(dl A7 v2)),(11,(di v3)),(15,(dl N8 p1.Zones)),(16,(di (p1.Zones.length:Int))),(17,(di x1.2)),(25,(dl A7 v2)),(26,(di (v2.length:Int))),(27,(di x2.2)),(35,(dl A7 v4)),(36,(di (v4.length:Int))),(37,(di x3.2))],G [((3,u1),some<|.box 27 (I4 p1)),((8,u4),some<|.box 45 [(dl G1 v1.Parts),(di v1.Signal_)]),((53,g6),oB 93 4 I7 x3.1)]⟩) (x2.1,0) g4 _ hy3 (C3 (U2 Z)<|B7 G_hit (.of Z)<|sg Z<|D3 (gq Z) trivial) ?_
 intro x3 g6 z3 hz3 ez3
 unfold L5 at hz3
 refine B5<|sv Z<|A1<|A2<|cc Z hz3 (fun c3 hz3=> ?_)<|fun c3 hz3=> ?_
 refine A9<|A2<|A6<|B5<|bs hz3 fun v5 hv5 hz3=>sd Z (C9 Z Z hv5 Z)<|sd Z (F5 Z hv5 Z)<|sv Z<|A1<|B5<|sv Z<|sd Z (B3 Z (gq Z) Z Z)<|sv Z<|sv Z<|bs hz3 fun _ hv6 hz3=>B8 Z Z A3 (Sh _ _ _ _ hv6) (.inl Z) (A1<|cc Z hz3 (fun c4 hz3=> ?_)<|fun c4 hz3=> ?_)
 refine A5 (s0:=⟨T [(1,(di p2)),(2,(.d (.fn (.func 186) [] []))),(3,(.ptr (3,u1) 0)),(6,(oS x3.1 (53,g6))),(7,(di x1.2)),(8,(.ptr (8,u4) 0)),(9,(dl A7 v2)),(11,(di v3)),(13,(di v5)),(15,(dl N8 p1.Zones)),(16,(di (p1.Zones.length:Int))),(17,(di x1.2)),(25,(dl A7 v2)),(26,(di (v2.length:Int))),(27,(di x2.2)),(35,(dl A7 v4)),(36,(di (v4.length:Int))),(37,(di x3.2))],G [((3,u1),some<|.box 27 (I4 p1)),((53,g6),oB 93 4 I7 x3.1),((8,u4),some<|.box 45 [(dl G1 v1.Parts),(di v1.Signal_)])]⟩) (C3 (U2 Z)<|B7 G_hit (.of Z)<|D3 (gq Z)<|sg Z trivial) ?_
 refine O9 fun u13 _=>B6 (oS x3.1 (53,g6)) Z Z (sv Z<|sv Z<|sv Z<|sv Z<|sv Z<|B6 (dl I7 [(Clash.mk p2 x1.2 v3 v5)]) Z Z (bs hz3 fun _ hv7 hz3=>J2 I7 (53,g6) x3.1 (Clash.mk p2 x1.2 v3 v5) [] _ (F4<|fun _=>Z) Z (gq Z) hv7 (ss Z<|A1<|D9<|A5 (s0:=⟨T [(1,(.d _)),(2,(.d _)),(3,(.ptr _ _)),(6,(.sl _)),(7,(.d _)),(8,(.ptr _ _)),(9,(.d _)),(11,(.d _)),(15,(.d _)),(16,(.d _)),(17,(.d _)),(25,(.d _)),(26,(.d _)),(27,(.d _)),(35,(.d _)),(36,(.d _)),(37,(.d _))],G [((3,u1),some<|.box 27 _),((53,u13),some _),((8,u4),some<|.box 45 _)]⟩) (D2 Z Z) ?_)))
 refine B0<|sv Z<|sv Z<|A1<|E7 ?_
 cases hz3
 exact ⟨Z,u13,(C3 ⟨.of Z, .of Z, .of Z,(.of (Ai<|O0 hv7).symm), .of Z, .of Z, .of Z, .of Z, .of Z, .of Z, .of Z, .of Z, .of Z, .of Z, .of Z, .of Z, .of Z,trivial⟩<|B7 G_hit (.of Z)<|sg Z<|P5 (gq Z) trivial)⟩
 refine A9<|D9<|A5 (s0:=⟨T [(1,(di p2)),(2,(.d (.fn (.func 186) [] []))),(3,(.ptr (3,u1) 0)),(6,(oS x3.1 (53,g6))),(7,(di x1.2)),(8,(.ptr (8,u4) 0)),(9,(dl A7 v2)),(11,(di v3)),(15,(dl N8 p1.Zones)),(16,(di (p1.Zones.length:Int))),(17,(di x1.2)),(25,(dl A7 v2)),(26,(di (v2.length:Int))),(27,(di x2.2)),(35,(dl A7 v4)),(36,(di (v4.length:Int))),(37,(di x3.2))],G [((3,u1),some<|.box 27 (I4 p1)),((53,g6),oB 93 4 I7 x3.1),((8,u4),some<|.box 45 [(dl G1 v1.Parts),(di v1.Signal_)])]⟩) (C3 (U2 Z)<|B7 G_hit (.of Z)<|D3 (gq Z)<|sg Z trivial) ?_
 refine B0<|sv Z<|sv Z<|A1<|E7 ?_
 cases hz3
 exact ⟨Z,g6,(C3 (U2 Z)<|B7 G_hit (.of Z)<|sg Z<|D3 (gq Z) trivial)⟩
 refine C5 Z ?_
 cases hz3
 obtain rfl:=ez3 _ rfl
 refine ⟨nofun,C4 Z<|Y5 ?_⟩
 exact ⟨g6,(C3 (U2 Z)<|B7 G_hit (.of Z)<|sg Z<|D3 (gq Z) trivial)⟩
 rintro _ ⟨g5,q1⟩
 refine D9<|A5 q1<|B0<|sv Z<|sv Z<|A1<|E7 ?_
 cases hz2
 exact ⟨Z,g5,(C3 (U2 Z)<|B7 G_hit (.of Z)<|sg Z<|D3 (gq Z) trivial)⟩
 refine C5 Z ?_
 cases hz2
 obtain rfl:=ez2 _ rfl
 refine ⟨nofun,C4 Z<|Y5 ?_⟩
 exact ⟨g4,(C3 (U2 Z)<|B7 G_hit (.of Z)<|D3 (gq Z) trivial)⟩
 rintro _ ⟨g3,q2⟩
 refine D9<|A5 q2<|B0<|sv Z<|sv Z<|A1<|E7 ?_
 cases hz1
 exact ⟨Z,g3,(C3 (U2 Z)<|B7 G_hit (.of Z)<|D3 (gq Z) trivial)⟩
 refine C5 Z ?_
 cases hz1
 obtain rfl:=ez1 _ rfl
 refine ⟨nofun,C4 Z<|Y5 ?_⟩
 exact ⟨g2,(C3 ⟨.of Z,trivial⟩<|D3 (gq Z) trivial)⟩
 rintro _ ⟨g1,q3⟩
 refine A5 q3<|B5<|B6 (oS y1 (53,g1)) Z Z (B6 (oS y1 (53,g1)) Z Z (A1<|B1 ?_))
 cases h
 exact A8 (.inr Z) (B4 (B2 Z)<|Ed G_hit) Ec
def Ft [Lp](p1:Map):Option (List Clash):=
  (P2 p1 3).bind fun v1=>some v1
theorem Wf(p1 r)(h:Ft p1=some r):PCall prog 79 [(.agg (O1 p1))] (.list (List.map I7 r)):=by
 refine C0 (fk func79 ntmps79 m0 (by with_unfolding_all rfl)) (nl Z) ?_
 unfold Ft at h
 refine A5 (s0:=⟨T [(0,(.d _))],G []⟩) (D2 Z Z) ?_
 refine B5<|sm Z<|sv Z<|A1<|B5<|sd Z (B3 Z G_hit Z Z)<|bs h fun _ hv1 h=>B8 Z Z A3 (Hu _ _ _ hv1) (.inl Z) (sv Z<|A1<|B1 ?_)
 cases h
 exact A8 (.inr Z) (B4 (B2 Z) C2) (.refl _)
def S6 [Lp](p1:Phase)(p2:Int)(p3:Int):Option Bool:=
  (J3 p1.Green p2).bind fun v1=>((cond v1 (J3 p1.Green p3) (some default))).bind fun v2=>some (v1&&v2)
theorem Kv(p1 p2 p3 r)(h:S6 p1 p2 p3=some r):PCall prog 188 [(.agg [(i64 p1.Ticks),(.list (List.map A7 p1.Green))]),(.bp [(i64 p2)] 0),(.bp [(i64 p3)] 0)] (bo r):=by
 refine C0 (fk func188 ntmps188 m0 (by with_unfolding_all rfl)) (nl Z) ?_
 unfold S6 at h
 refine A5 (s0:=⟨T [(0,(.d _)),(1,(.d _)),(2,(.d _))],G []⟩) (D2 Z Z) ?_
 refine B5<|sm Z<|sv Z<|A1<|B5<|sq Z<|sl Z G_hit Z<|sv Z<|bs h fun v1 hv1 h=>B8 Z Z A3 (T6 _ _ _ hv1) (.inl Z) (sv Z<|gp Z (P4 Z) (fun _=>Z) (gt Z (vl Z G_hit Z)<|gt Z (fun _=>Z)<|bs h fun v2 hv2 h=> ?_))
 refine L4 v1 (bo v2) (P4 Z) (fun w4=>⟨_,[(dl A7 p1.Green),(di p3)],_,_,(by simp only [A4 w4];rfl),Z,A3,T6 _ _ _<|G0 w4 hv2,(.inl Z)⟩) ?_
 refine sa Z Z Z<|sv Z<|A1<|B1 ?_
 cases h
 exact A8 (.inr Z) (B4 (B2 Z) C2) (.refl _)
def E5 [Lp](p1:(List Phase))(p2:Int)(p3:Int)(x1:Int):Option (Stp Int (Sum Unit Int)):=
  cond (decide (x1< (p1.length:Int))) ((D6 p1 x1).bind fun v1=>(S6 v1 p2 p3).bind fun v2=>cond v2 (some (.out (.inr x1))) (some (.go (I8 (x1+1))))) (some (.out (.inl ())))
def F0 [Lp](p1:(List Phase))(p2:Int)(p3:Int):Option Int:=
  thenS (loop (E5 p1 p2 p3) 0) (fun _=>some (-1)) (fun r=>some r)
theorem Z5(p1 p2 p3 r)(h:F0 p1 p2 p3=some r):PCall prog 237 [(.list (List.map G3 p1)),(.fn (.func 188) [] [(.bp [(i64 p2)] 0),(.bp [(i64 p3)] 0)])] (i64 r):=by
 refine C0 (fk func237 ntmps237 m0 (by with_unfolding_all rfl)) (nl Z) ?_
 unfold F0 at h
 refine A5 (s0:=⟨T [(0,(.d _)),(1,(.d _))],G []⟩) (D2 Z Z) ?_
 refine B5<|sv Z<|A1<|A2<|B5<|sv Z<|sd Z (C1 Z)<|sv Z<|A1<|js h fun z1 hz1 h=>D5 (fun s=> ∃(y1:Unit) (g1:Unit),z1= .inl y1∧Sb ⟨T [],G []⟩ s) ?_ ?_
 refine A6<|E0 (E5 p1 p2 p3) (fun (x1:Int) (g2:Unit)=>⟨T [(0,(dl G3 p1)),(1,(.d (.fn (.func 188) [] [(.bp [(i64 p2)] 0),(.bp [(i64 p3)] 0)]))),(7,(di (p1.length:Int))),(8,(di x1))],G []⟩) 0 () _ hz1 (D2 Z Z) ?_
 intro x1 g2 z2 hz2 ez2
 unfold E5 at hz2
 refine B5<|sv Z<|A1<|A2<|cc Z hz2 (fun c1 hz2=> ?_)<|fun c1 hz2=> ?_
 refine A9<|A2<|A6<|B5<|sv Z<|sv Z<|A1<|B5<|sv Z<|sv Z<|sv Z<|bs hz2 fun _ hv1 hz2=>sd Z (C9 Z Z hv1 Z)<|sd Z (B9 Z hv1 Z Z)<|bs hz2 fun _ hv2 hz2=>B8 Z Z A3 (Kv _ _ _ _ hv2) (.inl Z) (A1<|cc Z hz2 (fun c2 hz2=> ?_)<|fun c2 hz2=> ?_)
 refine B5<|sv Z<|sv Z<|A1<|B1 ?_
 cases hz2
 obtain rfl:=ez2 _ rfl
 refine ⟨nofun,E4 ?_⟩
 rw [bJ]at h
 cases h
 exact A8 (.inr Z) (B4 (B2 Z) C2) (.refl _)
 refine A9<|D9<|B0<|sv Z<|sv Z<|A1<|E7 ?_
 cases hz2
 exact ⟨Z,(),(D2 Z Z)⟩
 refine C5 Z ?_
 cases hz2
 obtain rfl:=ez2 _ rfl
 refine ⟨nofun,C4 Z<|Y5 ?_⟩
 exact ⟨_,(),Z,(D2 Z Z)⟩
 rintro _ ⟨y1,g1,rfl,q1⟩
 rw [bI]at h
 refine A5 q1<|B5<|sv Z<|A1<|B1 ?_
 cases h
 exact A8 (.inr Z) (B4 (B2 Z) C2) (.refl _)
def E6 [Lp](p1:(List Phase))(p2:Int)(p3:Int):Option Bool:=
  (F0 p1 p2 p3).bind fun v1=>some (decide (v1≥0))
theorem Y0(p1 p2 p3 r)(h:E6 p1 p2 p3=some r):PCall prog 172 [(.list (List.map G3 p1)),(.fn (.func 188) [] [(.bp [(i64 p2)] 0),(.bp [(i64 p3)] 0)])] (bo r):=by
 refine C0 (fk func172 ntmps172 m0 (by with_unfolding_all rfl)) (nl Z) ?_
 unfold E6 at h
 refine A5 (s0:=⟨T [(0,(.d _)),(1,(.d _))],G []⟩) (D2 Z Z) ?_
 refine B5<|sv Z<|A1<|B5<|sv Z<|sv Z<|bs h fun _ hv1 h=>B8 Z Z A3 (Z5 _ _ _ _ hv1) (.inl Z) (sv Z<|sv Z<|A1<|B1 ?_)
 cases h
 exact A8 (.inr Z) (B4 (B2 Z) C2) (.refl _)
def V0 [Lp](p1:Zone)(p2:Int)(p3:Int)(p4:Map):Option Bool:=
  ((cond (decide (p1.Signal_>0)) (D6 p4.Signals (I8 (p1.Signal_ - 1))) (some default))).bind fun v1=>((cond (decide (p1.Signal_>0)) (E6 v1.Phases p2 p3) (some default))).bind fun v2=>some ((decide (p1.Signal_>0))&&v2)
theorem Hz(p1 p2 p3 p4 r)(h:V0 p1 p2 p3 p4=some r):PCall prog 187 [(.agg [(.list (List.map G1 p1.Parts)),(i64 p1.Signal_)]),(i64 p2),(i64 p3),(.bp (O1 p4) 0)] (bo r):=by
 refine C0 (fk func187 ntmps187 m0 (by with_unfolding_all rfl)) (nl Z) ?_
 unfold V0 at h
 refine A5 (s0:=⟨T [(0,(.d _)),(1,(.d _)),(2,(.d _)),(3,(.d _))],G []⟩) (D2 Z Z) ?_
 refine lr<|fun u1 _=>sm Z<|sm Z<|sn Z Z<|sv Z<|A1<|B5<|sq Z<|sl Z (gq Z) Z (sv Z<|sv Z<|gt Z (fun _=>Z) ?_)
 refine gt Z (fun w2=>(by simp only [A4 w2];rfl)) ?_
 refine gp Z (P4 Z) (fun _=>Z) (gt Z (vl Z (gq Z) Z)<|gt Z (vb Z Z Z)<|bs h fun v1 hv1 h=>gt Z (fun w6=>(C9 (A4 w6) (A4 w6) (G0 w6 hv1) Z)) ?_)
 refine gt Z (fun w7=>(by simp only [A4 w7];rfl)) ?_
 refine gt Z (fun w8=>(F5 (A4 w8) (G0 w8 hv1) Z))<|Ck _ (.fn _ _ _) Z (P4 Z) (fun _=>Z) (bs h fun v2 hv2 h=> ?_)
 refine L4 _ (bo v2) (P4 Z) (fun w10=>⟨_,[(dl G3 v1.Phases),(.fn (.func 188) [] [(.ptr (5,u1) 0),(.ptr (6,u1) 0)])],_,_,(by simp only [A4 w10];rfl),(rD<|O4 (Yj K9<|O4 (Ki (gq Z)<|rD K9)<|O4 (Ki G_hit<|rD K9) K9) K9),A3,Y0 _ _ _ _<|G0 w10 hv2,(.inr Z)⟩) ?_
 refine sa Z Z Z<|sv Z<|A1<|B1 ?_
 cases h
 exact A8 (.inr Z) (B4 (B2 Z) C2) (.refl _)
def V1 [Lp](p2:Int)(p3:Map)(x1:((List Clash)×Int))(v1:Zone)(v3:Int)(v4:List Int)(x3:((List Clash)×Int)):Option (Stp ((List Clash)×Int) (List Clash)):=
  cond (decide (x3.2< (v4.length:Int))) ((D6 v4 x3.2).bind fun v5=>(V0 v1 v3 v5 p3).bind fun v6=>cond v6 ((U5 x3.1 [(Clash.mk p2 x1.2 v3 v5)]).bind fun v7=>some (.go (v7,(I8 (x3.2+1))))) (some (.go (x3.1,(I8 (x3.2+1)))))) (some (.out x3.1))
def V2 [Lp](p2:Int)(p3:Map)(x1:((List Clash)×Int))(v1:Zone)(v2:(List Int))(x2:((List Clash)×Int)):Option (Stp ((List Clash)×Int) (List Clash)):=
  cond (decide (x2.2< (v2.length:Int))) ((D6 v2 x2.2).bind fun v3=>(CD v2 (I8 (x2.2+1)) (v2.length:Int)).bind fun v4=>(loop (V1 p2 p3 x1 v1 v3 v4) (x2.1,0)).bind fun y3=>some (.go (y3,(I8 (x2.2+1))))) (some (.out x2.1))
def V3 [Lp](p1:Map)(p2:Int)(p3:Map)(x1:((List Clash)×Int)):Option (Stp ((List Clash)×Int) (List Clash)):=
  cond (decide (x1.2< (p1.Zones.length:Int))) ((D6 p1.Zones x1.2).bind fun v1=>(Y6 p1 v1).bind fun v2=>(loop (V2 p2 p3 x1 v1 v2) (x1.1,0)).bind fun y2=>some (.go (y2,(I8 (x1.2+1))))) (some (.out x1.1))
def Du [Lp](p1:Map)(p2:Int)(p3:Map):Option (List Clash):=
  (loop (V3 p1 p2 p3) ([],0)).bind fun y1=>some y1
theorem Si(p1 p2 p3 r)(h:Du p1 p2 p3=some r):PCall prog 185 [(.agg (O1 p1)),(i64 p2),(.fn (.func 187) [] [(.bp (O1 p3) 0)])] (.list (List.map I7 r)):=by
 refine C0 (fk func185 ntmps185 (fun r=>if r==12 then [1006]else []) (by with_unfolding_all rfl)) (nl Z) ?_
 unfold Du at h
 refine A5 (s0:=⟨T [(0,(.d _)),(1,(.d _)),(2,(.d _))],G []⟩) (D2 Z Z) ?_
 refine lr<|fun u1 _=>sm Z<|sv Z<|A1<|A2<|B5<|sq Z<|sl Z G_hit Z<|sd Z (C1 Z)<|sv Z<|A1<|bs h fun y1 hy1 h=>D5 (fun s=> ∃g1:Nat,Sb ⟨T [(6,(oS y1 (53,g1)))],G [((53,g1),oB 93 4 I7 y1)]⟩ s) ?_ ?_
 refine A6<|E0 (V3 p1 p2 p3) (fun (x1:((List Clash)×Int)) (g2:Nat)=>⟨T [(1,(di p2)),(2,(.d (.fn (.func 187) [] [(.bp (O1 p3) 0)]))),(3,(.ptr (3,u1) 0)),(6,(oS x1.1 (53,g2))),(15,(dl N8 p1.Zones)),(16,(di (p1.Zones.length:Int))),(17,(di x1.2))],G [((3,u1),some<|.box 27 (I4 p1)),((53,g2),oB 93 4 I7 x1.1)]⟩) ([],0) 0 _ hy1 (C3 (U2 Z)<|B7 G_hit (.of Z)<|Y1 trivial) ?_
 intro x1 g2 z1 hz1 ez1
 unfold V3 at hz1
 refine B5<|sv Z<|A1<|A2<|cc Z hz1 (fun c1 hz1=> ?_)<|fun c1 hz1=> ?_
 refine A9<|A2<|A6<|lr<|fun u4 _=>sv Z<|bs hz1 fun v1 hv1 hz1=>sd Z (C9 Z Z hv1 Z)<|sd Z (B9 Z hv1 Z Z)<|sm Z<|sv Z<|Aj Z G_hit [(dl G1 v1.Parts),(di v1.Signal_)] Z (A1<|B5<|sd Z (B3 Z (gq Z) Z Z)<|sd Z (B3 Z G_hit Z Z)<|bs hz1 fun v2 hv2 hz1=>B8 Z Z A3 (Gx _ _ _ hv2) (.inl Z) (sv Z<|A1<|B5<|sv Z<|sd Z (C1 Z)<|sv Z<|A1<|bs hz1 fun y2 hy2 hz1=>D5 (fun s=> ∃g3:Nat,Sb ⟨T [(1,(di p2)),(2,(.d (.fn (.func 187) [] [(.bp (O1 p3) 0)]))),(3,(.ptr (3,u1) 0)),(6,(oS y2 (53,g3))),(15,(dl N8 p1.Zones)),(16,(di (p1.Zones.length:Int))),(17,(di x1.2))],G [((3,u1),some<|.box 27 (I4 p1)),((53,g3),oB 93 4 I7 y2)]⟩ s) ?_ ?_))
 refine A6<|E0 (V2 p2 p3 x1 v1 v2) (fun (x2:((List Clash)×Int)) (g4:Nat)=>⟨T [(1,(di p2)),(2,(.d (.fn (.func 187) [] [(.bp (O1 p3) 0)]))),(3,(.ptr (3,u1) 0)),(6,(oS x2.1 (53,g4))),(7,(di x1.2)),(8,(.ptr (8,u4) 0)),(9,(dl A7 v2)),(15,(dl N8 p1.Zones)),(16,(di (p1.Zones.length:Int))),(17,(di x1.2)),(25,(dl A7 v2)),(26,(di (v2.length:Int))),(27,(di x2.2))],G [((3,u1),some<|.box 27 (I4 p1)),((8,u4),some<|.box 45 [(dl G1 v1.Parts),(di v1.Signal_)]),((53,g4),oB 93 4 I7 x2.1)]⟩) (x1.1,0) g2 _ hy2 (C3 (U2 Z)<|sg Z<|B7 G_hit (.of Z)<|D3 (gq Z) trivial) ?_
 intro x2 g4 z2 hz2 ez2
 unfold V2 at hz2
 refine B5<|sv Z<|A1<|A2<|cc Z hz2 (fun c2 hz2=> ?_)<|fun c2 hz2=> ?_
 refine A9<|A2<|A6<|B5<|sv Z<|bs hz2 fun v3 hv3 hz2=>sd Z (C9 Z Z hv3 Z)<|sd Z (F5 Z hv3 Z)<|sv Z<|sv Z<|A1<|B5<|sv Z<|sv Z<|sv Z<|bs hz2 fun v4 hv4 hz2=>sd Z (GM Z (fun _=>Z) (OS Z) Zz hv4)<|sd Z (C1 Z)<|sv Z<|A1<|bs hz2 fun y3 hy3 hz2=>D5 (fun s=> ∃g5:Nat,Sb ⟨T [(1,(di p2)),(2,(.d (.fn (.func 187) [] [(.bp (O1 p3) 0)]))),(3,(.ptr (3,u1) 0)),(6,(oS y3 (53,g5))),(7,(di x1.2)),(8,(.ptr (8,u4) 0)),(9,(dl A7 v2)),(15,(dl N8 p1.Zones)),(16,(di (p1.Zones.length:Int))),(17,(di x1.2)),(25,(dl A7 v2)),(26,(di (v2.length:Int))),(27,(di x2.2))],G [((3,u1),some<|.box 27 (I4 p1)),((8,u4),some<|.box 45 [(dl G1 v1.Parts),(di v1.Signal_)]),((53,g5),oB 93 4 I7 y3)]⟩ s) ?_ ?_
 refine A6<|E0 (V1 p2 p3 x1 v1 v3 v4) (fun (x3:((List Clash)×Int)) (g6:Nat)=>⟨T [(1,(di p2)),(2,(.d (.fn (.func 187) [] [(.bp (O1 p3) 0)]))),(3,(.ptr (3,u1) 0)),(6,(oS x3.1 (53,g6))),(7,(di x1.2)),(8,(.ptr (8,u4) 0)),(9,(dl A7 v2)),(11,(di v3)),(15,(dl N8 p1.Zones)),(16,(di (p1.Zones.length:Int))),(17,(di x1.2)),(25,(dl A7 v2)),(26,(di (v2.length:Int))),(27,(di x2.2)),(35,(dl A7 v4)),(36,(di (v4.length:Int))),(37,(di x3.2))],G [((3,u1),some<|.box 27 (I4 p1)),((8,u4),some<|.box 45 [(dl G1 v1.Parts),(di v1.Signal_)]),((53,g6),oB 93 4 I7 x3.1)]⟩) (x2.1,0) g4 _ hy3 (C3 (U2 Z)<|B7 G_hit (.of Z)<|sg Z<|D3 (gq Z) trivial) ?_
 intro x3 g6 z3 hz3 ez3
 unfold V1 at hz3
 refine B5<|sv Z<|A1<|A2<|cc Z hz3 (fun c3 hz3=> ?_)<|fun c3 hz3=> ?_
 refine A9<|A2<|A6<|B5<|bs hz3 fun v5 hv5 hz3=>sd Z (C9 Z Z hv5 Z)<|sd Z (F5 Z hv5 Z)<|sv Z<|A1<|B5<|sv Z<|sd Z (B3 Z (gq Z) Z Z)<|sv Z<|sv Z<|bs hz3 fun _ hv6 hz3=>B8 Z Z A3 (Hz _ _ _ _ _ hv6) (.inl Z) (A1<|cc Z hz3 (fun c4 hz3=> ?_)<|fun c4 hz3=> ?_)
 refine A5 (s0:=⟨T [(1,(di p2)),(2,(.d (.fn (.func 187) [] [(.bp (O1 p3) 0)]))),(3,(.ptr (3,u1) 0)),(6,(oS x3.1 (53,g6))),(7,(di x1.2)),(8,(.ptr (8,u4) 0)),(9,(dl A7 v2)),(11,(di v3)),(13,(di v5)),(15,(dl N8 p1.Zones)),(16,(di (p1.Zones.length:Int))),(17,(di x1.2)),(25,(dl A7 v2)),(26,(di (v2.length:Int))),(27,(di x2.2)),(35,(dl A7 v4)),(36,(di (v4.length:Int))),(37,(di x3.2))],G [((3,u1),some<|.box 27 (I4 p1)),((53,g6),oB 93 4 I7 x3.1),((8,u4),some<|.box 45 [(dl G1 v1.Parts),(di v1.Signal_)])]⟩) (C3 (U2 Z)<|B7 G_hit (.of Z)<|D3 (gq Z)<|sg Z trivial) ?_
 refine O9 fun u13 _=>B6 (oS x3.1 (53,g6)) Z Z (sv Z<|sv Z<|sv Z<|sv Z<|sv Z<|B6 (dl I7 [(Clash.mk p2 x1.2 v3 v5)]) Z Z (bs hz3 fun _ hv7 hz3=>J2 I7 (53,g6) x3.1 (Clash.mk p2 x1.2 v3 v5) [] _ (F4<|fun _=>Z) Z (gq Z) hv7 (ss Z<|A1<|D9<|A5 (s0:=⟨T [(1,(.d _)),(2,(.d _)),(3,(.ptr _ _)),(6,(.sl _)),(7,(.d _)),(8,(.ptr _ _)),(9,(.d _)),(11,(.d _)),(15,(.d _)),(16,(.d _)),(17,(.d _)),(25,(.d _)),(26,(.d _)),(27,(.d _)),(35,(.d _)),(36,(.d _)),(37,(.d _))],G [((3,u1),some<|.box 27 _),((53,u13),some _),((8,u4),some<|.box 45 _)]⟩) (D2 Z Z) ?_)))
 refine B0<|sv Z<|sv Z<|A1<|E7 ?_
 cases hz3
 exact ⟨Z,u13,(C3 ⟨.of Z, .of Z, .of Z,(.of (Ai<|O0 hv7).symm), .of Z, .of Z, .of Z, .of Z, .of Z, .of Z, .of Z, .of Z, .of Z, .of Z, .of Z, .of Z, .of Z,trivial⟩<|B7 G_hit (.of Z)<|sg Z<|P5 (gq Z) trivial)⟩
 refine A9<|D9<|A5 (s0:=⟨T [(1,(di p2)),(2,(.d (.fn (.func 187) [] [(.bp (O1 p3) 0)]))),(3,(.ptr (3,u1) 0)),(6,(oS x3.1 (53,g6))),(7,(di x1.2)),(8,(.ptr (8,u4) 0)),(9,(dl A7 v2)),(11,(di v3)),(15,(dl N8 p1.Zones)),(16,(di (p1.Zones.length:Int))),(17,(di x1.2)),(25,(dl A7 v2)),(26,(di (v2.length:Int))),(27,(di x2.2)),(35,(dl A7 v4)),(36,(di (v4.length:Int))),(37,(di x3.2))],G [((3,u1),some<|.box 27 (I4 p1)),((53,g6),oB 93 4 I7 x3.1),((8,u4),some<|.box 45 [(dl G1 v1.Parts),(di v1.Signal_)])]⟩) (C3 (U2 Z)<|B7 G_hit (.of Z)<|D3 (gq Z)<|sg Z trivial) ?_
 refine B0<|sv Z<|sv Z<|A1<|E7 ?_
 cases hz3
 exact ⟨Z,g6,(C3 (U2 Z)<|B7 G_hit (.of Z)<|sg Z<|D3 (gq Z) trivial)⟩
 refine C5 Z ?_
 cases hz3
 obtain rfl:=ez3 _ rfl
 refine ⟨nofun,C4 Z<|Y5 ?_⟩
 exact ⟨g6,(C3 (U2 Z)<|B7 G_hit (.of Z)<|sg Z<|D3 (gq Z) trivial)⟩
 rintro _ ⟨g5,q1⟩
 refine D9<|A5 q1<|B0<|sv Z<|sv Z<|A1<|E7 ?_
 cases hz2
 exact ⟨Z,g5,(C3 (U2 Z)<|B7 G_hit (.of Z)<|sg Z<|D3 (gq Z) trivial)⟩
 refine C5 Z ?_
 cases hz2
 obtain rfl:=ez2 _ rfl
 refine ⟨nofun,C4 Z<|Y5 ?_⟩
 exact ⟨g4,(C3 (U2 Z)<|B7 G_hit (.of Z)<|D3 (gq Z) trivial)⟩
 rintro _ ⟨g3,q2⟩
 refine D9<|A5 q2<|B0<|sv Z<|sv Z<|A1<|E7 ?_
 cases hz1
 exact ⟨Z,g3,(C3 (U2 Z)<|B7 G_hit (.of Z)<|D3 (gq Z) trivial)⟩
 refine C5 Z ?_
 cases hz1
 obtain rfl:=ez1 _ rfl
 refine ⟨nofun,C4 Z<|Y5 ?_⟩
 exact ⟨g2,(C3 ⟨.of Z,trivial⟩<|D3 (gq Z) trivial)⟩
 rintro _ ⟨g1,q3⟩
 refine A5 q3<|B5<|B6 (oS y1 (53,g1)) Z Z (B6 (oS y1 (53,g1)) Z Z (A1<|B1 ?_))
 cases h
 exact A8 (.inr Z) (B4 (B2 Z)<|Ed G_hit) Ec
def K2 [Lp](p2:Int)(p3:Map)(x1:((List Clash)×Int))(v1:Zone)(v3:Int)(v4:List Int)(x3:((List Clash)×Int)):Option (Stp ((List Clash)×Int) (List Clash)):=
  cond (decide (x3.2< (v4.length:Int))) ((D6 v4 x3.2).bind fun v5=>(V0 v1 v3 v5 p3).bind fun v6=>cond v6 ((U5 x3.1 [(Clash.mk p2 x1.2 v3 v5)]).bind fun v7=>some (.go (v7,(I8 (x3.2+1))))) (some (.go (x3.1,(I8 (x3.2+1)))))) (some (.out x3.1))
def K3 [Lp](p2:Int)(p3:Map)(x1:((List Clash)×Int))(v1:Zone)(v2:(List Int))(x2:((List Clash)×Int)):Option (Stp ((List Clash)×Int) (List Clash)):=
  cond (decide (x2.2< (v2.length:Int))) ((D6 v2 x2.2).bind fun v3=>(CD v2 (I8 (x2.2+1)) (v2.length:Int)).bind fun v4=>(loop (K2 p2 p3 x1 v1 v3 v4) (x2.1,0)).bind fun y3=>some (.go (y3,(I8 (x2.2+1))))) (some (.out x2.1))
def K4 [Lp](p1:Map)(p2:Int)(p3:Map)(x1:((List Clash)×Int)):Option (Stp ((List Clash)×Int) (List Clash)):=
  cond (decide (x1.2< (p1.Zones.length:Int))) ((D6 p1.Zones x1.2).bind fun v1=>(Y6 p1 v1).bind fun v2=>(loop (K3 p2 p3 x1 v1 v2) (x1.1,0)).bind fun y2=>some (.go (y2,(I8 (x1.2+1))))) (some (.out x1.1))
def N7 [Lp](p1:Map)(p2:Int)(p3:Map):Option (List Clash):=
  (loop (K4 p1 p2 p3) ([],0)).bind fun y1=>some y1
theorem Gy(p1 p2 p3 r)(h:N7 p1 p2 p3=some r):MCall prog 185 [(.d (.agg (O1 p1))),(di p2),(.fn (.func 187) [] [(.ptr (900000,0) 0)])] [(.box 27 (I4 p3))] (dl I7 r) [some (.box 27 (I4 p3))] []:=by
 refine Un (fk func185 ntmps185 (fun r=>if r==12 then [1006]else []) (by with_unfolding_all rfl)) Z (nl Z) ?_
 unfold N7 at h
 refine A5 (s0:=⟨T [(0,(.d _)),(1,(.d _)),(2,(.fn _ _ _))],G [((900000,0),some<|.box 27 _)]⟩) (D2 Z Z) ?_
 refine lr<|fun u1 _=>sm Z<|sv Z<|A1<|A2<|B5<|sq Z<|sl Z G_hit Z<|sd Z (C1 Z)<|sv Z<|A1<|bs h fun y1 hy1 h=>D5 (fun s=> ∃g1:Nat,Sb ⟨T [(2,(.fn (.func 187) [] [(.ptr (900000,0) 0)])),(6,(oS y1 (53,g1)))],G [((900000,0),some<|.box 27 (I4 p3)),((53,g1),oB 93 4 I7 y1)]⟩ s) ?_ ?_
 refine A6<|E0 (K4 p1 p2 p3) (fun (x1:((List Clash)×Int)) (g2:Nat)=>⟨T [(1,(di p2)),(2,(.fn (.func 187) [] [(.ptr (900000,0) 0)])),(3,(.ptr (3,u1) 0)),(6,(oS x1.1 (53,g2))),(15,(dl N8 p1.Zones)),(16,(di (p1.Zones.length:Int))),(17,(di x1.2))],G [((900000,0),some<|.box 27 (I4 p3)),((3,u1),some<|.box 27 (I4 p1)),((53,g2),oB 93 4 I7 x1.1)]⟩) ([],0) 0 _ hy1 (C3 (U2 Z)<|sg Z<|B7 G_hit (.of Z)<|Y1 trivial) ?_
 intro x1 g2 z1 hz1 ez1
 unfold K4 at hz1
 refine B5<|sv Z<|A1<|A2<|cc Z hz1 (fun c1 hz1=> ?_)<|fun c1 hz1=> ?_
 refine A9<|A2<|A6<|lr<|fun u4 _=>sv Z<|bs hz1 fun v1 hv1 hz1=>sd Z (C9 Z Z hv1 Z)<|sd Z (B9 Z hv1 Z Z)<|sm Z<|sv Z<|Aj Z G_hit [(dl G1 v1.Parts),(di v1.Signal_)] Z (A1<|B5<|sd Z (B3 Z (gq Z) Z Z)<|sd Z (B3 Z G_hit Z Z)<|bs hz1 fun v2 hv2 hz1=>B8 Z Z A3 (Gx _ _ _ hv2) (.inl Z) (sv Z<|A1<|B5<|sv Z<|sd Z (C1 Z)<|sv Z<|A1<|bs hz1 fun y2 hy2 hz1=>D5 (fun s=> ∃g3:Nat,Sb ⟨T [(1,(di p2)),(2,(.fn (.func 187) [] [(.ptr (900000,0) 0)])),(3,(.ptr (3,u1) 0)),(6,(oS y2 (53,g3))),(15,(dl N8 p1.Zones)),(16,(di (p1.Zones.length:Int))),(17,(di x1.2))],G [((900000,0),some<|.box 27 (I4 p3)),((3,u1),some<|.box 27 (I4 p1)),((53,g3),oB 93 4 I7 y2)]⟩ s) ?_ ?_))
 refine A6<|E0 (K3 p2 p3 x1 v1 v2) (fun (x2:((List Clash)×Int)) (g4:Nat)=>⟨T [(1,(di p2)),(2,(.fn (.func 187) [] [(.ptr (900000,0) 0)])),(3,(.ptr (3,u1) 0)),(6,(oS x2.1 (53,g4))),(7,(di x1.2)),(8,(.ptr (8,u4) 0)),(9,(dl A7 v2)),(15,(dl N8 p1.Zones)),(16,(di (p1.Zones.length:Int))),(17,(di x1.2)),(25,(dl A7 v2)),(26,(di (v2.length:Int))),(27,(di x2.2))],G [((900000,0),some<|.box 27 (I4 p3)),((3,u1),some<|.box 27 (I4 p1)),((8,u4),some<|.box 45 [(dl G1 v1.Parts),(di v1.Signal_)]),((53,g4),oB 93 4 I7 x2.1)]⟩) (x1.1,0) g2 _ hy2 (C3 (U2 Z)<|sg Z<|sg Z<|B7 G_hit (.of Z)<|D3 (gq Z) trivial) ?_
 intro x2 g4 z2 hz2 ez2
 unfold K3 at hz2
 refine B5<|sv Z<|A1<|A2<|cc Z hz2 (fun c2 hz2=> ?_)<|fun c2 hz2=> ?_
 refine A9<|A2<|A6<|B5<|sv Z<|bs hz2 fun v3 hv3 hz2=>sd Z (C9 Z Z hv3 Z)<|sd Z (F5 Z hv3 Z)<|sv Z<|sv Z<|A1<|B5<|sv Z<|sv Z<|sv Z<|bs hz2 fun v4 hv4 hz2=>sd Z (GM Z (fun _=>Z) (OS Z) Zz hv4)<|sd Z (C1 Z)<|sv Z<|A1<|bs hz2 fun y3 hy3 hz2=>D5 (fun s=> ∃g5:Nat,Sb ⟨T [(1,(di p2)),(2,(.fn (.func 187) [] [(.ptr (900000,0) 0)])),(3,(.ptr (3,u1) 0)),(6,(oS y3 (53,g5))),(7,(di x1.2)),(8,(.ptr (8,u4) 0)),(9,(dl A7 v2)),(15,(dl N8 p1.Zones)),(16,(di (p1.Zones.length:Int))),(17,(di x1.2)),(25,(dl A7 v2)),(26,(di (v2.length:Int))),(27,(di x2.2))],G [((900000,0),some<|.box 27 (I4 p3)),((3,u1),some<|.box 27 (I4 p1)),((8,u4),some<|.box 45 [(dl G1 v1.Parts),(di v1.Signal_)]),((53,g5),oB 93 4 I7 y3)]⟩ s) ?_ ?_
 refine A6<|E0 (K2 p2 p3 x1 v1 v3 v4) (fun (x3:((List Clash)×Int)) (g6:Nat)=>⟨T [(1,(di p2)),(2,(.fn (.func 187) [] [(.ptr (900000,0) 0)])),(3,(.ptr (3,u1) 0)),(6,(oS x3.1 (53,g6))),(7,(di x1.2)),(8,(.ptr (8,u4) 0)),(9,(dl A7 v2)),(11,(di v3)),(15,(dl N8 p1.Zones)),(16,(di (p1.Zones.length:Int))),(17,(di x1.2)),(25,(dl A7 v2)),(26,(di (v2.length:Int))),(27,(di x2.2)),(35,(dl A7 v4)),(36,(di (v4.length:Int))),(37,(di x3.2))],G [((900000,0),some<|.box 27 (I4 p3)),((3,u1),some<|.box 27 (I4 p1)),((8,u4),some<|.box 45 [(dl G1 v1.Parts),(di v1.Signal_)]),((53,g6),oB 93 4 I7 x3.1)]⟩) (x2.1,0) g4 _ hy3 (C3 (U2 Z)<|B7 G_hit (.of Z)<|sg Z<|sg Z<|D3 (gq Z) trivial) ?_
 intro x3 g6 z3 hz3 ez3
 unfold K2 at hz3
 refine B5<|sv Z<|A1<|A2<|cc Z hz3 (fun c3 hz3=> ?_)<|fun c3 hz3=> ?_
 refine A9<|A2<|A6<|B5<|bs hz3 fun v5 hv5 hz3=>sd Z (C9 Z Z hv5 Z)<|sd Z (F5 Z hv5 Z)<|sv Z<|A1<|B5<|B6 (.fn _ _ _) Z Z (sd Z (B3 Z (gq Z) Z Z)<|sv Z<|sv Z<|bs hz3 fun _ hv6 hz3=>B8 Z (rD<|rD<|rD<|O4 (Ki G_hit<|rD<|rD<|rD<|rD<|rD K9) K9) A3 (Hz _ _ _ _ _ hv6) (.inr Z) (A1<|cc Z hz3 (fun c4 hz3=> ?_)<|fun c4 hz3=> ?_))
 refine A5 (s0:=⟨T [(1,(di p2)),(2,(.fn (.func 187) [] [(.ptr (900000,0) 0)])),(3,(.ptr (3,u1) 0)),(6,(oS x3.1 (53,g6))),(7,(di x1.2)),(8,(.ptr (8,u4) 0)),(9,(dl A7 v2)),(11,(di v3)),(13,(di v5)),(15,(dl N8 p1.Zones)),(16,(di (p1.Zones.length:Int))),(17,(di x1.2)),(25,(dl A7 v2)),(26,(di (v2.length:Int))),(27,(di x2.2)),(35,(dl A7 v4)),(36,(di (v4.length:Int))),(37,(di x3.2))],G [((900000,0),some<|.box 27 (I4 p3)),((3,u1),some<|.box 27 (I4 p1)),((53,g6),oB 93 4 I7 x3.1),((8,u4),some<|.box 45 [(dl G1 v1.Parts),(di v1.Signal_)])]⟩) (C3 (U2 Z)<|B7 G_hit (.of Z)<|sg Z<|D3 (gq Z)<|sg Z trivial) ?_
 refine O9 fun u13 _=>B6 (oS x3.1 (53,g6)) Z Z (sv Z<|sv Z<|sv Z<|sv Z<|sv Z<|B6 (dl I7 [(Clash.mk p2 x1.2 v3 v5)]) Z Z (bs hz3 fun _ hv7 hz3=>J2 I7 (53,g6) x3.1 (Clash.mk p2 x1.2 v3 v5) [] _ (F4<|fun _=>Z) Z (gq Z) hv7 (ss Z<|A1<|D9<|A5 (s0:=⟨T [(1,(.d _)),(2,(.fn _ _ _)),(3,(.ptr _ _)),(6,(.sl _)),(7,(.d _)),(8,(.ptr _ _)),(9,(.d _)),(11,(.d _)),(15,(.d _)),(16,(.d _)),(17,(.d _)),(25,(.d _)),(26,(.d _)),(27,(.d _)),(35,(.d _)),(36,(.d _)),(37,(.d _))],G [((900000,0),some<|.box 27 _),((3,u1),some<|.box 27 _),((53,u13),some _),((8,u4),some<|.box 45 _)]⟩) (D2 Z Z) ?_)))
 refine B0<|sv Z<|sv Z<|A1<|E7 ?_
 cases hz3
 exact ⟨Z,u13,(C3 ⟨.of Z, .of Z, .of Z,(.of (Ai<|O0 hv7).symm), .of Z, .of Z, .of Z, .of Z, .of Z, .of Z, .of Z, .of Z, .of Z, .of Z, .of Z, .of Z, .of Z,trivial⟩<|B7 G_hit (.of Z)<|sg Z<|sg Z<|P5 (gq Z) trivial)⟩
 refine A9<|D9<|A5 (s0:=⟨T [(1,(di p2)),(2,(.fn (.func 187) [] [(.ptr (900000,0) 0)])),(3,(.ptr (3,u1) 0)),(6,(oS x3.1 (53,g6))),(7,(di x1.2)),(8,(.ptr (8,u4) 0)),(9,(dl A7 v2)),(11,(di v3)),(15,(dl N8 p1.Zones)),(16,(di (p1.Zones.length:Int))),(17,(di x1.2)),(25,(dl A7 v2)),(26,(di (v2.length:Int))),(27,(di x2.2)),(35,(dl A7 v4)),(36,(di (v4.length:Int))),(37,(di x3.2))],G [((900000,0),some<|.box 27 (I4 p3)),((3,u1),some<|.box 27 (I4 p1)),((53,g6),oB 93 4 I7 x3.1),((8,u4),some<|.box 45 [(dl G1 v1.Parts),(di v1.Signal_)])]⟩) (C3 (U2 Z)<|B7 G_hit (.of Z)<|sg Z<|D3 (gq Z)<|sg Z trivial) ?_
 refine B0<|sv Z<|sv Z<|A1<|E7 ?_
 cases hz3
 exact ⟨Z,g6,(C3 (U2 Z)<|B7 G_hit (.of Z)<|sg Z<|sg Z<|D3 (gq Z) trivial)⟩
 refine C5 Z ?_
 cases hz3
 obtain rfl:=ez3 _ rfl
 refine ⟨nofun,C4 Z<|Y5 ?_⟩
 exact ⟨g6,(C3 (U2 Z)<|B7 G_hit (.of Z)<|sg Z<|sg Z<|D3 (gq Z) trivial)⟩
 rintro _ ⟨g5,q1⟩
 refine D9<|A5 q1<|B0<|sv Z<|sv Z<|A1<|E7 ?_
 cases hz2
 exact ⟨Z,g5,(C3 (U2 Z)<|B7 G_hit (.of Z)<|sg Z<|sg Z<|D3 (gq Z) trivial)⟩
 refine C5 Z ?_
 cases hz2
 obtain rfl:=ez2 _ rfl
 refine ⟨nofun,C4 Z<|Y5 ?_⟩
 exact ⟨g4,(C3 (U2 Z)<|B7 G_hit (.of Z)<|sg Z<|D3 (gq Z) trivial)⟩
 rintro _ ⟨g3,q2⟩
 refine D9<|A5 q2<|B0<|sv Z<|sv Z<|A1<|E7 ?_
 cases hz1
 exact ⟨Z,g3,(C3 (U2 Z)<|B7 G_hit (.of Z)<|sg Z<|D3 (gq Z) trivial)⟩
 refine C5 Z ?_
 cases hz1
 obtain rfl:=ez1 _ rfl
 refine ⟨nofun,C4 Z<|Y5 ?_⟩
 exact ⟨g2,(C3 (U2 Z)<|B7 G_hit (.of Z)<|D3 (gq Z) trivial)⟩
 rintro _ ⟨g1,q3⟩
 refine A5 q3<|B5<|B6 (oS y1 (53,g1)) Z Z (B6 (oS y1 (53,g1)) Z Z (A1<|B1 ?_))
 obtain rfl:=(lC h)
 exact Vy (.inr Z) [(53,g1)] (Vz (B2 Z)<|Ed<|TA (.head _)<|gq Z) Ec ⟨⟨_,_,_,G_hit,(IC Z W1),Z,Ll,Z⟩,trivial⟩
def Es [Lp](p1:Map):Option (List Clash):=
  (N7 p1 4 p1).bind fun v1=>some v1
theorem Tz(p1 r)(h:Es p1=some r):PCall prog 80 [(.agg (O1 p1))] (.list (List.map I7 r)):=by
 refine C0 (fk func80 ntmps80 (fun r=>if r==1 then [1001002]else []) (by with_unfolding_all rfl)) (nl Z) ?_
 unfold Es at h
 refine A5 (s0:=⟨T [(0,(.d _))],G []⟩) (D2 Z Z) ?_
 refine lr<|fun u1 _=>sm Z<|sv Z<|A1<|B5<|sd Z (B3 Z G_hit Z Z)<|B6 (.fn _ _ _) Z Z (bs h fun v1 hv1 h=>IA (v:= .d (.list (List.map I7 v1))) (us:= [(1,u1)]) (FF (Gy _ _ _ _ hv1) [(1,u1)] [(1,u1)] _ (((1,u1),some<|.box 27 (I4 p1))::_) Z Lk (Cs LO<|Cs LO<|Cs (LP Z<|Cs (Pp G_hit Z) Pq) Pq) (Gv G_hit Jc) ⟨⟨_,G_hit, .of Z⟩,trivial⟩ (fun _ h=>h) nd1 Z Z Z) (sv Z<|A1<|B1 ?_))
 cases h
 exact A8 (.inr Z) (B4 (B2 Z) C2) (.refl _)
def In [Lp](p1:Map):Option Bool:=
  (R9 p1).bind fun v1=>((cond (v1==0) (Ep p1) (some default))).bind fun v2=>((cond (v1==0) (Er p1) (some default))).bind fun v3=>((cond (v1==0) (Ft p1) (some default))).bind fun v4=>((cond (v1==0) (Es p1) (some default))).bind fun v5=>some ((v1==0)&& ((I8 ((I8 ((I8 ((v2.length:Int)+ (v3.length:Int)))+ (v4.length:Int)))+ (v5.length:Int)))==0))
theorem AF(p1 r)(h:In p1=some r):PCall prog 18 [(.agg (O1 p1))] (bo r):=by
 refine C0 (fk func18 ntmps18 m0 (by with_unfolding_all rfl)) (nl Z) ?_
 unfold In at h
 refine A5 (s0:=⟨T [(0,(.d _))],G []⟩) (D2 Z Z) ?_
 refine B5<|sm Z<|sv Z<|A1<|A2<|J6 Z<|sd Z (B3 Z G_hit Z Z)<|bs h fun _ hv1 h=>B8 Z Z A3 (Bz _ _ hv1) (.inl Z) (sv Z<|sv Z<|gt Z (fun _=>(B3 Z G_hit Z Z))<|bs h fun v2 hv2 h=> ?_)
 refine L4 _ (.list (List.map I7 v2)) (P4 Z) (fun w2=>⟨_,[(.d (.agg (O1 p1)))],_,_,(by simp only [A4 w2];rfl),Z,A3,Tx _ _<|G0 w2 hv2,(.inl Z)⟩) ?_
 refine gt Z (fun w3=>(C1<|A4 w3))<|gt Z (fun _=>(B3 Z G_hit Z Z))<|bs h fun v3 hv3 h=> ?_
 refine L4 _ (.list (List.map I7 v3)) (P4 Z) (fun w5=>⟨_,[(.d (.agg (O1 p1)))],_,_,(by simp only [A4 w5];rfl),Z,A3,Ty _ _<|G0 w5 hv3,(.inl Z)⟩) ?_
 refine gt Z (fun w6=>(C1<|A4 w6))<|gt Z (fun w7=>(T1 (A4 w7) (A4 w7) Z))<|gt Z (fun _=>(B3 Z G_hit Z Z))<|bs h fun v4 hv4 h=> ?_
 refine L4 _ (.list (List.map I7 v4)) (P4 Z) (fun w9=>⟨_,[(.d (.agg (O1 p1)))],_,_,(by simp only [A4 w9];rfl),Z,A3,Wf _ _<|G0 w9 hv4,(.inl Z)⟩) ?_
 refine gt Z (fun w10=>(C1<|A4 w10))<|gt Z (fun w11=>(T1 (A4 w11) (A4 w11) Z))<|gt Z (fun _=>(B3 Z G_hit Z Z))<|bs h fun v5 hv5 h=> ?_
 refine L4 _ (.list (List.map I7 v5)) (P4 Z) (fun w13=>⟨_,[(.d (.agg (O1 p1)))],_,_,(by simp only [A4 w13];rfl),Z,A3,Tz _ _<|G0 w13 hv5,(.inl Z)⟩) ?_
 refine gt Z (fun w14=>(C1<|A4 w14))<|gt Z (fun w15=>(T1 (A4 w15) (A4 w15) Z))<|gt Z (vb Z Z Z)<|sa Z Z Z<|sv Z<|A1<|B1 ?_
 cases h
 exact A8 (.inr Z) (B4 (B2 Z) C2) (.refl _)
def Jj [Lp](p1:Map)(p2:Int):Option Bool:=
  ((cond ((decide (p2≥0))&& (decide (p2< (p1.Lanes.length:Int)))) (R9 p1) (some default))).bind fun v1=>some (((decide (p2≥0))&& (decide (p2< (p1.Lanes.length:Int))))&& (v1==0))
theorem Tj(p1 p2 r)(h:Jj p1 p2=some r):PCall prog 159 [(.agg (O1 p1)),(i64 p2)] (bo r):=by
 refine C0 (fk func159 ntmps159 m0 (by with_unfolding_all rfl)) (nl Z) ?_
 unfold Jj at h
 refine A5 (s0:=⟨T [(0,(.d _)),(1,(.d _))],G []⟩) (D2 Z Z) ?_
 refine B5<|sm Z<|sv Z<|A1<|B5<|sv Z<|sv Z<|sv Z<|gt Z (fun _=>Z)<|gp Z (P4 Z) (fun _=>Z) (gt Z (vl Z G_hit Z)<|gt Z (fun w4=>(C1<|A4 w4))<|gt Z (fun w5=>(T1 (A4 w5) (A4 w5) Z))<|sa Z Z Z<|sv Z<|gt Z (fun _=>(B3 Z G_hit Z Z))<|bs h fun v1 hv1 h=> ?_)
 refine L4 _ (i64 v1) (P4 Z) (fun w7=>⟨_,[(.d (.agg (O1 p1)))],_,_,(by simp only [A4 w7];rfl),Z,A3,Bz _ _<|G0 w7 hv1,(.inl Z)⟩) ?_
 refine gt Z (vb Z Z Z)<|sa Z Z Z<|sv Z<|A1<|B1 ?_
 cases h
 exact A8 (.inr Z) (B4 (B2 Z) C2) (.refl _)
def Et [Lp](p1:Map)(p2:Int):Option Int:=
  (Jj p1 p2).bind fun v1=>cond (!v1) (some 0) ((T5 p1 p2).bind fun v2=>some v2)
theorem Ua(p1 p2 r)(h:Et p1 p2=some r):PCall prog 61 [(.agg (O1 p1)),(i64 p2)] (i64 r):=by
 refine C0 (fk func61 ntmps61 m0 (by with_unfolding_all rfl)) (nl Z) ?_
 unfold Et at h
 refine A5 (s0:=⟨T [(0,(.d _)),(1,(.d _))],G []⟩) (D2 Z Z) ?_
 refine B5<|sm Z<|sv Z<|A1<|A2<|B5<|sd Z (B3 Z G_hit Z Z)<|sv Z<|bs h fun v1 hv1 h=>B8 Z Z A3 (Tj _ _ _ hv1) (.inl Z) (B6 (.d (bo (!v1))) Z Z (A1<|cc Z h (fun c1 h=> ?_)<|fun c1 h=> ?_))
 refine B5<|sv Z<|A1<|B1 ?_
 cases h
 exact A8 (.inr Z) (B4 (B2 Z) C2) (.refl _)
 refine A9<|B5<|sd Z (B3 Z G_hit Z Z)<|sv Z<|bs h fun _ hv2 h=>B8 Z Z A3 (Dp _ _ _ hv2) (.inl Z) (sv Z<|A1<|B1 ?_)
 cases h
 exact A8 (.inr Z) (B4 (B2 Z) C2) (.refl _)
def Jk (p1:Map)(p2:Int)(p3:Int)(p4:Int)(x1:(Int×Int)):Option (Stp (Int×Int) Int):=
  cond (decide (x1.2< (p1.Works.length:Int))) ((D6 p1.Works x1.2).bind fun v5=>((cond (v5.Lane_==p2) (Q7 p3 v5.From v5.To) (some default))).bind fun v6=>((cond ((v5.Lane_==p2)&&v6) (Q7 p4 v5.Begin (I8 (v5.End - 1))) (some default))).bind fun v7=>cond (((v5.Lane_==p2)&&v6)&&v7) (some (.go ((Ej false x1.1 v5.Limit),(I8 (x1.2+1))))) (some (.go (x1.1,(I8 (x1.2+1)))))) (some (.out x1.1))
def Fu [Lp](p1:Map)(p2:Int)(p3:Int)(p4:Int):Option Int:=
  (Jj p1 p2).bind fun v1=>((cond (!(!v1)) (T5 p1 p2) (some default))).bind fun v2=>((cond (!(!v1)) (Q7 p3 0 v2) (some default))).bind fun v3=>cond ((!v1)||(!v3)) (some 0) ((D6 p1.Lanes p2).bind fun v4=>(loop (Jk p1 p2 p3 p4) (v4.Limit,0)).bind fun y1=>some y1)
theorem Wg(p1 p2 p3 p4 r)(h:Fu p1 p2 p3 p4=some r):PCall prog 56 [(.agg (O1 p1)),(i64 p2),(i64 p3),(i64 p4)] (i64 r):=by
 refine C0 (fk func56 ntmps56 m0 (by with_unfolding_all rfl)) (nl Z) ?_
 unfold Fu at h
 refine A5 (s0:=⟨T [(0,(.d _)),(1,(.d _)),(2,(.d _)),(3,(.d _))],G []⟩) (D2 Z Z) ?_
 refine lr<|fun u1 _=>sm Z<|sv Z<|A1<|A2<|B5<|sd Z (B3 Z G_hit Z Z)<|sv Z<|bs h fun v1 hv1 h=>B8 Z Z A3 (Tj _ _ _ hv1) (.inl Z) (B6 (.d (bo (!v1))) Z Z (sv Z<|gf Z (fun _=>Z)<|gf Z (fun _=>(B3 Z G_hit Z Z))<|gf Z (fun _=>Z)<|bs h fun v2 hv2 h=> ?_))
 refine L4 _ (i64 v2) (I9 Z) (fun w4=>⟨_,[(.d (.agg (O1 p1))),(di p2)],_,_,(by simp only [A4 w4];rfl),Z,A3,Dp _ _ _<|G0 w4 hv2,(.inl Z)⟩) ?_
 refine bs h fun v3 hv3 h=> ?_
 refine L4 _ (bo v3) (I9 Z) (fun w5=>⟨_,[(di p3),(di 0),(di v2)],_,_,(by simp only [A4 w5];rfl),Z,A3,Q5 _ _ _ _<|G0 w5 hv3,(.inl Z)⟩) ?_
 refine Ck _ (.d (bo (!v3))) Z (I9 Z) (fun w6=>(by simp only [A4 w6];rfl)) ?_
 refine sd Z (S9 Z Z<|fun hc=>A4<|L3 hc)<|A1<|cc Z h (fun c1 h=> ?_)<|fun c1 h=> ?_
 refine B5<|sv Z<|A1<|B1 ?_
 cases h
 exact A8 (.inr Z) (B4 (B2 Z) C2) (.refl _)
 refine A9<|B5<|sq Z<|sl Z G_hit Z<|sv Z<|bs h fun v4 hv4 h=>sd Z (C9 Z Z hv4 Z)<|sv Z<|sd Z (F5 Z hv4 Z)<|sv Z<|A1<|A2<|A2<|A5 (s0:=⟨T [(1,(.d _)),(2,(.d _)),(3,(.d _)),(4,(.ptr _ _)),(9,(.d _))],G [((4,u1),some<|.box 27 _)]⟩) (D2 Z Z) ?_
 refine B0<|sq Z<|sl Z G_hit Z<|sd Z (C1 Z)<|sv Z<|A1<|bs h fun y1 hy1 h=>D5 (fun s=> ∃g1:Unit,Sb ⟨T [(9,(di y1))],G []⟩ s) ?_ ?_
 refine A6<|E0 (Jk p1 p2 p3 p4) (fun (x1:(Int×Int)) (g2:Unit)=>⟨T [(1,(di p2)),(2,(di p3)),(3,(di p4)),(9,(di x1.1)),(31,(dl By p1.Works)),(32,(di (p1.Works.length:Int))),(33,(di x1.2))],G []⟩) (v4.Limit,0) () _ hy1 (D2 Z Z) ?_
 intro x1 g2 z1 hz1 ez1
 unfold Jk at hz1
 refine B5<|sv Z<|A1<|A2<|cc Z hz1 (fun c2 hz1=> ?_)<|fun c2 hz1=> ?_
 refine A9<|A2<|A6<|lr<|fun u7 _=>bs hz1 fun v5 hv5 hz1=>sd Z (C9 Z Z hv5 Z)<|sd Z (B9 Z hv5 Z Z)<|sm Z<|Aj Z G_hit (GX v5) Z (A1<|B5<|sq Z<|sl Z G_hit Z<|sv Z<|sv Z<|sv Z<|gt Z (fun _=>Z)<|gp Z (P4 Z) (fun _=>Z) (gt Z (vl Z G_hit Z)<|gp Z (P4 Z) (fun _=>Z) (gt Z (vl Z G_hit Z)<|bs hz1 fun v6 hv6 hz1=> ?_)))
 refine L4 _ (bo v6) (P4 Z) (fun w12=>⟨_,[(di p3),(di v5.From),(di v5.To)],_,_,(by simp only [A4 w12];rfl),Z,A3,Q5 _ _ _ _<|G0 w12 hv6,(.inl Z)⟩) ?_
 refine sa Z Z Z<|sv Z<|gt Z (fun _=>Z)<|gp Z (P4 Z) (fun _=>Z) (gt Z (vl Z G_hit Z)<|gp Z (P4 Z) (fun _=>Z) (gt Z (vl Z G_hit Z)<|gt Z (vb Z Z Z)<|bs hz1 fun v7 hv7 hz1=> ?_))
 refine L4 _ (bo v7) (P4 Z) (fun w19=>⟨_,[(di p4),(di v5.Begin),(di<|I8 (v5.End - 1))],_,_,(by simp only [A4 w19];rfl),Z,A3,Q5 _ _ _ _<|G0 w19 hv7,(.inl Z)⟩) ?_
 refine sa Z Z Z<|A1<|cc Z hz1 (fun c3 hz1=> ?_)<|fun c3 hz1=> ?_
 refine A5 (s0:=⟨T [(1,(.d _)),(2,(.d _)),(3,(.d _)),(9,(.d _)),(11,(.ptr _ _)),(31,(.d _)),(32,(.d _)),(33,(.d _))],G [((11,u7),some<|.box 50 _)]⟩) (D2 Z Z) ?_
 refine B0<|sv Z<|sq Z<|sl Z G_hit Z<|sv Z<|sv Z<|A1<|D9<|B0<|sv Z<|sv Z<|A1<|E7 ?_
 cases hz1
 exact ⟨Z,(),(D2 Z Z)⟩
 refine A9<|D9<|A5 (s0:=⟨T [(1,(.d _)),(2,(.d _)),(3,(.d _)),(9,(.d _)),(31,(.d _)),(32,(.d _)),(33,(.d _))],G []⟩) (D2 Z Z) ?_
 refine B0<|sv Z<|sv Z<|A1<|E7 ?_
 cases hz1
 exact ⟨Z,(),(D2 Z Z)⟩
 refine C5 Z ?_
 cases hz1
 obtain rfl:=ez1 _ rfl
 refine ⟨nofun,C4 Z<|Y5 ?_⟩
 exact ⟨(),(D2 Z Z)⟩
 rintro _ ⟨g1,q1⟩
 refine A5 q1<|B5<|sv Z<|sv Z<|A1<|B1 ?_
 cases h
 exact A8 (.inr Z) (B4 (B2 Z) C2) (.refl _)
def Cm [Lp]:Option Bool:=
  (Im).bind fun v1=>(Fr v1 [0] 60000).bind fun v2=>(R9 v1).bind fun v3=>((cond (v3==0) (In v1) (some default))).bind fun v4=>((cond (((((v3==0)&&v4)&& (v2.1==0))&& (v2.2.1==60000))&&v2.2.2) (Et v1 1) (some default))).bind fun v5=>((cond ((((((v3==0)&&v4)&& (v2.1==0))&& (v2.2.1==60000))&&v2.2.2)&& (v5==100000)) (Fu v1 0 10 5) (some default))).bind fun v6=>some (((((((v3==0)&&v4)&& (v2.1==0))&& (v2.2.1==60000))&&v2.2.2)&& (v5==100000))&& (v6==1500))
theorem No(r)(h:Cm=some r):PCall prog 14 [] (bo r):=by
 refine C0 (fk func14 ntmps14 (fun r=>if r==2 then [1001]else []) (by with_unfolding_all rfl)) (nl Z) ?_
 unfold Cm at h
 refine A5 (s0:=⟨T [],G []⟩) (D2 Z Z) ?_
 refine B5<|sv Z<|A1<|B5<|bs h fun v1 hv1 h=>B8 Z Z A3 (AD _ hv1) (.inl Z) (sm Z<|Aj Z G_hit (I4 v1) Z (A1<|B5<|sd Z (B3 Z G_hit Z Z)<|B6 (dl A7 [0]) Z Z (bs h fun _ hv2 h=>B8 Z Z A3 (Wd _ _ _ _ hv2) (.inl Z) (sv Z<|sv Z<|sv Z<|sv Z<|sv Z<|sv Z<|sv Z<|A1<|B5<|sd Z (B3 Z G_hit Z Z)<|bs h fun _ hv3 h=>B8 Z Z A3 (Bz _ _ hv3) (.inl Z) (sv Z<|sv Z<|gt Z (fun _=>(B3 Z G_hit Z Z))<|bs h fun v4 hv4 h=> ?_)))))
 refine L4 _ (bo v4) (P4 Z) (fun w2=>⟨_,[(.d (.agg (O1 v1)))],_,_,(by simp only [A4 w2];rfl),Z,A3,AF _ _<|G0 w2 hv4,(.inl Z)⟩) ?_
 refine sa Z Z Z<|sv Z<|gt Z (fun _=>Z)<|gt Z (vb Z Z Z)<|sa Z Z Z<|sv Z<|gt Z (fun _=>Z)<|gt Z (vb Z Z Z)<|sa Z Z Z<|sv Z<|gt Z (fun _=>Z)<|sa Z Z Z<|sv Z<|gt Z (fun _=>(B3 Z G_hit Z Z))<|bs h fun v5 hv5 h=> ?_
 refine L4 _ (i64 v5) (P4 Z) (fun w9=>⟨_,[(.d (.agg (O1 v1))),(di 1)],_,_,(by simp only [A4 w9];rfl),Z,A3,Ua _ _ _<|G0 w9 hv5,(.inl Z)⟩) ?_
 refine gt Z (vb Z Z Z)<|sa Z Z Z<|sv Z<|gt Z (fun _=>(B3 Z G_hit Z Z))<|bs h fun v6 hv6 h=> ?_
 refine L4 _ (i64 v6) (P4 Z) (fun w12=>⟨_,[(.d (.agg (O1 v1))),(di 0),(di 10),(di 5)],_,_,(by simp only [A4 w12];rfl),Z,A3,Wg _ _ _ _ _<|G0 w12 hv6,(.inl Z)⟩) ?_
 refine gt Z (vb Z Z Z)<|sa Z Z Z<|sv Z<|A1<|B1 ?_
 cases h
 exact A8 (.inr Z) (B4 (B2 Z) C2) (.refl _)
def Q9 (p1:(List Spot))(p2:(List Spot))(x1:Int):Option (Stp Int (Sum Unit Bool)):=
  cond (decide (x1< (p1.length:Int))) ((D6 p1 x1).bind fun v1=>(D6 p2 x1).bind fun v2=>cond (!(v1.X==v2.X&& (v1.Y==v2.Y&&true))) (some (.out (.inr false))) (some (.go (I8 (x1+1))))) (some (.out (.inl ())))
def Y2 [Lp](p1:(List Spot))(p2:(List Spot)):Option Bool:=
  cond ((p1.length:Int) !=(p2.length:Int)) (some false) (thenS (loop (Q9 p1 p2) 0) (fun _=>some true) (fun r=>some r))
theorem Jt(p1 p2 r)(h:Y2 p1 p2=some r):PCall prog 251 [(.list (List.map I0 p1)),(.list (List.map I0 p2))] (bo r):=by
 refine C0 (fk func251 ntmps251 m0 (by with_unfolding_all rfl)) (nl Z) ?_
 unfold Y2 at h
 refine A5 (s0:=⟨T [(0,(.d _)),(1,(.d _))],G []⟩) (D2 Z Z) ?_
 refine B5<|sv Z<|A1<|A2<|B5<|sv Z<|sd Z (C1 Z)<|sv Z<|sd Z (C1 Z)<|sv Z<|A1<|cc Z h (fun c1 h=> ?_)<|fun c1 h=> ?_
 refine B5<|sv Z<|A1<|B1 ?_
 cases h
 exact A8 (.inr Z) (B4 (B2 Z) C2) (.refl _)
 refine A9<|A2<|B5<|sv Z<|sd Z (C1 Z)<|sv Z<|A1<|js h fun z1 hz1 h=>D5 (fun s=> ∃(y1:Unit) (g1:Unit),z1= .inl y1∧Sb ⟨T [],G []⟩ s) ?_ ?_
 refine A6<|E0 (Q9 p1 p2) (fun (x1:Int) (g2:Unit)=>⟨T [(0,(dl I0 p1)),(1,(dl I0 p2)),(12,(di (p1.length:Int))),(13,(di x1))],G []⟩) 0 () _ hz1 (D2 Z Z) ?_
 intro x1 g2 z2 hz2 ez2
 unfold Q9 at hz2
 refine B5<|sv Z<|A1<|A2<|cc Z hz2 (fun c2 hz2=> ?_)<|fun c2 hz2=> ?_
 refine A9<|A2<|A6<|B5<|sv Z<|sv Z<|A1<|A2<|J6 Z<|sv Z<|sv Z<|bs hz2 fun v1 hv1 hz2=>sd Z (C9 Z Z hv1 Z)<|sd Z (B9 Z hv1 Z Z)<|sv Z<|sv Z<|bs hz2 fun v2 hv2 hz2=>sd Z (C9 Z Z hv2 Z)<|sd Z (B9 Z hv2 Z Z)<|B6 (.d (bo (!(v1.X==v2.X&& (v1.Y==v2.Y&&true))))) Z Z (A1<|cc Z hz2 (fun c3 hz2=> ?_)<|fun c3 hz2=> ?_)
 refine B5<|sv Z<|A1<|B1 ?_
 cases hz2
 obtain rfl:=ez2 _ rfl
 refine ⟨nofun,E4 ?_⟩
 rw [bJ]at h
 cases h
 exact A8 (.inr Z) (B4 (B2 Z) C2) (.refl _)
 refine A9<|D9<|B0<|sv Z<|sv Z<|A1<|E7 ?_
 cases hz2
 exact ⟨Z,(),(D2 Z Z)⟩
 refine C5 Z ?_
 cases hz2
 obtain rfl:=ez2 _ rfl
 refine ⟨nofun,C4 Z<|Y5 ?_⟩
 exact ⟨_,(),Z,(D2 Z Z)⟩
 rintro _ ⟨y1,g1,rfl,q1⟩
 rw [bI]at h
 refine A5 q1<|B5<|sv Z<|A1<|B1 ?_
 cases h
 exact A8 (.inr Z) (B4 (B2 Z) C2) (.refl _)
def Lo [Lp](p1:Curve)(p2:Curve):Option Bool:=
  (Y2 p1.Pts p2.Pts).bind fun v1=>some v1
theorem Xh(p1 p2 r)(h:Lo p1 p2=some r):PCall prog 198 [(.agg [(.list (List.map I0 p1.Pts))]),(.agg [(.list (List.map I0 p2.Pts))])] (bo r):=by
 refine C0 (fk func198 ntmps198 m0 (by with_unfolding_all rfl)) (nl Z) ?_
 unfold Lo at h
 refine A5 (s0:=⟨T [(0,(.d _)),(1,(.d _))],G []⟩) (D2 Z Z) ?_
 refine B5<|sm Z<|sn Z Z<|sv Z<|A1<|B5<|sq Z<|sl Z (gq Z) Z (sq Z<|sl Z G_hit Z<|bs h fun _ hv1 h=>B8 Z Z A3 (Jt _ _ _ hv1) (.inl Z) (sv Z<|A1<|B1 ?_))
 cases h
 exact A8 (.inr Z) (B4 (B2 Z) C2) (.refl _)
def S7 (p1:(List Int))(p2:(List Int))(x1:Int):Option (Stp Int (Sum Unit Bool)):=
  cond (decide (x1< (p1.length:Int))) ((D6 p1 x1).bind fun v1=>(D6 p2 x1).bind fun v2=>cond (v1 !=v2) (some (.out (.inr false))) (some (.go (I8 (x1+1))))) (some (.out (.inl ())))
def W7 [Lp](p1:(List Int))(p2:(List Int)):Option Bool:=
  cond ((p1.length:Int) !=(p2.length:Int)) (some false) (thenS (loop (S7 p1 p2) 0) (fun _=>some true) (fun r=>some r))
theorem Fv(p1 p2 r)(h:W7 p1 p2=some r):PCall prog 199 [(.list (List.map A7 p1)),(.list (List.map A7 p2))] (bo r):=by
 refine C0 (fk func199 ntmps199 m0 (by with_unfolding_all rfl)) (nl Z) ?_
 unfold W7 at h
 refine A5 (s0:=⟨T [(0,(.d _)),(1,(.d _))],G []⟩) (D2 Z Z) ?_
 refine B5<|sv Z<|A1<|A2<|B5<|sv Z<|sd Z (C1 Z)<|sv Z<|sd Z (C1 Z)<|sv Z<|A1<|cc Z h (fun c1 h=> ?_)<|fun c1 h=> ?_
 refine B5<|sv Z<|A1<|B1 ?_
 cases h
 exact A8 (.inr Z) (B4 (B2 Z) C2) (.refl _)
 refine A9<|A2<|B5<|sv Z<|sd Z (C1 Z)<|sv Z<|A1<|js h fun z1 hz1 h=>D5 (fun s=> ∃(y1:Unit) (g1:Unit),z1= .inl y1∧Sb ⟨T [],G []⟩ s) ?_ ?_
 refine A6<|E0 (S7 p1 p2) (fun (x1:Int) (g2:Unit)=>⟨T [(0,(dl A7 p1)),(1,(dl A7 p2)),(12,(di (p1.length:Int))),(13,(di x1))],G []⟩) 0 () _ hz1 (D2 Z Z) ?_
 intro x1 g2 z2 hz2 ez2
 unfold S7 at hz2
 refine B5<|sv Z<|A1<|A2<|cc Z hz2 (fun c2 hz2=> ?_)<|fun c2 hz2=> ?_
 refine A9<|A2<|A6<|B5<|sv Z<|sv Z<|A1<|A2<|J6 Z<|sv Z<|sv Z<|bs hz2 fun _ hv1 hz2=>sd Z (C9 Z Z hv1 Z)<|sd Z (F5 Z hv1 Z)<|sv Z<|sv Z<|bs hz2 fun _ hv2 hz2=>sd Z (C9 Z Z hv2 Z)<|sd Z (F5 Z hv2 Z)<|sv Z<|A1<|cc Z hz2 (fun c3 hz2=> ?_)<|fun c3 hz2=> ?_
 refine B5<|sv Z<|A1<|B1 ?_
 cases hz2
 obtain rfl:=ez2 _ rfl
 refine ⟨nofun,E4 ?_⟩
 rw [bJ]at h
 cases h
 exact A8 (.inr Z) (B4 (B2 Z) C2) (.refl _)
 refine A9<|D9<|B0<|sv Z<|sv Z<|A1<|E7 ?_
 cases hz2
 exact ⟨Z,(),(D2 Z Z)⟩
 refine C5 Z ?_
 cases hz2
 obtain rfl:=ez2 _ rfl
 refine ⟨nofun,C4 Z<|Y5 ?_⟩
 exact ⟨_,(),Z,(D2 Z Z)⟩
 rintro _ ⟨y1,g1,rfl,q1⟩
 rw [bI]at h
 refine A5 q1<|B5<|sv Z<|A1<|B1 ?_
 cases h
 exact A8 (.inr Z) (B4 (B2 Z) C2) (.refl _)
def Cc [Lp](p1:Lane)(p2:Lane):Option Bool:=
  ((cond (((p1.Kind==p2.Kind)&& (p1.Half==p2.Half))&& (p1.Limit==p2.Limit)) (Lo p1.Curve_ p2.Curve_) (some default))).bind fun v1=>((cond ((((p1.Kind==p2.Kind)&& (p1.Half==p2.Half))&& (p1.Limit==p2.Limit))&&v1) (W7 p1.Next p2.Next) (some default))).bind fun v2=>some (((((p1.Kind==p2.Kind)&& (p1.Half==p2.Half))&& (p1.Limit==p2.Limit))&&v1)&&v2)
theorem Rb(p1 p2 r)(h:Cc p1 p2=some r):PCall prog 96 [(.agg (R8 p1)),(.agg (R8 p2))] (bo r):=by
 refine C0 (fk func96 ntmps96 m0 (by with_unfolding_all rfl)) (nl Z) ?_
 unfold Cc at h
 refine A5 (s0:=⟨T [(0,(.d _)),(1,(.d _))],G []⟩) (D2 Z Z) ?_
 refine B5<|sm Z<|sn Z Z<|sv Z<|A1<|B5<|sq Z<|sl Z (gq Z) Z (sq Z<|sl Z G_hit Z<|sv Z<|sv Z<|gp Z (P4 Z) (fun _=>Z) (gt Z (vl Z (gq Z) Z)<|gp Z (P4 Z) (fun _=>Z) (gt Z (vl Z G_hit Z)<|gt Z (fun w5=>(T1 (A4 w5) (A4 w5) Z))<|sa Z Z Z<|sv Z<|gp Z (P4 Z) (fun _=>Z) (gt Z (vl Z (gq Z) Z)<|gp Z (P4 Z) (fun _=>Z) (gt Z (vl Z G_hit Z)<|gt Z (fun w10=>(T1 (A4 w10) (A4 w10) Z))<|sa Z Z Z<|sv Z<|gp Z (P4 Z) (fun _=>Z) (gt Z (fun w12=>(B3 (A4 w12) (gq Z) Z Z))<|gp Z (P4 Z) (fun _=>Z) (gt Z (fun w14=>(B3 (A4 w14) G_hit Z Z))<|bs h fun v1 hv1 h=> ?_)))))))
 refine L4 _ (bo v1) (P4 Z) (fun w15=>⟨_,[(.d (.agg [(.list (List.map I0 p1.Curve_.Pts))])),(.d (.agg [(.list (List.map I0 p2.Curve_.Pts))]))],_,_,(by simp only [A4 w15];rfl),Z,A3,Xh _ _ _<|G0 w15 hv1,(.inl Z)⟩) ?_
 refine sa Z Z Z<|sv Z<|gp Z (P4 Z) (fun _=>Z) (gt Z (vl Z (gq Z) Z)<|gp Z (P4 Z) (fun _=>Z) (gt Z (vl Z G_hit Z)<|bs h fun v2 hv2 h=> ?_))
 refine L4 _ (bo v2) (P4 Z) (fun w20=>⟨_,[(dl A7 p1.Next),(dl A7 p2.Next)],_,_,(by simp only [A4 w20];rfl),Z,A3,Fv _ _ _<|G0 w20 hv2,(.inl Z)⟩) ?_
 refine sa Z Z Z<|sv Z<|A1<|B1 ?_
 cases h
 exact A8 (.inr Z) (B4 (B2 Z) C2) (.refl _)
def Cv (p1:List Spot):Option (List Spot):=U5 [] p1
theorem Dv (p1:List Spot)(a0:D)(hl:U5 ([]:List Spot) p1=some p1)(hn: ∀h,G7 (T [(3, .d a0),(2, .d .nilS),(0, .d a0)]) h (.isnil false (.t 3))=some (.d (bo false)))(he: ∀h,U6 h 2 (.d a0)=some (List.map I0 p1)):
    PCall prog 269 [a0] (.list (List.map I0 p1)):=by
  refine C0 (fk func269 ntmps269 m0 (by with_unfolding_all rfl)) (Nat.le_of_ble_eq_true Z) ?_
  refine (A5 (s0:=⟨T [(0, .d a0)],G []⟩) (C3 ⟨.of Z,trivial⟩ trivial) ?_)
  refine A2 ?_
  refine O9 fun _ _=> ?_
  refine B6 (.d .nilS) Z Z ?_
  refine A1 ?_
  refine A2 ?_
  refine A2 ?_
  refine O9 fun _ _=> ?_
  refine B6 (.d a0) Z Z ?_
  refine B6 (.d (bo false)) Z (hn _) ?_
  refine A1 ?_
  refine Oc Z ?_
  refine A9 ?_
  refine A2 ?_
  refine O9 fun _ _=> ?_
  refine Tg (.sl _) (.arr 148 2 (List.map I0 ([]:List Spot))) Z Z ?_
  refine B6 (.d a0) Z Z ?_
  refine Gd I0 _ [] p1 _ (he _) Z G_hit hl ?_
  refine B6 (.sl _) Z Z ?_
  refine A1 ?_
  refine B1 ?_
  exact A8 (.inr Z) (B4 (B2 Z)<|Td G_hit) (.refl _)
theorem Ju(p1 r)(h:Cv p1=some r):PCall prog 269 [.list (List.map I0 p1)] (.list (List.map I0 r)):=by
  have hr:r=p1:=by obtain ⟨_,rfl⟩:=Do h;rfl
  subst hr
  cases r with
  |cons x xs=>exact Dv (x::xs) _ h (fun _=>rfl) fun _=>F4 (fun _=>rfl)
  |nil=>
   refine PCall.nil fun A cap=> ?_
   cases A with
   |some A=>exact Dv [] (.v (.slice (some A) 0 cap)) h (fun _=>rfl) fun _=>rfl
   |none=>
    refine C0 (fk func269 ntmps269 m0 (by with_unfolding_all rfl)) (Nat.le_of_ble_eq_true Z) ?_
    refine (A5 (s0:=⟨T [(0, .d (.v (.slice none 0 cap)))],G []⟩) (C3 ⟨.of Z,trivial⟩ trivial) ?_)
    refine A2 ?_
    refine O9 fun _ _=> ?_
    refine B6 (.d .nilS) Z Z ?_
    refine A1 ?_
    refine A2 ?_
    refine A2 ?_
    refine O9 fun _ _=> ?_
    refine B6 (.d _) Z Z ?_
    refine B6 (.d (bo true)) Z Z ?_
    refine A1 ?_
    refine Ob Z ?_
    refine A2 ?_
    refine O9 fun _ _=> ?_
    refine B6 (.d .nilS) Z Z ?_
    refine A1 ?_
    refine B1 ?_
    exact A8 (.inr Z) (B4 (B2 Z) C2) .nil
def Hg (p1:(List Spot)):Option Curve:=
  (Cv p1).bind fun v1=>some (Curve.mk v1)
theorem Sj(p1 r)(h:Hg p1=some r):PCall prog 250 [(.list (List.map I0 p1))] (.agg [(.list (List.map I0 r.Pts))]):=by
 refine C0 (fk func250 ntmps250 m0 (by with_unfolding_all rfl)) (nl Z) ?_
 unfold Hg at h
 refine A5 (s0:=⟨T [(0,(.d _))],G []⟩) (D2 Z Z) ?_
 refine B5<|sm Z<|A1<|B5<|sv Z<|bs h fun v1 hv1 h=>B8 Z Z A3 (Ju _ _ hv1) (.inl Z) (sv Z<|Aj Z G_hit [(dl I0 v1)] Z (A1<|B1 ?_))
 cases h
 exact A8 (.inr Z) (B4 (H8 Z G_hit (nl Z) Z) C2) (.refl _)
def Lq (p1:Curve):Option Curve:=
  (Hg p1.Pts).bind fun v1=>some v1
theorem Xi(p1 r)(h:Lq p1=some r):PCall prog 194 [(.agg [(.list (List.map I0 p1.Pts))])] (.agg [(.list (List.map I0 r.Pts))]):=by
 refine C0 (fk func194 ntmps194 m0 (by with_unfolding_all rfl)) (nl Z) ?_
 unfold Lq at h
 refine A5 (s0:=⟨T [(0,(.d _))],G []⟩) (D2 Z Z) ?_
 refine B5<|sm Z<|sn Z Z<|A1<|B5<|sq Z<|sl Z (gq Z) Z (bs h fun v1 hv1 h=>B8 Z Z A3 (Sj _ _ hv1) (.inl Z) (Aj Z G_hit [(dl I0 v1.Pts)] Z (A1<|B1 ?_)))
 cases h
 exact A8 (.inr Z) (B4 (H8 Z G_hit (nl Z) Z) C2) (.refl _)
def W8 (p1:List Int):Option (List Int):=U5 [] p1
theorem Fa (p1:List Int)(a0:D)(hl:U5 ([]:List Int) p1=some p1)(hn: ∀h,G7 (T [(3, .d a0),(2, .d .nilS),(0, .d a0)]) h (.isnil false (.t 3))=some (.d (bo false)))(he: ∀h,U6 h 1 (.d a0)=some (List.map A7 p1)):
    PCall prog 195 [a0] (.list (List.map A7 p1)):=by
  refine C0 (fk func195 ntmps195 m0 (by with_unfolding_all rfl)) (Nat.le_of_ble_eq_true Z) ?_
  refine (A5 (s0:=⟨T [(0, .d a0)],G []⟩) (C3 ⟨.of Z,trivial⟩ trivial) ?_)
  refine A2 ?_
  refine O9 fun _ _=> ?_
  refine B6 (.d .nilS) Z Z ?_
  refine A1 ?_
  refine A2 ?_
  refine A2 ?_
  refine O9 fun _ _=> ?_
  refine B6 (.d a0) Z Z ?_
  refine B6 (.d (bo false)) Z (hn _) ?_
  refine A1 ?_
  refine Oc Z ?_
  refine A9 ?_
  refine A2 ?_
  refine O9 fun _ _=> ?_
  refine Tg (.sl _) (.arr 3 1 (List.map A7 ([]:List Int))) Z Z ?_
  refine B6 (.d a0) Z Z ?_
  refine Gd A7 _ [] p1 _ (he _) Z G_hit hl ?_
  refine B6 (.sl _) Z Z ?_
  refine A1 ?_
  refine B1 ?_
  exact A8 (.inr Z) (B4 (B2 Z)<|Td G_hit) (.refl _)
theorem Fw(p1 r)(h:W8 p1=some r):PCall prog 195 [.list (List.map A7 p1)] (.list (List.map A7 r)):=by
  have hr:r=p1:=by obtain ⟨_,rfl⟩:=Do h;rfl
  subst hr
  cases r with
  |cons x xs=>exact Fa (x::xs) _ h (fun _=>rfl) fun _=>F4 (fun _=>rfl)
  |nil=>
   refine PCall.nil fun A cap=> ?_
   cases A with
   |some A=>exact Fa [] (.v (.slice (some A) 0 cap)) h (fun _=>rfl) fun _=>rfl
   |none=>
    refine C0 (fk func195 ntmps195 m0 (by with_unfolding_all rfl)) (Nat.le_of_ble_eq_true Z) ?_
    refine (A5 (s0:=⟨T [(0, .d (.v (.slice none 0 cap)))],G []⟩) (C3 ⟨.of Z,trivial⟩ trivial) ?_)
    refine A2 ?_
    refine O9 fun _ _=> ?_
    refine B6 (.d .nilS) Z Z ?_
    refine A1 ?_
    refine A2 ?_
    refine A2 ?_
    refine O9 fun _ _=> ?_
    refine B6 (.d _) Z Z ?_
    refine B6 (.d (bo true)) Z Z ?_
    refine A1 ?_
    refine Ob Z ?_
    refine A2 ?_
    refine O9 fun _ _=> ?_
    refine B6 (.d .nilS) Z Z ?_
    refine A1 ?_
    refine B1 ?_
    exact A8 (.inr Z) (B4 (B2 Z) C2) .nil
def Ff (p1:Lane):Option Lane:=
  (Lq p1.Curve_).bind fun v1=>(W8 p1.Next).bind fun v2=>some (Lane.mk p1.Kind v1 p1.Half p1.Limit v2)
theorem Sk(p1 r)(h:Ff p1=some r):PCall prog 87 [(.agg (R8 p1))] (.agg (R8 r)):=by
 refine C0 (fk func87 ntmps87 m0 (by with_unfolding_all rfl)) (nl Z) ?_
 unfold Ff at h
 refine A5 (s0:=⟨T [(0,(.d _))],G []⟩) (D2 Z Z) ?_
 refine B5<|sm Z<|sn Z Z<|A1<|A2<|J6 Z<|sq Z<|sd Z (B3 Z (gq Z) Z Z)<|bs h fun v1 hv1 h=>B8 Z Z A3 (Xi _ _ hv1) (.inl Z) (sq Z<|sl Z (gq Z) Z (bs h fun v2 hv2 h=>B8 Z Z A3 (Fw _ _ hv2) (.inl Z) (sq Z<|Aj Z (gq Z) ((De p1).set 1 (dl I0 v1.Pts)) Z (sq Z<|Aj Z G_hit (((De p1).set 1 (dl I0 v1.Pts)).set 4 (dl A7 v2)) Z (A1<|B5<|sd Z (B3 Z G_hit Z Z)<|Aj Z (gq Z) (((De p1).set 1 (dl I0 v1.Pts)).set 4 (dl A7 v2)) Z (A1<|B1 ?_))))))
 cases h
 exact A8 (.inr Z) (B4 (H8 Z G_hit (nl Z) Z) C2) (.refl _)
def Eu (p1:Edit)(p2:Lane):Option Edit:=
  (Ff p2).bind fun v1=>some (Edit.mk p1.Kind p1.Table p1.At v1 p1.Zone_ p1.Signal_ p1.Work_)
theorem Me(p1 p2 r)(h:Eu p1 p2=some r):PCall prog 97 [(.agg (E3 p1)),(.agg (R8 p2))] (.agg (E3 r)):=by
 refine C0 (fk func97 ntmps97 m0 (by with_unfolding_all rfl)) (nl Z) ?_
 unfold Eu at h
 refine A5 (s0:=⟨T [(0,(.d _)),(1,(.d _))],G []⟩) (D2 Z Z) ?_
 refine B5<|sm Z<|sn Z Z<|sm Z<|A1<|B5<|sd Z (B3 Z (gq Z) Z Z)<|bs h fun v1 hv1 h=>B8 Z Z A3 (Sk _ _ hv1) (.inl Z) (sq Z<|Aj Z (gq Z) ((((((Ou p1).set 3 (di v1.Kind)).set 4 (dl I0 v1.Curve_.Pts)).set 5 (di v1.Half)).set 6 (di v1.Limit)).set 7 (dl A7 v1.Next)) Z (A1<|B5<|sd Z (B3 Z G_hit Z Z)<|Aj Z (gq Z) ((((((Ou p1).set 3 (di v1.Kind)).set 4 (dl I0 v1.Curve_.Pts)).set 5 (di v1.Half)).set 6 (di v1.Limit)).set 7 (dl A7 v1.Next)) Z (A1<|B1 ?_)))
 cases h
 exact A8 (.inr Z) (B4 (H8 Z G_hit (nl Z) Z) C2) (.refl _)
def M6 (p1:Int)(p3:(List Lane))(x3:((List Edit)×Int)):Option (Stp ((List Edit)×Int) (List Edit)):=
  cond (decide (x3.2< (p3.length:Int))) ((D6 p3 x3.2).bind fun v8=>(Eu (Edit.mk 1 p1 x3.2 (Lane.mk 0 (Curve.mk []) 0 0 []) (Zone.mk [] 0) (Signal.mk 0 []) (Work.mk 0 0 0 0 0 0)) v8).bind fun v9=>(U5 x3.1 [v9]).bind fun v10=>some (.go (v10,(I8 (x3.2+1))))) (some (.out x3.1))
def M7 (p1:Int)(p2:(List Lane))(p3:(List Lane))(x2:((List Edit)×Int)):Option (Stp ((List Edit)×Int) (List Edit)):=
  cond (decide (x2.2≥(Ej false (p2.length:Int) (p3.length:Int)))) ((U5 x2.1 [(Edit.mk 2 p1 x2.2 (Lane.mk 0 (Curve.mk []) 0 0 []) (Zone.mk [] 0) (Signal.mk 0 []) (Work.mk 0 0 0 0 0 0))]).bind fun v7=>some (.go (v7,(I8 (x2.2 - 1))))) (some (.out x2.1))
def M8 [Lp](p1:Int)(p2:(List Lane))(p3:(List Lane))(x1:((List Edit)×Int)):Option (Stp ((List Edit)×Int) (List Edit)):=
  cond (decide (x1.2< (Ej false (p2.length:Int) (p3.length:Int)))) ((D6 p2 x1.2).bind fun v1=>(D6 p3 x1.2).bind fun v2=>(Cc v1 v2).bind fun v3=>cond (!v3) ((D6 p3 x1.2).bind fun v4=>(Eu (Edit.mk 3 p1 x1.2 (Lane.mk 0 (Curve.mk []) 0 0 []) (Zone.mk [] 0) (Signal.mk 0 []) (Work.mk 0 0 0 0 0 0)) v4).bind fun v5=>(U5 x1.1 [v5]).bind fun v6=>some (.go (v6,(I8 (x1.2+1))))) (some (.go (x1.1,(I8 (x1.2+1)))))) (some (.out x1.1))
def H4 [Lp](p1:Int)(p2:(List Lane))(p3:(List Lane)):Option (List Edit):=
  (loop (M8 p1 p2 p3) ([],0)).bind fun y1=>(loop (M7 p1 p2 p3) (y1,(I8 ((p2.length:Int) - 1)))).bind fun y2=>(loop (M6 p1 p3) (y2,(Ej false (p2.length:Int) (p3.length:Int)))).bind fun y3=>some y3
theorem Bf(p1 p2 p3 r)(h:H4 p1 p2 p3=some r):PCall prog 95 [(i64 p1),(.list (List.map R8 p2)),(.list (List.map R8 p3)),(.fn (.func 96) [] []),(.fn (.func 97) [] [])] (.list (List.map E3 r)):=by
 refine C0 (fk func95 ntmps95 (fun r=>if r==7 then [1010]else if r==12 then [1004]else if r==16 then [1010]else []) (by with_unfolding_all rfl)) (nl Z) ?_
 unfold H4 at h
 refine A5 (s0:=⟨T [(0,(.d _)),(1,(.d _)),(2,(.d _)),(3,(.d _)),(4,(.d _))],G []⟩) (D2 Z Z) ?_
 refine B5<|sv Z<|A1<|B5<|sv Z<|A1<|B5<|sv Z<|sd Z (C1 Z)<|sv Z<|sd Z (C1 Z)<|sv Z<|sv Z<|A1<|A2<|B5<|sv Z<|sv Z<|A1<|bs h fun y1 hy1 h=>D5 (fun s=> ∃g1:Nat,Sb ⟨T [(0,(di p1)),(1,(dl R8 p2)),(2,(dl R8 p3)),(4,(.d (.fn (.func 97) [] []))),(11,(oS y1 (47,g1))),(12,(di<|Ej false (p2.length:Int) (p3.length:Int)))],G [((47,g1),oB 52 18 E3 y1)]⟩ s) ?_ ?_
 refine A6<|E0 (M8 p1 p2 p3) (fun (x1:((List Edit)×Int)) (g2:Nat)=>⟨T [(0,(di p1)),(1,(dl R8 p2)),(2,(dl R8 p3)),(3,(.d (.fn (.func 96) [] []))),(4,(.d (.fn (.func 97) [] []))),(11,(oS x1.1 (47,g2))),(12,(di<|Ej false (p2.length:Int) (p3.length:Int))),(21,(di<|Ej false (p2.length:Int) (p3.length:Int))),(22,(di x1.2))],G [((47,g2),oB 52 18 E3 x1.1)]⟩) ([],0) 0 _ hy1 (C3 (U2 Z)<|Y1 trivial) ?_
 intro x1 g2 z1 hz1 ez1
 unfold M8 at hz1
 refine B5<|sv Z<|A1<|A2<|cc Z hz1 (fun c1 hz1=> ?_)<|fun c1 hz1=> ?_
 refine A9<|A2<|A6<|B5<|sv Z<|sv Z<|A1<|A2<|J6 Z<|sv Z<|sv Z<|sv Z<|bs hz1 fun _ hv1 hz1=>sd Z (C9 Z Z hv1 Z)<|sd Z (B9 Z hv1 Z Z)<|sv Z<|sv Z<|bs hz1 fun _ hv2 hz1=>sd Z (C9 Z Z hv2 Z)<|sd Z (B9 Z hv2 Z Z)<|bs hz1 fun v3 hv3 hz1=>B8 Z Z A3 (Rb _ _ _ hv3) (.inl Z) (B6 (.d (bo (!v3))) Z Z (A1<|cc Z hz1 (fun c2 hz1=> ?_)<|fun c2 hz1=> ?_))
 refine A5 (s0:=⟨T [(0,(di p1)),(1,(dl R8 p2)),(2,(dl R8 p3)),(3,(.d (.fn (.func 96) [] []))),(4,(.d (.fn (.func 97) [] []))),(11,(oS x1.1 (47,g2))),(12,(di<|Ej false (p2.length:Int) (p3.length:Int))),(13,(di x1.2)),(21,(di<|Ej false (p2.length:Int) (p3.length:Int))),(22,(di x1.2))],G [((47,g2),oB 52 18 E3 x1.1)]⟩) (C3 (U2 Z)<|D3 G_hit trivial) ?_
 refine O9 fun u8 _=>B6 (oS x1.1 (47,g2)) Z Z (sv Z<|sv Z<|sv Z<|sv Z<|sv Z<|sv Z<|bs hz1 fun _ hv4 hz1=>sd Z (C9 Z Z hv4 Z)<|sd Z (B9 Z hv4 Z Z)<|bs hz1 fun v5 hv5 hz1=>B8 Z Z (.cons (.agg (ca Z<|ca Z<|ca Z<|ca Z<|.cons ⟨DLe.nil,Z⟩ (ca Z<|ca Z<|.cons ⟨DLe.nil,Z⟩ (.cons ⟨DLe.nil,Z⟩ (ca Z<|ca Z<|.cons ⟨DLe.nil,Z⟩ (cz Z)))))) A3) (Me _ _ _ hv5) (.inl Z) (B6 (dl E3 [v5]) Z (Bx E3 ([v5]:List Edit) (fun _=>Z) Z Z ⟨Z,Z,Z,trivial⟩ (fun _=>Z)) (bs hz1 fun _ hv6 hz1=>J2 E3 (47,g2) x1.1 v5 [] _ (F4<|fun _=>Z) Z G_hit hv6 (ss Z<|A1<|D9<|A5 (s0:=⟨T [(0,(.d _)),(1,(.d _)),(2,(.d _)),(3,(.d _)),(4,(.d _)),(11,(.sl _)),(12,(.d _)),(21,(.d _)),(22,(.d _))],G [((47,u8),some _)]⟩) (D2 Z Z) ?_))))
 refine B0<|sv Z<|sv Z<|A1<|E7 ?_
 cases hz1
 exact ⟨Z,u8,(C3 ⟨.of Z, .of Z, .of Z, .of Z, .of Z,(.of (Ai<|O0 hv6).symm), .of Z, .of Z, .of Z,trivial⟩<|P5 G_hit trivial)⟩
 refine A9<|D9<|A5 (s0:=⟨T [(0,(di p1)),(1,(dl R8 p2)),(2,(dl R8 p3)),(3,(.d (.fn (.func 96) [] []))),(4,(.d (.fn (.func 97) [] []))),(11,(oS x1.1 (47,g2))),(12,(di<|Ej false (p2.length:Int) (p3.length:Int))),(21,(di<|Ej false (p2.length:Int) (p3.length:Int))),(22,(di x1.2))],G [((47,g2),oB 52 18 E3 x1.1)]⟩) (C3 (U2 Z)<|D3 G_hit trivial) ?_
 refine B0<|sv Z<|sv Z<|A1<|E7 ?_
 cases hz1
 exact ⟨Z,g2,(C3 (U2 Z)<|D3 G_hit trivial)⟩
 refine C5 Z ?_
 cases hz1
 obtain rfl:=ez1 _ rfl
 refine ⟨nofun,C4 Z<|Y5 ?_⟩
 exact ⟨g2,(C3 (U2 Z)<|D3 G_hit trivial)⟩
 rintro _ ⟨g1,q1⟩
 refine A5 q1<|A2<|B5<|sv Z<|sd Z (C1 Z)<|sv Z<|sv Z<|A1<|bs h fun y2 hy2 h=>D5 (fun s=> ∃g3:({d:Nat // d∈ [47,62]}×Nat),Sb ⟨T [(0,(di p1)),(2,(dl R8 p3)),(4,(.d (.fn (.func 97) [] []))),(11,(oS y2 (g3.1.val,g3.2))),(12,(di<|Ej false (p2.length:Int) (p3.length:Int)))],G [((g3.1.val,g3.2),oB 52 18 E3 y2)]⟩ s) ?_ ?_
 refine A6<|E0 (M7 p1 p2 p3) (fun (x2:((List Edit)×Int)) (g4:({d:Nat // d∈ [47,62]}×Nat))=>⟨T [(0,(di p1)),(2,(dl R8 p3)),(4,(.d (.fn (.func 97) [] []))),(11,(oS x2.1 (g4.1.val,g4.2))),(12,(di<|Ej false (p2.length:Int) (p3.length:Int))),(14,(di x2.2))],G [((g4.1.val,g4.2),oB 52 18 E3 x2.1)]⟩) (y1,(I8 ((p2.length:Int) - 1))) (⟨47, .head _⟩,g1) _ hy2 (C3 (U2 Z)<|D3 G_hit trivial) ?_
 intro x2 g4 z2 hz2 ez2
 unfold M7 at hz2
 refine A2<|B5<|sv Z<|sv Z<|sv Z<|A1<|cc Z hz2 (fun c3 hz2=> ?_)<|fun c3 hz2=> ?_
 refine A9<|A2<|A6<|O9 fun u13 _=>B6 (oS x2.1 (g4.1.val,g4.2)) Z Z (sv Z<|sv Z<|sv Z<|B6 (dl E3 [(Edit.mk 2 p1 x2.2 (Lane.mk 0 (Curve.mk []) 0 0 []) (Zone.mk [] 0) (Signal.mk 0 []) (Work.mk 0 0 0 0 0 0))]) Z Z (bs hz2 fun _ hv7 hz2=>J2 E3 (g4.1.val,g4.2) x2.1 (Edit.mk 2 p1 x2.2 (Lane.mk 0 (Curve.mk []) 0 0 []) (Zone.mk [] 0) (Signal.mk 0 []) (Work.mk 0 0 0 0 0 0)) [] _ (F4<|fun _=>Z) Z G_hit hv7 (ss Z<|A1<|D9<|B0<|sv Z<|sv Z<|sv Z<|A1<|E7 ?_)))
 cases hz2
 exact ⟨Z,(⟨62, .tail _ (.head _)⟩,u13),(C3 ⟨.of Z, .of Z, .of Z,(.of (Ai<|O0 hv7).symm), .of Z, .of Z,trivial⟩<|P5 G_hit trivial)⟩
 refine C5 Z ?_
 cases hz2
 obtain rfl:=ez2 _ rfl
 refine ⟨nofun,C4 Z<|Y5 ?_⟩
 exact ⟨(g4.1,g4.2),(C3 (U2 Z)<|D3 G_hit trivial)⟩
 rintro _ ⟨g3,q2⟩
 refine A5 q2<|A2<|B5<|sv Z<|sv Z<|A1<|bs h fun y3 hy3 h=>D5 (fun s=> ∃g5:({d:Nat // d∈ [47,62,81]}×Nat),Sb ⟨T [(11,(oS y3 (g5.1.val,g5.2)))],G [((g5.1.val,g5.2),oB 52 18 E3 y3)]⟩ s) ?_ ?_
 refine A6<|E0 (M6 p1 p3) (fun (x3:((List Edit)×Int)) (g6:({d:Nat // d∈ [47,62,81]}×Nat))=>⟨T [(0,(di p1)),(2,(dl R8 p3)),(4,(.d (.fn (.func 97) [] []))),(11,(oS x3.1 (g6.1.val,g6.2))),(15,(di x3.2))],G [((g6.1.val,g6.2),oB 52 18 E3 x3.1)]⟩) (y2,(Ej false (p2.length:Int) (p3.length:Int))) (⟨g3.1.val,PA g3.1.property Z⟩,g3.2) _ hy3 (C3 (U2 Z)<|D3 G_hit trivial) ?_
 intro x3 g6 z3 hz3 ez3
 unfold M6 at hz3
 refine A2<|B5<|sv Z<|sv Z<|sd Z (C1 Z)<|sv Z<|A1<|cc Z hz3 (fun c4 hz3=> ?_)<|fun c4 hz3=> ?_
 refine A9<|A2<|A6<|O9 fun u17 _=>B6 (oS x3.1 (g6.1.val,g6.2)) Z Z (sv Z<|sv Z<|sv Z<|sv Z<|sv Z<|sv Z<|bs hz3 fun _ hv8 hz3=>sd Z (C9 Z Z hv8 Z)<|sd Z (B9 Z hv8 Z Z)<|bs hz3 fun v9 hv9 hz3=>B8 Z Z (.cons (.agg (ca Z<|ca Z<|ca Z<|ca Z<|.cons ⟨DLe.nil,Z⟩ (ca Z<|ca Z<|.cons ⟨DLe.nil,Z⟩ (.cons ⟨DLe.nil,Z⟩ (ca Z<|ca Z<|.cons ⟨DLe.nil,Z⟩ (cz Z)))))) A3) (Me _ _ _ hv9) (.inl Z) (B6 (dl E3 [v9]) Z (Bx E3 ([v9]:List Edit) (fun _=>Z) Z Z ⟨Z,Z,Z,trivial⟩ (fun _=>Z)) (bs hz3 fun _ hv10 hz3=>J2 E3 (g6.1.val,g6.2) x3.1 v9 [] _ (F4<|fun _=>Z) Z G_hit hv10 (ss Z<|A1<|D9<|A5 (s0:=⟨T [(0,(.d _)),(2,(.d _)),(4,(.d _)),(11,(.sl _)),(15,(.d _))],G [((81,u17),some _)]⟩) (D2 Z Z) ?_))))
 refine B0<|sv Z<|sv Z<|sv Z<|A1<|E7 ?_
 cases hz3
 exact ⟨Z,(⟨81, .tail _ (.tail _ (.head _))⟩,u17),(C3 ⟨.of Z, .of Z, .of Z,(.of (Ai<|O0 hv10).symm), .of Z,trivial⟩<|P5 G_hit trivial)⟩
 refine C5 Z ?_
 cases hz3
 obtain rfl:=ez3 _ rfl
 refine ⟨nofun,C4 Z<|Y5 ?_⟩
 exact ⟨(g6.1,g6.2),(C3 ⟨.of Z,trivial⟩<|D3 G_hit trivial)⟩
 rintro _ ⟨g5,q3⟩
 refine A5 q3<|B5<|B6 (oS y3 (g5.1.val,g5.2)) Z Z (B6 (oS y3 (g5.1.val,g5.2)) Z Z (A1<|B1 ?_))
 cases h
 exact A8 (.inr Z) (B4 (B2 Z)<|Ed G_hit) Ec
def R0 (p1:(List Part))(p2:(List Part))(x1:Int):Option (Stp Int (Sum Unit Bool)):=
  cond (decide (x1< (p1.length:Int))) ((D6 p1 x1).bind fun v1=>(D6 p2 x1).bind fun v2=>cond (!(v1.Lane_==v2.Lane_&& (v1.From==v2.From&& (v1.To==v2.To&& (v1.Rank==v2.Rank&&true))))) (some (.out (.inr false))) (some (.go (I8 (x1+1))))) (some (.out (.inl ())))
def Y3 [Lp](p1:(List Part))(p2:(List Part)):Option Bool:=
  cond ((p1.length:Int) !=(p2.length:Int)) (some false) (thenS (loop (R0 p1 p2) 0) (fun _=>some true) (fun r=>some r))
theorem Jv(p1 p2 r)(h:Y3 p1 p2=some r):PCall prog 200 [(.list (List.map G1 p1)),(.list (List.map G1 p2))] (bo r):=by
 refine C0 (fk func200 ntmps200 m0 (by with_unfolding_all rfl)) (nl Z) ?_
 unfold Y3 at h
 refine A5 (s0:=⟨T [(0,(.d _)),(1,(.d _))],G []⟩) (D2 Z Z) ?_
 refine B5<|sv Z<|A1<|A2<|B5<|sv Z<|sd Z (C1 Z)<|sv Z<|sd Z (C1 Z)<|sv Z<|A1<|cc Z h (fun c1 h=> ?_)<|fun c1 h=> ?_
 refine B5<|sv Z<|A1<|B1 ?_
 cases h
 exact A8 (.inr Z) (B4 (B2 Z) C2) (.refl _)
 refine A9<|A2<|B5<|sv Z<|sd Z (C1 Z)<|sv Z<|A1<|js h fun z1 hz1 h=>D5 (fun s=> ∃(y1:Unit) (g1:Unit),z1= .inl y1∧Sb ⟨T [],G []⟩ s) ?_ ?_
 refine A6<|E0 (R0 p1 p2) (fun (x1:Int) (g2:Unit)=>⟨T [(0,(dl G1 p1)),(1,(dl G1 p2)),(12,(di (p1.length:Int))),(13,(di x1))],G []⟩) 0 () _ hz1 (D2 Z Z) ?_
 intro x1 g2 z2 hz2 ez2
 unfold R0 at hz2
 refine B5<|sv Z<|A1<|A2<|cc Z hz2 (fun c2 hz2=> ?_)<|fun c2 hz2=> ?_
 refine A9<|A2<|A6<|B5<|sv Z<|sv Z<|A1<|A2<|J6 Z<|sv Z<|sv Z<|bs hz2 fun v1 hv1 hz2=>sd Z (C9 Z Z hv1 Z)<|sd Z (B9 Z hv1 Z Z)<|sv Z<|sv Z<|bs hz2 fun v2 hv2 hz2=>sd Z (C9 Z Z hv2 Z)<|sd Z (B9 Z hv2 Z Z)<|B6 (.d (bo (!(v1.Lane_==v2.Lane_&& (v1.From==v2.From&& (v1.To==v2.To&& (v1.Rank==v2.Rank&&true))))))) Z Z (A1<|cc Z hz2 (fun c3 hz2=> ?_)<|fun c3 hz2=> ?_)
 refine B5<|sv Z<|A1<|B1 ?_
 cases hz2
 obtain rfl:=ez2 _ rfl
 refine ⟨nofun,E4 ?_⟩
 rw [bJ]at h
 cases h
 exact A8 (.inr Z) (B4 (B2 Z) C2) (.refl _)
 refine A9<|D9<|B0<|sv Z<|sv Z<|A1<|E7 ?_
 cases hz2
 exact ⟨Z,(),(D2 Z Z)⟩
 refine C5 Z ?_
 cases hz2
 obtain rfl:=ez2 _ rfl
 refine ⟨nofun,C4 Z<|Y5 ?_⟩
 exact ⟨_,(),Z,(D2 Z Z)⟩
 rintro _ ⟨y1,g1,rfl,q1⟩
 rw [bI]at h
 refine A5 q1<|B5<|sv Z<|A1<|B1 ?_
 cases h
 exact A8 (.inr Z) (B4 (B2 Z) C2) (.refl _)
def Cd [Lp](p1:Zone)(p2:Zone):Option Bool:=
  ((cond (p1.Signal_==p2.Signal_) (Y3 p1.Parts p2.Parts) (some default))).bind fun v1=>some ((p1.Signal_==p2.Signal_)&&v1)
theorem Rc(p1 p2 r)(h:Cd p1 p2=some r):PCall prog 99 [(.agg [(.list (List.map G1 p1.Parts)),(i64 p1.Signal_)]),(.agg [(.list (List.map G1 p2.Parts)),(i64 p2.Signal_)])] (bo r):=by
 refine C0 (fk func99 ntmps99 m0 (by with_unfolding_all rfl)) (nl Z) ?_
 unfold Cd at h
 refine A5 (s0:=⟨T [(0,(.d _)),(1,(.d _))],G []⟩) (D2 Z Z) ?_
 refine B5<|sm Z<|sn Z Z<|sv Z<|A1<|B5<|sq Z<|sl Z (gq Z) Z (sq Z<|sl Z G_hit Z<|sv Z<|sv Z<|gp Z (P4 Z) (fun _=>Z) (gt Z (vl Z (gq Z) Z)<|gp Z (P4 Z) (fun _=>Z) (gt Z (vl Z G_hit Z)<|bs h fun v1 hv1 h=> ?_)))
 refine L4 _ (bo v1) (P4 Z) (fun w5=>⟨_,[(dl G1 p1.Parts),(dl G1 p2.Parts)],_,_,(by simp only [A4 w5];rfl),Z,A3,Jv _ _ _<|G0 w5 hv1,(.inl Z)⟩) ?_
 refine sa Z Z Z<|sv Z<|A1<|B1 ?_
 cases h
 exact A8 (.inr Z) (B4 (B2 Z) C2) (.refl _)
def Cw (p1:List Part):Option (List Part):=U5 [] p1
theorem Dw (p1:List Part)(a0:D)(hl:U5 ([]:List Part) p1=some p1)(hn: ∀h,G7 (T [(3, .d a0),(2, .d .nilS),(0, .d a0)]) h (.isnil false (.t 3))=some (.d (bo false)))(he: ∀h,U6 h 4 (.d a0)=some (List.map G1 p1)):
    PCall prog 196 [a0] (.list (List.map G1 p1)):=by
  refine C0 (fk func196 ntmps196 m0 (by with_unfolding_all rfl)) (Nat.le_of_ble_eq_true Z) ?_
  refine (A5 (s0:=⟨T [(0, .d a0)],G []⟩) (C3 ⟨.of Z,trivial⟩ trivial) ?_)
  refine A2 ?_
  refine O9 fun _ _=> ?_
  refine B6 (.d .nilS) Z Z ?_
  refine A1 ?_
  refine A2 ?_
  refine A2 ?_
  refine O9 fun _ _=> ?_
  refine B6 (.d a0) Z Z ?_
  refine B6 (.d (bo false)) Z (hn _) ?_
  refine A1 ?_
  refine Oc Z ?_
  refine A9 ?_
  refine A2 ?_
  refine O9 fun _ _=> ?_
  refine Tg (.sl _) (.arr 91 4 (List.map G1 ([]:List Part))) Z Z ?_
  refine B6 (.d a0) Z Z ?_
  refine Gd G1 _ [] p1 _ (he _) Z G_hit hl ?_
  refine B6 (.sl _) Z Z ?_
  refine A1 ?_
  refine B1 ?_
  exact A8 (.inr Z) (B4 (B2 Z)<|Td G_hit) (.refl _)
theorem Jw(p1 r)(h:Cw p1=some r):PCall prog 196 [.list (List.map G1 p1)] (.list (List.map G1 r)):=by
  have hr:r=p1:=by obtain ⟨_,rfl⟩:=Do h;rfl
  subst hr
  cases r with
  |cons x xs=>exact Dw (x::xs) _ h (fun _=>rfl) fun _=>F4 (fun _=>rfl)
  |nil=>
   refine PCall.nil fun A cap=> ?_
   cases A with
   |some A=>exact Dw [] (.v (.slice (some A) 0 cap)) h (fun _=>rfl) fun _=>rfl
   |none=>
    refine C0 (fk func196 ntmps196 m0 (by with_unfolding_all rfl)) (Nat.le_of_ble_eq_true Z) ?_
    refine (A5 (s0:=⟨T [(0, .d (.v (.slice none 0 cap)))],G []⟩) (C3 ⟨.of Z,trivial⟩ trivial) ?_)
    refine A2 ?_
    refine O9 fun _ _=> ?_
    refine B6 (.d .nilS) Z Z ?_
    refine A1 ?_
    refine A2 ?_
    refine A2 ?_
    refine O9 fun _ _=> ?_
    refine B6 (.d _) Z Z ?_
    refine B6 (.d (bo true)) Z Z ?_
    refine A1 ?_
    refine Ob Z ?_
    refine A2 ?_
    refine O9 fun _ _=> ?_
    refine B6 (.d .nilS) Z Z ?_
    refine A1 ?_
    refine B1 ?_
    exact A8 (.inr Z) (B4 (B2 Z) C2) .nil
def Fg (p1:Zone):Option Zone:=
  (Cw p1.Parts).bind fun v1=>some (Zone.mk v1 p1.Signal_)
theorem Sl(p1 r)(h:Fg p1=some r):PCall prog 89 [(.agg [(.list (List.map G1 p1.Parts)),(i64 p1.Signal_)])] (.agg [(.list (List.map G1 r.Parts)),(i64 r.Signal_)]):=by
 refine C0 (fk func89 ntmps89 m0 (by with_unfolding_all rfl)) (nl Z) ?_
 unfold Fg at h
 refine A5 (s0:=⟨T [(0,(.d _))],G []⟩) (D2 Z Z) ?_
 refine B5<|sm Z<|sn Z Z<|A1<|B5<|sq Z<|sl Z (gq Z) Z (bs h fun v1 hv1 h=>B8 Z Z A3 (Jw _ _ hv1) (.inl Z) (sq Z<|Aj Z (gq Z) [(dl G1 v1),(di p1.Signal_)] Z (A1<|B5<|sd Z (B3 Z G_hit Z Z)<|Aj Z (gq Z) [(dl G1 v1),(di p1.Signal_)] Z (A1<|B1 ?_))))
 cases h
 exact A8 (.inr Z) (B4 (H8 Z G_hit (nl Z) Z) C2) (.refl _)
def Ev (p1:Edit)(p2:Zone):Option Edit:=
  (Fg p2).bind fun v1=>some (Edit.mk p1.Kind p1.Table p1.At p1.Lane_ v1 p1.Signal_ p1.Work_)
theorem Mf(p1 p2 r)(h:Ev p1 p2=some r):PCall prog 100 [(.agg (E3 p1)),(.agg [(.list (List.map G1 p2.Parts)),(i64 p2.Signal_)])] (.agg (E3 r)):=by
 refine C0 (fk func100 ntmps100 m0 (by with_unfolding_all rfl)) (nl Z) ?_
 unfold Ev at h
 refine A5 (s0:=⟨T [(0,(.d _)),(1,(.d _))],G []⟩) (D2 Z Z) ?_
 refine B5<|sm Z<|sn Z Z<|sm Z<|A1<|B5<|sd Z (B3 Z (gq Z) Z Z)<|bs h fun v1 hv1 h=>B8 Z Z A3 (Sl _ _ hv1) (.inl Z) (sq Z<|Aj Z (gq Z) (((Ou p1).set 8 (dl G1 v1.Parts)).set 9 (di v1.Signal_)) Z (A1<|B5<|sd Z (B3 Z G_hit Z Z)<|Aj Z (gq Z) (((Ou p1).set 8 (dl G1 v1.Parts)).set 9 (di v1.Signal_)) Z (A1<|B1 ?_)))
 cases h
 exact A8 (.inr Z) (B4 (H8 Z G_hit (nl Z) Z) C2) (.refl _)
def M9 (p1:Int)(p3:(List Zone))(x3:((List Edit)×Int)):Option (Stp ((List Edit)×Int) (List Edit)):=
  cond (decide (x3.2< (p3.length:Int))) ((D6 p3 x3.2).bind fun v8=>(Ev (Edit.mk 1 p1 x3.2 (Lane.mk 0 (Curve.mk []) 0 0 []) (Zone.mk [] 0) (Signal.mk 0 []) (Work.mk 0 0 0 0 0 0)) v8).bind fun v9=>(U5 x3.1 [v9]).bind fun v10=>some (.go (v10,(I8 (x3.2+1))))) (some (.out x3.1))
def N0 (p1:Int)(p2:(List Zone))(p3:(List Zone))(x2:((List Edit)×Int)):Option (Stp ((List Edit)×Int) (List Edit)):=
  cond (decide (x2.2≥(Ej false (p2.length:Int) (p3.length:Int)))) ((U5 x2.1 [(Edit.mk 2 p1 x2.2 (Lane.mk 0 (Curve.mk []) 0 0 []) (Zone.mk [] 0) (Signal.mk 0 []) (Work.mk 0 0 0 0 0 0))]).bind fun v7=>some (.go (v7,(I8 (x2.2 - 1))))) (some (.out x2.1))
def N1 [Lp](p1:Int)(p2:(List Zone))(p3:(List Zone))(x1:((List Edit)×Int)):Option (Stp ((List Edit)×Int) (List Edit)):=
  cond (decide (x1.2< (Ej false (p2.length:Int) (p3.length:Int)))) ((D6 p2 x1.2).bind fun v1=>(D6 p3 x1.2).bind fun v2=>(Cd v1 v2).bind fun v3=>cond (!v3) ((D6 p3 x1.2).bind fun v4=>(Ev (Edit.mk 3 p1 x1.2 (Lane.mk 0 (Curve.mk []) 0 0 []) (Zone.mk [] 0) (Signal.mk 0 []) (Work.mk 0 0 0 0 0 0)) v4).bind fun v5=>(U5 x1.1 [v5]).bind fun v6=>some (.go (v6,(I8 (x1.2+1))))) (some (.go (x1.1,(I8 (x1.2+1)))))) (some (.out x1.1))
def J4 [Lp](p1:Int)(p2:(List Zone))(p3:(List Zone)):Option (List Edit):=
  (loop (N1 p1 p2 p3) ([],0)).bind fun y1=>(loop (N0 p1 p2 p3) (y1,(I8 ((p2.length:Int) - 1)))).bind fun y2=>(loop (M9 p1 p3) (y2,(Ej false (p2.length:Int) (p3.length:Int)))).bind fun y3=>some y3
theorem Bg(p1 p2 p3 r)(h:J4 p1 p2 p3=some r):PCall prog 98 [(i64 p1),(.list (List.map N8 p2)),(.list (List.map N8 p3)),(.fn (.func 99) [] []),(.fn (.func 100) [] [])] (.list (List.map E3 r)):=by
 refine C0 (fk func98 ntmps98 (fun r=>if r==7 then [1010]else if r==12 then [1004]else if r==16 then [1010]else []) (by with_unfolding_all rfl)) (nl Z) ?_
 unfold J4 at h
 refine A5 (s0:=⟨T [(0,(.d _)),(1,(.d _)),(2,(.d _)),(3,(.d _)),(4,(.d _))],G []⟩) (D2 Z Z) ?_
 refine B5<|sv Z<|A1<|B5<|sv Z<|A1<|B5<|sv Z<|sd Z (C1 Z)<|sv Z<|sd Z (C1 Z)<|sv Z<|sv Z<|A1<|A2<|B5<|sv Z<|sv Z<|A1<|bs h fun y1 hy1 h=>D5 (fun s=> ∃g1:Nat,Sb ⟨T [(0,(di p1)),(1,(dl N8 p2)),(2,(dl N8 p3)),(4,(.d (.fn (.func 100) [] []))),(11,(oS y1 (47,g1))),(12,(di<|Ej false (p2.length:Int) (p3.length:Int)))],G [((47,g1),oB 52 18 E3 y1)]⟩ s) ?_ ?_
 refine A6<|E0 (N1 p1 p2 p3) (fun (x1:((List Edit)×Int)) (g2:Nat)=>⟨T [(0,(di p1)),(1,(dl N8 p2)),(2,(dl N8 p3)),(3,(.d (.fn (.func 99) [] []))),(4,(.d (.fn (.func 100) [] []))),(11,(oS x1.1 (47,g2))),(12,(di<|Ej false (p2.length:Int) (p3.length:Int))),(21,(di<|Ej false (p2.length:Int) (p3.length:Int))),(22,(di x1.2))],G [((47,g2),oB 52 18 E3 x1.1)]⟩) ([],0) 0 _ hy1 (C3 (U2 Z)<|Y1 trivial) ?_
 intro x1 g2 z1 hz1 ez1
 unfold N1 at hz1
 refine B5<|sv Z<|A1<|A2<|cc Z hz1 (fun c1 hz1=> ?_)<|fun c1 hz1=> ?_
 refine A9<|A2<|A6<|B5<|sv Z<|sv Z<|A1<|A2<|J6 Z<|sv Z<|sv Z<|sv Z<|bs hz1 fun _ hv1 hz1=>sd Z (C9 Z Z hv1 Z)<|sd Z (B9 Z hv1 Z Z)<|sv Z<|sv Z<|bs hz1 fun _ hv2 hz1=>sd Z (C9 Z Z hv2 Z)<|sd Z (B9 Z hv2 Z Z)<|bs hz1 fun v3 hv3 hz1=>B8 Z Z A3 (Rc _ _ _ hv3) (.inl Z) (B6 (.d (bo (!v3))) Z Z (A1<|cc Z hz1 (fun c2 hz1=> ?_)<|fun c2 hz1=> ?_))
 refine A5 (s0:=⟨T [(0,(di p1)),(1,(dl N8 p2)),(2,(dl N8 p3)),(3,(.d (.fn (.func 99) [] []))),(4,(.d (.fn (.func 100) [] []))),(11,(oS x1.1 (47,g2))),(12,(di<|Ej false (p2.length:Int) (p3.length:Int))),(13,(di x1.2)),(21,(di<|Ej false (p2.length:Int) (p3.length:Int))),(22,(di x1.2))],G [((47,g2),oB 52 18 E3 x1.1)]⟩) (C3 (U2 Z)<|D3 G_hit trivial) ?_
 refine O9 fun u8 _=>B6 (oS x1.1 (47,g2)) Z Z (sv Z<|sv Z<|sv Z<|sv Z<|sv Z<|sv Z<|bs hz1 fun _ hv4 hz1=>sd Z (C9 Z Z hv4 Z)<|sd Z (B9 Z hv4 Z Z)<|bs hz1 fun v5 hv5 hz1=>B8 Z Z (.cons (.agg (ca Z<|ca Z<|ca Z<|ca Z<|.cons ⟨DLe.nil,Z⟩ (ca Z<|ca Z<|.cons ⟨DLe.nil,Z⟩ (.cons ⟨DLe.nil,Z⟩ (ca Z<|ca Z<|.cons ⟨DLe.nil,Z⟩ (cz Z)))))) A3) (Mf _ _ _ hv5) (.inl Z) (B6 (dl E3 [v5]) Z (Bx E3 ([v5]:List Edit) (fun _=>Z) Z Z ⟨Z,Z,Z,trivial⟩ (fun _=>Z)) (bs hz1 fun _ hv6 hz1=>J2 E3 (47,g2) x1.1 v5 [] _ (F4<|fun _=>Z) Z G_hit hv6 (ss Z<|A1<|D9<|A5 (s0:=⟨T [(0,(.d _)),(1,(.d _)),(2,(.d _)),(3,(.d _)),(4,(.d _)),(11,(.sl _)),(12,(.d _)),(21,(.d _)),(22,(.d _))],G [((47,u8),some _)]⟩) (D2 Z Z) ?_))))
 refine B0<|sv Z<|sv Z<|A1<|E7 ?_
 cases hz1
 exact ⟨Z,u8,(C3 ⟨.of Z, .of Z, .of Z, .of Z, .of Z,(.of (Ai<|O0 hv6).symm), .of Z, .of Z, .of Z,trivial⟩<|P5 G_hit trivial)⟩
 refine A9<|D9<|A5 (s0:=⟨T [(0,(di p1)),(1,(dl N8 p2)),(2,(dl N8 p3)),(3,(.d (.fn (.func 99) [] []))),(4,(.d (.fn (.func 100) [] []))),(11,(oS x1.1 (47,g2))),(12,(di<|Ej false (p2.length:Int) (p3.length:Int))),(21,(di<|Ej false (p2.length:Int) (p3.length:Int))),(22,(di x1.2))],G [((47,g2),oB 52 18 E3 x1.1)]⟩) (C3 (U2 Z)<|D3 G_hit trivial) ?_
 refine B0<|sv Z<|sv Z<|A1<|E7 ?_
 cases hz1
 exact ⟨Z,g2,(C3 (U2 Z)<|D3 G_hit trivial)⟩
 refine C5 Z ?_
 cases hz1
 obtain rfl:=ez1 _ rfl
 refine ⟨nofun,C4 Z<|Y5 ?_⟩
 exact ⟨g2,(C3 (U2 Z)<|D3 G_hit trivial)⟩
 rintro _ ⟨g1,q1⟩
 refine A5 q1<|A2<|B5<|sv Z<|sd Z (C1 Z)<|sv Z<|sv Z<|A1<|bs h fun y2 hy2 h=>D5 (fun s=> ∃g3:({d:Nat // d∈ [47,62]}×Nat),Sb ⟨T [(0,(di p1)),(2,(dl N8 p3)),(4,(.d (.fn (.func 100) [] []))),(11,(oS y2 (g3.1.val,g3.2))),(12,(di<|Ej false (p2.length:Int) (p3.length:Int)))],G [((g3.1.val,g3.2),oB 52 18 E3 y2)]⟩ s) ?_ ?_
 refine A6<|E0 (N0 p1 p2 p3) (fun (x2:((List Edit)×Int)) (g4:({d:Nat // d∈ [47,62]}×Nat))=>⟨T [(0,(di p1)),(2,(dl N8 p3)),(4,(.d (.fn (.func 100) [] []))),(11,(oS x2.1 (g4.1.val,g4.2))),(12,(di<|Ej false (p2.length:Int) (p3.length:Int))),(14,(di x2.2))],G [((g4.1.val,g4.2),oB 52 18 E3 x2.1)]⟩) (y1,(I8 ((p2.length:Int) - 1))) (⟨47, .head _⟩,g1) _ hy2 (C3 (U2 Z)<|D3 G_hit trivial) ?_
 intro x2 g4 z2 hz2 ez2
 unfold N0 at hz2
 refine A2<|B5<|sv Z<|sv Z<|sv Z<|A1<|cc Z hz2 (fun c3 hz2=> ?_)<|fun c3 hz2=> ?_
 refine A9<|A2<|A6<|O9 fun u13 _=>B6 (oS x2.1 (g4.1.val,g4.2)) Z Z (sv Z<|sv Z<|sv Z<|B6 (dl E3 [(Edit.mk 2 p1 x2.2 (Lane.mk 0 (Curve.mk []) 0 0 []) (Zone.mk [] 0) (Signal.mk 0 []) (Work.mk 0 0 0 0 0 0))]) Z Z (bs hz2 fun _ hv7 hz2=>J2 E3 (g4.1.val,g4.2) x2.1 (Edit.mk 2 p1 x2.2 (Lane.mk 0 (Curve.mk []) 0 0 []) (Zone.mk [] 0) (Signal.mk 0 []) (Work.mk 0 0 0 0 0 0)) [] _ (F4<|fun _=>Z) Z G_hit hv7 (ss Z<|A1<|D9<|B0<|sv Z<|sv Z<|sv Z<|A1<|E7 ?_)))
 cases hz2
 exact ⟨Z,(⟨62, .tail _ (.head _)⟩,u13),(C3 ⟨.of Z, .of Z, .of Z,(.of (Ai<|O0 hv7).symm), .of Z, .of Z,trivial⟩<|P5 G_hit trivial)⟩
 refine C5 Z ?_
 cases hz2
 obtain rfl:=ez2 _ rfl
 refine ⟨nofun,C4 Z<|Y5 ?_⟩
 exact ⟨(g4.1,g4.2),(C3 (U2 Z)<|D3 G_hit trivial)⟩
 rintro _ ⟨g3,q2⟩
 refine A5 q2<|A2<|B5<|sv Z<|sv Z<|A1<|bs h fun y3 hy3 h=>D5 (fun s=> ∃g5:({d:Nat // d∈ [47,62,81]}×Nat),Sb ⟨T [(11,(oS y3 (g5.1.val,g5.2)))],G [((g5.1.val,g5.2),oB 52 18 E3 y3)]⟩ s) ?_ ?_
 refine A6<|E0 (M9 p1 p3) (fun (x3:((List Edit)×Int)) (g6:({d:Nat // d∈ [47,62,81]}×Nat))=>⟨T [(0,(di p1)),(2,(dl N8 p3)),(4,(.d (.fn (.func 100) [] []))),(11,(oS x3.1 (g6.1.val,g6.2))),(15,(di x3.2))],G [((g6.1.val,g6.2),oB 52 18 E3 x3.1)]⟩) (y2,(Ej false (p2.length:Int) (p3.length:Int))) (⟨g3.1.val,PA g3.1.property Z⟩,g3.2) _ hy3 (C3 (U2 Z)<|D3 G_hit trivial) ?_
 intro x3 g6 z3 hz3 ez3
 unfold M9 at hz3
 refine A2<|B5<|sv Z<|sv Z<|sd Z (C1 Z)<|sv Z<|A1<|cc Z hz3 (fun c4 hz3=> ?_)<|fun c4 hz3=> ?_
 refine A9<|A2<|A6<|O9 fun u17 _=>B6 (oS x3.1 (g6.1.val,g6.2)) Z Z (sv Z<|sv Z<|sv Z<|sv Z<|sv Z<|sv Z<|bs hz3 fun _ hv8 hz3=>sd Z (C9 Z Z hv8 Z)<|sd Z (B9 Z hv8 Z Z)<|bs hz3 fun v9 hv9 hz3=>B8 Z Z (.cons (.agg (ca Z<|ca Z<|ca Z<|ca Z<|.cons ⟨DLe.nil,Z⟩ (ca Z<|ca Z<|.cons ⟨DLe.nil,Z⟩ (.cons ⟨DLe.nil,Z⟩ (ca Z<|ca Z<|.cons ⟨DLe.nil,Z⟩ (cz Z)))))) A3) (Mf _ _ _ hv9) (.inl Z) (B6 (dl E3 [v9]) Z (Bx E3 ([v9]:List Edit) (fun _=>Z) Z Z ⟨Z,Z,Z,trivial⟩ (fun _=>Z)) (bs hz3 fun _ hv10 hz3=>J2 E3 (g6.1.val,g6.2) x3.1 v9 [] _ (F4<|fun _=>Z) Z G_hit hv10 (ss Z<|A1<|D9<|A5 (s0:=⟨T [(0,(.d _)),(2,(.d _)),(4,(.d _)),(11,(.sl _)),(15,(.d _))],G [((81,u17),some _)]⟩) (D2 Z Z) ?_))))
 refine B0<|sv Z<|sv Z<|sv Z<|A1<|E7 ?_
 cases hz3
 exact ⟨Z,(⟨81, .tail _ (.tail _ (.head _))⟩,u17),(C3 ⟨.of Z, .of Z, .of Z,(.of (Ai<|O0 hv10).symm), .of Z,trivial⟩<|P5 G_hit trivial)⟩
 refine C5 Z ?_
 cases hz3
 obtain rfl:=ez3 _ rfl
 refine ⟨nofun,C4 Z<|Y5 ?_⟩
 exact ⟨(g6.1,g6.2),(C3 ⟨.of Z,trivial⟩<|D3 G_hit trivial)⟩
 rintro _ ⟨g5,q3⟩
 refine A5 q3<|B5<|B6 (oS y3 (g5.1.val,g5.2)) Z Z (B6 (oS y3 (g5.1.val,g5.2)) Z Z (A1<|B1 ?_))
 cases h
 exact A8 (.inr Z) (B4 (B2 Z)<|Ed G_hit) Ec
def Z6 [Lp](p1:Phase)(p2:Phase):Option Bool:=
  ((cond (p1.Ticks==p2.Ticks) (W7 p1.Green p2.Green) (some default))).bind fun v1=>some ((p1.Ticks==p2.Ticks)&&v1)
theorem Mm(p1 p2 r)(h:Z6 p1 p2=some r):PCall prog 202 [(.agg [(i64 p1.Ticks),(.list (List.map A7 p1.Green))]),(.agg [(i64 p2.Ticks),(.list (List.map A7 p2.Green))])] (bo r):=by
 refine C0 (fk func202 ntmps202 m0 (by with_unfolding_all rfl)) (nl Z) ?_
 unfold Z6 at h
 refine A5 (s0:=⟨T [(0,(.d _)),(1,(.d _))],G []⟩) (D2 Z Z) ?_
 refine B5<|sm Z<|sn Z Z<|sv Z<|A1<|B5<|sq Z<|sl Z (gq Z) Z (sq Z<|sl Z G_hit Z<|sv Z<|sv Z<|gp Z (P4 Z) (fun _=>Z) (gt Z (vl Z (gq Z) Z)<|gp Z (P4 Z) (fun _=>Z) (gt Z (vl Z G_hit Z)<|bs h fun v1 hv1 h=> ?_)))
 refine L4 _ (bo v1) (P4 Z) (fun w5=>⟨_,[(dl A7 p1.Green),(dl A7 p2.Green)],_,_,(by simp only [A4 w5];rfl),Z,A3,Fv _ _ _<|G0 w5 hv1,(.inl Z)⟩) ?_
 refine sa Z Z Z<|sv Z<|A1<|B1 ?_
 cases h
 exact A8 (.inr Z) (B4 (B2 Z) C2) (.refl _)
def E2 [Lp](p1:(List Phase))(p2:(List Phase))(x1:Int):Option (Stp Int (Sum Unit Bool)):=
  cond (decide (x1< (p1.length:Int))) ((D6 p1 x1).bind fun v1=>(D6 p2 x1).bind fun v2=>(Z6 v1 v2).bind fun v3=>cond (!v3) (some (.out (.inr false))) (some (.go (I8 (x1+1))))) (some (.out (.inl ())))
def G5 [Lp](p1:(List Phase))(p2:(List Phase)):Option Bool:=
  cond ((p1.length:Int) !=(p2.length:Int)) (some false) (thenS (loop (E2 p1 p2) 0) (fun _=>some true) (fun r=>some r))
theorem T7(p1 p2 r)(h:G5 p1 p2=some r):PCall prog 201 [(.list (List.map G3 p1)),(.list (List.map G3 p2)),(.fn (.func 202) [] [])] (bo r):=by
 refine C0 (fk func201 ntmps201 m0 (by with_unfolding_all rfl)) (nl Z) ?_
 unfold G5 at h
 refine A5 (s0:=⟨T [(0,(.d _)),(1,(.d _)),(2,(.d _))],G []⟩) (D2 Z Z) ?_
 refine B5<|sv Z<|A1<|A2<|B5<|sv Z<|sd Z (C1 Z)<|sv Z<|sd Z (C1 Z)<|sv Z<|A1<|cc Z h (fun c1 h=> ?_)<|fun c1 h=> ?_
 refine B5<|sv Z<|A1<|B1 ?_
 cases h
 exact A8 (.inr Z) (B4 (B2 Z) C2) (.refl _)
 refine A9<|A2<|B5<|sv Z<|sd Z (C1 Z)<|sv Z<|A1<|js h fun z1 hz1 h=>D5 (fun s=> ∃(y1:Unit) (g1:Unit),z1= .inl y1∧Sb ⟨T [],G []⟩ s) ?_ ?_
 refine A6<|E0 (E2 p1 p2) (fun (x1:Int) (g2:Unit)=>⟨T [(1,(dl G3 p2)),(2,(.d (.fn (.func 202) [] []))),(15,(dl G3 p1)),(16,(di (p1.length:Int))),(17,(di x1))],G []⟩) 0 () _ hz1 (D2 Z Z) ?_
 intro x1 g2 z2 hz2 ez2
 unfold E2 at hz2
 refine B5<|sv Z<|A1<|A2<|cc Z hz2 (fun c2 hz2=> ?_)<|fun c2 hz2=> ?_
 refine A9<|A2<|A6<|B5<|sv Z<|bs hz2 fun v1 hv1 hz2=>sd Z (C9 Z Z hv1 Z)<|sd Z (B9 Z hv1 Z Z)<|sm Z<|sv Z<|Aj Z G_hit [(di v1.Ticks),(dl A7 v1.Green)] Z (A1<|B5<|sv Z<|sv Z<|bs hz2 fun v2 hv2 hz2=>sd Z (C9 Z Z hv2 Z)<|sd Z (B9 Z hv2 Z Z)<|sm Z<|Aj Z G_hit [(di v2.Ticks),(dl A7 v2.Green)] Z (A1<|B5<|sv Z<|sd Z (B3 Z (gq Z) Z Z)<|sd Z (B3 Z G_hit Z Z)<|bs hz2 fun v3 hv3 hz2=>B8 Z Z A3 (Mm _ _ _ hv3) (.inl Z) (B6 (.d (bo (!v3))) Z Z (A1<|cc Z hz2 (fun c3 hz2=> ?_)<|fun c3 hz2=> ?_))))
 refine A2<|A5 (s0:=⟨T [],G []⟩) (D2 Z Z) ?_
 refine B0<|sv Z<|A1<|B1 ?_
 cases hz2
 obtain rfl:=ez2 _ rfl
 refine ⟨nofun,E4 ?_⟩
 rw [bJ]at h
 cases h
 exact A8 (.inr Z) (B4 (B2 Z) C2) (.refl _)
 refine A9<|D9<|A5 (s0:=⟨T [(1,(.d _)),(2,(.d _)),(15,(.d _)),(16,(.d _)),(17,(.d _))],G []⟩) (D2 Z Z) ?_
 refine B0<|sv Z<|sv Z<|A1<|E7 ?_
 cases hz2
 exact ⟨Z,(),(D2 Z Z)⟩
 refine C5 Z ?_
 cases hz2
 obtain rfl:=ez2 _ rfl
 refine ⟨nofun,C4 Z<|Y5 ?_⟩
 exact ⟨_,(),Z,(D2 Z Z)⟩
 rintro _ ⟨y1,g1,rfl,q1⟩
 rw [bI]at h
 refine A5 q1<|B5<|sv Z<|A1<|B1 ?_
 cases h
 exact A8 (.inr Z) (B4 (B2 Z) C2) (.refl _)
def Z0 [Lp](p1:Signal)(p2:Signal):Option Bool:=
  ((cond (p1.Offset==p2.Offset) (G5 p1.Phases p2.Phases) (some default))).bind fun v1=>some ((p1.Offset==p2.Offset)&&v1)
theorem Oj(p1 p2 r)(h:Z0 p1 p2=some r):PCall prog 102 [(.agg [(i64 p1.Offset),(.list (List.map G3 p1.Phases))]),(.agg [(i64 p2.Offset),(.list (List.map G3 p2.Phases))])] (bo r):=by
 refine C0 (fk func102 ntmps102 m0 (by with_unfolding_all rfl)) (nl Z) ?_
 unfold Z0 at h
 refine A5 (s0:=⟨T [(0,(.d _)),(1,(.d _))],G []⟩) (D2 Z Z) ?_
 refine B5<|sm Z<|sn Z Z<|sv Z<|A1<|B5<|sq Z<|sl Z (gq Z) Z (sq Z<|sl Z G_hit Z<|sv Z<|sv Z<|gp Z (P4 Z) (fun _=>Z) (gt Z (vl Z (gq Z) Z)<|gp Z (P4 Z) (fun _=>Z) (gt Z (vl Z G_hit Z)<|bs h fun v1 hv1 h=> ?_)))
 refine L4 _ (bo v1) (P4 Z) (fun w5=>⟨_,[(dl G3 p1.Phases),(dl G3 p2.Phases),(.d (.fn (.func 202) [] []))],_,_,(by simp only [A4 w5];rfl),Z,A3,T7 _ _ _<|G0 w5 hv1,(.inl Z)⟩) ?_
 refine sa Z Z Z<|sv Z<|A1<|B1 ?_
 cases h
 exact A8 (.inr Z) (B4 (B2 Z) C2) (.refl _)
def W4 (p1:List Phase):Option (List Phase):=U5 [] p1
theorem Cn (p1:List Phase)(a0:D)(hl:U5 ([]:List Phase) p1=some p1)(hn: ∀h,G7 (T [(3, .d a0),(2, .d .nilS),(0, .d a0)]) h (.isnil false (.t 3))=some (.d (bo false)))(he: ∀h,U6 h 2 (.d a0)=some (List.map G3 p1)):
    PCall prog 197 [a0] (.list (List.map G3 p1)):=by
  refine C0 (fk func197 ntmps197 m0 (by with_unfolding_all rfl)) (Nat.le_of_ble_eq_true Z) ?_
  refine (A5 (s0:=⟨T [(0, .d a0)],G []⟩) (C3 ⟨.of Z,trivial⟩ trivial) ?_)
  refine A2 ?_
  refine O9 fun _ _=> ?_
  refine B6 (.d .nilS) Z Z ?_
  refine A1 ?_
  refine A2 ?_
  refine A2 ?_
  refine O9 fun _ _=> ?_
  refine B6 (.d a0) Z Z ?_
  refine B6 (.d (bo false)) Z (hn _) ?_
  refine A1 ?_
  refine Oc Z ?_
  refine A9 ?_
  refine A2 ?_
  refine O9 fun _ _=> ?_
  refine Tg (.sl _) (.arr 97 2 (List.map G3 ([]:List Phase))) Z Z ?_
  refine B6 (.d a0) Z Z ?_
  refine Gd G3 _ [] p1 _ (he _) Z G_hit hl ?_
  refine B6 (.sl _) Z Z ?_
  refine A1 ?_
  refine B1 ?_
  exact A8 (.inr Z) (B4 (B2 Z)<|Td G_hit) (.refl _)
theorem Ig(p1 r)(h:W4 p1=some r):PCall prog 197 [.list (List.map G3 p1)] (.list (List.map G3 r)):=by
  have hr:r=p1:=by obtain ⟨_,rfl⟩:=Do h;rfl
  subst hr
  cases r with
  |cons x xs=>exact Cn (x::xs) _ h (fun _=>rfl) fun _=>F4 (fun _=>rfl)
  |nil=>
   refine PCall.nil fun A cap=> ?_
   cases A with
   |some A=>exact Cn [] (.v (.slice (some A) 0 cap)) h (fun _=>rfl) fun _=>rfl
   |none=>
    refine C0 (fk func197 ntmps197 m0 (by with_unfolding_all rfl)) (Nat.le_of_ble_eq_true Z) ?_
    refine (A5 (s0:=⟨T [(0, .d (.v (.slice none 0 cap)))],G []⟩) (C3 ⟨.of Z,trivial⟩ trivial) ?_)
    refine A2 ?_
    refine O9 fun _ _=> ?_
    refine B6 (.d .nilS) Z Z ?_
    refine A1 ?_
    refine A2 ?_
    refine A2 ?_
    refine O9 fun _ _=> ?_
    refine B6 (.d _) Z Z ?_
    refine B6 (.d (bo true)) Z Z ?_
    refine A1 ?_
    refine Ob Z ?_
    refine A2 ?_
    refine O9 fun _ _=> ?_
    refine B6 (.d .nilS) Z Z ?_
    refine A1 ?_
    refine B1 ?_
    exact A8 (.inr Z) (B4 (B2 Z) C2) .nil
theorem Hv(p1 r)(h:W4 p1=some r):MCall prog 197 [.d (.list (List.map G3 p1))] [] (oE r (800000,0)) [] [oB 97 2 G3 r]:=by
  cases p1 with
  |nil=>
   have hr:r= []:=by obtain ⟨_,rfl⟩:=Do h;rfl
   subst hr
   exact MCall.ofP<|Ig [] [] h
  |cons x xs=>
  have hr:U5 ([]:List Phase) (x::xs)=some r:=h
  have e:=(Do hr).2
  rw [lN]at e
  rw [GV (O0 hr),LC (O0 hr)]
  refine OZ (fk func197 ntmps197 m0 (by with_unfolding_all rfl)) Z (Nat.le_of_ble_eq_true Z) ?_
  refine (A5 (s0:=⟨T [(0, .d (.list (List.map G3 (x::xs))))],G []⟩) (C3 ⟨.of Z,trivial⟩ trivial) ?_)
  refine A2 ?_
  refine O9 fun _ _=> ?_
  refine B6 (.d .nilS) Z Z ?_
  refine A1 ?_
  refine A2 ?_
  refine A2 ?_
  refine O9 fun _ _=> ?_
  refine B6 (.d (.list (List.map G3 (x::xs)))) Z Z ?_
  refine B6 (.d (bo false)) Z Z ?_
  refine A1 ?_
  refine Oc Z ?_
  refine A9 ?_
  refine A2 ?_
  refine O9 fun u3 _=> ?_
  refine Tg (.sl _) (.arr 97 2 (List.map G3 ([]:List Phase))) Z Z ?_
  refine B6 (.d (.list (List.map G3 (x::xs)))) Z Z ?_
  refine Gd G3 _ [] (x::xs) _ (F4<|fun _=>Z) Z G_hit hr ?_
  refine B6 (.sl _) Z Z ?_
  refine A1 ?_
  refine B1 ?_
  exact SY (v1:= .sl (7,u3)) (.inr Z) (SZ<|B2 Z) (.of Z) [((7,u3),some<|.arr 97 2 (List.map G3 r))] (B7 G_hit (.of Z) trivial) (LN [(7,u3)] Z trivial ⟨G_hit,trivial⟩ Z (by simp only [lR,List.not_mem_nil,or_false,forall_eq];exact fun i=>LM rfl i) nd1)
def V4 (v1:(List Phase))(x1:(Int×Signal)):Option (Stp (Int×Signal) Signal):=
  cond (decide (x1.1< (v1.length:Int))) ((D6 x1.2.Phases x1.1).bind fun v2=>(W8 v2.Green).bind fun v3=>(D6 x1.2.Phases x1.1).bind fun v4=>some (.go ((I8 (x1.1+1)),(Signal.mk x1.2.Offset (Zx x1.2.Phases x1.1 (Phase.mk v4.Ticks v3)))))) (some (.out x1.2))
def Dg [Lp](p1:Signal):Option Signal:=
  (W4 p1.Phases).bind fun v1=>(loop (V4 v1) (0,(Signal.mk p1.Offset v1))).bind fun y1=>some y1
theorem Pr(p1 r)(h:Dg p1=some r):PCall prog 91 [(.agg [(i64 p1.Offset),(.list (List.map G3 p1.Phases))])] (.agg [(i64 r.Offset),(.list (List.map G3 r.Phases))]):=by
 refine C0 (fk func91 ntmps91 (fun r=>if r==1 then [1001002]else []) (by with_unfolding_all rfl)) (nl Z) ?_
 unfold Dg at h
 refine A5 (s0:=⟨T [(0,(.d _))],G []⟩) (D2 Z Z) ?_
 refine lr<|fun u1 _=>sm Z<|sm Z<|A1<|lr<|fun u2 _=>sq Z<|sl Z (gq Z) Z (bs h fun v1 hv1 h=> ?_)
 refine IA (v:=oE v1 (10010020,u2)) (us:= [(10010020,u2)]) (TC (Hv _ _ hv1) [] [] _ (((10010020,u2),oB 97 2 G3 v1)::_) Z Lk Z Jc trivial (fun _ h=>h) List.nodup_nil (by generalize v1=x1;cases x1<;>rfl) Z (RR (Z)) Z) ?_
 refine sp Z Z<|Cq _ _ _ _ _ (IF _ _) Z Z (gq Z) (nl Z) [(di p1.Offset),(oE v1 (10010020,u2))] Z (A1<|A2<|B5<|sq Z<|B6 (oE v1 (10010020,u2)) Z (Gf Z G_hit Z) (sd Z (RQ (f:=G3) Z (gq Z))<|sv Z<|A1<|bs h fun y1 hy1 h=>D5 (fun s=> ∃g1:Nat,Sb ⟨T [(1,(.ptr (1,u1) 0)),(2,(.ptr (2,u1) 0))],G [((1,u1),some<|.box 48 [(di y1.Offset),(oE y1.Phases (10010020,g1))]),((2,u1),some<|.box 48 [(di 0),(.d .nilS)]),((10010020,g1),oB 97 2 G3 y1.Phases)]⟩ s) ?_ ?_))
 refine A6<|E0 (V4 v1) (fun (x1:(Int×Signal)) (g2:Nat)=>⟨T [(1,(.ptr (1,u1) 0)),(2,(.ptr (2,u1) 0)),(10,(di (v1.length:Int))),(11,(di x1.1))],G [((1,u1),some<|.box 48 [(di x1.2.Offset),(oE x1.2.Phases (10010020,g2))]),((2,u1),some<|.box 48 [(di 0),(.d .nilS)]),((10010020,g2),oB 97 2 G3 x1.2.Phases)]⟩) (0,(Signal.mk p1.Offset v1)) u2 _ hy1 (C3 (U2 Z)<|B7 G_hit (.of Z)<|sg Z<|D3 (gq Z) trivial) ?_
 intro x1 g2 z1 hz1 ez1
 unfold V4 at hz1
 refine B5<|sv Z<|A1<|A2<|cc Z hz1 (fun c1 hz1=> ?_)<|fun c1 hz1=> ?_
 refine A9<|A2<|A6<|B5<|sv Z<|sv Z<|A1<|J6 Z<|sq Z<|B6 (oE x1.2.Phases (10010020,g2)) Z (Gf Z G_hit Z) (sv Z<|sq Z<|B6 (oE x1.2.Phases (10010020,g2)) Z (Gf Z G_hit Z) (sv Z<|bs hz1 fun _ hv2 hz1=>B6 (.aptr _ _ _ _) Z (LS Z Z (gq Z) hv2) (B6 (.aptr _ _ _ _) Z Z (sd Z (OR Z (Zy (gq Z)<|Od hv2) hv2 Z)<|bs hz1 fun v3 hv3 hz1=>B8 Z Z A3 (Fw _ _ hv3) (.inl Z) (bs hz1 fun v4 hv4 hz1=>B6 (.aptr _ _ _ _) Z (LS Z Z (gq Z) hv4) (B6 (.aptr _ _ _ _) Z Z ?_))))))
 rw [GV (Od hv4)]
 refine LB G3 _ _ _ (x1.1) _ (Phase.mk v4.Ticks v3) [(.list (List.map A7 v3))] Z Z Z (Zy (gq Z)<|Od hv4) hv4 (nl Z) Z (A1<|D9<|A5 (s0:=⟨T [(1,(.ptr _ _)),(2,(.ptr _ _)),(10,(.d _)),(11,(.d _))],G [((1,u1),some<|.box 48 _),((10010020,g2),some _),((2,u1),some<|.box 48 _)]⟩) (D2 Z Z) ?_)
 refine B0<|sv Z<|sv Z<|A1<|E7 ?_
 cases hz1
 exact ⟨Z,g2,(C3 (U2 Z)<|B7 G_hit (.box (cv<|.cons (.of (GV<|OQ<|Od hv4).symm) .nil))<|sg Z<|P5 (gq Z) trivial)⟩
 refine C5 Z ?_
 cases hz1
 obtain rfl:=ez1 _ rfl
 refine ⟨nofun,C4 Z<|Y5 ?_⟩
 exact ⟨g2,(C3 (U2 Z)<|B7 G_hit (.of Z)<|sg Z<|D3 (gq Z) trivial)⟩
 rintro _ ⟨g1,q1⟩
 refine A5 q1<|B5<|B6 (Bv [(di y1.Offset),(oE y1.Phases (10010020,g1))]) Z (B3 Z G_hit Z Z) (Cq _ _ _ _ _ (Cr _) Z Z (gq Z) (nl Z) [(di y1.Offset),(oE y1.Phases (10010020,g1))] Z (A1<|B1 ?_))
 cases h
 exact A8 (.inr Z) (B4 (H8 Z G_hit (nl Z) Z)<|Iz<|rD<|O4 (TB<|gq Z) K9) (.refl _)
def Ew [Lp](p1:Edit)(p2:Signal):Option Edit:=
  (Dg p2).bind fun v1=>some (Edit.mk p1.Kind p1.Table p1.At p1.Lane_ p1.Zone_ v1 p1.Work_)
theorem Mg(p1 p2 r)(h:Ew p1 p2=some r):PCall prog 103 [(.agg (E3 p1)),(.agg [(i64 p2.Offset),(.list (List.map G3 p2.Phases))])] (.agg (E3 r)):=by
 refine C0 (fk func103 ntmps103 m0 (by with_unfolding_all rfl)) (nl Z) ?_
 unfold Ew at h
 refine A5 (s0:=⟨T [(0,(.d _)),(1,(.d _))],G []⟩) (D2 Z Z) ?_
 refine B5<|sm Z<|sn Z Z<|sm Z<|A1<|B5<|sd Z (B3 Z (gq Z) Z Z)<|bs h fun v1 hv1 h=>B8 Z Z A3 (Pr _ _ hv1) (.inl Z) (sq Z<|Aj Z (gq Z) (((Ou p1).set 10 (di v1.Offset)).set 11 (dl G3 v1.Phases)) Z (A1<|B5<|sd Z (B3 Z G_hit Z Z)<|Aj Z (gq Z) (((Ou p1).set 10 (di v1.Offset)).set 11 (dl G3 v1.Phases)) Z (A1<|B1 ?_)))
 cases h
 exact A8 (.inr Z) (B4 (H8 Z G_hit (nl Z) Z) C2) (.refl _)
def K5 [Lp](p1:Int)(p3:(List Signal))(x3:((List Edit)×Int)):Option (Stp ((List Edit)×Int) (List Edit)):=
  cond (decide (x3.2< (p3.length:Int))) ((D6 p3 x3.2).bind fun v8=>(Ew (Edit.mk 1 p1 x3.2 (Lane.mk 0 (Curve.mk []) 0 0 []) (Zone.mk [] 0) (Signal.mk 0 []) (Work.mk 0 0 0 0 0 0)) v8).bind fun v9=>(U5 x3.1 [v9]).bind fun v10=>some (.go (v10,(I8 (x3.2+1))))) (some (.out x3.1))
def K6 (p1:Int)(p2:(List Signal))(p3:(List Signal))(x2:((List Edit)×Int)):Option (Stp ((List Edit)×Int) (List Edit)):=
  cond (decide (x2.2≥(Ej false (p2.length:Int) (p3.length:Int)))) ((U5 x2.1 [(Edit.mk 2 p1 x2.2 (Lane.mk 0 (Curve.mk []) 0 0 []) (Zone.mk [] 0) (Signal.mk 0 []) (Work.mk 0 0 0 0 0 0))]).bind fun v7=>some (.go (v7,(I8 (x2.2 - 1))))) (some (.out x2.1))
def K7 [Lp](p1:Int)(p2:(List Signal))(p3:(List Signal))(x1:((List Edit)×Int)):Option (Stp ((List Edit)×Int) (List Edit)):=
  cond (decide (x1.2< (Ej false (p2.length:Int) (p3.length:Int)))) ((D6 p2 x1.2).bind fun v1=>(D6 p3 x1.2).bind fun v2=>(Z0 v1 v2).bind fun v3=>cond (!v3) ((D6 p3 x1.2).bind fun v4=>(Ew (Edit.mk 3 p1 x1.2 (Lane.mk 0 (Curve.mk []) 0 0 []) (Zone.mk [] 0) (Signal.mk 0 []) (Work.mk 0 0 0 0 0 0)) v4).bind fun v5=>(U5 x1.1 [v5]).bind fun v6=>some (.go (v6,(I8 (x1.2+1))))) (some (.go (x1.1,(I8 (x1.2+1)))))) (some (.out x1.1))
def I5 [Lp](p1:Int)(p2:(List Signal))(p3:(List Signal)):Option (List Edit):=
  (loop (K7 p1 p2 p3) ([],0)).bind fun y1=>(loop (K6 p1 p2 p3) (y1,(I8 ((p2.length:Int) - 1)))).bind fun y2=>(loop (K5 p1 p3) (y2,(Ej false (p2.length:Int) (p3.length:Int)))).bind fun y3=>some y3
theorem Z1(p1 p2 p3 r)(h:I5 p1 p2 p3=some r):PCall prog 101 [(i64 p1),(.list (List.map U8 p2)),(.list (List.map U8 p3)),(.fn (.func 102) [] []),(.fn (.func 103) [] [])] (.list (List.map E3 r)):=by
 refine C0 (fk func101 ntmps101 (fun r=>if r==7 then [1010]else if r==12 then [1004]else if r==16 then [1010]else []) (by with_unfolding_all rfl)) (nl Z) ?_
 unfold I5 at h
 refine A5 (s0:=⟨T [(0,(.d _)),(1,(.d _)),(2,(.d _)),(3,(.d _)),(4,(.d _))],G []⟩) (D2 Z Z) ?_
 refine B5<|sv Z<|A1<|B5<|sv Z<|A1<|B5<|sv Z<|sd Z (C1 Z)<|sv Z<|sd Z (C1 Z)<|sv Z<|sv Z<|A1<|A2<|B5<|sv Z<|sv Z<|A1<|bs h fun y1 hy1 h=>D5 (fun s=> ∃g1:Nat,Sb ⟨T [(0,(di p1)),(1,(dl U8 p2)),(2,(dl U8 p3)),(4,(.d (.fn (.func 103) [] []))),(11,(oS y1 (47,g1))),(12,(di<|Ej false (p2.length:Int) (p3.length:Int)))],G [((47,g1),oB 52 18 E3 y1)]⟩ s) ?_ ?_
 refine A6<|E0 (K7 p1 p2 p3) (fun (x1:((List Edit)×Int)) (g2:Nat)=>⟨T [(0,(di p1)),(1,(dl U8 p2)),(2,(dl U8 p3)),(3,(.d (.fn (.func 102) [] []))),(4,(.d (.fn (.func 103) [] []))),(11,(oS x1.1 (47,g2))),(12,(di<|Ej false (p2.length:Int) (p3.length:Int))),(21,(di<|Ej false (p2.length:Int) (p3.length:Int))),(22,(di x1.2))],G [((47,g2),oB 52 18 E3 x1.1)]⟩) ([],0) 0 _ hy1 (C3 (U2 Z)<|Y1 trivial) ?_
 intro x1 g2 z1 hz1 ez1
 unfold K7 at hz1
 refine B5<|sv Z<|A1<|A2<|cc Z hz1 (fun c1 hz1=> ?_)<|fun c1 hz1=> ?_
 refine A9<|A2<|A6<|B5<|sv Z<|sv Z<|A1<|A2<|J6 Z<|sv Z<|sv Z<|sv Z<|bs hz1 fun _ hv1 hz1=>sd Z (C9 Z Z hv1 Z)<|sd Z (B9 Z hv1 Z Z)<|sv Z<|sv Z<|bs hz1 fun _ hv2 hz1=>sd Z (C9 Z Z hv2 Z)<|sd Z (B9 Z hv2 Z Z)<|bs hz1 fun v3 hv3 hz1=>B8 Z Z A3 (Oj _ _ _ hv3) (.inl Z) (B6 (.d (bo (!v3))) Z Z (A1<|cc Z hz1 (fun c2 hz1=> ?_)<|fun c2 hz1=> ?_))
 refine A5 (s0:=⟨T [(0,(di p1)),(1,(dl U8 p2)),(2,(dl U8 p3)),(3,(.d (.fn (.func 102) [] []))),(4,(.d (.fn (.func 103) [] []))),(11,(oS x1.1 (47,g2))),(12,(di<|Ej false (p2.length:Int) (p3.length:Int))),(13,(di x1.2)),(21,(di<|Ej false (p2.length:Int) (p3.length:Int))),(22,(di x1.2))],G [((47,g2),oB 52 18 E3 x1.1)]⟩) (C3 (U2 Z)<|D3 G_hit trivial) ?_
 refine O9 fun u8 _=>B6 (oS x1.1 (47,g2)) Z Z (sv Z<|sv Z<|sv Z<|sv Z<|sv Z<|sv Z<|bs hz1 fun _ hv4 hz1=>sd Z (C9 Z Z hv4 Z)<|sd Z (B9 Z hv4 Z Z)<|bs hz1 fun v5 hv5 hz1=>B8 Z Z (.cons (.agg (ca Z<|ca Z<|ca Z<|ca Z<|.cons ⟨DLe.nil,Z⟩ (ca Z<|ca Z<|.cons ⟨DLe.nil,Z⟩ (.cons ⟨DLe.nil,Z⟩ (ca Z<|ca Z<|.cons ⟨DLe.nil,Z⟩ (cz Z)))))) A3) (Mg _ _ _ hv5) (.inl Z) (B6 (dl E3 [v5]) Z (Bx E3 ([v5]:List Edit) (fun _=>Z) Z Z ⟨Z,Z,Z,trivial⟩ (fun _=>Z)) (bs hz1 fun _ hv6 hz1=>J2 E3 (47,g2) x1.1 v5 [] _ (F4<|fun _=>Z) Z G_hit hv6 (ss Z<|A1<|D9<|A5 (s0:=⟨T [(0,(.d _)),(1,(.d _)),(2,(.d _)),(3,(.d _)),(4,(.d _)),(11,(.sl _)),(12,(.d _)),(21,(.d _)),(22,(.d _))],G [((47,u8),some _)]⟩) (D2 Z Z) ?_))))
 refine B0<|sv Z<|sv Z<|A1<|E7 ?_
 cases hz1
 exact ⟨Z,u8,(C3 ⟨.of Z, .of Z, .of Z, .of Z, .of Z,(.of (Ai<|O0 hv6).symm), .of Z, .of Z, .of Z,trivial⟩<|P5 G_hit trivial)⟩
 refine A9<|D9<|A5 (s0:=⟨T [(0,(di p1)),(1,(dl U8 p2)),(2,(dl U8 p3)),(3,(.d (.fn (.func 102) [] []))),(4,(.d (.fn (.func 103) [] []))),(11,(oS x1.1 (47,g2))),(12,(di<|Ej false (p2.length:Int) (p3.length:Int))),(21,(di<|Ej false (p2.length:Int) (p3.length:Int))),(22,(di x1.2))],G [((47,g2),oB 52 18 E3 x1.1)]⟩) (C3 (U2 Z)<|D3 G_hit trivial) ?_
 refine B0<|sv Z<|sv Z<|A1<|E7 ?_
 cases hz1
 exact ⟨Z,g2,(C3 (U2 Z)<|D3 G_hit trivial)⟩
 refine C5 Z ?_
 cases hz1
 obtain rfl:=ez1 _ rfl
 refine ⟨nofun,C4 Z<|Y5 ?_⟩
 exact ⟨g2,(C3 (U2 Z)<|D3 G_hit trivial)⟩
 rintro _ ⟨g1,q1⟩
 refine A5 q1<|A2<|B5<|sv Z<|sd Z (C1 Z)<|sv Z<|sv Z<|A1<|bs h fun y2 hy2 h=>D5 (fun s=> ∃g3:({d:Nat // d∈ [47,62]}×Nat),Sb ⟨T [(0,(di p1)),(2,(dl U8 p3)),(4,(.d (.fn (.func 103) [] []))),(11,(oS y2 (g3.1.val,g3.2))),(12,(di<|Ej false (p2.length:Int) (p3.length:Int)))],G [((g3.1.val,g3.2),oB 52 18 E3 y2)]⟩ s) ?_ ?_
 refine A6<|E0 (K6 p1 p2 p3) (fun (x2:((List Edit)×Int)) (g4:({d:Nat // d∈ [47,62]}×Nat))=>⟨T [(0,(di p1)),(2,(dl U8 p3)),(4,(.d (.fn (.func 103) [] []))),(11,(oS x2.1 (g4.1.val,g4.2))),(12,(di<|Ej false (p2.length:Int) (p3.length:Int))),(14,(di x2.2))],G [((g4.1.val,g4.2),oB 52 18 E3 x2.1)]⟩) (y1,(I8 ((p2.length:Int) - 1))) (⟨47, .head _⟩,g1) _ hy2 (C3 (U2 Z)<|D3 G_hit trivial) ?_
 intro x2 g4 z2 hz2 ez2
 unfold K6 at hz2
 refine A2<|B5<|sv Z<|sv Z<|sv Z<|A1<|cc Z hz2 (fun c3 hz2=> ?_)<|fun c3 hz2=> ?_
 refine A9<|A2<|A6<|O9 fun u13 _=>B6 (oS x2.1 (g4.1.val,g4.2)) Z Z (sv Z<|sv Z<|sv Z<|B6 (dl E3 [(Edit.mk 2 p1 x2.2 (Lane.mk 0 (Curve.mk []) 0 0 []) (Zone.mk [] 0) (Signal.mk 0 []) (Work.mk 0 0 0 0 0 0))]) Z Z (bs hz2 fun _ hv7 hz2=>J2 E3 (g4.1.val,g4.2) x2.1 (Edit.mk 2 p1 x2.2 (Lane.mk 0 (Curve.mk []) 0 0 []) (Zone.mk [] 0) (Signal.mk 0 []) (Work.mk 0 0 0 0 0 0)) [] _ (F4<|fun _=>Z) Z G_hit hv7 (ss Z<|A1<|D9<|B0<|sv Z<|sv Z<|sv Z<|A1<|E7 ?_)))
 cases hz2
 exact ⟨Z,(⟨62, .tail _ (.head _)⟩,u13),(C3 ⟨.of Z, .of Z, .of Z,(.of (Ai<|O0 hv7).symm), .of Z, .of Z,trivial⟩<|P5 G_hit trivial)⟩
 refine C5 Z ?_
 cases hz2
 obtain rfl:=ez2 _ rfl
 refine ⟨nofun,C4 Z<|Y5 ?_⟩
 exact ⟨(g4.1,g4.2),(C3 (U2 Z)<|D3 G_hit trivial)⟩
 rintro _ ⟨g3,q2⟩
 refine A5 q2<|A2<|B5<|sv Z<|sv Z<|A1<|bs h fun y3 hy3 h=>D5 (fun s=> ∃g5:({d:Nat // d∈ [47,62,81]}×Nat),Sb ⟨T [(11,(oS y3 (g5.1.val,g5.2)))],G [((g5.1.val,g5.2),oB 52 18 E3 y3)]⟩ s) ?_ ?_
 refine A6<|E0 (K5 p1 p3) (fun (x3:((List Edit)×Int)) (g6:({d:Nat // d∈ [47,62,81]}×Nat))=>⟨T [(0,(di p1)),(2,(dl U8 p3)),(4,(.d (.fn (.func 103) [] []))),(11,(oS x3.1 (g6.1.val,g6.2))),(15,(di x3.2))],G [((g6.1.val,g6.2),oB 52 18 E3 x3.1)]⟩) (y2,(Ej false (p2.length:Int) (p3.length:Int))) (⟨g3.1.val,PA g3.1.property Z⟩,g3.2) _ hy3 (C3 (U2 Z)<|D3 G_hit trivial) ?_
 intro x3 g6 z3 hz3 ez3
 unfold K5 at hz3
 refine A2<|B5<|sv Z<|sv Z<|sd Z (C1 Z)<|sv Z<|A1<|cc Z hz3 (fun c4 hz3=> ?_)<|fun c4 hz3=> ?_
 refine A9<|A2<|A6<|O9 fun u17 _=>B6 (oS x3.1 (g6.1.val,g6.2)) Z Z (sv Z<|sv Z<|sv Z<|sv Z<|sv Z<|sv Z<|bs hz3 fun _ hv8 hz3=>sd Z (C9 Z Z hv8 Z)<|sd Z (B9 Z hv8 Z Z)<|bs hz3 fun v9 hv9 hz3=>B8 Z Z (.cons (.agg (ca Z<|ca Z<|ca Z<|ca Z<|.cons ⟨DLe.nil,Z⟩ (ca Z<|ca Z<|.cons ⟨DLe.nil,Z⟩ (.cons ⟨DLe.nil,Z⟩ (ca Z<|ca Z<|.cons ⟨DLe.nil,Z⟩ (cz Z)))))) A3) (Mg _ _ _ hv9) (.inl Z) (B6 (dl E3 [v9]) Z (Bx E3 ([v9]:List Edit) (fun _=>Z) Z Z ⟨Z,Z,Z,trivial⟩ (fun _=>Z)) (bs hz3 fun _ hv10 hz3=>J2 E3 (g6.1.val,g6.2) x3.1 v9 [] _ (F4<|fun _=>Z) Z G_hit hv10 (ss Z<|A1<|D9<|A5 (s0:=⟨T [(0,(.d _)),(2,(.d _)),(4,(.d _)),(11,(.sl _)),(15,(.d _))],G [((81,u17),some _)]⟩) (D2 Z Z) ?_))))
 refine B0<|sv Z<|sv Z<|sv Z<|A1<|E7 ?_
 cases hz3
 exact ⟨Z,(⟨81, .tail _ (.tail _ (.head _))⟩,u17),(C3 ⟨.of Z, .of Z, .of Z,(.of (Ai<|O0 hv10).symm), .of Z,trivial⟩<|P5 G_hit trivial)⟩
 refine C5 Z ?_
 cases hz3
 obtain rfl:=ez3 _ rfl
 refine ⟨nofun,C4 Z<|Y5 ?_⟩
 exact ⟨(g6.1,g6.2),(C3 ⟨.of Z,trivial⟩<|D3 G_hit trivial)⟩
 rintro _ ⟨g5,q3⟩
 refine A5 q3<|B5<|B6 (oS y3 (g5.1.val,g5.2)) Z Z (B6 (oS y3 (g5.1.val,g5.2)) Z Z (A1<|B1 ?_))
 cases h
 exact A8 (.inr Z) (B4 (B2 Z)<|Ed G_hit) Ec
def Ce (p1:Work)(p2:Work):Option Bool:=
  some (p1.Lane_==p2.Lane_&& (p1.From==p2.From&& (p1.To==p2.To&& (p1.Begin==p2.Begin&& (p1.End==p2.End&& (p1.Limit==p2.Limit&&true))))))
theorem Re(p1 p2 r)(h:Ce p1 p2=some r):PCall prog 105 [(.agg (By p1)),(.agg (By p2))] (bo r):=by
 refine C0 (fk func105 ntmps105 m0 (by with_unfolding_all rfl)) (nl Z) ?_
 unfold Ce at h
 refine A5 (s0:=⟨T [(0,(.d _)),(1,(.d _))],G []⟩) (D2 Z Z) ?_
 refine B5<|sm Z<|sn Z Z<|sv Z<|A1<|B5<|sd Z (B3 Z (gq Z) Z Z)<|sd Z (B3 Z G_hit Z Z)<|B6 (.d (bo (p1.Lane_==p2.Lane_&& (p1.From==p2.From&& (p1.To==p2.To&& (p1.Begin==p2.Begin&& (p1.End==p2.End&& (p1.Limit==p2.Limit&&true)))))))) Z Z (sv Z<|A1<|B1 ?_)
 cases h
 exact A8 (.inr Z) (B4 (B2 Z) C2) (.refl _)
def Gm (p1:Edit)(p2:Work):Option Edit:=
  some (Edit.mk p1.Kind p1.Table p1.At p1.Lane_ p1.Zone_ p1.Signal_ p2)
theorem Mh(p1 p2 r)(h:Gm p1 p2=some r):PCall prog 106 [(.agg (E3 p1)),(.agg (By p2))] (.agg (E3 r)):=by
 refine C0 (fk func106 ntmps106 m0 (by with_unfolding_all rfl)) (nl Z) ?_
 unfold Gm at h
 refine A5 (s0:=⟨T [(0,(.d _)),(1,(.d _))],G []⟩) (D2 Z Z) ?_
 refine B5<|sm Z<|sn Z Z<|sm Z<|A1<|B5<|sd Z (B3 Z (gq Z) Z Z)<|sq Z<|Aj Z (gq Z) (((((((Ou p1).set 12 (di p2.Lane_)).set 13 (di p2.From)).set 14 (di p2.To)).set 15 (di p2.Begin)).set 16 (di p2.End)).set 17 (di p2.Limit)) Z (A1<|B5<|sd Z (B3 Z G_hit Z Z)<|Aj Z (gq Z) (((((((Ou p1).set 12 (di p2.Lane_)).set 13 (di p2.From)).set 14 (di p2.To)).set 15 (di p2.Begin)).set 16 (di p2.End)).set 17 (di p2.Limit)) Z (A1<|B1 ?_))
 cases h
 exact A8 (.inr Z) (B4 (H8 Z G_hit (nl Z) Z) C2) (.refl _)
def N2 (p1:Int)(p3:(List Work))(x3:((List Edit)×Int)):Option (Stp ((List Edit)×Int) (List Edit)):=
  cond (decide (x3.2< (p3.length:Int))) ((D6 p3 x3.2).bind fun v8=>(Gm (Edit.mk 1 p1 x3.2 (Lane.mk 0 (Curve.mk []) 0 0 []) (Zone.mk [] 0) (Signal.mk 0 []) (Work.mk 0 0 0 0 0 0)) v8).bind fun v9=>(U5 x3.1 [v9]).bind fun v10=>some (.go (v10,(I8 (x3.2+1))))) (some (.out x3.1))
def N3 (p1:Int)(p2:(List Work))(p3:(List Work))(x2:((List Edit)×Int)):Option (Stp ((List Edit)×Int) (List Edit)):=
  cond (decide (x2.2≥(Ej false (p2.length:Int) (p3.length:Int)))) ((U5 x2.1 [(Edit.mk 2 p1 x2.2 (Lane.mk 0 (Curve.mk []) 0 0 []) (Zone.mk [] 0) (Signal.mk 0 []) (Work.mk 0 0 0 0 0 0))]).bind fun v7=>some (.go (v7,(I8 (x2.2 - 1))))) (some (.out x2.1))
def N4 (p1:Int)(p2:(List Work))(p3:(List Work))(x1:((List Edit)×Int)):Option (Stp ((List Edit)×Int) (List Edit)):=
  cond (decide (x1.2< (Ej false (p2.length:Int) (p3.length:Int)))) ((D6 p2 x1.2).bind fun v1=>(D6 p3 x1.2).bind fun v2=>(Ce v1 v2).bind fun v3=>cond (!v3) ((D6 p3 x1.2).bind fun v4=>(Gm (Edit.mk 3 p1 x1.2 (Lane.mk 0 (Curve.mk []) 0 0 []) (Zone.mk [] 0) (Signal.mk 0 []) (Work.mk 0 0 0 0 0 0)) v4).bind fun v5=>(U5 x1.1 [v5]).bind fun v6=>some (.go (v6,(I8 (x1.2+1))))) (some (.go (x1.1,(I8 (x1.2+1)))))) (some (.out x1.1))
def J5 [Lp](p1:Int)(p2:(List Work))(p3:(List Work)):Option (List Edit):=
  (loop (N4 p1 p2 p3) ([],0)).bind fun y1=>(loop (N3 p1 p2 p3) (y1,(I8 ((p2.length:Int) - 1)))).bind fun y2=>(loop (N2 p1 p3) (y2,(Ej false (p2.length:Int) (p3.length:Int)))).bind fun y3=>some y3
theorem Bh(p1 p2 p3 r)(h:J5 p1 p2 p3=some r):PCall prog 104 [(i64 p1),(.list (List.map By p2)),(.list (List.map By p3)),(.fn (.func 105) [] []),(.fn (.func 106) [] [])] (.list (List.map E3 r)):=by
 refine C0 (fk func104 ntmps104 (fun r=>if r==7 then [1010]else if r==12 then [1004]else if r==16 then [1010]else []) (by with_unfolding_all rfl)) (nl Z) ?_
 unfold J5 at h
 refine A5 (s0:=⟨T [(0,(.d _)),(1,(.d _)),(2,(.d _)),(3,(.d _)),(4,(.d _))],G []⟩) (D2 Z Z) ?_
 refine B5<|sv Z<|A1<|B5<|sv Z<|A1<|B5<|sv Z<|sd Z (C1 Z)<|sv Z<|sd Z (C1 Z)<|sv Z<|sv Z<|A1<|A2<|B5<|sv Z<|sv Z<|A1<|bs h fun y1 hy1 h=>D5 (fun s=> ∃g1:Nat,Sb ⟨T [(0,(di p1)),(1,(dl By p2)),(2,(dl By p3)),(4,(.d (.fn (.func 106) [] []))),(11,(oS y1 (47,g1))),(12,(di<|Ej false (p2.length:Int) (p3.length:Int)))],G [((47,g1),oB 52 18 E3 y1)]⟩ s) ?_ ?_
 refine A6<|E0 (N4 p1 p2 p3) (fun (x1:((List Edit)×Int)) (g2:Nat)=>⟨T [(0,(di p1)),(1,(dl By p2)),(2,(dl By p3)),(3,(.d (.fn (.func 105) [] []))),(4,(.d (.fn (.func 106) [] []))),(11,(oS x1.1 (47,g2))),(12,(di<|Ej false (p2.length:Int) (p3.length:Int))),(21,(di<|Ej false (p2.length:Int) (p3.length:Int))),(22,(di x1.2))],G [((47,g2),oB 52 18 E3 x1.1)]⟩) ([],0) 0 _ hy1 (C3 (U2 Z)<|Y1 trivial) ?_
 intro x1 g2 z1 hz1 ez1
 unfold N4 at hz1
 refine B5<|sv Z<|A1<|A2<|cc Z hz1 (fun c1 hz1=> ?_)<|fun c1 hz1=> ?_
 refine A9<|A2<|A6<|B5<|sv Z<|sv Z<|A1<|A2<|J6 Z<|sv Z<|sv Z<|sv Z<|bs hz1 fun _ hv1 hz1=>sd Z (C9 Z Z hv1 Z)<|sd Z (B9 Z hv1 Z Z)<|sv Z<|sv Z<|bs hz1 fun _ hv2 hz1=>sd Z (C9 Z Z hv2 Z)<|sd Z (B9 Z hv2 Z Z)<|bs hz1 fun v3 hv3 hz1=>B8 Z Z A3 (Re _ _ _ hv3) (.inl Z) (B6 (.d (bo (!v3))) Z Z (A1<|cc Z hz1 (fun c2 hz1=> ?_)<|fun c2 hz1=> ?_))
 refine A5 (s0:=⟨T [(0,(di p1)),(1,(dl By p2)),(2,(dl By p3)),(3,(.d (.fn (.func 105) [] []))),(4,(.d (.fn (.func 106) [] []))),(11,(oS x1.1 (47,g2))),(12,(di<|Ej false (p2.length:Int) (p3.length:Int))),(13,(di x1.2)),(21,(di<|Ej false (p2.length:Int) (p3.length:Int))),(22,(di x1.2))],G [((47,g2),oB 52 18 E3 x1.1)]⟩) (C3 (U2 Z)<|D3 G_hit trivial) ?_
 refine O9 fun u8 _=>B6 (oS x1.1 (47,g2)) Z Z (sv Z<|sv Z<|sv Z<|sv Z<|sv Z<|sv Z<|bs hz1 fun _ hv4 hz1=>sd Z (C9 Z Z hv4 Z)<|sd Z (B9 Z hv4 Z Z)<|bs hz1 fun v5 hv5 hz1=>B8 Z Z (.cons (.agg (ca Z<|ca Z<|ca Z<|ca Z<|.cons ⟨DLe.nil,Z⟩ (ca Z<|ca Z<|.cons ⟨DLe.nil,Z⟩ (.cons ⟨DLe.nil,Z⟩ (ca Z<|ca Z<|.cons ⟨DLe.nil,Z⟩ (cz Z)))))) A3) (Mh _ _ _ hv5) (.inl Z) (B6 (dl E3 [v5]) Z (Bx E3 ([v5]:List Edit) (fun _=>Z) Z Z ⟨Z,Z,Z,trivial⟩ (fun _=>Z)) (bs hz1 fun _ hv6 hz1=>J2 E3 (47,g2) x1.1 v5 [] _ (F4<|fun _=>Z) Z G_hit hv6 (ss Z<|A1<|D9<|A5 (s0:=⟨T [(0,(.d _)),(1,(.d _)),(2,(.d _)),(3,(.d _)),(4,(.d _)),(11,(.sl _)),(12,(.d _)),(21,(.d _)),(22,(.d _))],G [((47,u8),some _)]⟩) (D2 Z Z) ?_))))
 refine B0<|sv Z<|sv Z<|A1<|E7 ?_
 cases hz1
 exact ⟨Z,u8,(C3 ⟨.of Z, .of Z, .of Z, .of Z, .of Z,(.of (Ai<|O0 hv6).symm), .of Z, .of Z, .of Z,trivial⟩<|P5 G_hit trivial)⟩
 refine A9<|D9<|A5 (s0:=⟨T [(0,(di p1)),(1,(dl By p2)),(2,(dl By p3)),(3,(.d (.fn (.func 105) [] []))),(4,(.d (.fn (.func 106) [] []))),(11,(oS x1.1 (47,g2))),(12,(di<|Ej false (p2.length:Int) (p3.length:Int))),(21,(di<|Ej false (p2.length:Int) (p3.length:Int))),(22,(di x1.2))],G [((47,g2),oB 52 18 E3 x1.1)]⟩) (C3 (U2 Z)<|D3 G_hit trivial) ?_
 refine B0<|sv Z<|sv Z<|A1<|E7 ?_
 cases hz1
 exact ⟨Z,g2,(C3 (U2 Z)<|D3 G_hit trivial)⟩
 refine C5 Z ?_
 cases hz1
 obtain rfl:=ez1 _ rfl
 refine ⟨nofun,C4 Z<|Y5 ?_⟩
 exact ⟨g2,(C3 (U2 Z)<|D3 G_hit trivial)⟩
 rintro _ ⟨g1,q1⟩
 refine A5 q1<|A2<|B5<|sv Z<|sd Z (C1 Z)<|sv Z<|sv Z<|A1<|bs h fun y2 hy2 h=>D5 (fun s=> ∃g3:({d:Nat // d∈ [47,62]}×Nat),Sb ⟨T [(0,(di p1)),(2,(dl By p3)),(4,(.d (.fn (.func 106) [] []))),(11,(oS y2 (g3.1.val,g3.2))),(12,(di<|Ej false (p2.length:Int) (p3.length:Int)))],G [((g3.1.val,g3.2),oB 52 18 E3 y2)]⟩ s) ?_ ?_
 refine A6<|E0 (N3 p1 p2 p3) (fun (x2:((List Edit)×Int)) (g4:({d:Nat // d∈ [47,62]}×Nat))=>⟨T [(0,(di p1)),(2,(dl By p3)),(4,(.d (.fn (.func 106) [] []))),(11,(oS x2.1 (g4.1.val,g4.2))),(12,(di<|Ej false (p2.length:Int) (p3.length:Int))),(14,(di x2.2))],G [((g4.1.val,g4.2),oB 52 18 E3 x2.1)]⟩) (y1,(I8 ((p2.length:Int) - 1))) (⟨47, .head _⟩,g1) _ hy2 (C3 (U2 Z)<|D3 G_hit trivial) ?_
 intro x2 g4 z2 hz2 ez2
 unfold N3 at hz2
 refine A2<|B5<|sv Z<|sv Z<|sv Z<|A1<|cc Z hz2 (fun c3 hz2=> ?_)<|fun c3 hz2=> ?_
 refine A9<|A2<|A6<|O9 fun u13 _=>B6 (oS x2.1 (g4.1.val,g4.2)) Z Z (sv Z<|sv Z<|sv Z<|B6 (dl E3 [(Edit.mk 2 p1 x2.2 (Lane.mk 0 (Curve.mk []) 0 0 []) (Zone.mk [] 0) (Signal.mk 0 []) (Work.mk 0 0 0 0 0 0))]) Z Z (bs hz2 fun _ hv7 hz2=>J2 E3 (g4.1.val,g4.2) x2.1 (Edit.mk 2 p1 x2.2 (Lane.mk 0 (Curve.mk []) 0 0 []) (Zone.mk [] 0) (Signal.mk 0 []) (Work.mk 0 0 0 0 0 0)) [] _ (F4<|fun _=>Z) Z G_hit hv7 (ss Z<|A1<|D9<|B0<|sv Z<|sv Z<|sv Z<|A1<|E7 ?_)))
 cases hz2
 exact ⟨Z,(⟨62, .tail _ (.head _)⟩,u13),(C3 ⟨.of Z, .of Z, .of Z,(.of (Ai<|O0 hv7).symm), .of Z, .of Z,trivial⟩<|P5 G_hit trivial)⟩
 refine C5 Z ?_
 cases hz2
 obtain rfl:=ez2 _ rfl
 refine ⟨nofun,C4 Z<|Y5 ?_⟩
 exact ⟨(g4.1,g4.2),(C3 (U2 Z)<|D3 G_hit trivial)⟩
 rintro _ ⟨g3,q2⟩
 refine A5 q2<|A2<|B5<|sv Z<|sv Z<|A1<|bs h fun y3 hy3 h=>D5 (fun s=> ∃g5:({d:Nat // d∈ [47,62,81]}×Nat),Sb ⟨T [(11,(oS y3 (g5.1.val,g5.2)))],G [((g5.1.val,g5.2),oB 52 18 E3 y3)]⟩ s) ?_ ?_
 refine A6<|E0 (N2 p1 p3) (fun (x3:((List Edit)×Int)) (g6:({d:Nat // d∈ [47,62,81]}×Nat))=>⟨T [(0,(di p1)),(2,(dl By p3)),(4,(.d (.fn (.func 106) [] []))),(11,(oS x3.1 (g6.1.val,g6.2))),(15,(di x3.2))],G [((g6.1.val,g6.2),oB 52 18 E3 x3.1)]⟩) (y2,(Ej false (p2.length:Int) (p3.length:Int))) (⟨g3.1.val,PA g3.1.property Z⟩,g3.2) _ hy3 (C3 (U2 Z)<|D3 G_hit trivial) ?_
 intro x3 g6 z3 hz3 ez3
 unfold N2 at hz3
 refine A2<|B5<|sv Z<|sv Z<|sd Z (C1 Z)<|sv Z<|A1<|cc Z hz3 (fun c4 hz3=> ?_)<|fun c4 hz3=> ?_
 refine A9<|A2<|A6<|O9 fun u17 _=>B6 (oS x3.1 (g6.1.val,g6.2)) Z Z (sv Z<|sv Z<|sv Z<|sv Z<|sv Z<|sv Z<|bs hz3 fun _ hv8 hz3=>sd Z (C9 Z Z hv8 Z)<|sd Z (B9 Z hv8 Z Z)<|bs hz3 fun v9 hv9 hz3=>B8 Z Z (.cons (.agg (ca Z<|ca Z<|ca Z<|ca Z<|.cons ⟨DLe.nil,Z⟩ (ca Z<|ca Z<|.cons ⟨DLe.nil,Z⟩ (.cons ⟨DLe.nil,Z⟩ (ca Z<|ca Z<|.cons ⟨DLe.nil,Z⟩ (cz Z)))))) A3) (Mh _ _ _ hv9) (.inl Z) (B6 (dl E3 [v9]) Z (Bx E3 ([v9]:List Edit) (fun _=>Z) Z Z ⟨Z,Z,Z,trivial⟩ (fun _=>Z)) (bs hz3 fun _ hv10 hz3=>J2 E3 (g6.1.val,g6.2) x3.1 v9 [] _ (F4<|fun _=>Z) Z G_hit hv10 (ss Z<|A1<|D9<|A5 (s0:=⟨T [(0,(.d _)),(2,(.d _)),(4,(.d _)),(11,(.sl _)),(15,(.d _))],G [((81,u17),some _)]⟩) (D2 Z Z) ?_))))
 refine B0<|sv Z<|sv Z<|sv Z<|A1<|E7 ?_
 cases hz3
 exact ⟨Z,(⟨81, .tail _ (.tail _ (.head _))⟩,u17),(C3 ⟨.of Z, .of Z, .of Z,(.of (Ai<|O0 hv10).symm), .of Z,trivial⟩<|P5 G_hit trivial)⟩
 refine C5 Z ?_
 cases hz3
 obtain rfl:=ez3 _ rfl
 refine ⟨nofun,C4 Z<|Y5 ?_⟩
 exact ⟨(g6.1,g6.2),(C3 ⟨.of Z,trivial⟩<|D3 G_hit trivial)⟩
 rintro _ ⟨g5,q3⟩
 refine A5 q3<|B5<|B6 (oS y3 (g5.1.val,g5.2)) Z Z (B6 (oS y3 (g5.1.val,g5.2)) Z Z (A1<|B1 ?_))
 cases h
 exact A8 (.inr Z) (B4 (B2 Z)<|Ed G_hit) Ec
section
open Go.RowKit Go.Lib
def MC:Go.Shelf.Ren:=⟨fun n=>if n=4 then 203 else 0,fun t=>if t=22 then 34 else if t=25 then 52 else t,fun x=>x⟩
theorem Tk:Lays8.n4 prog MC where
  mixed:=by kernel_rfl
  f4:=⟨Tryz.f203.name,by decide,by kernel_rfl⟩
  t0:=Tryz.underlying0
  a0:=Tryz.isAgg0
  z0:=Tryz.sizeOf0
  v0:=Tryz.zeroValue0
  t3:=Tryz.underlying3
  a3:=Tryz.isAgg3
  z3:=Tryz.sizeOf3
  v3:=Tryz.zeroValue3
  t4:=Tryz.underlying4
  a4:=Tryz.isAgg4
  z4:=Tryz.sizeOf4
  v4:=Tryz.zeroValue4
  t9:=Tryz.underlying9
  a9:=Tryz.isAgg9
  z9:=Tryz.sizeOf9
  v9:=Tryz.zeroValue9
  t20:=Tryz.underlying20
  a20:=Tryz.isAgg20
  z20:=Tryz.sizeOf20
  v20:=Tryz.zeroValue20
  t22:=Tryz.underlying34
  a22:=Tryz.isAgg34
  z22:=Tryz.sizeOf34
  v22:=Tryz.zeroValue34
theorem AG: ∃(i:TypeInfo) (z:Value),prog.info? 52=some i∧i.zero=some z∧i.size=18∧i.bytes=208∧z.cells.size=18:=by
  have e:((prog.info? 52).bind fun i=>i.zero.map fun z=>(i.size,i.bytes,z.cells.size))=some (18,208,18):=by kernel_rfl
  cases hi:prog.info? 52 with
  |none=>rw [hi]at e;cases e
  |some i=>
   rw [hi]at e
   cases hz:i.zero with
   |none=>simp [hz]at e
   |some z=>
    simp only [lA,hz,lE,Option.some.injEq,Prod.mk.injEq]at e
    exact ⟨i,z,Z,hz,e.1,e.2.1,e.2.2⟩
theorem IJ (n:Int)(h1:0<n)(h2:n≤1000000):MCall prog 203 [.d .nilS, .d (i64 n)] [] (.sl (800000,0)) [] [some (.arr 52 18 [])]:=by
  refine ⟨Z,fun vs w=> ?_,fun w I ρ vs H hlen hrep=> ?_⟩
  ·have hn': ¬Tryz.f203.name= "runtime.NumGoroutine" :=by decide
   have hb: ∃c,Tryz.f203.body=some c:=⟨_,rfl⟩
   obtain ⟨c,hb⟩:=hb
   simp [callFunc,func203,hb,hn']
  obtain ⟨a,b,rfl⟩: ∃a b,vs= [a,b]:=by
    match vs,hlen with
    | [a,b],_=>exact ⟨a,b,rfl⟩
  have r0:=hrep 0 _ rfl
  have r1:=hrep 1 _ rfl
  simp only [List.getD_cons_zero,List.getD_cons_succ]at r0 r1
  cases r0 with|d _ _ r0=> ?_
  cases r0 with|nilS A=> ?_
  cases r1 with|d _ _ r1=> ?_
  cases r1
  obtain ⟨i,z,hi,hz,hs,hb,hzs⟩:=AG
  obtain ⟨m,hm⟩: ∃m:Nat,n=m:=⟨n.toNat,by omega⟩
  subst hm
  have hc:=Any8.slices_Grow_grow Tk i z hi hz (by omega) A 0 0 m [] w (bK _) (by omega) (by rw [hb];omega) (by omega) (by simp) (fun _=>rfl) (fun _ _ j _ h=>by simp at h)
  refine hc.mono ?_
  rintro e w' ⟨he,hw'⟩
  obtain ⟨u0,hu0⟩:=H.fresh
  have hk0:ρ (7,u0)=none:=hu0 7 u0 (bK _)
  have hge:=grownCap_ge w (0+m) 0 52
  have hle:=grownCap_le_maxLen w (0+m) 0 52 (by unfold maxLen;omega)
  obtain ⟨cap,hcap⟩: ∃c,c=grownCap w (0+m) 0 52:=⟨_,rfl⟩
  rw [← hcap]at hge hle
  obtain ⟨cur,hcur⟩: ∃c,c=([]:List Value).toArray++Builtin.zeroCells z.cells (0+m - 0)++Builtin.zeroCells z.cells (cap - (0+m)):=⟨_,rfl⟩
  have he:e= .returned (.slice (some ⟨w.heap.size,0,none⟩) 0 cap):=by rw [hcap];exact he
  have hw':w'=w.drew.alloc (.cells cur 52):=by rw [hcur,hcap];exact hw'
  subst he
  have hsz:cur.size=cap*18:=by
    rw [hcur]
    simp only [Array.size_append,List.size_toArray,lL,size_zeroCells,hzs]
    omega
  have how:w'.ownsRow 0 52 18 (.slice (some ⟨w.heap.size,0,none⟩) 0 cap) 0 []:=by rw [hw'];exact World.ownsRow_made w.drew cur cap (bL _) hle hsz
  have hold: ∀k,k<w.heap.size→w'.heap[k]? =w.heap[k]?:=fun k hk=>by rw [hw'];exact heap_alloc_old w.drew _ hk
  have hsize:w'.heap.size=w.heap.size+1:=by rw [hw'];show (w.heap.push _).size=_;simp
  clear hcur hcap hge hle hsz hc
  have hos:w'.os=w.os∧w'.tape=w.tape∧w'.output=w.output:=by rw [hw'];exact ⟨rfl,rfl,rfl⟩
  have H0:HeapOK w' I ρ (fun _=>none):=⟨fun k b hb=>(by cases hb),fun k k' b b' g h1=>(by cases h1),fun k b g h1=>(by cases h1),fun k b g h1=>(by cases h1),fun b hb=>by have:=H.ilt b hb;omega,⟨u0,hu0⟩,H.rone⟩
  have hloc: ∀k,J1 (U1 ρ (7,u0) (some (Value.slice (some ⟨w.heap.size,0,none⟩) 0 cap))) (7,u0) (.arr 52 18 [])=some k→k=w.heap.size:=by
    intro k hk
    have:some w.heap.size=some k:=by simpa [J1,D8,Value.ownBlock] using hk
    exact (lC this).symm
  have Hn:=BI H0 (7,u0) (Value.slice (some ⟨w.heap.size,0,none⟩) 0 cap) (.arr 52 18 []) hk0 rfl (fun k hk=>by
    rw [hloc k hk]
    exact ⟨fun ⟨k,b,h,_⟩=>(by cases h),fun hI=>by have:=H.ilt _ hI;omega,by omega⟩)
    ⟨_,[],D8 _ _ _,how,by simp,by intro i j d hd;simp [Iq]at hd⟩
  refine ⟨_, .sl (7,u0),I,_,_,Z, .sl _ _ (D8 _ _ _),Hn,⟨hos.1,hos.2.1,hos.2.2,by omega,fun b hb _=>hold b hb,fun _ hb=>hb,fun _ hb _=> .inl hb,?_,Zg hk0⟩,fun _=>(7,u0),Z,?_,?_,?_,?_⟩
  ·rintro k ⟨k',b',h1,h2⟩ hl
   by_cases ek:k'=(7,u0)
   ·subst ek
    rw [D8]at h1
    cases h1
    have:=hloc k h2;omega
   ·rw [H3 _ _ _ _ ek]at h1;cases h1
  ·intro j b hb
   simp at hb
  ·intro j b hb
   match j,hb with
   |0,hb=>cases hb;exact D8 _ _ _
   |j+1,hb=>simp at hb
  ·intro j _ i hi e;simp at hi
  ·intro j j' h1 h2 _
   simp only [lJ,lL]at h1 h2
   omega
theorem IK:PCall prog 203 [.nilS,i64 0] .nilS:=by
  refine ⟨fun vs w=> ?_,fun w I vs hI hlen hrep=> ?_⟩
  ·have hn': ¬Tryz.f203.name= "runtime.NumGoroutine" :=by decide
   have hb: ∃c,Tryz.f203.body=some c:=⟨_,rfl⟩
   obtain ⟨c,hb⟩:=hb
   simp [callFunc,func203,hb,hn']
  obtain ⟨a,b,rfl⟩: ∃a b,vs= [a,b]:=by
    match vs,hlen with
    | [a,b],_=>exact ⟨a,b,rfl⟩
  have r0:=hrep 0 _ rfl
  have r1:=hrep 1 _ rfl
  simp only [List.getD_cons_zero,List.getD_cons_succ]at r0 r1
  cases r0 with|nilS A=> ?_
  cases r1
  refine (Any8.slices_Grow_room Tk A 0 0 0 w (bK _) (by omega) (by omega) (by omega)).mono ?_
  rintro e w' ⟨rfl,rfl⟩
  exact ⟨_,I,Z, .nilS A,Z,Z,Z,bK _,fun _ _=>Z,fun _ hb=>hb,fun _ hb _=>hb,hI⟩
theorem IL {α:Type}{e:α→List D}{v:Unit}(n:Int)(h:CR n=some v):MCall prog 203 [.d .nilS, .d (i64 n)] [] (oW (decide (n>0)) ([]:List α) (800000,0)) [] [wB (decide (n>0)) 52 18 e ([]:List α)]:=by
  obtain ⟨h0,h1⟩:=LY h
  by_cases q:n>0
  ·rw [l4 q];exact IJ n q h1
  ·obtain rfl:n=0:=by omega
   exact MCall.ofP (ds:= [.nilS,i64 0]) IK
end
end
end Go.Abs.Roadsz
