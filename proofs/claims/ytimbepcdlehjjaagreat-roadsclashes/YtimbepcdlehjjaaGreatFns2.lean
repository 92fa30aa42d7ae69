/-
  The functions, part 2.
-/
import Derived.Test.YtimbepcdlehjjaaGreatFns1
set_option maxRecDepth 20000
set_option maxHeartbeats 4000000
set_option linter.unusedVariables false
namespace Go.Abs.Roadsz
noncomputable section
open Go Go.Abs Go.Proofs Tryz
attribute [local irreducible] K3 Cw Dw
def R6 [Lp](p1:Zone)(p2:Map)(p3:Int)(p4:(List Int)):Option Bool:=
  (Ar p2 p1 p3).bind fun v1=>((cond v1 (F9 p4 p2 p1) (some default))).bind fun v2=>some (v1&& (!v2))
theorem Nz(p1 p2 p3 p4 r)(h:R6 p1 p2 p3 p4=some r):PCall prog 180 [(.agg [(.list (List.map H9 p1.Parts)),(i64 p1.Signal_)]),(.bp (L8 p2) 0),(.bp [(i64 p3)] 0),(.bp [(.list (List.map A8 p4))] 0)] (bo r):=by
 refine C5 (fk func180 ntmps180 m0 (by with_unfolding_all rfl)) (nl Z) ?_
 unfold R6 at h
 refine A5 (s0:=⟨T [(0,(.d _)),(1,(.d _)),(2,(.d _)),(3,(.d _))],G []⟩) (C9 Z Z) ?_
 refine lr<|fun u1 _=>sm Z<|sv Z<|A1<|B7<|sv Z<|sd Z (A7 Z G_hit Z Z)<|sv Z<|bs h fun v1 hv1 h=>B3 Z Z A2 (Pm _ _ _ _ hv1) (.inl Z) (sv Z<|gt Z (fun _=>Z)<|Ba _ (.fn _ _ _) Z (Q0 Z) (fun _=>Z) (bs h fun v2 hv2 h=> ?_))
 refine K7 v1 (bo v2) (Q0 Z) (fun w3=>⟨_,[(dl A8 p4),(.fn (.func 183) [] [(.d (.bp (L8 p2) 0)),(.ptr (4,u1) 0)])],_,_,(by simp only [A3 w3];rfl),(rD<|L9 (Qq I0<|rD<|L9 (Fq G_hit<|rD<|rD I0) I0) I0),A2,Bv _ _ _ _<|D7 w3 hv2,(.inr Z)⟩) ?_
 refine Ba _ (.d (bo (!v2))) Z (Q0 Z) (fun w4=>(by simp only [A3 w4];rfl)) ?_
 refine sa Z Z Z<|sv Z<|A1<|B5 ?_
 cases h
 exact A9 (.inr Z) (B6 (B4 Z) C6) (.refl _)
def E8 [Lp](p1:(List Zone))(p2:Map)(p3:Int)(p4:(List Int))(x1:Int):Option (Stp Int (Sum Unit Int)):=
  cond (decide (x1< (p1.length:Int))) ((E5 p1 x1).bind fun v1=>(R6 v1 p2 p3 p4).bind fun v2=>cond v2 (some (.out (.inr x1))) (some (.go (C8 (x1+1))))) (some (.out (.inl ())))
def G2 [Lp](p1:(List Zone))(p2:Map)(p3:Int)(p4:(List Int)):Option Int:=
  thenS (loop (E8 p1 p2 p3 p4) 0) (fun _=>some (-1)) (fun r=>some r)
theorem Cn(p1 p2 p3 p4 r)(h:G2 p1 p2 p3 p4=some r):PCall prog 243 [(.list (List.map Q9 p1)),(.fn (.func 180) [] [(.bp (L8 p2) 0),(.bp [(i64 p3)] 0),(.bp [(.list (List.map A8 p4))] 0)])] (i64 r):=by
 refine C5 (fk func243 ntmps243 m0 (by with_unfolding_all rfl)) (nl Z) ?_
 unfold G2 at h
 refine A5 (s0:=⟨T [(0,(.d _)),(1,(.d _))],G []⟩) (C9 Z Z) ?_
 refine B7<|sv Z<|A1<|A4<|B7<|sv Z<|sd Z (D0 Z)<|sv Z<|A1<|js h fun z1 hz1 h=>D2 (fun s=> ∃(y1:Unit) (g1:Unit),z1= .inl y1∧Sb ⟨T [],G []⟩ s) ?_ ?_
 refine A6<|E7 (E8 p1 p2 p3 p4) (fun (x1:Int) (g2:Unit)=>⟨T [(0,(dl Q9 p1)),(1,(.d (.fn (.func 180) [] [(.bp (L8 p2) 0),(.bp [(i64 p3)] 0),(.bp [(.list (List.map A8 p4))] 0)]))),(7,(di (p1.length:Int))),(8,(di x1))],G []⟩) 0 () _ hz1 (C9 Z Z) ?_
 intro x1 g2 z2 hz2 ez2
 unfold E8 at hz2
 refine B7<|sv Z<|A1<|A4<|cc Z hz2 (fun c1 hz2=> ?_)<|fun c1 hz2=> ?_
 refine B1<|A4<|A6<|B7<|sv Z<|sv Z<|A1<|B7<|sv Z<|sv Z<|sv Z<|bs hz2 fun _ hv1 hz2=>sd Z (C7 Z Z hv1 Z)<|sd Z (D5 Z hv1 Z Z)<|bs hz2 fun _ hv2 hz2=>B3 Z Z A2 (Nz _ _ _ _ _ hv2) (.inl Z) (A1<|cc Z hz2 (fun c2 hz2=> ?_)<|fun c2 hz2=> ?_)
 refine B7<|sv Z<|sv Z<|A1<|B5 ?_
 cases hz2
 obtain rfl:=ez2 _ rfl
 refine ⟨nofun,F6 ?_⟩
 rw [bL]at h
 cases h
 exact A9 (.inr Z) (B6 (B4 Z) C6) (.refl _)
 refine B1<|E6<|B0<|sv Z<|sv Z<|A1<|F2 ?_
 cases hz2
 exact ⟨Z,(),(C9 Z Z)⟩
 refine C3 Z ?_
 cases hz2
 obtain rfl:=ez2 _ rfl
 refine ⟨nofun,B9 Z<|U0 ?_⟩
 exact ⟨_,(),Z,(C9 Z Z)⟩
 rintro _ ⟨y1,g1,rfl,q1⟩
 rw [bK]at h
 refine A5 q1<|B7<|sv Z<|A1<|B5 ?_
 cases h
 exact A9 (.inr Z) (B6 (B4 Z) C6) (.refl _)
def E9 [Lp](p1:(List Zone))(p2:Map)(p3:Int)(p4:(List Int)):Option Bool:=
  (G2 p1 p2 p3 p4).bind fun v1=>some (decide (v1≥0))
theorem Bo(p1 p2 p3 p4 r)(h:E9 p1 p2 p3 p4=some r):PCall prog 179 [(.list (List.map Q9 p1)),(.fn (.func 180) [] [(.bp (L8 p2) 0),(.bp [(i64 p3)] 0),(.bp [(.list (List.map A8 p4))] 0)])] (bo r):=by
 refine C5 (fk func179 ntmps179 m0 (by with_unfolding_all rfl)) (nl Z) ?_
 unfold E9 at h
 refine A5 (s0:=⟨T [(0,(.d _)),(1,(.d _))],G []⟩) (C9 Z Z) ?_
 refine B7<|sv Z<|A1<|B7<|sv Z<|sv Z<|bs h fun _ hv1 h=>B3 Z Z A2 (Cn _ _ _ _ _ hv1) (.inl Z) (sv Z<|sv Z<|A1<|B5 ?_)
 cases h
 exact A9 (.inr Z) (B6 (B4 Z) C6) (.refl _)
def W9 [Lp](p1:Map)(x1:((List Clash)×Int)):Option (Stp ((List Clash)×Int) (List Clash)):=
  cond (decide (x1.2< (p1.Lanes.length:Int))) ((Z4 p1 x1.2).bind fun v1=>(E9 p1.Zones p1 x1.2 v1).bind fun v2=>cond ((decide ((v1.length:Int)>1))&& (!v2)) ((Cj x1.1 [(Clash.mk 1 (-1) x1.2 (-1))]).bind fun v3=>some (.go (v3,(C8 (x1.2+1))))) (some (.go (x1.1,(C8 (x1.2+1)))))) (some (.out x1.1))
def As [Lp](p1:Map):Option (List Clash):=
  (loop (W9 p1) ([],0)).bind fun y1=>some y1
theorem Pn(p1 r)(h:As p1=some r):PCall prog 77 [(.agg (L8 p1))] (.list (List.map B8 r)):=by
 refine C5 (fk func77 ntmps77 (fun r=>if r==7 then [1003]else []) (by with_unfolding_all rfl)) (nl Z) ?_
 unfold As at h
 refine A5 (s0:=⟨T [(0,(.d _))],G []⟩) (C9 Z Z) ?_
 refine lr<|fun u1 _=>sm Z<|sv Z<|A1<|A4<|B7<|sq Z<|sl Z G_hit Z<|sd Z (D0 Z)<|sv Z<|A1<|bs h fun y1 hy1 h=>D2 (fun s=> ∃g1:Nat,Sb ⟨T [(2,(oS y1 (30,g1)))],G [((30,g1),oB 93 4 B8 y1)]⟩ s) ?_ ?_
 refine A6<|E7 (W9 p1) (fun (x1:((List Clash)×Int)) (g2:Nat)=>⟨T [(1,(.ptr (1,u1) 0)),(2,(oS x1.1 (30,g2))),(8,(di (p1.Lanes.length:Int))),(9,(di x1.2))],G [((1,u1),some<|.box 27 (I7 p1)),((30,g2),oB 93 4 B8 x1.1)]⟩) ([],0) 0 _ hy1 (C0 (T3 Z)<|B2 G_hit (.of Z)<|U9 trivial) ?_
 intro x1 g2 z1 hz1 ez1
 unfold W9 at hz1
 refine B7<|sv Z<|A1<|A4<|cc Z hz1 (fun c1 hz1=> ?_)<|fun c1 hz1=> ?_
 refine B1<|A4<|A6<|lr<|fun u4 _=>sv Z<|sm Z<|Bb Z G_hit [(di x1.2)] Z (A1<|B7<|sd Z (A7 Z (gq Z) Z Z)<|sl Z G_hit Z<|bs hz1 fun v1 hv1 hz1=>B3 Z Z A2 (Ko _ _ _ hv1) (.inl Z) (sm Z<|Bb Z G_hit [(dl A8 v1)] Z (A1<|B7<|sq Z<|sl Z (gq Z) Z (C1 (.fn _ _ _) Z Z (bs hz1 fun v2 hv2 hz1=>B3 Z (rD<|L9 (Qq I0<|L9 (Fq (gq Z)<|rD<|rD<|rD<|rD<|rD I0)<|L9 (Fq (gq Z)<|rD I0)<|L9 (Fq G_hit<|rD I0) I0) I0) A2 (Bo _ _ _ _ _ hv2) (.inr Z) (sv Z<|A1<|B7<|sl Z G_hit Z<|sd Z (D0 Z)<|sv Z<|sv Z<|gt Z (fun _=>Z) ?_))))))
 refine Ba _ (.d (bo (!v2))) Z (Q0 Z) (fun w2=>(by simp only [A3 w2];rfl)) ?_
 refine sa Z Z Z<|A1<|cc Z hz1 (fun c2 hz1=> ?_)<|fun c2 hz1=> ?_
 refine A5 (s0:=⟨T [(1,(.ptr (1,u1) 0)),(2,(oS x1.1 (30,g2))),(3,(.ptr (3,u4) 0)),(8,(di (p1.Lanes.length:Int))),(9,(di x1.2))],G [((1,u1),some<|.box 27 (I7 p1)),((30,g2),oB 93 4 B8 x1.1),((3,u4),some<|.box 3 [(di x1.2)])]⟩) (C0 (T3 Z)<|sg Z<|C2 (gq Z)<|sg Z trivial) ?_
 refine Bw fun u8 _=>C1 (oS x1.1 (30,g2)) Z Z (sl Z (gq Z) Z (sv Z<|C1 (dl B8 [(Clash.mk 1 (-1) x1.2 (-1))]) Z Z (bs hz1 fun _ hv3 hz1=>N9 B8 (30,g2) x1.1 (Clash.mk 1 (-1) x1.2 (-1)) [] _ (J7<|fun _=>Z) Z (gq Z) hv3 (ss Z<|A1<|E6<|B0<|sv Z<|sv Z<|A1<|F2 ?_))))
 cases hz1
 exact ⟨Z,u8,(C0 ⟨.of Z,(.of (Dy<|T1 hv3).symm), .of Z, .of Z,trivial⟩<|sg Z<|U8 G_hit trivial)⟩
 refine B1<|E6<|A5 (s0:=⟨T [(1,(.ptr (1,u1) 0)),(2,(oS x1.1 (30,g2))),(8,(di (p1.Lanes.length:Int))),(9,(di x1.2))],G [((1,u1),some<|.box 27 (I7 p1)),((30,g2),oB 93 4 B8 x1.1)]⟩) (C0 (T3 Z)<|sg Z<|C2 (gq Z) trivial) ?_
 refine B0<|sv Z<|sv Z<|A1<|F2 ?_
 cases hz1
 exact ⟨Z,g2,(C0 (T3 Z)<|B2 G_hit (.of Z)<|C2 (gq Z) trivial)⟩
 refine C3 Z ?_
 cases hz1
 obtain rfl:=ez1 _ rfl
 refine ⟨nofun,B9 Z<|U0 ?_⟩
 exact ⟨g2,(C0 ⟨.of Z,trivial⟩<|C2 (gq Z) trivial)⟩
 rintro _ ⟨g1,q1⟩
 refine A5 q1<|B7<|C1 (oS y1 (30,g1)) Z Z (C1 (oS y1 (30,g1)) Z Z (A1<|B5 ?_))
 cases h
 exact A9 (.inr Z) (B6 (B4 Z)<|Ea G_hit) Dz
def X0 [Lp](p1:Map)(x1:((List Clash)×Int))(v1:Zone)(x2:((List Clash)×Int)):Option (Stp ((List Clash)×Int) (List Clash)):=
  cond (decide (x2.2< (v1.Parts.length:Int))) ((E5 v1.Parts x2.2).bind fun v2=>(Bc p1 v1 v2.Lane_).bind fun v3=>((cond (!v3) (Ar p1 v1 v2.Lane_) (some default))).bind fun v4=>cond ((!v3)&& (!v4)) ((Cj x2.1 [(Clash.mk 2 x1.2 v2.Lane_ (-1))]).bind fun v5=>some (.go (v5,(C8 (x2.2+1))))) (some (.go (x2.1,(C8 (x2.2+1)))))) (some (.out x2.1))
def X1 [Lp](p1:Map)(x1:((List Clash)×Int)):Option (Stp ((List Clash)×Int) (List Clash)):=
  cond (decide (x1.2< (p1.Zones.length:Int))) ((E5 p1.Zones x1.2).bind fun v1=>(loop (X0 p1 x1 v1) (x1.1,0)).bind fun y2=>some (.go (y2,(C8 (x1.2+1))))) (some (.out x1.1))
def Au [Lp](p1:Map):Option (List Clash):=
  (loop (X1 p1) ([],0)).bind fun y1=>some y1
theorem Po(p1 r)(h:Au p1=some r):PCall prog 78 [(.agg (L8 p1))] (.list (List.map B8 r)):=by
 refine C5 (fk func78 ntmps78 (fun r=>if r==8 then [1005]else []) (by with_unfolding_all rfl)) (nl Z) ?_
 unfold Au at h
 refine A5 (s0:=⟨T [(0,(.d _))],G []⟩) (C9 Z Z) ?_
 refine lr<|fun u1 _=>sm Z<|sv Z<|A1<|A4<|B7<|sq Z<|sl Z G_hit Z<|sd Z (D0 Z)<|sv Z<|A1<|bs h fun y1 hy1 h=>D2 (fun s=> ∃g1:Nat,Sb ⟨T [(2,(oS y1 (42,g1)))],G [((42,g1),oB 93 4 B8 y1)]⟩ s) ?_ ?_
 refine A6<|E7 (X1 p1) (fun (x1:((List Clash)×Int)) (g2:Nat)=>⟨T [(1,(.ptr (1,u1) 0)),(2,(oS x1.1 (42,g2))),(8,(dl Q9 p1.Zones)),(9,(di (p1.Zones.length:Int))),(10,(di x1.2))],G [((1,u1),some<|.box 27 (I7 p1)),((42,g2),oB 93 4 B8 x1.1)]⟩) ([],0) 0 _ hy1 (C0 (T3 Z)<|B2 G_hit (.of Z)<|U9 trivial) ?_
 intro x1 g2 z1 hz1 ez1
 unfold X1 at hz1
 refine B7<|sv Z<|A1<|A4<|cc Z hz1 (fun c1 hz1=> ?_)<|fun c1 hz1=> ?_
 refine B1<|A4<|A6<|lr<|fun u4 _=>sv Z<|bs hz1 fun v1 hv1 hz1=>sd Z (C7 Z Z hv1 Z)<|sd Z (D5 Z hv1 Z Z)<|sm Z<|sv Z<|Bb Z G_hit [(dl H9 v1.Parts),(di v1.Signal_)] Z (A1<|B7<|sq Z<|sl Z G_hit Z<|sd Z (D0 Z)<|sv Z<|A1<|bs hz1 fun y2 hy2 hz1=>D2 (fun s=> ∃g3:Nat,Sb ⟨T [(1,(.ptr (1,u1) 0)),(2,(oS y2 (42,g3))),(8,(dl Q9 p1.Zones)),(9,(di (p1.Zones.length:Int))),(10,(di x1.2))],G [((1,u1),some<|.box 27 (I7 p1)),((42,g3),oB 93 4 B8 y2)]⟩ s) ?_ ?_)
 refine A6<|E7 (X0 p1 x1 v1) (fun (x2:((List Clash)×Int)) (g4:Nat)=>⟨T [(1,(.ptr (1,u1) 0)),(2,(oS x2.1 (42,g4))),(3,(di x1.2)),(4,(.ptr (4,u4) 0)),(8,(dl Q9 p1.Zones)),(9,(di (p1.Zones.length:Int))),(10,(di x1.2)),(16,(dl H9 v1.Parts)),(17,(di (v1.Parts.length:Int))),(18,(di x2.2))],G [((1,u1),some<|.box 27 (I7 p1)),((4,u4),some<|.box 45 [(dl H9 v1.Parts),(di v1.Signal_)]),((42,g4),oB 93 4 B8 x2.1)]⟩) (x1.1,0) g2 _ hy2 (C0 (T3 Z)<|sg Z<|B2 G_hit (.of Z)<|C2 (gq Z) trivial) ?_
 intro x2 g4 z2 hz2 ez2
 unfold X0 at hz2
 refine B7<|sv Z<|A1<|A4<|cc Z hz2 (fun c2 hz2=> ?_)<|fun c2 hz2=> ?_
 refine B1<|A4<|A6<|lr<|fun u7 _=>bs hz2 fun v2 hv2 hz2=>sd Z (C7 Z Z hv2 Z)<|sd Z (D5 Z hv2 Z Z)<|sm Z<|Bb Z G_hit (Fz v2) Z (A1<|B7<|sd Z (A7 Z (gq Z) Z Z)<|sd Z (A7 Z (gq Z) Z Z)<|sq Z<|sl Z G_hit Z<|bs hz2 fun v3 hv3 hz2=>B3 Z Z A2 (Me _ _ _ _ hv3) (.inl Z) (C1 (.d (bo (!v3))) Z Z (sv Z<|gt Z (fun _=>(A7 Z (gq Z) Z Z))<|gt Z (fun _=>(A7 Z (gq Z) Z Z))<|gp Z (Q0 Z) (fun _=>Z) (gt Z (vl Z G_hit Z)<|bs hz2 fun v4 hv4 hz2=> ?_))))
 refine K7 _ (bo v4) (Q0 Z) (fun w5=>⟨_,[(.d (.agg (L8 p1))),(.d (.agg [(.list (List.map H9 v1.Parts)),(i64 v1.Signal_)])),(di v2.Lane_)],_,_,(by simp only [A3 w5];rfl),Z,A2,Pm _ _ _ _<|D7 w5 hv4,(.inl Z)⟩) ?_
 refine Ba _ (.d (bo (!v4))) Z (Q0 Z) (fun w6=>(by simp only [A3 w6];rfl)) ?_
 refine sa Z Z Z<|A1<|cc Z hz2 (fun c3 hz2=> ?_)<|fun c3 hz2=> ?_
 refine A5 (s0:=⟨T [(1,(.ptr (1,u1) 0)),(2,(oS x2.1 (42,g4))),(3,(di x1.2)),(4,(.ptr (4,u4) 0)),(6,(.ptr (6,u7) 0)),(8,(dl Q9 p1.Zones)),(9,(di (p1.Zones.length:Int))),(10,(di x1.2)),(16,(dl H9 v1.Parts)),(17,(di (v1.Parts.length:Int))),(18,(di x2.2))],G [((1,u1),some<|.box 27 (I7 p1)),((42,g4),oB 93 4 B8 x2.1),((4,u4),some<|.box 45 [(dl H9 v1.Parts),(di v1.Signal_)]),((6,u7),some<|.box 91 (Fz v2))]⟩) (C0 (T3 Z)<|sg Z<|C2 (gq Z)<|sg Z<|B2 G_hit (.of Z) trivial) ?_
 refine Bw fun u9 _=>C1 (oS x2.1 (42,g4)) Z Z (sv Z<|sq Z<|sl Z (gq Z) Z (sv Z<|C1 (dl B8 [(Clash.mk 2 x1.2 v2.Lane_ (-1))]) Z Z (bs hz2 fun _ hv5 hz2=>N9 B8 (42,g4) x2.1 (Clash.mk 2 x1.2 v2.Lane_ (-1)) [] _ (J7<|fun _=>Z) Z (gq Z) hv5 (ss Z<|A1<|E6<|A5 (s0:=⟨T [(1,(.ptr _ _)),(2,(.sl _)),(3,(.d _)),(4,(.ptr _ _)),(8,(.d _)),(9,(.d _)),(10,(.d _)),(16,(.d _)),(17,(.d _)),(18,(.d _))],G [((1,u1),some<|.box 27 _),((42,u9),some _),((4,u4),some<|.box 45 _)]⟩) (C9 Z Z) ?_))))
 refine B0<|sv Z<|sv Z<|A1<|F2 ?_
 cases hz2
 exact ⟨Z,u9,(C0 ⟨.of Z,(.of (Dy<|T1 hv5).symm), .of Z, .of Z, .of Z, .of Z, .of Z, .of Z, .of Z, .of Z,trivial⟩<|B2 G_hit (.of Z)<|sg Z<|U8 (gq Z) trivial)⟩
 refine B1<|E6<|A5 (s0:=⟨T [(1,(.ptr (1,u1) 0)),(2,(oS x2.1 (42,g4))),(3,(di x1.2)),(4,(.ptr (4,u4) 0)),(8,(dl Q9 p1.Zones)),(9,(di (p1.Zones.length:Int))),(10,(di x1.2)),(16,(dl H9 v1.Parts)),(17,(di (v1.Parts.length:Int))),(18,(di x2.2))],G [((1,u1),some<|.box 27 (I7 p1)),((42,g4),oB 93 4 B8 x2.1),((4,u4),some<|.box 45 [(dl H9 v1.Parts),(di v1.Signal_)])]⟩) (C0 (T3 Z)<|sg Z<|C2 (gq Z)<|sg Z trivial) ?_
 refine B0<|sv Z<|sv Z<|A1<|F2 ?_
 cases hz2
 exact ⟨Z,g4,(C0 (T3 Z)<|B2 G_hit (.of Z)<|sg Z<|C2 (gq Z) trivial)⟩
 refine C3 Z ?_
 cases hz2
 obtain rfl:=ez2 _ rfl
 refine ⟨nofun,B9 Z<|U0 ?_⟩
 exact ⟨g4,(C0 (T3 Z)<|B2 G_hit (.of Z)<|C2 (gq Z) trivial)⟩
 rintro _ ⟨g3,q1⟩
 refine E6<|A5 q1<|B0<|sv Z<|sv Z<|A1<|F2 ?_
 cases hz1
 exact ⟨Z,g3,(C0 (T3 Z)<|B2 G_hit (.of Z)<|C2 (gq Z) trivial)⟩
 refine C3 Z ?_
 cases hz1
 obtain rfl:=ez1 _ rfl
 refine ⟨nofun,B9 Z<|U0 ?_⟩
 exact ⟨g2,(C0 ⟨.of Z,trivial⟩<|C2 (gq Z) trivial)⟩
 rintro _ ⟨g1,q2⟩
 refine A5 q2<|B7<|C1 (oS y1 (42,g1)) Z Z (C1 (oS y1 (42,g1)) Z Z (A1<|B5 ?_))
 cases h
 exact A9 (.inr Z) (B6 (B4 Z)<|Ea G_hit) Dz
def U5 [Lp](p1:Map)(p2:Zone)(x1:((List Int)×Int)):Option (Stp ((List Int)×Int) (List Int)):=
  cond (decide (x1.2< (p2.Parts.length:Int))) ((E5 p2.Parts x1.2).bind fun v1=>(Bc p1 p2 v1.Lane_).bind fun v2=>cond v2 ((Cj x1.1 [v1.Lane_]).bind fun v3=>some (.go (v3,(C8 (x1.2+1))))) (some (.go (x1.1,(C8 (x1.2+1)))))) (some (.out x1.1))
def T8 [Lp](p1:Map)(p2:Zone):Option (List Int):=
  (loop (U5 p1 p2) ([],0)).bind fun y1=>some y1
theorem Jx(p1 p2 r)(h:T8 p1 p2=some r):PCall prog 248 [(.agg (L8 p1)),(.agg [(.list (List.map H9 p2.Parts)),(i64 p2.Signal_)])] (.list (List.map A8 r)):=by
 refine C5 (fk func248 ntmps248 (fun r=>if r==6 then [1003]else []) (by with_unfolding_all rfl)) (nl Z) ?_
 unfold T8 at h
 refine A5 (s0:=⟨T [(0,(.d _)),(1,(.d _))],G []⟩) (C9 Z Z) ?_
 refine lr<|fun u1 _=>sm Z<|sm Z<|sv Z<|A1<|B7<|sv Z<|A1<|A4<|B7<|sq Z<|sl Z G_hit Z<|sd Z (D0 Z)<|sv Z<|A1<|bs h fun y1 hy1 h=>D2 (fun s=> ∃g1:Nat,Sb ⟨T [(5,(oS y1 (24,g1)))],G [((24,g1),oB 3 1 A8 y1)]⟩ s) ?_ ?_
 refine A6<|E7 (U5 p1 p2) (fun (x1:((List Int)×Int)) (g2:Nat)=>⟨T [(2,(.ptr (2,u1) 0)),(3,(.ptr (3,u1) 0)),(5,(oS x1.1 (24,g2))),(9,(dl H9 p2.Parts)),(10,(di (p2.Parts.length:Int))),(11,(di x1.2))],G [((2,u1),some<|.box 27 (I7 p1)),((3,u1),some<|.box 45 [(dl H9 p2.Parts),(di p2.Signal_)]),((24,g2),oB 3 1 A8 x1.1)]⟩) ([],0) 0 _ hy1 (C0 (T3 Z)<|sg Z<|B2 G_hit (.of Z)<|U9 trivial) ?_
 intro x1 g2 z1 hz1 ez1
 unfold U5 at hz1
 refine B7<|sv Z<|A1<|A4<|cc Z hz1 (fun c1 hz1=> ?_)<|fun c1 hz1=> ?_
 refine B1<|A4<|A6<|B7<|bs hz1 fun v1 hv1 hz1=>sd Z (C7 Z Z hv1 Z)<|sd Z (D5 Z hv1 Z Z)<|sm Z<|Bb Z G_hit (Fz v1) Z (A1<|B7<|sd Z (A7 Z (gq Z) Z Z)<|sd Z (A7 Z (gq Z) Z Z)<|sq Z<|sl Z G_hit Z<|bs hz1 fun _ hv2 hz1=>B3 Z Z A2 (Me _ _ _ _ hv2) (.inl Z) (A1<|cc Z hz1 (fun c2 hz1=> ?_)<|fun c2 hz1=> ?_))
 refine Bw fun u7 _=>C1 (oS x1.1 (24,g2)) Z Z (sq Z<|sl Z G_hit Z<|C1 (dl A8 [v1.Lane_]) Z Z (bs hz1 fun _ hv3 hz1=>N9 A8 (24,g2) x1.1 v1.Lane_ [] _ (J7<|fun _=>Z) Z (gq Z) hv3 (ss Z<|A1<|E6<|A5 (s0:=⟨T [(2,(.ptr _ _)),(3,(.ptr _ _)),(5,(.sl _)),(9,(.d _)),(10,(.d _)),(11,(.d _))],G [((2,u1),some<|.box 27 _),((3,u1),some<|.box 45 _),((24,u7),some _)]⟩) (C9 Z Z) ?_)))
 refine B0<|sv Z<|sv Z<|A1<|F2 ?_
 cases hz1
 exact ⟨Z,u7,(C0 ⟨.of Z, .of Z,(.of (Dy<|T1 hv3).symm), .of Z, .of Z, .of Z,trivial⟩<|B2 G_hit (.of Z)<|sg Z<|U8 (gq Z) trivial)⟩
 refine B1<|E6<|B0<|sv Z<|sv Z<|A1<|F2 ?_
 cases hz1
 exact ⟨Z,g2,(C0 (T3 Z)<|sg Z<|sg Z<|C2 (gq Z) trivial)⟩
 refine C3 Z ?_
 cases hz1
 obtain rfl:=ez1 _ rfl
 refine ⟨nofun,B9 Z<|U0 ?_⟩
 exact ⟨g2,(C0 ⟨.of Z,trivial⟩<|C2 (gq Z) trivial)⟩
 rintro _ ⟨g1,q1⟩
 refine A5 q1<|B7<|C1 (oS y1 (24,g1)) Z Z (C1 (oS y1 (24,g1)) Z Z (A1<|B5 ?_))
 cases h
 exact A9 (.inr Z) (B6 (B4 Z)<|Ea G_hit) Dz
def Db [Lp](p1:Zone)(p2:Int)(p3:Int):Option Bool:=
  (X9 p1 p2).bind fun v1=>(X9 p1 p3).bind fun v2=>some ((p1.Signal_==0)&& (v1.1.Rank==v2.1.Rank))
theorem Wg(p1 p2 p3 r)(h:Db p1 p2 p3=some r):PCall prog 186 [(.agg [(.list (List.map H9 p1.Parts)),(i64 p1.Signal_)]),(i64 p2),(i64 p3)] (bo r):=by
 refine C5 (fk func186 ntmps186 m0 (by with_unfolding_all rfl)) (nl Z) ?_
 unfold Db at h
 refine A5 (s0:=⟨T [(0,(.d _)),(1,(.d _)),(2,(.d _))],G []⟩) (C9 Z Z) ?_
 refine lr<|fun u1 _=>sm Z<|sv Z<|A1<|lr<|fun u2 _=>sd Z (A7 Z G_hit Z Z)<|sv Z<|bs h fun v1 hv1 h=>B3 Z Z A2 (Fh _ _ _ hv1) (.inl Z) (sv Z<|sv Z<|sv Z<|sm Z<|Bb Z G_hit (Fz v1.1) Z (sv Z<|A1<|lr<|fun u3 _=>sd Z (A7 Z (gq Z) Z Z)<|sv Z<|bs h fun v2 hv2 h=>B3 Z Z A2 (Fh _ _ _ hv2) (.inl Z) (sv Z<|sv Z<|sv Z<|sm Z<|Bb Z G_hit (Fz v2.1) Z (sv Z<|A1<|A4<|A5 (s0:=⟨T [(3,(.ptr _ _)),(7,(.ptr _ _)),(9,(.ptr _ _))],G [((3,u1),some<|.box 45 _),((7,u2),some<|.box 91 _),((9,u3),some<|.box 91 _)]⟩) (C9 Z Z) ?_))))
 refine B0<|sq Z<|sl Z G_hit Z<|sv Z<|sv Z<|gp Z (Q0 Z) (fun _=>Z) (gt Z (vl Z (gq Z) Z)<|gp Z (Q0 Z) (fun _=>Z) (gt Z (vl Z (gq Z) Z)<|gt Z (fun w5=>(Q1 (A3 w5) (A3 w5) Z))<|sa Z Z Z<|sv Z<|A1<|B5 ?_))
 cases h
 exact A9 (.inr Z) (B6 (B4 Z) C6) (.refl _)
def I8 [Lp](p2:Int)(x1:((List Clash)×Int))(v1:Zone)(v3:Int)(v4:List Int)(x3:((List Clash)×Int)):Option (Stp ((List Clash)×Int) (List Clash)):=
  cond (decide (x3.2< (v4.length:Int))) ((E5 v4 x3.2).bind fun v5=>(Db v1 v3 v5).bind fun v6=>cond v6 ((Cj x3.1 [(Clash.mk p2 x1.2 v3 v5)]).bind fun v7=>some (.go (v7,(C8 (x3.2+1))))) (some (.go (x3.1,(C8 (x3.2+1)))))) (some (.out x3.1))
def M3 [Lp](p2:Int)(x1:((List Clash)×Int))(v1:Zone)(v2:(List Int))(x2:((List Clash)×Int)):Option (Stp ((List Clash)×Int) (List Clash)):=
  cond (decide (x2.2< (v2.length:Int))) ((E5 v2 x2.2).bind fun v3=>(AB v2 (C8 (x2.2+1)) (v2.length:Int)).bind fun v4=>(loop (I8 p2 x1 v1 v3 v4) (x2.1,0)).bind fun y3=>some (.go (y3,(C8 (x2.2+1))))) (some (.out x2.1))
def M4 [Lp](p1:Map)(p2:Int)(x1:((List Clash)×Int)):Option (Stp ((List Clash)×Int) (List Clash)):=
  cond (decide (x1.2< (p1.Zones.length:Int))) ((E5 p1.Zones x1.2).bind fun v1=>(T8 p1 v1).bind fun v2=>(loop (M3 p2 x1 v1 v2) (x1.1,0)).bind fun y2=>some (.go (y2,(C8 (x1.2+1))))) (some (.out x1.1))
def N8 [Lp](p1:Map)(p2:Int):Option (List Clash):=
  (loop (M4 p1 p2) ([],0)).bind fun y1=>some y1
theorem Kp(p1 p2 r)(h:N8 p1 p2=some r):PCall prog 185 [(.agg (L8 p1)),(i64 p2),(.fn (.func 186) [] [])] (.list (List.map B8 r)):=by
 refine C5 (fk func185 ntmps185 (fun r=>if r==12 then [1006]else []) (by with_unfolding_all rfl)) (nl Z) ?_
 unfold N8 at h
 refine A5 (s0:=⟨T [(0,(.d _)),(1,(.d _)),(2,(.d _))],G []⟩) (C9 Z Z) ?_
 refine lr<|fun u1 _=>sm Z<|sv Z<|A1<|A4<|B7<|sq Z<|sl Z G_hit Z<|sd Z (D0 Z)<|sv Z<|A1<|bs h fun y1 hy1 h=>D2 (fun s=> ∃g1:Nat,Sb ⟨T [(6,(oS y1 (53,g1)))],G [((53,g1),oB 93 4 B8 y1)]⟩ s) ?_ ?_
 refine A6<|E7 (M4 p1 p2) (fun (x1:((List Clash)×Int)) (g2:Nat)=>⟨T [(1,(di p2)),(2,(.d (.fn (.func 186) [] []))),(3,(.ptr (3,u1) 0)),(6,(oS x1.1 (53,g2))),(15,(dl Q9 p1.Zones)),(16,(di (p1.Zones.length:Int))),(17,(di x1.2))],G [((3,u1),some<|.box 27 (I7 p1)),((53,g2),oB 93 4 B8 x1.1)]⟩) ([],0) 0 _ hy1 (C0 (T3 Z)<|B2 G_hit (.of Z)<|U9 trivial) ?_
 intro x1 g2 z1 hz1 ez1
 unfold M4 at hz1
 refine B7<|sv Z<|A1<|A4<|cc Z hz1 (fun c1 hz1=> ?_)<|fun c1 hz1=> ?_
 refine B1<|A4<|A6<|lr<|fun u4 _=>sv Z<|bs hz1 fun v1 hv1 hz1=>sd Z (C7 Z Z hv1 Z)<|sd Z (D5 Z hv1 Z Z)<|sm Z<|sv Z<|Bb Z G_hit [(dl H9 v1.Parts),(di v1.Signal_)] Z (A1<|B7<|sd Z (A7 Z (gq Z) Z Z)<|sd Z (A7 Z G_hit Z Z)<|bs hz1 fun v2 hv2 hz1=>B3 Z Z A2 (Jx _ _ _ hv2) (.inl Z) (sv Z<|A1<|B7<|sv Z<|sd Z (D0 Z)<|sv Z<|A1<|bs hz1 fun y2 hy2 hz1=>D2 (fun s=> ∃g3:Nat,Sb ⟨T [(1,(di p2)),(2,(.d (.fn (.func 186) [] []))),(3,(.ptr (3,u1) 0)),(6,(oS y2 (53,g3))),(15,(dl Q9 p1.Zones)),(16,(di (p1.Zones.length:Int))),(17,(di x1.2))],G [((3,u1),some<|.box 27 (I7 p1)),((53,g3),oB 93 4 B8 y2)]⟩ s) ?_ ?_))
 refine A6<|E7 (M3 p2 x1 v1 v2) (fun (x2:((List Clash)×Int)) (g4:Nat)=>⟨T [(1,(di p2)),(2,(.d (.fn (.func 186) [] []))),(3,(.ptr (3,u1) 0)),(6,(oS x2.1 (53,g4))),(7,(di x1.2)),(8,(.ptr (8,u4) 0)),(9,(dl A8 v2)),(15,(dl Q9 p1.Zones)),(16,(di (p1.Zones.length:Int))),(17,(di x1.2)),(25,(dl A8 v2)),(26,(di (v2.length:Int))),(27,(di x2.2))],G [((3,u1),some<|.box 27 (I7 p1)),((8,u4),some<|.box 45 [(dl H9 v1.Parts),(di v1.Signal_)]),((53,g4),oB 93 4 B8 x2.1)]⟩) (x1.1,0) g2 _ hy2 (C0 (T3 Z)<|sg Z<|B2 G_hit (.of Z)<|C2 (gq Z) trivial) ?_
 intro x2 g4 z2 hz2 ez2
 unfold M3 at hz2
 refine B7<|sv Z<|A1<|A4<|cc Z hz2 (fun c2 hz2=> ?_)<|fun c2 hz2=> ?_
 refine B1<|A4<|A6<|B7<|sv Z<|bs hz2 fun v3 hv3 hz2=>sd Z (C7 Z Z hv3 Z)<|sd Z (D9 Z hv3 Z)<|sv Z<|sv Z<|A1<|B7<|sv Z<|sv Z<|sv Z<|bs hz2 fun v4 hv4 hz2=>sd Z (LI Z (fun _=>Z) (TT Z) EW hv4)<|sd Z (D0 Z)<|sv Z<|A1<|bs hz2 fun y3 hy3 hz2=>D2 (fun s=> ∃g5:Nat,Sb ⟨T [(1,(di p2)),(2,(.d (.fn (.func 186) [] []))),(3,(.ptr (3,u1) 0)),(6,(oS y3 (53,g5))),(7,(di x1.2)),(8,(.ptr (8,u4) 0)),(9,(dl A8 v2)),(15,(dl Q9 p1.Zones)),(16,(di (p1.Zones.length:Int))),(17,(di x1.2)),(25,(dl A8 v2)),(26,(di (v2.length:Int))),(27,(di x2.2))],G [((3,u1),some<|.box 27 (I7 p1)),((8,u4),some<|.box 45 [(dl H9 v1.Parts),(di v1.Signal_)]),((53,g5),oB 93 4 B8 y3)]⟩ s) ?_ ?_
 refine A6<|E7 (I8 p2 x1 v1 v3 v4) (fun (x3:((List Clash)×Int)) (g6:Nat)=>⟨T [(1,(di p2)),(2,(.d (.fn (.func 186) [] []))),(3,(.ptr (3,u1) 0)),(6,(oS x3.1 (53,g6))),(7,(di x1.2)),(8,(.ptr (8,u4) 0)),(9,(dl A8 v2)),(11,(di v3)),(15,(dl Q9 p1.Zones)),(16,(di (p1.Zones.length:Int))),(17,(di x1.2)),(25,(dl A8 v2)),(26,(di (v2.length:Int))),(27,(di x2.2)),(35,(dl A8 v4)),(36,(di (v4.length:Int))),(37,(di x3.2))],G [((3,u1),some<|.box 27 (I7 p1)),((8,u4),some<|.box 45 [(dl H9 v1.Parts),(di v1.Signal_)]),((53,g6),oB 93 4 B8 x3.1)]⟩) (x2.1,0) g4 _ hy3 (C0 (T3 Z)<|B2 G_hit (.of Z)<|sg Z<|C2 (gq Z) trivial) ?_
 intro x3 g6 z3 hz3 ez3
 unfold I8 at hz3
 refine B7<|sv Z<|A1<|A4<|cc Z hz3 (fun c3 hz3=> ?_)<|fun c3 hz3=> ?_
 refine B1<|A4<|A6<|B7<|bs hz3 fun v5 hv5 hz3=>sd Z (C7 Z Z hv5 Z)<|sd Z (D9 Z hv5 Z)<|sv Z<|A1<|B7<|sv Z<|sd Z (A7 Z (gq Z) Z Z)<|sv Z<|sv Z<|bs hz3 fun _ hv6 hz3=>B3 Z Z A2 (Wg _ _ _ _ hv6) (.inl Z) (A1<|cc Z hz3 (fun c4 hz3=> ?_)<|fun c4 hz3=> ?_)
 refine A5 (s0:=⟨T [(1,(di p2)),(2,(.d (.fn (.func 186) [] []))),(3,(.ptr (3,u1) 0)),(6,(oS x3.1 (53,g6))),(7,(di x1.2)),(8,(.ptr (8,u4) 0)),(9,(dl A8 v2)),(11,(di v3)),(13,(di v5)),(15,(dl Q9 p1.Zones)),(16,(di (p1.Zones.length:Int))),(17,(di x1.2)),(25,(dl A8 v2)),(26,(di (v2.length:Int))),(27,(di x2.2)),(35,(dl A8 v4)),(36,(di (v4.length:Int))),(37,(di x3.2))],G [((3,u1),some<|.box 27 (I7 p1)),((53,g6),oB 93 4 B8 x3.1),((8,u4),some<|.box 45 [(dl H9 v1.Parts),(di v1.Signal_)])]⟩) (C0 (T3 Z)<|B2 G_hit (.of Z)<|C2 (gq Z)<|sg Z trivial) ?_
 refine Bw fun u13 _=>C1 (oS x3.1 (53,g6)) Z Z (sv Z<|sv Z<|sv Z<|sv Z<|sv Z<|C1 (dl B8 [(Clash.mk p2 x1.2 v3 v5)]) Z Z (bs hz3 fun _ hv7 hz3=>N9 B8 (53,g6) x3.1 (Clash.mk p2 x1.2 v3 v5) [] _ (J7<|fun _=>Z) Z (gq Z) hv7 (ss Z<|A1<|E6<|A5 (s0:=⟨T [(1,(.d _)),(2,(.d _)),(3,(.ptr _ _)),(6,(.sl _)),(7,(.d _)),(8,(.ptr _ _)),(9,(.d _)),(11,(.d _)),(15,(.d _)),(16,(.d _)),(17,(.d _)),(25,(.d _)),(26,(.d _)),(27,(.d _)),(35,(.d _)),(36,(.d _)),(37,(.d _))],G [((3,u1),some<|.box 27 _),((53,u13),some _),((8,u4),some<|.box 45 _)]⟩) (C9 Z Z) ?_)))
 refine B0<|sv Z<|sv Z<|A1<|F2 ?_
 cases hz3
 exact ⟨Z,u13,(C0 ⟨.of Z, .of Z, .of Z,(.of (Dy<|T1 hv7).symm), .of Z, .of Z, .of Z, .of Z, .of Z, .of Z, .of Z, .of Z, .of Z, .of Z, .of Z, .of Z, .of Z,trivial⟩<|B2 G_hit (.of Z)<|sg Z<|U8 (gq Z) trivial)⟩
 refine B1<|E6<|A5 (s0:=⟨T [(1,(di p2)),(2,(.d (.fn (.func 186) [] []))),(3,(.ptr (3,u1) 0)),(6,(oS x3.1 (53,g6))),(7,(di x1.2)),(8,(.ptr (8,u4) 0)),(9,(dl A8 v2)),(11,(di v3)),(15,(dl Q9 p1.Zones)),(16,(di (p1.Zones.length:Int))),(17,(di x1.2)),(25,(dl A8 v2)),(26,(di (v2.length:Int))),(27,(di x2.2)),(35,(dl A8 v4)),(36,(di (v4.length:Int))),(37,(di x3.2))],G [((3,u1),some<|.box 27 (I7 p1)),((53,g6),oB 93 4 B8 x3.1),((8,u4),some<|.box 45 [(dl H9 v1.Parts),(di v1.Signal_)])]⟩) (C0 (T3 Z)<|B2 G_hit (.of Z)<|C2 (gq Z)<|sg Z trivial) ?_
 refine B0<|sv Z<|sv Z<|A1<|F2 ?_
 cases hz3
 exact ⟨Z,g6,(C0 (T3 Z)<|B2 G_hit (.of Z)<|sg Z<|C2 (gq Z) trivial)⟩
 refine C3 Z ?_
 cases hz3
 obtain rfl:=ez3 _ rfl
 refine ⟨nofun,B9 Z<|U0 ?_⟩
 exact ⟨g6,(C0 (T3 Z)<|B2 G_hit (.of Z)<|sg Z<|C2 (gq Z) trivial)⟩
 rintro _ ⟨g5,q1⟩
 refine E6<|A5 q1<|B0<|sv Z<|sv Z<|A1<|F2 ?_
 cases hz2
 exact ⟨Z,g5,(C0 (T3 Z)<|B2 G_hit (.of Z)<|sg Z<|C2 (gq Z) trivial)⟩
 refine C3 Z ?_
 cases hz2
 obtain rfl:=ez2 _ rfl
 refine ⟨nofun,B9 Z<|U0 ?_⟩
 exact ⟨g4,(C0 (T3 Z)<|B2 G_hit (.of Z)<|C2 (gq Z) trivial)⟩
 rintro _ ⟨g3,q2⟩
 refine E6<|A5 q2<|B0<|sv Z<|sv Z<|A1<|F2 ?_
 cases hz1
 exact ⟨Z,g3,(C0 (T3 Z)<|B2 G_hit (.of Z)<|C2 (gq Z) trivial)⟩
 refine C3 Z ?_
 cases hz1
 obtain rfl:=ez1 _ rfl
 refine ⟨nofun,B9 Z<|U0 ?_⟩
 exact ⟨g2,(C0 ⟨.of Z,trivial⟩<|C2 (gq Z) trivial)⟩
 rintro _ ⟨g1,q3⟩
 refine A5 q3<|B7<|C1 (oS y1 (53,g1)) Z Z (C1 (oS y1 (53,g1)) Z Z (A1<|B5 ?_))
 cases h
 exact A9 (.inr Z) (B6 (B4 Z)<|Ea G_hit) Dz
def Co [Lp](p1:Map):Option (List Clash):=
  (N8 p1 3).bind fun v1=>some v1
theorem Rb(p1 r)(h:Co p1=some r):PCall prog 79 [(.agg (L8 p1))] (.list (List.map B8 r)):=by
 refine C5 (fk func79 ntmps79 m0 (by with_unfolding_all rfl)) (nl Z) ?_
 unfold Co at h
 refine A5 (s0:=⟨T [(0,(.d _))],G []⟩) (C9 Z Z) ?_
 refine B7<|sm Z<|sv Z<|A1<|B7<|sd Z (A7 Z G_hit Z Z)<|bs h fun _ hv1 h=>B3 Z Z A2 (Kp _ _ _ hv1) (.inl Z) (sv Z<|A1<|B5 ?_)
 cases h
 exact A9 (.inr Z) (B6 (B4 Z) C6) (.refl _)
def R7 [Lp](p1:Phase)(p2:Int)(p3:Int):Option Bool:=
  (F8 p1.Green p2).bind fun v1=>((cond v1 (F8 p1.Green p3) (some default))).bind fun v2=>some (v1&&v2)
theorem Oa(p1 p2 p3 r)(h:R7 p1 p2 p3=some r):PCall prog 188 [(.agg [(i64 p1.Ticks),(.list (List.map A8 p1.Green))]),(.bp [(i64 p2)] 0),(.bp [(i64 p3)] 0)] (bo r):=by
 refine C5 (fk func188 ntmps188 m0 (by with_unfolding_all rfl)) (nl Z) ?_
 unfold R7 at h
 refine A5 (s0:=⟨T [(0,(.d _)),(1,(.d _)),(2,(.d _))],G []⟩) (C9 Z Z) ?_
 refine B7<|sm Z<|sv Z<|A1<|B7<|sq Z<|sl Z G_hit Z<|sv Z<|bs h fun v1 hv1 h=>B3 Z Z A2 (J9 _ _ _ hv1) (.inl Z) (sv Z<|gp Z (Q0 Z) (fun _=>Z) (gt Z (vl Z G_hit Z)<|gt Z (fun _=>Z)<|bs h fun v2 hv2 h=> ?_))
 refine K7 v1 (bo v2) (Q0 Z) (fun w4=>⟨_,[(dl A8 p1.Green),(di p3)],_,_,(by simp only [A3 w4];rfl),Z,A2,J9 _ _ _<|D7 w4 hv2,(.inl Z)⟩) ?_
 refine sa Z Z Z<|sv Z<|A1<|B5 ?_
 cases h
 exact A9 (.inr Z) (B6 (B4 Z) C6) (.refl _)
def E3 [Lp](p1:(List Phase))(p2:Int)(p3:Int)(x1:Int):Option (Stp Int (Sum Unit Int)):=
  cond (decide (x1< (p1.length:Int))) ((E5 p1 x1).bind fun v1=>(R7 v1 p2 p3).bind fun v2=>cond v2 (some (.out (.inr x1))) (some (.go (C8 (x1+1))))) (some (.out (.inl ())))
def F7 [Lp](p1:(List Phase))(p2:Int)(p3:Int):Option Int:=
  thenS (loop (E3 p1 p2 p3) 0) (fun _=>some (-1)) (fun r=>some r)
theorem Bp(p1 p2 p3 r)(h:F7 p1 p2 p3=some r):PCall prog 237 [(.list (List.map By p1)),(.fn (.func 188) [] [(.bp [(i64 p2)] 0),(.bp [(i64 p3)] 0)])] (i64 r):=by
 refine C5 (fk func237 ntmps237 m0 (by with_unfolding_all rfl)) (nl Z) ?_
 unfold F7 at h
 refine A5 (s0:=⟨T [(0,(.d _)),(1,(.d _))],G []⟩) (C9 Z Z) ?_
 refine B7<|sv Z<|A1<|A4<|B7<|sv Z<|sd Z (D0 Z)<|sv Z<|A1<|js h fun z1 hz1 h=>D2 (fun s=> ∃(y1:Unit) (g1:Unit),z1= .inl y1∧Sb ⟨T [],G []⟩ s) ?_ ?_
 refine A6<|E7 (E3 p1 p2 p3) (fun (x1:Int) (g2:Unit)=>⟨T [(0,(dl By p1)),(1,(.d (.fn (.func 188) [] [(.bp [(i64 p2)] 0),(.bp [(i64 p3)] 0)]))),(7,(di (p1.length:Int))),(8,(di x1))],G []⟩) 0 () _ hz1 (C9 Z Z) ?_
 intro x1 g2 z2 hz2 ez2
 unfold E3 at hz2
 refine B7<|sv Z<|A1<|A4<|cc Z hz2 (fun c1 hz2=> ?_)<|fun c1 hz2=> ?_
 refine B1<|A4<|A6<|B7<|sv Z<|sv Z<|A1<|B7<|sv Z<|sv Z<|sv Z<|bs hz2 fun _ hv1 hz2=>sd Z (C7 Z Z hv1 Z)<|sd Z (D5 Z hv1 Z Z)<|bs hz2 fun _ hv2 hz2=>B3 Z Z A2 (Oa _ _ _ _ hv2) (.inl Z) (A1<|cc Z hz2 (fun c2 hz2=> ?_)<|fun c2 hz2=> ?_)
 refine B7<|sv Z<|sv Z<|A1<|B5 ?_
 cases hz2
 obtain rfl:=ez2 _ rfl
 refine ⟨nofun,F6 ?_⟩
 rw [bL]at h
 cases h
 exact A9 (.inr Z) (B6 (B4 Z) C6) (.refl _)
 refine B1<|E6<|B0<|sv Z<|sv Z<|A1<|F2 ?_
 cases hz2
 exact ⟨Z,(),(C9 Z Z)⟩
 refine C3 Z ?_
 cases hz2
 obtain rfl:=ez2 _ rfl
 refine ⟨nofun,B9 Z<|U0 ?_⟩
 exact ⟨_,(),Z,(C9 Z Z)⟩
 rintro _ ⟨y1,g1,rfl,q1⟩
 rw [bK]at h
 refine A5 q1<|B7<|sv Z<|A1<|B5 ?_
 cases h
 exact A9 (.inr Z) (B6 (B4 Z) C6) (.refl _)
def E4 [Lp](p1:(List Phase))(p2:Int)(p3:Int):Option Bool:=
  (F7 p1 p2 p3).bind fun v1=>some (decide (v1≥0))
theorem Ap(p1 p2 p3 r)(h:E4 p1 p2 p3=some r):PCall prog 172 [(.list (List.map By p1)),(.fn (.func 188) [] [(.bp [(i64 p2)] 0),(.bp [(i64 p3)] 0)])] (bo r):=by
 refine C5 (fk func172 ntmps172 m0 (by with_unfolding_all rfl)) (nl Z) ?_
 unfold E4 at h
 refine A5 (s0:=⟨T [(0,(.d _)),(1,(.d _))],G []⟩) (C9 Z Z) ?_
 refine B7<|sv Z<|A1<|B7<|sv Z<|sv Z<|bs h fun _ hv1 h=>B3 Z Z A2 (Bp _ _ _ _ hv1) (.inl Z) (sv Z<|sv Z<|A1<|B5 ?_)
 cases h
 exact A9 (.inr Z) (B6 (B4 Z) C6) (.refl _)
def S7 [Lp](p1:Zone)(p2:Int)(p3:Int)(p4:Map):Option Bool:=
  ((cond (decide (p1.Signal_>0)) (E5 p4.Signals (C8 (p1.Signal_ - 1))) (some default))).bind fun v1=>((cond (decide (p1.Signal_>0)) (E4 v1.Phases p2 p3) (some default))).bind fun v2=>some ((decide (p1.Signal_>0))&&v2)
theorem Kv(p1 p2 p3 p4 r)(h:S7 p1 p2 p3 p4=some r):PCall prog 187 [(.agg [(.list (List.map H9 p1.Parts)),(i64 p1.Signal_)]),(i64 p2),(i64 p3),(.bp (L8 p4) 0)] (bo r):=by
 refine C5 (fk func187 ntmps187 m0 (by with_unfolding_all rfl)) (nl Z) ?_
 unfold S7 at h
 refine A5 (s0:=⟨T [(0,(.d _)),(1,(.d _)),(2,(.d _)),(3,(.d _))],G []⟩) (C9 Z Z) ?_
 refine lr<|fun u1 _=>sm Z<|sm Z<|sn Z Z<|sv Z<|A1<|B7<|sq Z<|sl Z (gq Z) Z (sv Z<|sv Z<|gt Z (fun _=>Z) ?_)
 refine gt Z (fun w2=>(by simp only [A3 w2];rfl)) ?_
 refine gp Z (Q0 Z) (fun _=>Z) (gt Z (vl Z (gq Z) Z)<|gt Z (vb Z Z Z)<|bs h fun v1 hv1 h=>gt Z (fun w6=>(C7 (A3 w6) (A3 w6) (D7 w6 hv1) Z)) ?_)
 refine gt Z (fun w7=>(by simp only [A3 w7];rfl)) ?_
 refine gt Z (fun w8=>(D9 (A3 w8) (D7 w8 hv1) Z))<|Ba _ (.fn _ _ _) Z (Q0 Z) (fun _=>Z) (bs h fun v2 hv2 h=> ?_)
 refine K7 _ (bo v2) (Q0 Z) (fun w10=>⟨_,[(dl By v1.Phases),(.fn (.func 188) [] [(.ptr (5,u1) 0),(.ptr (6,u1) 0)])],_,_,(by simp only [A3 w10];rfl),(rD<|L9 (Qq I0<|L9 (Fq (gq Z)<|rD I0)<|L9 (Fq G_hit<|rD I0) I0) I0),A2,Ap _ _ _ _<|D7 w10 hv2,(.inr Z)⟩) ?_
 refine sa Z Z Z<|sv Z<|A1<|B5 ?_
 cases h
 exact A9 (.inr Z) (B6 (B4 Z) C6) (.refl _)
def Y0 [Lp](p2:Int)(p3:Map)(x1:((List Clash)×Int))(v1:Zone)(v3:Int)(v4:List Int)(x3:((List Clash)×Int)):Option (Stp ((List Clash)×Int) (List Clash)):=
  cond (decide (x3.2< (v4.length:Int))) ((E5 v4 x3.2).bind fun v5=>(S7 v1 v3 v5 p3).bind fun v6=>cond v6 ((Cj x3.1 [(Clash.mk p2 x1.2 v3 v5)]).bind fun v7=>some (.go (v7,(C8 (x3.2+1))))) (some (.go (x3.1,(C8 (x3.2+1)))))) (some (.out x3.1))
def Y1 [Lp](p2:Int)(p3:Map)(x1:((List Clash)×Int))(v1:Zone)(v2:(List Int))(x2:((List Clash)×Int)):Option (Stp ((List Clash)×Int) (List Clash)):=
  cond (decide (x2.2< (v2.length:Int))) ((E5 v2 x2.2).bind fun v3=>(AB v2 (C8 (x2.2+1)) (v2.length:Int)).bind fun v4=>(loop (Y0 p2 p3 x1 v1 v3 v4) (x2.1,0)).bind fun y3=>some (.go (y3,(C8 (x2.2+1))))) (some (.out x2.1))
def Y2 [Lp](p1:Map)(p2:Int)(p3:Map)(x1:((List Clash)×Int)):Option (Stp ((List Clash)×Int) (List Clash)):=
  cond (decide (x1.2< (p1.Zones.length:Int))) ((E5 p1.Zones x1.2).bind fun v1=>(T8 p1 v1).bind fun v2=>(loop (Y1 p2 p3 x1 v1 v2) (x1.1,0)).bind fun y2=>some (.go (y2,(C8 (x1.2+1))))) (some (.out x1.1))
def Fv [Lp](p1:Map)(p2:Int)(p3:Map):Option (List Clash):=
  (loop (Y2 p1 p2 p3) ([],0)).bind fun y1=>some y1
theorem Wh(p1 p2 p3 r)(h:Fv p1 p2 p3=some r):PCall prog 185 [(.agg (L8 p1)),(i64 p2),(.fn (.func 187) [] [(.bp (L8 p3) 0)])] (.list (List.map B8 r)):=by
 refine C5 (fk func185 ntmps185 (fun r=>if r==12 then [1006]else []) (by with_unfolding_all rfl)) (nl Z) ?_
 unfold Fv at h
 refine A5 (s0:=⟨T [(0,(.d _)),(1,(.d _)),(2,(.d _))],G []⟩) (C9 Z Z) ?_
 refine lr<|fun u1 _=>sm Z<|sv Z<|A1<|A4<|B7<|sq Z<|sl Z G_hit Z<|sd Z (D0 Z)<|sv Z<|A1<|bs h fun y1 hy1 h=>D2 (fun s=> ∃g1:Nat,Sb ⟨T [(6,(oS y1 (53,g1)))],G [((53,g1),oB 93 4 B8 y1)]⟩ s) ?_ ?_
 refine A6<|E7 (Y2 p1 p2 p3) (fun (x1:((List Clash)×Int)) (g2:Nat)=>⟨T [(1,(di p2)),(2,(.d (.fn (.func 187) [] [(.bp (L8 p3) 0)]))),(3,(.ptr (3,u1) 0)),(6,(oS x1.1 (53,g2))),(15,(dl Q9 p1.Zones)),(16,(di (p1.Zones.length:Int))),(17,(di x1.2))],G [((3,u1),some<|.box 27 (I7 p1)),((53,g2),oB 93 4 B8 x1.1)]⟩) ([],0) 0 _ hy1 (C0 (T3 Z)<|B2 G_hit (.of Z)<|U9 trivial) ?_
 intro x1 g2 z1 hz1 ez1
 unfold Y2 at hz1
 refine B7<|sv Z<|A1<|A4<|cc Z hz1 (fun c1 hz1=> ?_)<|fun c1 hz1=> ?_
 refine B1<|A4<|A6<|lr<|fun u4 _=>sv Z<|bs hz1 fun v1 hv1 hz1=>sd Z (C7 Z Z hv1 Z)<|sd Z (D5 Z hv1 Z Z)<|sm Z<|sv Z<|Bb Z G_hit [(dl H9 v1.Parts),(di v1.Signal_)] Z (A1<|B7<|sd Z (A7 Z (gq Z) Z Z)<|sd Z (A7 Z G_hit Z Z)<|bs hz1 fun v2 hv2 hz1=>B3 Z Z A2 (Jx _ _ _ hv2) (.inl Z) (sv Z<|A1<|B7<|sv Z<|sd Z (D0 Z)<|sv Z<|A1<|bs hz1 fun y2 hy2 hz1=>D2 (fun s=> ∃g3:Nat,Sb ⟨T [(1,(di p2)),(2,(.d (.fn (.func 187) [] [(.bp (L8 p3) 0)]))),(3,(.ptr (3,u1) 0)),(6,(oS y2 (53,g3))),(15,(dl Q9 p1.Zones)),(16,(di (p1.Zones.length:Int))),(17,(di x1.2))],G [((3,u1),some<|.box 27 (I7 p1)),((53,g3),oB 93 4 B8 y2)]⟩ s) ?_ ?_))
 refine A6<|E7 (Y1 p2 p3 x1 v1 v2) (fun (x2:((List Clash)×Int)) (g4:Nat)=>⟨T [(1,(di p2)),(2,(.d (.fn (.func 187) [] [(.bp (L8 p3) 0)]))),(3,(.ptr (3,u1) 0)),(6,(oS x2.1 (53,g4))),(7,(di x1.2)),(8,(.ptr (8,u4) 0)),(9,(dl A8 v2)),(15,(dl Q9 p1.Zones)),(16,(di (p1.Zones.length:Int))),(17,(di x1.2)),(25,(dl A8 v2)),(26,(di (v2.length:Int))),(27,(di x2.2))],G [((3,u1),some<|.box 27 (I7 p1)),((8,u4),some<|.box 45 [(dl H9 v1.Parts),(di v1.Signal_)]),((53,g4),oB 93 4 B8 x2.1)]⟩) (x1.1,0) g2 _ hy2 (C0 (T3 Z)<|sg Z<|B2 G_hit (.of Z)<|C2 (gq Z) trivial) ?_
 intro x2 g4 z2 hz2 ez2
 unfold Y1 at hz2
 refine B7<|sv Z<|A1<|A4<|cc Z hz2 (fun c2 hz2=> ?_)<|fun c2 hz2=> ?_
 refine B1<|A4<|A6<|B7<|sv Z<|bs hz2 fun v3 hv3 hz2=>sd Z (C7 Z Z hv3 Z)<|sd Z (D9 Z hv3 Z)<|sv Z<|sv Z<|A1<|B7<|sv Z<|sv Z<|sv Z<|bs hz2 fun v4 hv4 hz2=>sd Z (LI Z (fun _=>Z) (TT Z) EW hv4)<|sd Z (D0 Z)<|sv Z<|A1<|bs hz2 fun y3 hy3 hz2=>D2 (fun s=> ∃g5:Nat,Sb ⟨T [(1,(di p2)),(2,(.d (.fn (.func 187) [] [(.bp (L8 p3) 0)]))),(3,(.ptr (3,u1) 0)),(6,(oS y3 (53,g5))),(7,(di x1.2)),(8,(.ptr (8,u4) 0)),(9,(dl A8 v2)),(15,(dl Q9 p1.Zones)),(16,(di (p1.Zones.length:Int))),(17,(di x1.2)),(25,(dl A8 v2)),(26,(di (v2.length:Int))),(27,(di x2.2))],G [((3,u1),some<|.box 27 (I7 p1)),((8,u4),some<|.box 45 [(dl H9 v1.Parts),(di v1.Signal_)]),((53,g5),oB 93 4 B8 y3)]⟩ s) ?_ ?_
 refine A6<|E7 (Y0 p2 p3 x1 v1 v3 v4) (fun (x3:((List Clash)×Int)) (g6:Nat)=>⟨T [(1,(di p2)),(2,(.d (.fn (.func 187) [] [(.bp (L8 p3) 0)]))),(3,(.ptr (3,u1) 0)),(6,(oS x3.1 (53,g6))),(7,(di x1.2)),(8,(.ptr (8,u4) 0)),(9,(dl A8 v2)),(11,(di v3)),(15,(dl Q9 p1.Zones)),(16,(di (p1.Zones.length:Int))),(17,(di x1.2)),(25,(dl A8 v2)),(26,(di (v2.length:Int))),(27,(di x2.2)),(35,(dl A8 v4)),(36,(di (v4.length:Int))),(37,(di x3.2))],G [((3,u1),some<|.box 27 (I7 p1)),((8,u4),some<|.box 45 [(dl H9 v1.Parts),(di v1.Signal_)]),((53,g6),oB 93 4 B8 x3.1)]⟩) (x2.1,0) g4 _ hy3 (C0 (T3 Z)<|B2 G_hit (.of Z)<|sg Z<|C2 (gq Z) trivial) ?_
 intro x3 g6 z3 hz3 ez3
 unfold Y0 at hz3
 refine B7<|sv Z<|A1<|A4<|cc Z hz3 (fun c3 hz3=> ?_)<|fun c3 hz3=> ?_
 refine B1<|A4<|A6<|B7<|bs hz3 fun v5 hv5 hz3=>sd Z (C7 Z Z hv5 Z)<|sd Z (D9 Z hv5 Z)<|sv Z<|A1<|B7<|sv Z<|sd Z (A7 Z (gq Z) Z Z)<|sv Z<|sv Z<|bs hz3 fun _ hv6 hz3=>B3 Z Z A2 (Kv _ _ _ _ _ hv6) (.inl Z) (A1<|cc Z hz3 (fun c4 hz3=> ?_)<|fun c4 hz3=> ?_)
 refine A5 (s0:=⟨T [(1,(di p2)),(2,(.d (.fn (.func 187) [] [(.bp (L8 p3) 0)]))),(3,(.ptr (3,u1) 0)),(6,(oS x3.1 (53,g6))),(7,(di x1.2)),(8,(.ptr (8,u4) 0)),(9,(dl A8 v2)),(11,(di v3)),(13,(di v5)),(15,(dl Q9 p1.Zones)),(16,(di (p1.Zones.length:Int))),(17,(di x1.2)),(25,(dl A8 v2)),(26,(di (v2.length:Int))),(27,(di x2.2)),(35,(dl A8 v4)),(36,(di (v4.length:Int))),(37,(di x3.2))],G [((3,u1),some<|.box 27 (I7 p1)),((53,g6),oB 93 4 B8 x3.1),((8,u4),some<|.box 45 [(dl H9 v1.Parts),(di v1.Signal_)])]⟩) (C0 (T3 Z)<|B2 G_hit (.of Z)<|C2 (gq Z)<|sg Z trivial) ?_
 refine Bw fun u13 _=>C1 (oS x3.1 (53,g6)) Z Z (sv Z<|sv Z<|sv Z<|sv Z<|sv Z<|C1 (dl B8 [(Clash.mk p2 x1.2 v3 v5)]) Z Z (bs hz3 fun _ hv7 hz3=>N9 B8 (53,g6) x3.1 (Clash.mk p2 x1.2 v3 v5) [] _ (J7<|fun _=>Z) Z (gq Z) hv7 (ss Z<|A1<|E6<|A5 (s0:=⟨T [(1,(.d _)),(2,(.d _)),(3,(.ptr _ _)),(6,(.sl _)),(7,(.d _)),(8,(.ptr _ _)),(9,(.d _)),(11,(.d _)),(15,(.d _)),(16,(.d _)),(17,(.d _)),(25,(.d _)),(26,(.d _)),(27,(.d _)),(35,(.d _)),(36,(.d _)),(37,(.d _))],G [((3,u1),some<|.box 27 _),((53,u13),some _),((8,u4),some<|.box 45 _)]⟩) (C9 Z Z) ?_)))
 refine B0<|sv Z<|sv Z<|A1<|F2 ?_
 cases hz3
 exact ⟨Z,u13,(C0 ⟨.of Z, .of Z, .of Z,(.of (Dy<|T1 hv7).symm), .of Z, .of Z, .of Z, .of Z, .of Z, .of Z, .of Z, .of Z, .of Z, .of Z, .of Z, .of Z, .of Z,trivial⟩<|B2 G_hit (.of Z)<|sg Z<|U8 (gq Z) trivial)⟩
 refine B1<|E6<|A5 (s0:=⟨T [(1,(di p2)),(2,(.d (.fn (.func 187) [] [(.bp (L8 p3) 0)]))),(3,(.ptr (3,u1) 0)),(6,(oS x3.1 (53,g6))),(7,(di x1.2)),(8,(.ptr (8,u4) 0)),(9,(dl A8 v2)),(11,(di v3)),(15,(dl Q9 p1.Zones)),(16,(di (p1.Zones.length:Int))),(17,(di x1.2)),(25,(dl A8 v2)),(26,(di (v2.length:Int))),(27,(di x2.2)),(35,(dl A8 v4)),(36,(di (v4.length:Int))),(37,(di x3.2))],G [((3,u1),some<|.box 27 (I7 p1)),((53,g6),oB 93 4 B8 x3.1),((8,u4),some<|.box 45 [(dl H9 v1.Parts),(di v1.Signal_)])]⟩) (C0 (T3 Z)<|B2 G_hit (.of Z)<|C2 (gq Z)<|sg Z trivial) ?_
 refine B0<|sv Z<|sv Z<|A1<|F2 ?_
 cases hz3
 exact ⟨Z,g6,(C0 (T3 Z)<|B2 G_hit (.of Z)<|sg Z<|C2 (gq Z) trivial)⟩
 refine C3 Z ?_
 cases hz3
 obtain rfl:=ez3 _ rfl
 refine ⟨nofun,B9 Z<|U0 ?_⟩
 exact ⟨g6,(C0 (T3 Z)<|B2 G_hit (.of Z)<|sg Z<|C2 (gq Z) trivial)⟩
 rintro _ ⟨g5,q1⟩
 refine E6<|A5 q1<|B0<|sv Z<|sv Z<|A1<|F2 ?_
 cases hz2
 exact ⟨Z,g5,(C0 (T3 Z)<|B2 G_hit (.of Z)<|sg Z<|C2 (gq Z) trivial)⟩
 refine C3 Z ?_
 cases hz2
 obtain rfl:=ez2 _ rfl
 refine ⟨nofun,B9 Z<|U0 ?_⟩
 exact ⟨g4,(C0 (T3 Z)<|B2 G_hit (.of Z)<|C2 (gq Z) trivial)⟩
 rintro _ ⟨g3,q2⟩
 refine E6<|A5 q2<|B0<|sv Z<|sv Z<|A1<|F2 ?_
 cases hz1
 exact ⟨Z,g3,(C0 (T3 Z)<|B2 G_hit (.of Z)<|C2 (gq Z) trivial)⟩
 refine C3 Z ?_
 cases hz1
 obtain rfl:=ez1 _ rfl
 refine ⟨nofun,B9 Z<|U0 ?_⟩
 exact ⟨g2,(C0 ⟨.of Z,trivial⟩<|C2 (gq Z) trivial)⟩
 rintro _ ⟨g1,q3⟩
 refine A5 q3<|B7<|C1 (oS y1 (53,g1)) Z Z (C1 (oS y1 (53,g1)) Z Z (A1<|B5 ?_))
 cases h
 exact A9 (.inr Z) (B6 (B4 Z)<|Ea G_hit) Dz
def I4 [Lp](p2:Int)(p3:Map)(x1:((List Clash)×Int))(v1:Zone)(v3:Int)(v4:List Int)(x3:((List Clash)×Int)):Option (Stp ((List Clash)×Int) (List Clash)):=
  cond (decide (x3.2< (v4.length:Int))) ((E5 v4 x3.2).bind fun v5=>(S7 v1 v3 v5 p3).bind fun v6=>cond v6 ((Cj x3.1 [(Clash.mk p2 x1.2 v3 v5)]).bind fun v7=>some (.go (v7,(C8 (x3.2+1))))) (some (.go (x3.1,(C8 (x3.2+1)))))) (some (.out x3.1))
def K9 [Lp](p2:Int)(p3:Map)(x1:((List Clash)×Int))(v1:Zone)(v2:(List Int))(x2:((List Clash)×Int)):Option (Stp ((List Clash)×Int) (List Clash)):=
  cond (decide (x2.2< (v2.length:Int))) ((E5 v2 x2.2).bind fun v3=>(AB v2 (C8 (x2.2+1)) (v2.length:Int)).bind fun v4=>(loop (I4 p2 p3 x1 v1 v3 v4) (x2.1,0)).bind fun y3=>some (.go (y3,(C8 (x2.2+1))))) (some (.out x2.1))
def L4 [Lp](p1:Map)(p2:Int)(p3:Map)(x1:((List Clash)×Int)):Option (Stp ((List Clash)×Int) (List Clash)):=
  cond (decide (x1.2< (p1.Zones.length:Int))) ((E5 p1.Zones x1.2).bind fun v1=>(T8 p1 v1).bind fun v2=>(loop (K9 p2 p3 x1 v1 v2) (x1.1,0)).bind fun y2=>some (.go (y2,(C8 (x1.2+1))))) (some (.out x1.1))
def N1 [Lp](p1:Map)(p2:Int)(p3:Map):Option (List Clash):=
  (loop (L4 p1 p2 p3) ([],0)).bind fun y1=>some y1
theorem Jy(p1 p2 p3 r)(h:N1 p1 p2 p3=some r):MCall prog 185 [(.d (.agg (L8 p1))),(di p2),(.fn (.func 187) [] [(.ptr (900000,0) 0)])] [(.box 27 (I7 p3))] (dl B8 r) [some (.box 27 (I7 p3))] []:=by
 refine Ys (fk func185 ntmps185 (fun r=>if r==12 then [1006]else []) (by with_unfolding_all rfl)) Z (nl Z) ?_
 unfold N1 at h
 refine A5 (s0:=⟨T [(0,(.d _)),(1,(.d _)),(2,(.fn _ _ _))],G [((900000,0),some<|.box 27 _)]⟩) (C9 Z Z) ?_
 refine lr<|fun u1 _=>sm Z<|sv Z<|A1<|A4<|B7<|sq Z<|sl Z G_hit Z<|sd Z (D0 Z)<|sv Z<|A1<|bs h fun y1 hy1 h=>D2 (fun s=> ∃g1:Nat,Sb ⟨T [(2,(.fn (.func 187) [] [(.ptr (900000,0) 0)])),(6,(oS y1 (53,g1)))],G [((900000,0),some<|.box 27 (I7 p3)),((53,g1),oB 93 4 B8 y1)]⟩ s) ?_ ?_
 refine A6<|E7 (L4 p1 p2 p3) (fun (x1:((List Clash)×Int)) (g2:Nat)=>⟨T [(1,(di p2)),(2,(.fn (.func 187) [] [(.ptr (900000,0) 0)])),(3,(.ptr (3,u1) 0)),(6,(oS x1.1 (53,g2))),(15,(dl Q9 p1.Zones)),(16,(di (p1.Zones.length:Int))),(17,(di x1.2))],G [((900000,0),some<|.box 27 (I7 p3)),((3,u1),some<|.box 27 (I7 p1)),((53,g2),oB 93 4 B8 x1.1)]⟩) ([],0) 0 _ hy1 (C0 (T3 Z)<|sg Z<|B2 G_hit (.of Z)<|U9 trivial) ?_
 intro x1 g2 z1 hz1 ez1
 unfold L4 at hz1
 refine B7<|sv Z<|A1<|A4<|cc Z hz1 (fun c1 hz1=> ?_)<|fun c1 hz1=> ?_
 refine B1<|A4<|A6<|lr<|fun u4 _=>sv Z<|bs hz1 fun v1 hv1 hz1=>sd Z (C7 Z Z hv1 Z)<|sd Z (D5 Z hv1 Z Z)<|sm Z<|sv Z<|Bb Z G_hit [(dl H9 v1.Parts),(di v1.Signal_)] Z (A1<|B7<|sd Z (A7 Z (gq Z) Z Z)<|sd Z (A7 Z G_hit Z Z)<|bs hz1 fun v2 hv2 hz1=>B3 Z Z A2 (Jx _ _ _ hv2) (.inl Z) (sv Z<|A1<|B7<|sv Z<|sd Z (D0 Z)<|sv Z<|A1<|bs hz1 fun y2 hy2 hz1=>D2 (fun s=> ∃g3:Nat,Sb ⟨T [(1,(di p2)),(2,(.fn (.func 187) [] [(.ptr (900000,0) 0)])),(3,(.ptr (3,u1) 0)),(6,(oS y2 (53,g3))),(15,(dl Q9 p1.Zones)),(16,(di (p1.Zones.length:Int))),(17,(di x1.2))],G [((900000,0),some<|.box 27 (I7 p3)),((3,u1),some<|.box 27 (I7 p1)),((53,g3),oB 93 4 B8 y2)]⟩ s) ?_ ?_))
 refine A6<|E7 (K9 p2 p3 x1 v1 v2) (fun (x2:((List Clash)×Int)) (g4:Nat)=>⟨T [(1,(di p2)),(2,(.fn (.func 187) [] [(.ptr (900000,0) 0)])),(3,(.ptr (3,u1) 0)),(6,(oS x2.1 (53,g4))),(7,(di x1.2)),(8,(.ptr (8,u4) 0)),(9,(dl A8 v2)),(15,(dl Q9 p1.Zones)),(16,(di (p1.Zones.length:Int))),(17,(di x1.2)),(25,(dl A8 v2)),(26,(di (v2.length:Int))),(27,(di x2.2))],G [((900000,0),some<|.box 27 (I7 p3)),((3,u1),some<|.box 27 (I7 p1)),((8,u4),some<|.box 45 [(dl H9 v1.Parts),(di v1.Signal_)]),((53,g4),oB 93 4 B8 x2.1)]⟩) (x1.1,0) g2 _ hy2 (C0 (T3 Z)<|sg Z<|sg Z<|B2 G_hit (.of Z)<|C2 (gq Z) trivial) ?_
 intro x2 g4 z2 hz2 ez2
 unfold K9 at hz2
 refine B7<|sv Z<|A1<|A4<|cc Z hz2 (fun c2 hz2=> ?_)<|fun c2 hz2=> ?_
 refine B1<|A4<|A6<|B7<|sv Z<|bs hz2 fun v3 hv3 hz2=>sd Z (C7 Z Z hv3 Z)<|sd Z (D9 Z hv3 Z)<|sv Z<|sv Z<|A1<|B7<|sv Z<|sv Z<|sv Z<|bs hz2 fun v4 hv4 hz2=>sd Z (LI Z (fun _=>Z) (TT Z) EW hv4)<|sd Z (D0 Z)<|sv Z<|A1<|bs hz2 fun y3 hy3 hz2=>D2 (fun s=> ∃g5:Nat,Sb ⟨T [(1,(di p2)),(2,(.fn (.func 187) [] [(.ptr (900000,0) 0)])),(3,(.ptr (3,u1) 0)),(6,(oS y3 (53,g5))),(7,(di x1.2)),(8,(.ptr (8,u4) 0)),(9,(dl A8 v2)),(15,(dl Q9 p1.Zones)),(16,(di (p1.Zones.length:Int))),(17,(di x1.2)),(25,(dl A8 v2)),(26,(di (v2.length:Int))),(27,(di x2.2))],G [((900000,0),some<|.box 27 (I7 p3)),((3,u1),some<|.box 27 (I7 p1)),((8,u4),some<|.box 45 [(dl H9 v1.Parts),(di v1.Signal_)]),((53,g5),oB 93 4 B8 y3)]⟩ s) ?_ ?_
 refine A6<|E7 (I4 p2 p3 x1 v1 v3 v4) (fun (x3:((List Clash)×Int)) (g6:Nat)=>⟨T [(1,(di p2)),(2,(.fn (.func 187) [] [(.ptr (900000,0) 0)])),(3,(.ptr (3,u1) 0)),(6,(oS x3.1 (53,g6))),(7,(di x1.2)),(8,(.ptr (8,u4) 0)),(9,(dl A8 v2)),(11,(di v3)),(15,(dl Q9 p1.Zones)),(16,(di (p1.Zones.length:Int))),(17,(di x1.2)),(25,(dl A8 v2)),(26,(di (v2.length:Int))),(27,(di x2.2)),(35,(dl A8 v4)),(36,(di (v4.length:Int))),(37,(di x3.2))],G [((900000,0),some<|.box 27 (I7 p3)),((3,u1),some<|.box 27 (I7 p1)),((8,u4),some<|.box 45 [(dl H9 v1.Parts),(di v1.Signal_)]),((53,g6),oB 93 4 B8 x3.1)]⟩) (x2.1,0) g4 _ hy3 (C0 (T3 Z)<|B2 G_hit (.of Z)<|sg Z<|sg Z<|C2 (gq Z) trivial) ?_
 intro x3 g6 z3 hz3 ez3
 unfold I4 at hz3
 refine B7<|sv Z<|A1<|A4<|cc Z hz3 (fun c3 hz3=> ?_)<|fun c3 hz3=> ?_
 refine B1<|A4<|A6<|B7<|bs hz3 fun v5 hv5 hz3=>sd Z (C7 Z Z hv5 Z)<|sd Z (D9 Z hv5 Z)<|sv Z<|A1<|B7<|C1 (.fn _ _ _) Z Z (sd Z (A7 Z (gq Z) Z Z)<|sv Z<|sv Z<|bs hz3 fun _ hv6 hz3=>B3 Z (rD<|rD<|rD<|L9 (Fq G_hit<|rD<|rD<|rD<|rD<|rD I0) I0) A2 (Kv _ _ _ _ _ hv6) (.inr Z) (A1<|cc Z hz3 (fun c4 hz3=> ?_)<|fun c4 hz3=> ?_))
 refine A5 (s0:=⟨T [(1,(di p2)),(2,(.fn (.func 187) [] [(.ptr (900000,0) 0)])),(3,(.ptr (3,u1) 0)),(6,(oS x3.1 (53,g6))),(7,(di x1.2)),(8,(.ptr (8,u4) 0)),(9,(dl A8 v2)),(11,(di v3)),(13,(di v5)),(15,(dl Q9 p1.Zones)),(16,(di (p1.Zones.length:Int))),(17,(di x1.2)),(25,(dl A8 v2)),(26,(di (v2.length:Int))),(27,(di x2.2)),(35,(dl A8 v4)),(36,(di (v4.length:Int))),(37,(di x3.2))],G [((900000,0),some<|.box 27 (I7 p3)),((3,u1),some<|.box 27 (I7 p1)),((53,g6),oB 93 4 B8 x3.1),((8,u4),some<|.box 45 [(dl H9 v1.Parts),(di v1.Signal_)])]⟩) (C0 (T3 Z)<|B2 G_hit (.of Z)<|sg Z<|C2 (gq Z)<|sg Z trivial) ?_
 refine Bw fun u13 _=>C1 (oS x3.1 (53,g6)) Z Z (sv Z<|sv Z<|sv Z<|sv Z<|sv Z<|C1 (dl B8 [(Clash.mk p2 x1.2 v3 v5)]) Z Z (bs hz3 fun _ hv7 hz3=>N9 B8 (53,g6) x3.1 (Clash.mk p2 x1.2 v3 v5) [] _ (J7<|fun _=>Z) Z (gq Z) hv7 (ss Z<|A1<|E6<|A5 (s0:=⟨T [(1,(.d _)),(2,(.fn _ _ _)),(3,(.ptr _ _)),(6,(.sl _)),(7,(.d _)),(8,(.ptr _ _)),(9,(.d _)),(11,(.d _)),(15,(.d _)),(16,(.d _)),(17,(.d _)),(25,(.d _)),(26,(.d _)),(27,(.d _)),(35,(.d _)),(36,(.d _)),(37,(.d _))],G [((900000,0),some<|.box 27 _),((3,u1),some<|.box 27 _),((53,u13),some _),((8,u4),some<|.box 45 _)]⟩) (C9 Z Z) ?_)))
 refine B0<|sv Z<|sv Z<|A1<|F2 ?_
 cases hz3
 exact ⟨Z,u13,(C0 ⟨.of Z, .of Z, .of Z,(.of (Dy<|T1 hv7).symm), .of Z, .of Z, .of Z, .of Z, .of Z, .of Z, .of Z, .of Z, .of Z, .of Z, .of Z, .of Z, .of Z,trivial⟩<|B2 G_hit (.of Z)<|sg Z<|sg Z<|U8 (gq Z) trivial)⟩
 refine B1<|E6<|A5 (s0:=⟨T [(1,(di p2)),(2,(.fn (.func 187) [] [(.ptr (900000,0) 0)])),(3,(.ptr (3,u1) 0)),(6,(oS x3.1 (53,g6))),(7,(di x1.2)),(8,(.ptr (8,u4) 0)),(9,(dl A8 v2)),(11,(di v3)),(15,(dl Q9 p1.Zones)),(16,(di (p1.Zones.length:Int))),(17,(di x1.2)),(25,(dl A8 v2)),(26,(di (v2.length:Int))),(27,(di x2.2)),(35,(dl A8 v4)),(36,(di (v4.length:Int))),(37,(di x3.2))],G [((900000,0),some<|.box 27 (I7 p3)),((3,u1),some<|.box 27 (I7 p1)),((53,g6),oB 93 4 B8 x3.1),((8,u4),some<|.box 45 [(dl H9 v1.Parts),(di v1.Signal_)])]⟩) (C0 (T3 Z)<|B2 G_hit (.of Z)<|sg Z<|C2 (gq Z)<|sg Z trivial) ?_
 refine B0<|sv Z<|sv Z<|A1<|F2 ?_
 cases hz3
 exact ⟨Z,g6,(C0 (T3 Z)<|B2 G_hit (.of Z)<|sg Z<|sg Z<|C2 (gq Z) trivial)⟩
 refine C3 Z ?_
 cases hz3
 obtain rfl:=ez3 _ rfl
 refine ⟨nofun,B9 Z<|U0 ?_⟩
 exact ⟨g6,(C0 (T3 Z)<|B2 G_hit (.of Z)<|sg Z<|sg Z<|C2 (gq Z) trivial)⟩
 rintro _ ⟨g5,q1⟩
 refine E6<|A5 q1<|B0<|sv Z<|sv Z<|A1<|F2 ?_
 cases hz2
 exact ⟨Z,g5,(C0 (T3 Z)<|B2 G_hit (.of Z)<|sg Z<|sg Z<|C2 (gq Z) trivial)⟩
 refine C3 Z ?_
 cases hz2
 obtain rfl:=ez2 _ rfl
 refine ⟨nofun,B9 Z<|U0 ?_⟩
 exact ⟨g4,(C0 (T3 Z)<|B2 G_hit (.of Z)<|sg Z<|C2 (gq Z) trivial)⟩
 rintro _ ⟨g3,q2⟩
 refine E6<|A5 q2<|B0<|sv Z<|sv Z<|A1<|F2 ?_
 cases hz1
 exact ⟨Z,g3,(C0 (T3 Z)<|B2 G_hit (.of Z)<|sg Z<|C2 (gq Z) trivial)⟩
 refine C3 Z ?_
 cases hz1
 obtain rfl:=ez1 _ rfl
 refine ⟨nofun,B9 Z<|U0 ?_⟩
 exact ⟨g2,(C0 (T3 Z)<|B2 G_hit (.of Z)<|C2 (gq Z) trivial)⟩
 rintro _ ⟨g1,q3⟩
 refine A5 q3<|B7<|C1 (oS y1 (53,g1)) Z Z (C1 (oS y1 (53,g1)) Z Z (A1<|B5 ?_))
 obtain rfl:=(lC h)
 exact AN (.inr Z) [(53,g1)] (AO (B4 Z)<|Ea<|XZ (.head _)<|gq Z) Dz ⟨⟨_,_,_,G_hit,(MQ Z Z1),Z,Oz,Z⟩,trivial⟩
def Av [Lp](p1:Map):Option (List Clash):=
  (N1 p1 4 p1).bind fun v1=>some v1
theorem Pp(p1 r)(h:Av p1=some r):PCall prog 80 [(.agg (L8 p1))] (.list (List.map B8 r)):=by
 refine C5 (fk func80 ntmps80 (fun r=>if r==1 then [1001002]else []) (by with_unfolding_all rfl)) (nl Z) ?_
 unfold Av at h
 refine A5 (s0:=⟨T [(0,(.d _))],G []⟩) (C9 Z Z) ?_
 refine lr<|fun u1 _=>sm Z<|sv Z<|A1<|B7<|sd Z (A7 Z G_hit Z Z)<|C1 (.fn _ _ _) Z Z (bs h fun v1 hv1 h=>QI (v:= .d (.list (List.map B8 v1))) (us:= [(1,u1)]) (JT (Jy _ _ _ _ hv1) [(1,u1)] [(1,u1)] _ (((1,u1),some<|.box 27 (I7 p1))::_) Z Oy (Eg QG<|Eg QG<|Eg (QH Z<|Eg (Th G_hit Z) Ti) Ti) (Jw G_hit Ma) ⟨⟨_,G_hit, .of Z⟩,trivial⟩ (fun _ h=>h) nd1 Z Z Z) (sv Z<|A1<|B5 ?_))
 cases h
 exact A9 (.inr Z) (B6 (B4 Z) C6) (.refl _)
def Lj [Lp](p1:Map):Option Bool:=
  (W6 p1).bind fun v1=>((cond (v1==0) (As p1) (some default))).bind fun v2=>((cond (v1==0) (Au p1) (some default))).bind fun v3=>((cond (v1==0) (Co p1) (some default))).bind fun v4=>((cond (v1==0) (Av p1) (some default))).bind fun v5=>some ((v1==0)&& ((C8 ((C8 ((C8 ((v2.length:Int)+ (v3.length:Int)))+ (v4.length:Int)))+ (v5.length:Int)))==0))
theorem FC(p1 r)(h:Lj p1=some r):PCall prog 18 [(.agg (L8 p1))] (bo r):=by
 refine C5 (fk func18 ntmps18 m0 (by with_unfolding_all rfl)) (nl Z) ?_
 unfold Lj at h
 refine A5 (s0:=⟨T [(0,(.d _))],G []⟩) (C9 Z Z) ?_
 refine B7<|sm Z<|sv Z<|A1<|A4<|J2 Z<|sd Z (A7 Z G_hit Z Z)<|bs h fun _ hv1 h=>B3 Z Z A2 (Gb _ _ hv1) (.inl Z) (sv Z<|sv Z<|gt Z (fun _=>(A7 Z G_hit Z Z))<|bs h fun v2 hv2 h=> ?_)
 refine K7 _ (.list (List.map B8 v2)) (Q0 Z) (fun w2=>⟨_,[(.d (.agg (L8 p1)))],_,_,(by simp only [A3 w2];rfl),Z,A2,Pn _ _<|D7 w2 hv2,(.inl Z)⟩) ?_
 refine gt Z (fun w3=>(D0<|A3 w3))<|gt Z (fun _=>(A7 Z G_hit Z Z))<|bs h fun v3 hv3 h=> ?_
 refine K7 _ (.list (List.map B8 v3)) (Q0 Z) (fun w5=>⟨_,[(.d (.agg (L8 p1)))],_,_,(by simp only [A3 w5];rfl),Z,A2,Po _ _<|D7 w5 hv3,(.inl Z)⟩) ?_
 refine gt Z (fun w6=>(D0<|A3 w6))<|gt Z (fun w7=>(Q1 (A3 w7) (A3 w7) Z))<|gt Z (fun _=>(A7 Z G_hit Z Z))<|bs h fun v4 hv4 h=> ?_
 refine K7 _ (.list (List.map B8 v4)) (Q0 Z) (fun w9=>⟨_,[(.d (.agg (L8 p1)))],_,_,(by simp only [A3 w9];rfl),Z,A2,Rb _ _<|D7 w9 hv4,(.inl Z)⟩) ?_
 refine gt Z (fun w10=>(D0<|A3 w10))<|gt Z (fun w11=>(Q1 (A3 w11) (A3 w11) Z))<|gt Z (fun _=>(A7 Z G_hit Z Z))<|bs h fun v5 hv5 h=> ?_
 refine K7 _ (.list (List.map B8 v5)) (Q0 Z) (fun w13=>⟨_,[(.d (.agg (L8 p1)))],_,_,(by simp only [A3 w13];rfl),Z,A2,Pp _ _<|D7 w13 hv5,(.inl Z)⟩) ?_
 refine gt Z (fun w14=>(D0<|A3 w14))<|gt Z (fun w15=>(Q1 (A3 w15) (A3 w15) Z))<|gt Z (vb Z Z Z)<|sa Z Z Z<|sv Z<|A1<|B5 ?_
 cases h
 exact A9 (.inr Z) (B6 (B4 Z) C6) (.refl _)
def Mf [Lp](p1:Map)(p2:Int):Option Bool:=
  ((cond ((decide (p2≥0))&& (decide (p2< (p1.Lanes.length:Int)))) (W6 p1) (some default))).bind fun v1=>some (((decide (p2≥0))&& (decide (p2< (p1.Lanes.length:Int))))&& (v1==0))
theorem Xn(p1 p2 r)(h:Mf p1 p2=some r):PCall prog 159 [(.agg (L8 p1)),(i64 p2)] (bo r):=by
 refine C5 (fk func159 ntmps159 m0 (by with_unfolding_all rfl)) (nl Z) ?_
 unfold Mf at h
 refine A5 (s0:=⟨T [(0,(.d _)),(1,(.d _))],G []⟩) (C9 Z Z) ?_
 refine B7<|sm Z<|sv Z<|A1<|B7<|sv Z<|sv Z<|sv Z<|gt Z (fun _=>Z)<|gp Z (Q0 Z) (fun _=>Z) (gt Z (vl Z G_hit Z)<|gt Z (fun w4=>(D0<|A3 w4))<|gt Z (fun w5=>(Q1 (A3 w5) (A3 w5) Z))<|sa Z Z Z<|sv Z<|gt Z (fun _=>(A7 Z G_hit Z Z))<|bs h fun v1 hv1 h=> ?_)
 refine K7 _ (i64 v1) (Q0 Z) (fun w7=>⟨_,[(.d (.agg (L8 p1)))],_,_,(by simp only [A3 w7];rfl),Z,A2,Gb _ _<|D7 w7 hv1,(.inl Z)⟩) ?_
 refine gt Z (vb Z Z Z)<|sa Z Z Z<|sv Z<|A1<|B5 ?_
 cases h
 exact A9 (.inr Z) (B6 (B4 Z) C6) (.refl _)
def Hc [Lp](p1:Map)(p2:Int):Option Int:=
  (Mf p1 p2).bind fun v1=>cond (!v1) (some 0) ((V4 p1 p2).bind fun v2=>some v2)
theorem Yd(p1 p2 r)(h:Hc p1 p2=some r):PCall prog 61 [(.agg (L8 p1)),(i64 p2)] (i64 r):=by
 refine C5 (fk func61 ntmps61 m0 (by with_unfolding_all rfl)) (nl Z) ?_
 unfold Hc at h
 refine A5 (s0:=⟨T [(0,(.d _)),(1,(.d _))],G []⟩) (C9 Z Z) ?_
 refine B7<|sm Z<|sv Z<|A1<|A4<|B7<|sd Z (A7 Z G_hit Z Z)<|sv Z<|bs h fun v1 hv1 h=>B3 Z Z A2 (Xn _ _ _ hv1) (.inl Z) (C1 (.d (bo (!v1))) Z Z (A1<|cc Z h (fun c1 h=> ?_)<|fun c1 h=> ?_))
 refine B7<|sv Z<|A1<|B5 ?_
 cases h
 exact A9 (.inr Z) (B6 (B4 Z) C6) (.refl _)
 refine B1<|B7<|sd Z (A7 Z G_hit Z Z)<|sv Z<|bs h fun _ hv2 h=>B3 Z Z A2 (Fg _ _ _ hv2) (.inl Z) (sv Z<|A1<|B5 ?_)
 cases h
 exact A9 (.inr Z) (B6 (B4 Z) C6) (.refl _)
def Mg (p1:Map)(p2:Int)(p3:Int)(p4:Int)(x1:(Int×Int)):Option (Stp (Int×Int) Int):=
  cond (decide (x1.2< (p1.Works.length:Int))) ((E5 p1.Works x1.2).bind fun v5=>((cond (v5.Lane_==p2) (S6 p3 v5.From v5.To) (some default))).bind fun v6=>((cond ((v5.Lane_==p2)&&v6) (S6 p4 v5.Begin (C8 (v5.End - 1))) (some default))).bind fun v7=>cond (((v5.Lane_==p2)&&v6)&&v7) (some (.go ((Sj false x1.1 v5.Limit),(C8 (x1.2+1))))) (some (.go (x1.1,(C8 (x1.2+1)))))) (some (.out x1.1))
def Io [Lp](p1:Map)(p2:Int)(p3:Int)(p4:Int):Option Int:=
  (Mf p1 p2).bind fun v1=>((cond (!(!v1)) (V4 p1 p2) (some default))).bind fun v2=>((cond (!(!v1)) (S6 p3 0 v2) (some default))).bind fun v3=>cond ((!v1)||(!v3)) (some 0) ((E5 p1.Lanes p2).bind fun v4=>(loop (Mg p1 p2 p3 p4) (v4.Limit,0)).bind fun y1=>some y1)
theorem AU(p1 p2 p3 p4 r)(h:Io p1 p2 p3 p4=some r):PCall prog 56 [(.agg (L8 p1)),(i64 p2),(i64 p3),(i64 p4)] (i64 r):=by
 refine C5 (fk func56 ntmps56 m0 (by with_unfolding_all rfl)) (nl Z) ?_
 unfold Io at h
 refine A5 (s0:=⟨T [(0,(.d _)),(1,(.d _)),(2,(.d _)),(3,(.d _))],G []⟩) (C9 Z Z) ?_
 refine lr<|fun u1 _=>sm Z<|sv Z<|A1<|A4<|B7<|sd Z (A7 Z G_hit Z Z)<|sv Z<|bs h fun v1 hv1 h=>B3 Z Z A2 (Xn _ _ _ hv1) (.inl Z) (C1 (.d (bo (!v1))) Z Z (sv Z<|gf Z (fun _=>Z)<|gf Z (fun _=>(A7 Z G_hit Z Z))<|gf Z (fun _=>Z)<|bs h fun v2 hv2 h=> ?_))
 refine K7 _ (i64 v2) (L5 Z) (fun w4=>⟨_,[(.d (.agg (L8 p1))),(di p2)],_,_,(by simp only [A3 w4];rfl),Z,A2,Fg _ _ _<|D7 w4 hv2,(.inl Z)⟩) ?_
 refine bs h fun v3 hv3 h=> ?_
 refine K7 _ (bo v3) (L5 Z) (fun w5=>⟨_,[(di p3),(di 0),(di v2)],_,_,(by simp only [A3 w5];rfl),Z,A2,S4 _ _ _ _<|D7 w5 hv3,(.inl Z)⟩) ?_
 refine Ba _ (.d (bo (!v3))) Z (L5 Z) (fun w6=>(by simp only [A3 w6];rfl)) ?_
 refine sd Z (Q5 Z Z<|fun hc=>A3<|L6 hc)<|A1<|cc Z h (fun c1 h=> ?_)<|fun c1 h=> ?_
 refine B7<|sv Z<|A1<|B5 ?_
 cases h
 exact A9 (.inr Z) (B6 (B4 Z) C6) (.refl _)
 refine B1<|B7<|sq Z<|sl Z G_hit Z<|sv Z<|bs h fun v4 hv4 h=>sd Z (C7 Z Z hv4 Z)<|sv Z<|sd Z (D9 Z hv4 Z)<|sv Z<|A1<|A4<|A4<|A5 (s0:=⟨T [(1,(.d _)),(2,(.d _)),(3,(.d _)),(4,(.ptr _ _)),(9,(.d _))],G [((4,u1),some<|.box 27 _)]⟩) (C9 Z Z) ?_
 refine B0<|sq Z<|sl Z G_hit Z<|sd Z (D0 Z)<|sv Z<|A1<|bs h fun y1 hy1 h=>D2 (fun s=> ∃g1:Unit,Sb ⟨T [(9,(di y1))],G []⟩ s) ?_ ?_
 refine A6<|E7 (Mg p1 p2 p3 p4) (fun (x1:(Int×Int)) (g2:Unit)=>⟨T [(1,(di p2)),(2,(di p3)),(3,(di p4)),(9,(di x1.1)),(31,(dl Qs p1.Works)),(32,(di (p1.Works.length:Int))),(33,(di x1.2))],G []⟩) (v4.Limit,0) () _ hy1 (C9 Z Z) ?_
 intro x1 g2 z1 hz1 ez1
 unfold Mg at hz1
 refine B7<|sv Z<|A1<|A4<|cc Z hz1 (fun c2 hz1=> ?_)<|fun c2 hz1=> ?_
 refine B1<|A4<|A6<|lr<|fun u7 _=>bs hz1 fun v5 hv5 hz1=>sd Z (C7 Z Z hv5 Z)<|sd Z (D5 Z hv5 Z Z)<|sm Z<|Bb Z G_hit (VL v5) Z (A1<|B7<|sq Z<|sl Z G_hit Z<|sv Z<|sv Z<|sv Z<|gt Z (fun _=>Z)<|gp Z (Q0 Z) (fun _=>Z) (gt Z (vl Z G_hit Z)<|gp Z (Q0 Z) (fun _=>Z) (gt Z (vl Z G_hit Z)<|bs hz1 fun v6 hv6 hz1=> ?_)))
 refine K7 _ (bo v6) (Q0 Z) (fun w12=>⟨_,[(di p3),(di v5.From),(di v5.To)],_,_,(by simp only [A3 w12];rfl),Z,A2,S4 _ _ _ _<|D7 w12 hv6,(.inl Z)⟩) ?_
 refine sa Z Z Z<|sv Z<|gt Z (fun _=>Z)<|gp Z (Q0 Z) (fun _=>Z) (gt Z (vl Z G_hit Z)<|gp Z (Q0 Z) (fun _=>Z) (gt Z (vl Z G_hit Z)<|gt Z (vb Z Z Z)<|bs hz1 fun v7 hv7 hz1=> ?_))
 refine K7 _ (bo v7) (Q0 Z) (fun w19=>⟨_,[(di p4),(di v5.Begin),(di<|C8 (v5.End - 1))],_,_,(by simp only [A3 w19];rfl),Z,A2,S4 _ _ _ _<|D7 w19 hv7,(.inl Z)⟩) ?_
 refine sa Z Z Z<|A1<|cc Z hz1 (fun c3 hz1=> ?_)<|fun c3 hz1=> ?_
 refine A5 (s0:=⟨T [(1,(.d _)),(2,(.d _)),(3,(.d _)),(9,(.d _)),(11,(.ptr _ _)),(31,(.d _)),(32,(.d _)),(33,(.d _))],G [((11,u7),some<|.box 50 _)]⟩) (C9 Z Z) ?_
 refine B0<|sv Z<|sq Z<|sl Z G_hit Z<|sv Z<|sv Z<|A1<|E6<|B0<|sv Z<|sv Z<|A1<|F2 ?_
 cases hz1
 exact ⟨Z,(),(C9 Z Z)⟩
 refine B1<|E6<|A5 (s0:=⟨T [(1,(.d _)),(2,(.d _)),(3,(.d _)),(9,(.d _)),(31,(.d _)),(32,(.d _)),(33,(.d _))],G []⟩) (C9 Z Z) ?_
 refine B0<|sv Z<|sv Z<|A1<|F2 ?_
 cases hz1
 exact ⟨Z,(),(C9 Z Z)⟩
 refine C3 Z ?_
 cases hz1
 obtain rfl:=ez1 _ rfl
 refine ⟨nofun,B9 Z<|U0 ?_⟩
 exact ⟨(),(C9 Z Z)⟩
 rintro _ ⟨g1,q1⟩
 refine A5 q1<|B7<|sv Z<|sv Z<|A1<|B5 ?_
 cases h
 exact A9 (.inr Z) (B6 (B4 Z) C6) (.refl _)
def Ec [Lp]:Option Bool:=
  (Li).bind fun v1=>(In v1 [0] 60000).bind fun v2=>(W6 v1).bind fun v3=>((cond (v3==0) (Lj v1) (some default))).bind fun v4=>((cond (((((v3==0)&&v4)&& (v2.1==0))&& (v2.2.1==60000))&&v2.2.2) (Hc v1 1) (some default))).bind fun v5=>((cond ((((((v3==0)&&v4)&& (v2.1==0))&& (v2.2.1==60000))&&v2.2.2)&& (v5==100000)) (Io v1 0 10 5) (some default))).bind fun v6=>some (((((((v3==0)&&v4)&& (v2.1==0))&& (v2.2.1==60000))&&v2.2.2)&& (v5==100000))&& (v6==1500))
theorem Rc(r)(h:Ec=some r):PCall prog 14 [] (bo r):=by
 refine C5 (fk func14 ntmps14 (fun r=>if r==2 then [1001]else []) (by with_unfolding_all rfl)) (nl Z) ?_
 unfold Ec at h
 refine A5 (s0:=⟨T [],G []⟩) (C9 Z Z) ?_
 refine B7<|sv Z<|A1<|B7<|bs h fun v1 hv1 h=>B3 Z Z A2 (FB _ hv1) (.inl Z) (sm Z<|Bb Z G_hit (I7 v1) Z (A1<|B7<|sd Z (A7 Z G_hit Z Z)<|C1 (dl A8 [0]) Z Z (bs h fun _ hv2 h=>B3 Z Z A2 (AS _ _ _ _ hv2) (.inl Z) (sv Z<|sv Z<|sv Z<|sv Z<|sv Z<|sv Z<|sv Z<|A1<|B7<|sd Z (A7 Z G_hit Z Z)<|bs h fun _ hv3 h=>B3 Z Z A2 (Gb _ _ hv3) (.inl Z) (sv Z<|sv Z<|gt Z (fun _=>(A7 Z G_hit Z Z))<|bs h fun v4 hv4 h=> ?_)))))
 refine K7 _ (bo v4) (Q0 Z) (fun w2=>⟨_,[(.d (.agg (L8 v1)))],_,_,(by simp only [A3 w2];rfl),Z,A2,FC _ _<|D7 w2 hv4,(.inl Z)⟩) ?_
 refine sa Z Z Z<|sv Z<|gt Z (fun _=>Z)<|gt Z (vb Z Z Z)<|sa Z Z Z<|sv Z<|gt Z (fun _=>Z)<|gt Z (vb Z Z Z)<|sa Z Z Z<|sv Z<|gt Z (fun _=>Z)<|sa Z Z Z<|sv Z<|gt Z (fun _=>(A7 Z G_hit Z Z))<|bs h fun v5 hv5 h=> ?_
 refine K7 _ (i64 v5) (Q0 Z) (fun w9=>⟨_,[(.d (.agg (L8 v1))),(di 1)],_,_,(by simp only [A3 w9];rfl),Z,A2,Yd _ _ _<|D7 w9 hv5,(.inl Z)⟩) ?_
 refine gt Z (vb Z Z Z)<|sa Z Z Z<|sv Z<|gt Z (fun _=>(A7 Z G_hit Z Z))<|bs h fun v6 hv6 h=> ?_
 refine K7 _ (i64 v6) (Q0 Z) (fun w12=>⟨_,[(.d (.agg (L8 v1))),(di 0),(di 10),(di 5)],_,_,(by simp only [A3 w12];rfl),Z,A2,AU _ _ _ _ _<|D7 w12 hv6,(.inl Z)⟩) ?_
 refine gt Z (vb Z Z Z)<|sa Z Z Z<|sv Z<|A1<|B5 ?_
 cases h
 exact A9 (.inr Z) (B6 (B4 Z) C6) (.refl _)
def Jg [Lp](p1:Int)(p2:(List Int)):Option Bool:=
  (F8 p2 p1).bind fun v1=>some v1
theorem Vd(p1 p2 r)(h:Jg p1 p2=some r):PCall prog 253 [(i64 p1),(.bp [(.list (List.map A8 p2))] 0)] (bo r):=by
 refine C5 (fk func253 ntmps253 m0 (by with_unfolding_all rfl)) (nl Z) ?_
 unfold Jg at h
 refine A5 (s0:=⟨T [(0,(.d _)),(1,(.d _))],G []⟩) (C9 Z Z) ?_
 refine B7<|sv Z<|A1<|B7<|sv Z<|sv Z<|bs h fun _ hv1 h=>B3 Z Z A2 (J9 _ _ _ hv1) (.inl Z) (sv Z<|A1<|B5 ?_)
 cases h
 exact A9 (.inr Z) (B6 (B4 Z) C6) (.refl _)
def K0 [Lp](p1:(List Int))(p2:(List Int))(x1:Int):Option (Stp Int (Sum Unit Int)):=
  cond (decide (x1< (p1.length:Int))) ((E5 p1 x1).bind fun v1=>(Jg v1 p2).bind fun v2=>cond v2 (some (.out (.inr x1))) (some (.go (C8 (x1+1))))) (some (.out (.inl ())))
def O8 [Lp](p1:(List Int))(p2:(List Int)):Option Int:=
  thenS (loop (K0 p1 p2) 0) (fun _=>some (-1)) (fun r=>some r)
theorem Ep(p1 p2 r)(h:O8 p1 p2=some r):PCall prog 145 [(.list (List.map A8 p1)),(.fn (.func 253) [] [(.bp [(.list (List.map A8 p2))] 0)])] (i64 r):=by
 refine C5 (fk func145 ntmps145 m0 (by with_unfolding_all rfl)) (nl Z) ?_
 unfold O8 at h
 refine A5 (s0:=⟨T [(0,(.d _)),(1,(.d _))],G []⟩) (C9 Z Z) ?_
 refine B7<|sv Z<|A1<|A4<|B7<|sv Z<|sd Z (D0 Z)<|sv Z<|A1<|js h fun z1 hz1 h=>D2 (fun s=> ∃(y1:Unit) (g1:Unit),z1= .inl y1∧Sb ⟨T [],G []⟩ s) ?_ ?_
 refine A6<|E7 (K0 p1 p2) (fun (x1:Int) (g2:Unit)=>⟨T [(0,(dl A8 p1)),(1,(.d (.fn (.func 253) [] [(.bp [(.list (List.map A8 p2))] 0)]))),(7,(di (p1.length:Int))),(8,(di x1))],G []⟩) 0 () _ hz1 (C9 Z Z) ?_
 intro x1 g2 z2 hz2 ez2
 unfold K0 at hz2
 refine B7<|sv Z<|A1<|A4<|cc Z hz2 (fun c1 hz2=> ?_)<|fun c1 hz2=> ?_
 refine B1<|A4<|A6<|B7<|sv Z<|sv Z<|A1<|B7<|sv Z<|sv Z<|sv Z<|bs hz2 fun _ hv1 hz2=>sd Z (C7 Z Z hv1 Z)<|sd Z (D9 Z hv1 Z)<|bs hz2 fun _ hv2 hz2=>B3 Z Z A2 (Vd _ _ _ hv2) (.inl Z) (A1<|cc Z hz2 (fun c2 hz2=> ?_)<|fun c2 hz2=> ?_)
 refine B7<|sv Z<|sv Z<|A1<|B5 ?_
 cases hz2
 obtain rfl:=ez2 _ rfl
 refine ⟨nofun,F6 ?_⟩
 rw [bL]at h
 cases h
 exact A9 (.inr Z) (B6 (B4 Z) C6) (.refl _)
 refine B1<|E6<|B0<|sv Z<|sv Z<|A1<|F2 ?_
 cases hz2
 exact ⟨Z,(),(C9 Z Z)⟩
 refine C3 Z ?_
 cases hz2
 obtain rfl:=ez2 _ rfl
 refine ⟨nofun,B9 Z<|U0 ?_⟩
 exact ⟨_,(),Z,(C9 Z Z)⟩
 rintro _ ⟨y1,g1,rfl,q1⟩
 rw [bK]at h
 refine A5 q1<|B7<|sv Z<|A1<|B5 ?_
 cases h
 exact A9 (.inr Z) (B6 (B4 Z) C6) (.refl _)
def K1 [Lp](p1:(List Int))(p2:(List Int)):Option Bool:=
  (O8 p1 p2).bind fun v1=>some (decide (v1≥0))
theorem Dl(p1 p2 r)(h:K1 p1 p2=some r):PCall prog 182 [(.list (List.map A8 p1)),(.fn (.func 253) [] [(.bp [(.list (List.map A8 p2))] 0)])] (bo r):=by
 refine C5 (fk func182 ntmps182 m0 (by with_unfolding_all rfl)) (nl Z) ?_
 unfold K1 at h
 refine A5 (s0:=⟨T [(0,(.d _)),(1,(.d _))],G []⟩) (C9 Z Z) ?_
 refine B7<|sv Z<|A1<|B7<|sv Z<|sv Z<|bs h fun _ hv1 h=>B3 Z Z A2 (Ep _ _ _ hv1) (.inl Z) (sv Z<|sv Z<|A1<|B5 ?_)
 cases h
 exact A9 (.inr Z) (B6 (B4 Z) C6) (.refl _)
def Hd [Lp](p1:(List Int))(p2:Int)(p3:Int):Option Bool:=
  (F8 p1 p2).bind fun v1=>((cond v1 (F8 p1 p3) (some default))).bind fun v2=>some (v1&&v2)
theorem Si(p1 p2 p3 r)(h:Hd p1 p2 p3=some r):PCall prog 252 [(.list (List.map A8 p1)),(.bp [(i64 p2)] 0),(.bp [(i64 p3)] 0)] (bo r):=by
 refine C5 (fk func252 ntmps252 m0 (by with_unfolding_all rfl)) (nl Z) ?_
 unfold Hd at h
 refine A5 (s0:=⟨T [(0,(.d _)),(1,(.d _)),(2,(.d _))],G []⟩) (C9 Z Z) ?_
 refine B7<|sv Z<|A1<|B7<|sv Z<|sv Z<|bs h fun v1 hv1 h=>B3 Z Z A2 (J9 _ _ _ hv1) (.inl Z) (sv Z<|gt Z (fun _=>Z)<|gt Z (fun _=>Z)<|bs h fun v2 hv2 h=> ?_)
 refine K7 v1 (bo v2) (Q0 Z) (fun w3=>⟨_,[(dl A8 p1),(di p3)],_,_,(by simp only [A3 w3];rfl),Z,A2,J9 _ _ _<|D7 w3 hv2,(.inl Z)⟩) ?_
 refine sa Z Z Z<|sv Z<|A1<|B5 ?_
 cases h
 exact A9 (.inr Z) (B6 (B4 Z) C6) (.refl _)
def T9 [Lp](p1:Lane)(p2:Int)(p3:Int):Option Bool:=
  (Hd p1.Next p2 p3).bind fun v1=>some v1
theorem Jp(p1 p2 p3 r)(h:T9 p1 p2 p3=some r):PCall prog 255 [(.agg (Dg p1)),(.bp [(.fn (.func 252) [] [(.bp [(i64 p2)] 0),(.bp [(i64 p3)] 0)])] 0)] (bo r):=by
 refine C5 (fk func255 ntmps255 m0 (by with_unfolding_all rfl)) (nl Z) ?_
 unfold T9 at h
 refine A5 (s0:=⟨T [(0,(.d _)),(1,(.d _))],G []⟩) (C9 Z Z) ?_
 refine B7<|sm Z<|sv Z<|A1<|B7<|sv Z<|sq Z<|sl Z G_hit Z<|bs h fun _ hv1 h=>B3 Z Z A2 (Si _ _ _ _ hv1) (.inl Z) (sv Z<|A1<|B5 ?_)
 cases h
 exact A9 (.inr Z) (B6 (B4 Z) C6) (.refl _)
def G3 [Lp](p1:(List Lane))(p2:Int)(p3:Int)(x1:Int):Option (Stp Int (Sum Unit Int)):=
  cond (decide (x1< (p1.length:Int))) ((E5 p1 x1).bind fun v1=>(T9 v1 p2 p3).bind fun v2=>cond v2 (some (.out (.inr x1))) (some (.go (C8 (x1+1))))) (some (.out (.inl ())))
def I9 [Lp](p1:(List Lane))(p2:Int)(p3:Int):Option Int:=
  thenS (loop (G3 p1 p2 p3) 0) (fun _=>some (-1)) (fun r=>some r)
theorem Z5(p1 p2 p3 r)(h:I9 p1 p2 p3=some r):PCall prog 270 [(.list (List.map Dg p1)),(.fn (.func 255) [] [(.bp [(.fn (.func 252) [] [(.bp [(i64 p2)] 0),(.bp [(i64 p3)] 0)])] 0)])] (i64 r):=by
 refine C5 (fk func270 ntmps270 m0 (by with_unfolding_all rfl)) (nl Z) ?_
 unfold I9 at h
 refine A5 (s0:=⟨T [(0,(.d _)),(1,(.d _))],G []⟩) (C9 Z Z) ?_
 refine B7<|sv Z<|A1<|A4<|B7<|sv Z<|sd Z (D0 Z)<|sv Z<|A1<|js h fun z1 hz1 h=>D2 (fun s=> ∃(y1:Unit) (g1:Unit),z1= .inl y1∧Sb ⟨T [],G []⟩ s) ?_ ?_
 refine A6<|E7 (G3 p1 p2 p3) (fun (x1:Int) (g2:Unit)=>⟨T [(0,(dl Dg p1)),(1,(.d (.fn (.func 255) [] [(.bp [(.fn (.func 252) [] [(.bp [(i64 p2)] 0),(.bp [(i64 p3)] 0)])] 0)]))),(7,(di (p1.length:Int))),(8,(di x1))],G []⟩) 0 () _ hz1 (C9 Z Z) ?_
 intro x1 g2 z2 hz2 ez2
 unfold G3 at hz2
 refine B7<|sv Z<|A1<|A4<|cc Z hz2 (fun c1 hz2=> ?_)<|fun c1 hz2=> ?_
 refine B1<|A4<|A6<|B7<|sv Z<|sv Z<|A1<|B7<|sv Z<|sv Z<|sv Z<|bs hz2 fun _ hv1 hz2=>sd Z (C7 Z Z hv1 Z)<|sd Z (D5 Z hv1 Z Z)<|bs hz2 fun _ hv2 hz2=>B3 Z Z A2 (Jp _ _ _ _ hv2) (.inl Z) (A1<|cc Z hz2 (fun c2 hz2=> ?_)<|fun c2 hz2=> ?_)
 refine B7<|sv Z<|sv Z<|A1<|B5 ?_
 cases hz2
 obtain rfl:=ez2 _ rfl
 refine ⟨nofun,F6 ?_⟩
 rw [bL]at h
 cases h
 exact A9 (.inr Z) (B6 (B4 Z) C6) (.refl _)
 refine B1<|E6<|B0<|sv Z<|sv Z<|A1<|F2 ?_
 cases hz2
 exact ⟨Z,(),(C9 Z Z)⟩
 refine C3 Z ?_
 cases hz2
 obtain rfl:=ez2 _ rfl
 refine ⟨nofun,B9 Z<|U0 ?_⟩
 exact ⟨_,(),Z,(C9 Z Z)⟩
 rintro _ ⟨y1,g1,rfl,q1⟩
 rw [bK]at h
 refine A5 q1<|B7<|sv Z<|A1<|B5 ?_
 cases h
 exact A9 (.inr Z) (B6 (B4 Z) C6) (.refl _)
def G4 [Lp](p1:(List Lane))(p2:Int)(p3:Int):Option Bool:=
  (I9 p1 p2 p3).bind fun v1=>some (decide (v1≥0))
theorem X6(p1 p2 p3 r)(h:G4 p1 p2 p3=some r):PCall prog 254 [(.list (List.map Dg p1)),(.fn (.func 255) [] [(.bp [(.fn (.func 252) [] [(.bp [(i64 p2)] 0),(.bp [(i64 p3)] 0)])] 0)])] (bo r):=by
 refine C5 (fk func254 ntmps254 m0 (by with_unfolding_all rfl)) (nl Z) ?_
 unfold G4 at h
 refine A5 (s0:=⟨T [(0,(.d _)),(1,(.d _))],G []⟩) (C9 Z Z) ?_
 refine B7<|sv Z<|A1<|B7<|sv Z<|sv Z<|bs h fun _ hv1 h=>B3 Z Z A2 (Z5 _ _ _ _ hv1) (.inl Z) (sv Z<|sv Z<|A1<|B5 ?_)
 cases h
 exact A9 (.inr Z) (B6 (B4 Z) C6) (.refl _)
def Mh [Lp](p1:Map)(p2:Int)(p3:Int):Option Bool:=
  (E5 p1.Lanes p2).bind fun v1=>(E5 p1.Lanes p3).bind fun v2=>(F8 v1.Next p3).bind fun v3=>((cond (!v3) (F8 v2.Next p2) (some default))).bind fun v4=>((cond (!(v3||v4)) (K1 v1.Next v2.Next) (some default))).bind fun v5=>((cond (!((v3||v4)||v5)) (G4 p1.Lanes p2 p3) (some default))).bind fun v6=>some (((v3||v4)||v5)||v6)
theorem CH(p1 p2 p3 r)(h:Mh p1 p2 p3=some r):PCall prog 207 [(.agg (L8 p1)),(i64 p2),(i64 p3)] (bo r):=by
 refine C5 (fk func207 ntmps207 m0 (by with_unfolding_all rfl)) (nl Z) ?_
 unfold Mh at h
 refine A5 (s0:=⟨T [(0,(.d _)),(1,(.d _)),(2,(.d _))],G []⟩) (C9 Z Z) ?_
 refine lr<|fun u1 _=>sm Z<|sm Z<|sn Z Z<|sv Z<|A1<|lr<|fun u2 _=>C1 (.fn _ _ _) Z Z (sm Z<|Bb Z G_hit [(.fn (.func 252) [] [(.ptr (4,u1) 0),(.ptr (5,u1) 0)])] Z (A1<|A4<|Ic Z fun u3 _=>sq Z<|sl Z (gq Z) Z (sl Z (gq Z) Z (bs h fun v1 hv1 h=>sd Z (C7 Z Z hv1 Z)<|sv Z<|sd Z (D9 Z hv1 Z)<|sq Z<|sl Z (gq Z) Z (sl Z (gq Z) Z (bs h fun v2 hv2 h=>sd Z (C7 Z Z hv2 Z)<|sv Z<|sd Z (D9 Z hv2 Z)<|sm Z<|sv Z<|Bb Z G_hit [(dl A8 v2.Next)] Z (A1<|A4<|A5 (s0:=⟨T [(3,(.ptr _ _)),(4,(.ptr _ _)),(5,(.ptr _ _)),(7,(.ptr _ _)),(8,(.d _)),(9,(.ptr _ _))],G [((3,u1),some<|.box 27 _),((4,u1),some<|.box 3 _),((5,u1),some<|.box 3 _),((7,u2),some<|.box 272 _),((9,u3),some<|.box 40 _)]⟩) (C9 Z Z) ?_)))))))
 refine B0<|sv Z<|sl Z (gq Z) Z (bs h fun _ hv3 h=>B3 Z Z A2 (J9 _ _ _ hv3) (.inl Z) (sv Z<|gf Z (fun _=>(Fr Z (gq Z) Z))<|gf Z (fun _=>(Fr Z (gq Z) Z))<|bs h fun v4 hv4 h=> ?_))
 refine K7 _ (bo v4) (L5 Z) (fun w3=>⟨_,[(dl A8 v2.Next),(di p2)],_,_,(by simp only [A3 w3];rfl),Z,A2,J9 _ _ _<|D7 w3 hv4,(.inl Z)⟩) ?_
 refine sd Z (Q5 Z Z<|fun hc=>A3<|L6 hc)<|sv Z<|gf Z (fun _=>Z)<|Ba _ (.fn _ _ _) Z (L5 Z) (fun _=>Z) (bs h fun v5 hv5 h=> ?_)
 refine K7 _ (bo v5) (L5 Z) (fun w6=>⟨_,[(dl A8 v1.Next),(.fn (.func 253) [] [(.ptr (9,u3) 0)])],_,_,(by simp only [A3 w6];rfl),(rD<|L9 (Qq I0<|L9 (Fq (gq Z)<|rD I0) I0) I0),A2,Dl _ _ _<|D7 w6 hv5,(.inr Z)⟩) ?_
 refine sd Z (Q5 Z Z<|fun hc=>A3<|L6 hc)<|sv Z<|gp Z (L5 Z) (fun _=>Z) (gf Z (vl Z G_hit Z)<|Ba _ (.fn _ _ _) Z (L5 Z) (fun _=>Z) (bs h fun v6 hv6 h=> ?_))
 refine K7 _ (bo v6) (L5 Z) (fun w10=>⟨_,[(dl Dg p1.Lanes),(.fn (.func 255) [] [(.ptr (7,u2) 0)])],_,_,(by simp only [A3 w10];rfl),(rD<|L9 (Qq I0<|L9 (Fq (gq Z)<|L9 (Qq I0<|L9 (Fq (gq Z)<|rD I0)<|L9 (Fq (gq Z)<|rD I0) I0) I0) I0) I0),A2,X6 _ _ _ _<|D7 w10 hv6,(.inr Z)⟩) ?_
 refine sd Z (Q5 Z Z<|fun hc=>A3<|L6 hc)<|sv Z<|A1<|B5 ?_
 cases h
 exact A9 (.inr Z) (B6 (B4 Z) C6) (.refl _)
def V5 (p1:CurveVector):Option CurveVector:=
  some (CurveVector.mk (C8 (0 - p1.y)) p1.x)
theorem Gc(p1 r)(h:V5 p1=some r):PCall prog 286 [(.agg [(i64 p1.x),(i64 p1.y)])] (.agg [(i64 r.x),(i64 r.y)]):=by
 refine C5 (fk func286 ntmps286 m0 (by with_unfolding_all rfl)) (nl Z) ?_
 unfold V5 at h
 refine A5 (s0:=⟨T [(0,(.d _))],G []⟩) (C9 Z Z) ?_
 refine B7<|sm Z<|sn Z Z<|A1<|B7<|sq Z<|sl Z (gq Z) Z (C1 (di<|C8 (0 - p1.y)) Z Z (sq Z<|sl Z (gq Z) Z (sv Z<|Bb Z G_hit [(di<|C8 (0 - p1.y)),(di p1.x)] Z (A1<|B5 ?_))))
 cases h
 exact A9 (.inr Z) (B6 (Bf Z G_hit (nl Z) Z) C6) (.refl _)
def Lk (p1:Int):Option Int:=
  some (Sj true p1 (C8 (0 - p1)))
theorem Ve(p1 r)(h:Lk p1=some r):PCall prog 287 [(i64 p1)] (i64 r):=by
 refine C5 (fk func287 ntmps287 m0 (by with_unfolding_all rfl)) (nl Z) ?_
 unfold Lk at h
 refine A5 (s0:=⟨T [(0,(.d _))],G []⟩) (C9 Z Z) ?_
 refine B7<|sv Z<|A1<|B7<|sv Z<|sv Z<|C1 (di<|C8 (0 - p1)) Z Z (sv Z<|sv Z<|A1<|B5 ?_)
 cases h
 exact A9 (.inr Z) (B6 (B4 Z) C6) (.refl _)
def Bd (p1:Int)(p2:Int):Option Int:=
  (PT .i64 p1 p2).bind fun v1=>(PU p1 p2).bind fun v2=>cond (decide (v2<0)) (some (C8 (v1 - 1))) (some v1)
theorem Jh(p1 p2 r)(h:Bd p1 p2=some r):PCall prog 288 [(i64 p1),(i64 p2)] (i64 r):=by
 refine C5 (fk func288 ntmps288 m0 (by with_unfolding_all rfl)) (nl Z) ?_
 unfold Bd at h
 refine A5 (s0:=⟨T [(0,(.d _)),(1,(.d _))],G []⟩) (C9 Z Z) ?_
 refine B7<|sv Z<|A1<|B7<|sv Z<|sv Z<|bs h fun _ hv1 h=>sd Z (XV Z Z hv1)<|sv Z<|A1<|A4<|B7<|sv Z<|sv Z<|bs h fun _ hv2 h=>sd Z (XW Z Z hv2)<|sv Z<|A1<|cc Z h (fun c1 h=> ?_)<|fun c1 h=> ?_
 refine B0<|sv Z<|sv Z<|sv Z<|A1<|B7<|sv Z<|sv Z<|A1<|B5 ?_
 cases h
 exact A9 (.inr Z) (B6 (B4 Z) C6) (.refl _)
 refine B1<|B7<|sv Z<|sv Z<|A1<|B5 ?_
 cases h
 exact A9 (.inr Z) (B6 (B4 Z) C6) (.refl _)
def U6 (p1:CurveCorridor)(p2:CurveCorridor):Option Bool:=
  (Ie p1.piece.p p2.piece.p).bind fun v1=>(V5 p1.piece.v).bind fun v2=>thenS ((K8 p2.piece.v p1.piece.v).bind fun v3=>(K8 p2.piece.v p1.piece.v).bind fun v4=>(V5 p2.piece.v).bind fun v5=>(K8 v5 p1.piece.v).bind fun v6=>(Lk v6).bind fun v7=>(K8 v1 p1.piece.v).bind fun v8=>(Bd (C8 ((C8 (p2.half*v7)) - (Sj false (C8 (p2.ends.1*v3)) (C8 (p2.ends.2*v4))))) p2.piece.l).bind fun v9=>(Bd (C8 ((Sj true (C8 (p2.ends.1*v3)) (C8 (p2.ends.2*v4)))+ (C8 (p2.half*v7)))) p2.piece.l).bind fun v10=>cond ((decide ((C8 (v8+ (C8 (0 - v9))))>(C8 (p1.ends.2*p1.piece.l))))||(decide ((C8 (v8+v10))< (C8 (p1.ends.1*p1.piece.l))))) (some (.inr true)) ((K8 p2.piece.v v2).bind fun v11=>(K8 p2.piece.v v2).bind fun v12=>(V5 p2.piece.v).bind fun v13=>(K8 v13 v2).bind fun v14=>(Lk v14).bind fun v15=>(K8 v1 v2).bind fun v16=>(Bd (C8 ((C8 (p2.half*v15)) - (Sj false (C8 (p2.ends.1*v11)) (C8 (p2.ends.2*v12))))) p2.piece.l).bind fun v17=>(Bd (C8 ((Sj true (C8 (p2.ends.1*v11)) (C8 (p2.ends.2*v12)))+ (C8 (p2.half*v15)))) p2.piece.l).bind fun v18=>cond ((decide ((C8 (v16+ (C8 (0 - v17))))>(C8 (p1.half*p1.piece.l))))||(decide ((C8 (v16+v18))< (C8 ((C8 (0 - p1.half))*p1.piece.l))))) (some (.inr true)) (some (.inl ())))) (fun _=>some false) (fun r=>some r)
theorem Ip(p1 p2 r)(h:U6 p1 p2=some r):PCall prog 272 [(.agg (Z9 p1)),(.agg (Z9 p2))] (bo r):=by
 refine C5 (fk func272 ntmps272 m0 (by with_unfolding_all rfl)) (nl Z) ?_
 unfold U6 at h
 refine A5 (s0:=⟨T [(0,(.d _)),(1,(.d _))],G []⟩) (C9 Z Z) ?_
 refine lr<|fun u1 _=>sm Z<|sm Z<|sv Z<|A1<|lr<|fun u2 _=>sq Z<|sq Z<|sd Z (A7 Z (gq Z) Z Z)<|sq Z<|sp Z Z<|sd Z (A7 Z G_hit Z Z)<|bs h fun v1 hv1 h=>B3 Z Z A2 (Nj _ _ _ hv1) (.inl Z) (sm Z<|Bb Z G_hit [(di v1.x),(di v1.y)] Z (A1<|A4<|Ic Z fun u3 _=>sq Z<|sq Z<|sd Z (A7 Z (gq Z) Z Z)<|sq Z<|sp Z Z<|sd Z (A7 Z (gq Z) Z Z)<|bs h fun v2 hv2 h=>B3 Z Z A2 (Gc _ _ hv2) (.inl Z) (sv Z<|sm Z<|Bb Z G_hit [(di p1.piece.v.x),(di p1.piece.v.y),(di v2.x),(di v2.y)] Z (A1<|A4<|A5 (s0:=⟨T [(2,(.ptr _ _)),(3,(.ptr _ _)),(5,(.ptr _ _)),(6,(.ptr _ _))],G [((2,u1),some<|.box 283 _),((3,u1),some<|.box 283 _),((5,u2),some<|.box 253 _),((6,u3),some<|.box 315 _)]⟩) (C9 Z Z) ?_))))
 refine Bw fun u4 _=>sq Z<|sq Z<|sl Z G_hit Z<|sq Z<|sp Z Z<|sl Z G_hit Z<|sv Z<|sq Z<|sl Z G_hit Z<|C1 (di<|C8 (0 - p1.half)) Z Z (sq Z<|sp Z Z<|sl Z G_hit Z<|sv Z<|sv Z<|sm Z<|Bb Z G_hit [(di<|C8 (p1.ends.1*p1.piece.l)),(di<|C8 ((C8 (0 - p1.half))*p1.piece.l))] Z (A1<|A4<|A5 (s0:=⟨T [(2,(.ptr _ _)),(3,(.ptr _ _)),(5,(.ptr _ _)),(6,(.ptr _ _)),(7,(.ptr _ _))],G [((2,u1),some<|.box 283 _),((3,u1),some<|.box 283 _),((5,u2),some<|.box 253 _),((6,u3),some<|.box 315 _),((7,u4),some<|.box 281 _)]⟩) (C9 Z Z) ?_))
 refine Bw fun u5 _=>sq Z<|sq Z<|sl Z G_hit Z<|sq Z<|sp Z Z<|sl Z G_hit Z<|sv Z<|sq Z<|sl Z G_hit Z<|sq Z<|sp Z Z<|sl Z G_hit Z<|sv Z<|sv Z<|sm Z<|Bb Z G_hit [(di<|C8 (p1.ends.2*p1.piece.l)),(di<|C8 (p1.half*p1.piece.l))] Z (A1<|A4<|A4<|A5 (s0:=⟨T [(3,(.ptr _ _)),(5,(.ptr _ _)),(6,(.ptr _ _)),(7,(.ptr _ _)),(8,(.ptr _ _))],G [((3,u1),some<|.box 283 _),((5,u2),some<|.box 253 _),((6,u3),some<|.box 315 _),((7,u4),some<|.box 281 _),((8,u5),some<|.box 281 _)]⟩) (C9 Z Z) ?_)
 refine B0<|sd Z (A7 Z (gq Z) Z Z)<|sv Z<|A1<|js h fun z1 hz1 h=>D2 (fun s=> ∃(y1:Unit) (g1:Unit),z1= .inl y1∧Sb ⟨T [],G []⟩ s) ?_ ?_
 refine A6<|AA<|B7<|sv Z<|A1<|A4<|LH Z<|B1<|A4<|A6<|lr<|fun u8 _=>sv Z<|sv Z<|sm Z<|sv Z<|Bb Z G_hit [(di p1.piece.v.x),(di p1.piece.v.y)] Z (A1<|A4<|Ic Z fun u9 _=>sq Z<|sq Z<|sl Z (gq Z) Z (sq Z<|sp Z Z<|sd Z (A7 Z (gq Z) Z Z)<|sd Z (A7 Z G_hit Z Z)<|bs hz1 fun v3 hv3 hz1=>B3 Z Z A2 (M6 _ _ _ hv3) (.inl Z) (sv Z<|sq Z<|sp Z Z<|sl Z (gq Z) Z (sq Z<|sp Z Z<|sd Z (A7 Z (gq Z) Z Z)<|sd Z (A7 Z G_hit Z Z)<|bs hz1 fun v4 hv4 hz1=>B3 Z Z A2 (M6 _ _ _ hv4) (.inl Z) (sv Z<|sv Z<|sm Z<|Bb Z G_hit [(di<|C8 (p2.ends.1*v3)),(di<|C8 (p2.ends.2*v4))] Z (A1<|A4<|A5 (s0:=⟨T [(3,(.ptr _ _)),(5,(.ptr _ _)),(7,(.ptr _ _)),(8,(.ptr _ _)),(9,(.d _)),(10,(.ptr _ _)),(11,(.ptr _ _)),(60,(.d _)),(61,(.d _))],G [((3,u1),some<|.box 283 _),((5,u2),some<|.box 253 _),((7,u4),some<|.box 281 _),((8,u5),some<|.box 281 _),((10,u8),some<|.box 253 _),((11,u9),some<|.box 281 _)]⟩) (C9 Z Z) ?_))))))
 refine J2 Z<|sq Z<|sl Z G_hit Z<|sq Z<|sp Z Z<|sd Z (A7 Z G_hit Z Z)<|bs hz1 fun _ hv5 hz1=>B3 Z Z A2 (Gc _ _ hv5) (.inl Z) (sd Z (A7 Z (gq Z) Z Z)<|bs hz1 fun _ hv6 hz1=>B3 Z Z A2 (M6 _ _ _ hv6) (.inl Z) (bs hz1 fun _ hv7 hz1=>B3 Z Z A2 (Ve _ _ hv7) (.inl Z) (sv Z<|sv Z<|A1<|A4<|A5 (s0:=⟨T [(3,(.ptr _ _)),(5,(.ptr _ _)),(7,(.ptr _ _)),(8,(.ptr _ _)),(9,(.d _)),(10,(.ptr _ _)),(11,(.ptr _ _)),(12,(.d _)),(60,(.d _)),(61,(.d _))],G [((3,u1),some<|.box 283 _),((5,u2),some<|.box 253 _),((7,u4),some<|.box 281 _),((8,u5),some<|.box 281 _),((10,u8),some<|.box 253 _),((11,u9),some<|.box 281 _)]⟩) (C9 Z Z) ?_)))
 refine B0<|sd Z (A7 Z (gq Z) Z Z)<|sd Z (A7 Z (gq Z) Z Z)<|bs hz1 fun _ hv8 hz1=>B3 Z Z A2 (M6 _ _ _ hv8) (.inl Z) (sv Z<|A1<|B7<|sv Z<|sq Z<|sl Z (gq Z) Z (sq Z<|sl Z (gq Z) Z (sv Z<|sv Z<|sq Z<|sp Z Z<|sl Z G_hit Z<|bs hz1 fun v9 hv9 hz1=>B3 Z Z A2 (Jh _ _ _ hv9) (.inl Z) (C1 (di<|C8 (0 - v9)) Z Z (sv Z<|A1<|A4<|A5 (s0:=⟨T [(3,(.ptr _ _)),(5,(.ptr _ _)),(7,(.ptr _ _)),(8,(.ptr _ _)),(9,(.d _)),(11,(.ptr _ _)),(12,(.d _)),(13,(.d _)),(14,(.d _)),(60,(.d _)),(61,(.d _))],G [((3,u1),some<|.box 283 _),((5,u2),some<|.box 253 _),((7,u4),some<|.box 281 _),((8,u5),some<|.box 281 _),((11,u9),some<|.box 281 _)]⟩) (C9 Z Z) ?_)))))
 refine B0<|sq Z<|sl Z (gq Z) Z (sq Z<|sl Z (gq Z) Z (sv Z<|sv Z<|sv Z<|sq Z<|sp Z Z<|sl Z G_hit Z<|bs hz1 fun _ hv10 hz1=>B3 Z Z A2 (Jh _ _ _ hv10) (.inl Z) (sv Z<|A1<|A4<|A5 (s0:=⟨T [(3,(.ptr _ _)),(5,(.ptr _ _)),(7,(.ptr _ _)),(8,(.ptr _ _)),(9,(.d _)),(13,(.d _)),(14,(.d _)),(15,(.d _)),(60,(.d _)),(61,(.d _))],G [((3,u1),some<|.box 283 _),((5,u2),some<|.box 253 _),((7,u4),some<|.box 281 _),((8,u5),some<|.box 281 _)]⟩) (C9 Z Z) ?_)))
 refine B0<|sv Z<|sv Z<|sv Z<|sv Z<|sq Z<|sl Z (gq Z) Z (sv Z<|sv Z<|gf Z (fun _=>Z)<|gf Z (fun _=>Z)<|gf Z (fun w3=>(Q1 (A3 w3) (A3 w3) Z))<|gf Z (fun _=>Z) ?_)
 refine Ba _ (.ptr _ _) Z (L5 Z) (fun w5=>(by simp only [A3 w5];rfl)) ?_
 refine gf Z (vl Z (gq Z) Z)<|gf Z (fun w7=>(Q1 (A3 w7) (A3 w7) Z))<|sd Z (Q5 Z Z<|fun hc=>A3<|L6 hc)<|A1<|cc Z hz1 (fun c1 hz1=> ?_)<|fun c1 hz1=> ?_
 refine A4<|A5 (s0:=⟨T [],G []⟩) (C9 Z Z) ?_
 refine B0<|sv Z<|A1<|B5 ?_
 cases hz1
 rw [bL]at h
 cases h
 exact A9 (.inr Z) (B6 (B4 Z) C6) (.refl _)
 refine B1<|E6<|A5 (s0:=⟨T [(3,(.ptr _ _)),(5,(.ptr _ _)),(7,(.ptr _ _)),(8,(.ptr _ _)),(60,(.d _)),(61,(.d _))],G [((3,u1),some<|.box 283 _),((5,u2),some<|.box 253 _),((7,u4),some<|.box 281 _),((8,u5),some<|.box 281 _)]⟩) (C9 Z Z) ?_
 refine B0<|sv Z<|sv Z<|A1<|AA<|B7<|sv Z<|A1<|A4<|LH Z<|B1<|A4<|A6<|lr<|fun u18 _=>sv Z<|sv Z<|sm Z<|sv Z<|Bb Z G_hit [(di v2.x),(di v2.y)] Z (A1<|A4<|Ic Z fun u19 _=>sq Z<|sq Z<|sl Z (gq Z) Z (sq Z<|sp Z Z<|sd Z (A7 Z (gq Z) Z Z)<|sd Z (A7 Z G_hit Z Z)<|bs hz1 fun v11 hv11 hz1=>B3 Z Z A2 (M6 _ _ _ hv11) (.inl Z) (sv Z<|sq Z<|sp Z Z<|sl Z (gq Z) Z (sq Z<|sp Z Z<|sd Z (A7 Z (gq Z) Z Z)<|sd Z (A7 Z G_hit Z Z)<|bs hz1 fun v12 hv12 hz1=>B3 Z Z A2 (M6 _ _ _ hv12) (.inl Z) (sv Z<|sv Z<|sm Z<|Bb Z G_hit [(di<|C8 (p2.ends.1*v11)),(di<|C8 (p2.ends.2*v12))] Z (A1<|A4<|A5 (s0:=⟨T [(3,(.ptr _ _)),(5,(.ptr _ _)),(7,(.ptr _ _)),(8,(.ptr _ _)),(9,(.d _)),(10,(.ptr _ _)),(11,(.ptr _ _)),(60,(.d _)),(61,(.d _))],G [((3,u1),some<|.box 283 _),((5,u2),some<|.box 253 _),((7,u4),some<|.box 281 _),((8,u5),some<|.box 281 _),((10,u18),some<|.box 253 _),((11,u19),some<|.box 281 _)]⟩) (C9 Z Z) ?_))))))
 refine J2 Z<|sq Z<|sl Z G_hit Z<|sq Z<|sp Z Z<|sd Z (A7 Z G_hit Z Z)<|bs hz1 fun _ hv13 hz1=>B3 Z Z A2 (Gc _ _ hv13) (.inl Z) (sd Z (A7 Z (gq Z) Z Z)<|bs hz1 fun _ hv14 hz1=>B3 Z Z A2 (M6 _ _ _ hv14) (.inl Z) (bs hz1 fun _ hv15 hz1=>B3 Z Z A2 (Ve _ _ hv15) (.inl Z) (sv Z<|sv Z<|A1<|A4<|A5 (s0:=⟨T [(3,(.ptr _ _)),(5,(.ptr _ _)),(7,(.ptr _ _)),(8,(.ptr _ _)),(9,(.d _)),(10,(.ptr _ _)),(11,(.ptr _ _)),(12,(.d _)),(60,(.d _)),(61,(.d _))],G [((3,u1),some<|.box 283 _),((5,u2),some<|.box 253 _),((7,u4),some<|.box 281 _),((8,u5),some<|.box 281 _),((10,u18),some<|.box 253 _),((11,u19),some<|.box 281 _)]⟩) (C9 Z Z) ?_)))
 refine B0<|sd Z (A7 Z (gq Z) Z Z)<|sd Z (A7 Z (gq Z) Z Z)<|bs hz1 fun _ hv16 hz1=>B3 Z Z A2 (M6 _ _ _ hv16) (.inl Z) (sv Z<|A1<|B7<|sv Z<|sq Z<|sl Z (gq Z) Z (sq Z<|sl Z (gq Z) Z (sv Z<|sv Z<|sq Z<|sp Z Z<|sl Z G_hit Z<|bs hz1 fun v17 hv17 hz1=>B3 Z Z A2 (Jh _ _ _ hv17) (.inl Z) (C1 (di<|C8 (0 - v17)) Z Z (sv Z<|A1<|A4<|A5 (s0:=⟨T [(3,(.ptr _ _)),(5,(.ptr _ _)),(7,(.ptr _ _)),(8,(.ptr _ _)),(9,(.d _)),(11,(.ptr _ _)),(12,(.d _)),(13,(.d _)),(14,(.d _)),(60,(.d _)),(61,(.d _))],G [((3,u1),some<|.box 283 _),((5,u2),some<|.box 253 _),((7,u4),some<|.box 281 _),((8,u5),some<|.box 281 _),((11,u19),some<|.box 281 _)]⟩) (C9 Z Z) ?_)))))
 refine B0<|sq Z<|sl Z (gq Z) Z (sq Z<|sl Z (gq Z) Z (sv Z<|sv Z<|sv Z<|sq Z<|sp Z Z<|sl Z G_hit Z<|bs hz1 fun _ hv18 hz1=>B3 Z Z A2 (Jh _ _ _ hv18) (.inl Z) (sv Z<|A1<|A4<|A5 (s0:=⟨T [(3,(.ptr _ _)),(5,(.ptr _ _)),(7,(.ptr _ _)),(8,(.ptr _ _)),(9,(.d _)),(13,(.d _)),(14,(.d _)),(15,(.d _)),(60,(.d _)),(61,(.d _))],G [((3,u1),some<|.box 283 _),((5,u2),some<|.box 253 _),((7,u4),some<|.box 281 _),((8,u5),some<|.box 281 _)]⟩) (C9 Z Z) ?_)))
 refine B0<|sv Z<|sv Z<|sv Z<|sv Z<|sq Z<|sl Z (gq Z) Z (sv Z<|sv Z<|gf Z (fun _=>Z)<|gf Z (fun _=>Z)<|gf Z (fun w10=>(Q1 (A3 w10) (A3 w10) Z))<|gf Z (fun _=>Z) ?_)
 refine Ba _ (.ptr _ _) Z (L5 Z) (fun w12=>(by simp only [A3 w12];rfl)) ?_
 refine gf Z (vl Z (gq Z) Z)<|gf Z (fun w14=>(Q1 (A3 w14) (A3 w14) Z))<|sd Z (Q5 Z Z<|fun hc=>A3<|L6 hc)<|A1<|cc Z hz1 (fun c2 hz1=> ?_)<|fun c2 hz1=> ?_
 refine A4<|A5 (s0:=⟨T [],G []⟩) (C9 Z Z) ?_
 refine B0<|sv Z<|A1<|B5 ?_
 cases hz1
 rw [bL]at h
 cases h
 exact A9 (.inr Z) (B6 (B4 Z) C6) (.refl _)
 refine B1<|E6<|A5 (s0:=⟨T [(3,(.ptr _ _)),(5,(.ptr _ _)),(7,(.ptr _ _)),(8,(.ptr _ _)),(60,(.d _)),(61,(.d _))],G [((3,u1),some<|.box 283 _),((5,u2),some<|.box 253 _),((7,u4),some<|.box 281 _),((8,u5),some<|.box 281 _)]⟩) (C9 Z Z) ?_
 refine B0<|sv Z<|sv Z<|A1<|AA<|B7<|sv Z<|A1<|A4<|TQ Z<|EV Z ?_
 cases hz1
 exact U0 ⟨_,(),Z,(C9 Z Z)⟩
 rintro _ ⟨y1,g1,rfl,q1⟩
 rw [bK]at h
 refine A5 q1<|B7<|sv Z<|A1<|B5 ?_
 cases h
 exact A9 (.inr Z) (B6 (B4 Z) C6) (.refl _)
def R8 (p1:CurveCorridor)(p2:CurveCorridor):Option Bool:=
  (U6 p1 p2).bind fun v1=>((cond (!v1) (U6 p2 p1) (some default))).bind fun v2=>some ((!v1)&& (!v2))
theorem Dm(p1 p2 r)(h:R8 p1 p2=some r):PCall prog 258 [(.agg (Z9 p1)),(.agg (Z9 p2))] (bo r):=by
 refine C5 (fk func258 ntmps258 m0 (by with_unfolding_all rfl)) (nl Z) ?_
 unfold R8 at h
 refine A5 (s0:=⟨T [(0,(.d _)),(1,(.d _))],G []⟩) (C9 Z Z) ?_
 refine B7<|sm Z<|sn Z Z<|sv Z<|A1<|B7<|sv Z<|sm Z<|Bb Z G_hit [(.d (.fn (.func 272) [] [])),(.d (.fn (.func 272) [] []))] Z (A1<|B7<|sq Z<|sl Z G_hit Z<|sd Z (A7 Z (gq Z) Z Z)<|sd Z (A7 Z (gq Z) Z Z)<|bs h fun v1 hv1 h=>B3 Z Z A2 (Ip _ _ _ hv1) (.inl Z) (C1 (.d (bo (!v1))) Z Z (sv Z<|gp Z (Q0 Z) (fun _=>Z) (gt Z (vl Z G_hit Z)<|gt Z (fun _=>(A7 Z (gq Z) Z Z))<|gt Z (fun _=>(A7 Z (gq Z) Z Z))<|bs h fun v2 hv2 h=> ?_))))
 refine K7 _ (bo v2) (Q0 Z) (fun w5=>⟨_,[(.d (.agg (Z9 p2))),(.d (.agg (Z9 p1)))],_,_,(by simp only [A3 w5];rfl),Z,A2,Ip _ _ _<|D7 w5 hv2,(.inl Z)⟩) ?_
 refine Ba _ (.d (bo (!v2))) Z (Q0 Z) (fun w6=>(by simp only [A3 w6];rfl)) ?_
 refine sa Z Z Z<|sv Z<|A1<|B5 ?_
 cases h
 exact A9 (.inr Z) (B6 (B4 Z) C6) (.refl _)
def O9 (p2:CurveCorridor)(x2:(Int×Int×CurveCorridor)):Option (Stp (Int×Int×CurveCorridor) Int):=
  cond (decide (x2.1<x2.2.1)) ((R8 (CurveCorridor.mk x2.2.2.piece x2.2.2.half ((C8 ((C8 ((C8 (x2.1+x2.2.1))+1)).tdiv 2)),x2.2.2.ends.2)) p2).bind fun v2=>cond v2 (some (.go ((C8 ((C8 ((C8 (x2.1+x2.2.1))+1)).tdiv 2)),x2.2.1,(CurveCorridor.mk x2.2.2.piece x2.2.2.half ((C8 ((C8 ((C8 (x2.1+x2.2.1))+1)).tdiv 2)),x2.2.2.ends.2))))) (some (.go (x2.1,(C8 ((C8 ((C8 ((C8 (x2.1+x2.2.1))+1)).tdiv 2)) - 1)),(CurveCorridor.mk x2.2.2.piece x2.2.2.half ((C8 ((C8 ((C8 (x2.1+x2.2.1))+1)).tdiv 2)),x2.2.2.ends.2)))))) (some (.out x2.1))
def P0 (p2:CurveCorridor)(x1:(Int×Int×CurveCorridor)):Option (Stp (Int×Int×CurveCorridor) Int):=
  cond (decide (x1.1<x1.2.1)) ((R8 (CurveCorridor.mk x1.2.2.piece x1.2.2.half (x1.2.2.ends.1,(C8 ((C8 (x1.1+x1.2.1)).tdiv 2)))) p2).bind fun v1=>cond v1 (some (.go (x1.1,(C8 ((C8 (x1.1+x1.2.1)).tdiv 2)),(CurveCorridor.mk x1.2.2.piece x1.2.2.half (x1.2.2.ends.1,(C8 ((C8 (x1.1+x1.2.1)).tdiv 2))))))) (some (.go ((C8 ((C8 ((C8 (x1.1+x1.2.1)).tdiv 2))+1)),x1.2.1,(CurveCorridor.mk x1.2.2.piece x1.2.2.half (x1.2.2.ends.1,(C8 ((C8 (x1.1+x1.2.1)).tdiv 2)))))))) (some (.out x1.1))
def W0 [Lp](p1:CurveCorridor)(p2:CurveCorridor):Option (Int×Int):=
  (loop (P0 p2) (0,p1.piece.l,p1)).bind fun y1=>(loop (O9 p2) (0,p1.piece.l,p1)).bind fun y2=>some ((C8 (p1.piece.start+ (Sj true 0 (C8 (y1 - 1))))),(C8 (p1.piece.start+ (Sj false p1.piece.l (C8 (y2+1))))))
theorem Ji(p1 p2 r)(h:W0 p1 p2=some r):PCall prog 259 [(.agg (Z9 p1)),(.agg (Z9 p2))] (.tup [(i64 r.1),(i64 r.2)]):=by
 refine C5 (fk func259 ntmps259 m0 (by with_unfolding_all rfl)) (nl Z) ?_
 unfold W0 at h
 refine A5 (s0:=⟨T [(0,(.d _)),(1,(.d _))],G []⟩) (C9 Z Z) ?_
 refine lr<|fun u1 _=>sm Z<|sm Z<|sv Z<|sv Z<|A1<|A4<|EX fun u2 _=>Kg (.d _) Z (A7 Z (gq Z) Z Z) (Kg (.d _) Z (A7 Z (gq Z) Z Z) (LL (.ptr _ _) (.box _ _) Z Z (LL (.ptr _ _) (.box _ _) Z Z (Yr _ _ _ _ _ Z Z Z (gq Z) (nl Z) (N5 p1) Z (Yr _ _ _ _ _ Z Z Z (gq Z) (nl Z) (N5 p1) Z (PY ⟨Z,?_⟩))))))
 refine A4<|J2 Z<|sq Z<|sq Z<|sl Z (gq Z) Z (sv Z<|sv Z<|A1<|A4<|bs h fun y1 hy1 h=>D2 (fun s=> ∃g1:Unit,Sb ⟨T [(2,(.ptr (2,u1) 0)),(3,(.ptr (3,u1) 0)),(7,(.ptr (7,u2) 0)),(8,(di y1))],G [((2,u1),some<|.box 283 (N5 p1)),((3,u1),some<|.box 283 (N5 p2)),((7,u2),some<|.box 283 (N5 p1))]⟩ s) ?_ ?_)
 refine A6<|E7 (P0 p2) (fun (x1:(Int×Int×CurveCorridor)) (g2:Unit)=>⟨T [(2,(.ptr (2,u1) 0)),(3,(.ptr (3,u1) 0)),(6,(.ptr (6,u2) 0)),(7,(.ptr (7,u2) 0)),(8,(di x1.1)),(9,(di x1.2.1))],G [((2,u1),some<|.box 283 (N5 p1)),((3,u1),some<|.box 283 (N5 p2)),((6,u2),some<|.box 283 (N5 x1.2.2)),((7,u2),some<|.box 283 (N5 p1))]⟩) (0,p1.piece.l,p1) () _ hy1 (C9 Z Z) ?_
 intro x1 g2 z1 hz1 ez1
 unfold P0 at hz1
 refine A4<|B7<|sv Z<|sv Z<|sv Z<|A1<|cc Z hz1 (fun c1 hz1=> ?_)<|fun c1 hz1=> ?_
 refine B1<|A6<|B7<|sv Z<|sv Z<|sv Z<|sv Z<|sq Z<|sp Z Z<|Bb Z (gq Z) ((N5 x1.2.2).set 8 (di<|C8 ((C8 (x1.1+x1.2.1)).tdiv 2))) Z (A1<|B7<|sd Z (A7 Z G_hit Z Z)<|sd Z (A7 Z (gq Z) Z Z)<|bs hz1 fun _ hv1 hz1=>B3 Z Z A2 (Dm _ _ _ hv1) (.inl Z) (A1<|cc Z hz1 (fun c2 hz1=> ?_)<|fun c2 hz1=> ?_))
 refine A5 (s0:=⟨T [(2,(.ptr _ _)),(3,(.ptr _ _)),(6,(.ptr _ _)),(7,(.ptr _ _)),(8,(.d _))],G [((2,u1),some<|.box 283 _),((3,u1),some<|.box 283 _),((6,u2),some<|.box 283 _),((7,u2),some<|.box 283 _)]⟩) (C9 Z Z) ?_
 refine B0<|sq Z<|sq Z<|sl Z (gq Z) Z (sv Z<|A1<|E6<|F2 ?_)
 cases hz1
 exact ⟨Z,(),(C9 Z Z)⟩
 refine A5 (s0:=⟨T [(2,(.ptr _ _)),(3,(.ptr _ _)),(6,(.ptr _ _)),(7,(.ptr _ _)),(9,(.d _))],G [((2,u1),some<|.box 283 _),((3,u1),some<|.box 283 _),((6,u2),some<|.box 283 _),((7,u2),some<|.box 283 _)]⟩) (C9 Z Z) ?_
 refine B0<|sq Z<|sq Z<|sl Z (gq Z) Z (sv Z<|sv Z<|A1<|E6<|F2 ?_)
 cases hz1
 exact ⟨Z,(),(C9 Z Z)⟩
 refine C3 Z ?_
 cases hz1
 obtain rfl:=ez1 _ rfl
 refine ⟨nofun,B9 Z<|U0 ?_⟩
 exact ⟨(),(C9 Z Z)⟩
 rintro _ ⟨g1,q1⟩
 refine A5 q1<|B7<|sv Z<|sv Z<|A1<|A4<|J2 Z<|sq Z<|sq Z<|sl Z G_hit Z<|sv Z<|sv Z<|A1<|A4<|bs h fun y2 hy2 h=>D2 (fun s=> ∃g3:Unit,Sb ⟨T [(2,(.ptr (2,u1) 0)),(8,(di y2)),(10,(di y1))],G [((2,u1),some<|.box 283 (N5 p1))]⟩ s) ?_ ?_
 refine A6<|E7 (O9 p2) (fun (x2:(Int×Int×CurveCorridor)) (g4:Unit)=>⟨T [(2,(.ptr (2,u1) 0)),(3,(.ptr (3,u1) 0)),(7,(.ptr (7,u2) 0)),(8,(di x2.1)),(9,(di x2.2.1)),(10,(di y1))],G [((2,u1),some<|.box 283 (N5 p1)),((3,u1),some<|.box 283 (N5 p2)),((7,u2),some<|.box 283 (N5 x2.2.2))]⟩) (0,p1.piece.l,p1) () _ hy2 (C9 Z Z) ?_
 intro x2 g4 z2 hz2 ez2
 unfold O9 at hz2
 refine A4<|B7<|sv Z<|sv Z<|sv Z<|A1<|cc Z hz2 (fun c3 hz2=> ?_)<|fun c3 hz2=> ?_
 refine B1<|A6<|B7<|sv Z<|sv Z<|sv Z<|sv Z<|sv Z<|sq Z<|sp Z Z<|Bb Z (gq Z) ((N5 x2.2.2).set 7 (di<|C8 ((C8 ((C8 (x2.1+x2.2.1))+1)).tdiv 2))) Z (A1<|B7<|sd Z (A7 Z G_hit Z Z)<|sd Z (A7 Z (gq Z) Z Z)<|bs hz2 fun _ hv2 hz2=>B3 Z Z A2 (Dm _ _ _ hv2) (.inl Z) (A1<|cc Z hz2 (fun c4 hz2=> ?_)<|fun c4 hz2=> ?_))
 refine A5 (s0:=⟨T [(2,(.ptr _ _)),(3,(.ptr _ _)),(7,(.ptr _ _)),(9,(.d _)),(10,(.d _))],G [((2,u1),some<|.box 283 _),((3,u1),some<|.box 283 _),((7,u2),some<|.box 283 _)]⟩) (C9 Z Z) ?_
 refine B0<|sq Z<|sq Z<|sl Z (gq Z) Z (sv Z<|A1<|E6<|F2 ?_)
 cases hz2
 exact ⟨Z,(),(C9 Z Z)⟩
 refine A5 (s0:=⟨T [(2,(.ptr _ _)),(3,(.ptr _ _)),(7,(.ptr _ _)),(8,(.d _)),(10,(.d _))],G [((2,u1),some<|.box 283 _),((3,u1),some<|.box 283 _),((7,u2),some<|.box 283 _)]⟩) (C9 Z Z) ?_
 refine B0<|sq Z<|sq Z<|sl Z (gq Z) Z (sv Z<|sv Z<|A1<|E6<|F2 ?_)
 cases hz2
 exact ⟨Z,(),(C9 Z Z)⟩
 refine C3 Z ?_
 cases hz2
 obtain rfl:=ez2 _ rfl
 refine ⟨nofun,B9 Z<|U0 ?_⟩
 exact ⟨(),(C9 Z Z)⟩
 rintro _ ⟨g3,q2⟩
 refine A5 q2<|A4<|J2 Z<|sq Z<|sq Z<|sl Z G_hit Z<|sv Z<|sv Z<|sv Z<|sv Z<|sq Z<|sp Z Z<|sl Z G_hit Z<|sq Z<|sp Z Z<|sl Z G_hit Z<|sv Z<|sv Z<|sv Z<|sv Z<|sv Z<|sv Z<|A1<|B5 ?_
 cases h
 exact A9 (.inr Z) (Zy (B4 Z) (B4 Z) C6 C6) (.refl _)
def Y3 [Lp](p2:Int)(p4:Int)(a1:(Int×CurvePiece))(x2:(List Cross))(a2:(Int×CurvePiece)):Option (Stp (List Cross) (List Cross)):=
  (R8 (CurveCorridor.mk a1.2 p2 (0,a1.2.l)) (CurveCorridor.mk a2.2 p4 (0,a2.2.l))).bind fun v5=>cond (!v5) (some (.go x2)) ((W0 (CurveCorridor.mk a1.2 p2 (0,a1.2.l)) (CurveCorridor.mk a2.2 p4 (0,a2.2.l))).bind fun v6=>(W0 (CurveCorridor.mk a2.2 p4 (0,a2.2.l)) (CurveCorridor.mk a1.2 p2 (0,a1.2.l))).bind fun v7=>(Cj x2 [(Cross.mk v6.1 v6.2 v7.1 v7.2)]).bind fun v8=>some (.go v8))
def Y4 [Lp](p2:Int)(p3:Curve)(p4:Int)(x1:(List Cross))(a1:(Int×CurvePiece)):Option (Stp (List Cross) (List Cross)):=
  ((Ha p3.Pts).bind fun v4=>loopL (Y3 p2 p4 a1) (fun (x2:(List Cross))=>x2) v4 x1).bind fun y2=>some (.go y2)
def Er [Lp](p1:Curve)(p2:Int)(p3:Curve)(p4:Int):Option (List Cross):=
  (Aa p1).bind fun v1=>((cond (!(v1 !=0)) (Aa p3) (some default))).bind fun v2=>cond ((((v1 !=0)||(v2 !=0))||(decide ((Sj false p2 p4)<0)))||(decide ((Sj true p2 p4)>4000))) (some []) (((Ha p1.Pts).bind fun v3=>loopL (Y4 p2 p3 p4) (fun (x1:(List Cross))=>x1) v3 []).bind fun y1=>some y1)
theorem Tj(p1 p2 p3 p4 r)(h:Er p1 p2 p3 p4=some r):PCall prog 211 [(.agg [(.list (List.map M0 p1.Pts))]),(i64 p2),(.agg [(.list (List.map M0 p3.Pts))]),(i64 p4)] (.list (List.map Q6 r)):=by
 refine C5 (fk func211 ntmps211 (fun r=>if r==13 then [1002]else []) (by with_unfolding_all rfl)) (nl Z) ?_
 unfold Er at h
 refine A5 (s0:=⟨T [(0,(.d _)),(1,(.d _)),(2,(.d _)),(3,(.d _))],G []⟩) (C9 Z Z) ?_
 refine lr<|fun u1 _=>sm Z<|sm Z<|sn Z Z<|sm Z<|sv Z<|A1<|A4<|B7<|sd Z (A7 Z (gq Z) Z Z)<|bs h fun _ hv1 h=>B3 Z Z A2 (Je _ _ hv1) (.inl Z) (sv Z<|sv Z<|gf Z (fun _=>(A7 Z (gq Z) Z Z))<|bs h fun v2 hv2 h=> ?_)
 refine K7 _ (i64 v2) (L5 Z) (fun w2=>⟨_,[(.d (.agg [(.list (List.map M0 p3.Pts))]))],_,_,(by simp only [A3 w2];rfl),Z,A2,Je _ _<|D7 w2 hv2,(.inl Z)⟩) ?_
 refine gf Z (vb Z Z Z)<|sd Z (Q5 Z Z<|fun hc=>A3<|L6 hc)<|sv Z<|gf Z (fun _=>(Fr Z (gq Z) Z))<|gf Z (fun _=>(Fr Z G_hit Z)) ?_
 refine gf Z (fun w6=>(by simp only [A3 w6];rfl)) ?_
 refine gf Z (vb Z Z Z)<|sd Z (Q5 Z Z<|fun hc=>A3<|L6 hc)<|sv Z<|gf Z (fun _=>(Fr Z (gq Z) Z))<|gf Z (fun _=>(Fr Z G_hit Z)) ?_
 refine gf Z (fun w10=>(by simp only [A3 w10];rfl)) ?_
 refine gf Z (vb Z Z Z)<|sd Z (Q5 Z Z<|fun hc=>A3<|L6 hc)<|A1<|cc Z h (fun c1 h=> ?_)<|fun c1 h=> ?_
 refine A4<|A5 (s0:=⟨T [],G []⟩) (C9 Z Z) ?_
 refine B0<|sv Z<|A1<|B5 ?_
 cases h
 exact A9 (.inr Z) (B6 (B4 Z) C6) DLe.nil
 refine B1<|A4<|A5 (s0:=⟨T [(4,(.ptr _ _)),(5,(.ptr _ _)),(6,(.ptr _ _)),(7,(.ptr _ _)),(8,(.d _))],G [((4,u1),some<|.box 39 _),((5,u1),some<|.box 2 _),((6,u1),some<|.box 39 _),((7,u1),some<|.box 2 _)]⟩) (C9 Z Z) ?_
 refine Bw fun u4 _=>sm Z<|A1<|A4<|B7<|sd Z (A7 Z (gq Z) Z Z)<|B3 Z Z A2 (Qw p1) (.inl Z) (A1<|bs h fun y1 hy1 h=>D2 (fun s=> ∃g1:Nat,Sb ⟨T [(9,(.ptr (9,u4) 0))],G [((9,u4),some<|.box 229 [(oS y1 (80,g1))]),((80,g1),oB 226 4 Q6 y1)]⟩ s) ?_ ?_)
 refine A6<|bs hy1 fun v3 hv3 hy1=>A5 (s0:=⟨T [(5,(.ptr _ _)),(6,(.ptr _ _)),(7,(.ptr _ _)),(8,(.d _)),(9,(.ptr _ _)),(38,(.d _))],G [((5,u1),some<|.box 2 _),((6,u1),some<|.box 39 _),((7,u1),some<|.box 2 _),((9,u4),some<|.box 229 _)]⟩) (C9 Z Z) ?_
 refine AF (.fn (.func 271) [] [(.bp [(.list (List.map M0 p1.Pts))] 0)]) We v3 (Y4 p2 p3 p4) (fun (x1:(List Cross))=>x1) (fun (x1:(List Cross)) (g2:Nat)=> [((5,u1),some<|.box 2 [(di p2)]),((6,u1),some<|.box 39 [(dl M0 p3.Pts)]),((7,u1),some<|.box 2 [(di p4)]),((9,u4),some<|.box 229 [(oS x1 (80,g2))]),((80,g2),oB 226 4 Q6 x1)]) [] 0 _ Z (Qx hv3) (fun _=>Z) hy1 (C0 trivial<|B2 G_hit (.of Z)<|sg Z<|sg Z<|sg Z<|U9 trivial) nofun ?_ ?_
 intro u7 hu7 hku7
 refine ⟨fun x1 g2=>(N4 Z<|N4 Z<|N4 Z<|N4 Z<|N4 Z Z),?_⟩
 intro r1 x1 g2 a1 z1 hrr1 hz1 ez1
 unfold Y4 at hz1
 show Dw _ _ _ _ _ _ ⟨T [(40,(.d (.agg (Qt a1.2)))),(39,(di a1.1)),(5,(.ptr (5,u1) 0)),(6,(.ptr (6,u1) 0)),(7,(.ptr (7,u1) 0)),(8,(.d .nilS)),(9,(.ptr (9,u4) 0)),(38,(.d (.fn (.func 271) [] [(.bp [(.list (List.map M0 p1.Pts))] 0)])))],G [((1000000,u7),some (.obj (T [(5,(.ptr (5,u1) 0)),(6,(.ptr (6,u1) 0)),(7,(.ptr (7,u1) 0)),(8,(.d .nilS)),(9,(.ptr (9,u4) 0)),(38,(.d (.fn (.func 271) [] [(.bp [(.list (List.map M0 p1.Pts))] 0)])))]) r1)),((5,u1),some (.box 2 [(di p2)])),((6,u1),some (.box 39 [(dl M0 p3.Pts)])),((7,u1),some (.box 2 [(di p4)])),((9,u4),some (.box 229 [(oS x1 (80,g2))])),((80,g2),oB 226 4 Q6 x1)]⟩
 refine Bw fun u8 _=>sm Z<|Bb Z G_hit (R3 a1.2) Z (A1<|U0<|JR (gq Z) ?_)
 refine A6<|B7<|sd Z (A7 Z (gq Z) Z Z)<|B3 Z Z A2 (Qw p3) (.inl Z) (A1<|bs hz1 fun y2 hy2 hz1=>D2 (fun s=> ∃g3:Nat,Sb ⟨T [],G [((5,u1),some<|.box 2 [(di p2)]),((6,u1),some<|.box 39 [(dl M0 p3.Pts)]),((7,u1),some<|.box 2 [(di p4)]),((9,u4),some<|.box 229 [(oS y2 (80,g3))]),((1000000,u7),some<|.obj (T [(5,(.ptr (5,u1) 0)),(6,(.ptr (6,u1) 0)),(7,(.ptr (7,u1) 0)),(8,(.d .nilS)),(9,(.ptr (9,u4) 0)),(38,(.d (.fn (.func 271) [] [(.bp [(.list (List.map M0 p1.Pts))] 0)])))]) {r1 with state:= .busy}),((80,g3),oB 226 4 Q6 y2)]⟩ s) ?_ ?_)
 refine A6<|bs hy2 fun v4 hv4 hy2=>A5 (s0:=⟨T [(5,(.ptr (5,u1) 0)),(7,(.ptr (7,u1) 0)),(9,(.ptr (9,u4) 0)),(11,(.ptr (11,u8) 0)),(42,(.d (.fn (.func 271) [] [(.bp [(.list (List.map M0 p3.Pts))] 0)])))],G [((5,u1),some<|.box 2 [(di p2)]),((7,u1),some<|.box 2 [(di p4)]),((9,u4),some<|.box 229 [(oS x1 (80,g2))]),((80,g2),oB 226 4 Q6 x1),((11,u8),some<|.box 280 (R3 a1.2)),((6,u1),some<|.box 39 [(dl M0 p3.Pts)]),((1000000,u7),some<|.obj (T [(5,(.ptr (5,u1) 0)),(6,(.ptr (6,u1) 0)),(7,(.ptr (7,u1) 0)),(8,(.d .nilS)),(9,(.ptr (9,u4) 0)),(38,(.d (.fn (.func 271) [] [(.bp [(.list (List.map M0 p1.Pts))] 0)])))]) {r1 with state:= .busy})]⟩) (C0 (T3 Z)<|sg Z<|sg Z<|sg Z<|C2 (gq Z)<|sg Z<|sg Z<|B2 G_hit (.of Z) trivial) ?_
 refine AF (.fn (.func 271) [] [(.bp [(.list (List.map M0 p3.Pts))] 0)]) We v4 (Y3 p2 p4 a1) (fun (x2:(List Cross))=>x2) (fun (x2:(List Cross)) (g4:Nat)=> [((5,u1),some<|.box 2 [(di p2)]),((7,u1),some<|.box 2 [(di p4)]),((9,u4),some<|.box 229 [(oS x2 (80,g4))]),((11,u8),some<|.box 280 (R3 a1.2)),((6,u1),some<|.box 39 [(dl M0 p3.Pts)]),((1000000,u7),some<|.obj (T [(5,(.ptr (5,u1) 0)),(6,(.ptr (6,u1) 0)),(7,(.ptr (7,u1) 0)),(8,(.d .nilS)),(9,(.ptr (9,u4) 0)),(38,(.d (.fn (.func 271) [] [(.bp [(.list (List.map M0 p1.Pts))] 0)])))]) {r1 with state:= .busy}),((80,g4),oB 226 4 Q6 x2)]) x1 g2 _ Z (Qx hv4) (fun _=>Z) hy2 (C0 trivial<|B2 G_hit (.of Z)<|sg Z<|sg Z<|sg Z<|sg Z<|sg Z<|C2 (gq Z) trivial) (fun _ hk=>by cases hk;exact ⟨_,_,(gq rfl)⟩) ?_ ?_
 intro u11 hu11 hku11
 refine ⟨fun x2 g4=>(N4 Z<|N4 Z<|N4 Z<|N4 Z<|N4 Z<|Ov (Ne.symm<|Lx hu11<|gq Z)<|N4 Z Z),?_⟩
 intro r2 x2 g4 a2 z2 hrr2 hz2 ez2
 unfold Y3 at hz2
 show Dw _ _ _ _ _ _ ⟨T [(44,(.d (.agg (Qt a2.2)))),(43,(di a2.1)),(5,(.ptr (5,u1) 0)),(7,(.ptr (7,u1) 0)),(9,(.ptr (9,u4) 0)),(11,(.ptr (11,u8) 0)),(42,(.d (.fn (.func 271) [] [(.bp [(.list (List.map M0 p3.Pts))] 0)])))],G [((1000000,u11),some (.obj (T [(5,(.ptr (5,u1) 0)),(7,(.ptr (7,u1) 0)),(9,(.ptr (9,u4) 0)),(11,(.ptr (11,u8) 0)),(42,(.d (.fn (.func 271) [] [(.bp [(.list (List.map M0 p3.Pts))] 0)])))]) r2)),((5,u1),some (.box 2 [(di p2)])),((7,u1),some (.box 2 [(di p4)])),((9,u4),some (.box 229 [(oS x2 (80,g4))])),((11,u8),some (.box 280 (R3 a1.2))),((6,u1),some (.box 39 [(dl M0 p3.Pts)])),((1000000,u7),some (.obj (T [(5,(.ptr (5,u1) 0)),(6,(.ptr (6,u1) 0)),(7,(.ptr (7,u1) 0)),(8,(.d .nilS)),(9,(.ptr (9,u4) 0)),(38,(.d (.fn (.func 271) [] [(.bp [(.list (List.map M0 p1.Pts))] 0)])))]) {r1 with state:= .busy})),((80,g4),oB 226 4 Q6 x2)]⟩
 refine B0<|sm Z<|Bb Z G_hit (R3 a2.2) Z (A1<|U0<|JR (gq Z) ?_)
 refine A6<|A4<|EX fun u13 _=>Kg (.d _) Z (A7 Z (gq Z) Z Z) (Kg (.d _) Z (Fr Z (gq Z) Z) (Kg (.ptr _ _) Z Z (Kg (.d _) Z (Fr Z (gq Z) Z) (Kg (.d _) Z Z (Kg (.d _) Z Z (Kg (.d _) Z (A7 Z (gq Z) Z Z) (Kg (.d _) Z (Fr Z (gq Z) Z) (Kg (.ptr _ _) Z Z (Kg (.d _) Z (Fr Z (gq Z) Z) (Kg (.d _) Z Z (Kg (.d _) Z Z (LL (.ptr _ _) (.box _ _) Z Z (LL (.ptr _ _) (.box _ _) Z Z (Yr _ _ _ _ _ Z Z Z (gq Z) (nl Z) ((R3 a1.2)++ [(di p2),(di 0),(di a1.2.l)]) Z (Yr _ _ _ _ _ Z Z Z (gq Z) (nl Z) ((R3 a2.2)++ [(di p4),(di 0),(di a2.2.l)]) Z (PY ⟨Z,?_⟩))))))))))))))))
 refine A4<|A4<|A5 (s0:=⟨T [(9,(.ptr (9,u4) 0)),(14,(.ptr (14,u13) 0)),(15,(.ptr (15,u13) 0))],G [((9,u4),some<|.box 229 [(oS x2 (80,g4))]),((80,g4),oB 226 4 Q6 x2),((14,u13),some<|.box 283 ((R3 a1.2)++ [(di p2),(di 0),(di a1.2.l)])),((15,u13),some<|.box 283 ((R3 a2.2)++ [(di p4),(di 0),(di a2.2.l)])),((5,u1),some<|.box 2 [(di p2)]),((6,u1),some<|.box 39 [(dl M0 p3.Pts)]),((7,u1),some<|.box 2 [(di p4)]),((11,u8),some<|.box 280 (R3 a1.2)),((1000000,u7),some<|.obj (T [(5,(.ptr (5,u1) 0)),(6,(.ptr (6,u1) 0)),(7,(.ptr (7,u1) 0)),(8,(.d .nilS)),(9,(.ptr (9,u4) 0)),(38,(.d (.fn (.func 271) [] [(.bp [(.list (List.map M0 p1.Pts))] 0)])))]) {r1 with state:= .busy}),((1000000,u11),some<|.obj (T [(5,(.ptr (5,u1) 0)),(7,(.ptr (7,u1) 0)),(9,(.ptr (9,u4) 0)),(11,(.ptr (11,u8) 0)),(42,(.d (.fn (.func 271) [] [(.bp [(.list (List.map M0 p3.Pts))] 0)])))]) {r2 with state:= .busy})]⟩) (C0 (T3 Z)<|sg Z<|C2 (gq Z)<|sg Z<|B2 G_hit (.of Z)<|sg Z<|sg Z<|sg Z<|sg Z<|B2 (YR 4 Z<|Ov (Lx hu11<|gq Z)<|N4 Z<|N4 Z<|Ov (Lx hu11<|gq Z)<|gq Z) (.of Z) (sg Z trivial)) ?_
 refine B0<|sd Z (A7 Z (gq Z) Z Z)<|sd Z (A7 Z (gq Z) Z Z)<|bs hz2 fun v5 hv5 hz2=>B3 Z Z A2 (Dm _ _ _ hv5) (.inl Z) (C1 (.d (bo (!v5))) Z Z (A1<|cc Z hz2 (fun c2 hz2=> ?_)<|fun c2 hz2=> ?_))
 refine EV Z<|F2 ?_
 cases hz2
 exact JS (N4 Z<|N4 Z<|N4 Z<|N4 Z<|N4 Z<|N4 Z<|N4 Z<|N4 Z<|Ov (Ne.symm<|Lx hu11<|gq Z) G_hit) g4 (sg Z<|sg Z<|B2 G_hit (.of Z)<|sg Z<|sg Z<|sg Z<|C2 (gq Z) trivial)
 refine B1<|lr<|fun u15 _=>sm Z<|A1<|B7<|sd Z (A7 Z (gq Z) Z Z)<|sd Z (A7 Z (gq Z) Z Z)<|bs hz2 fun v6 hv6 hz2=>B3 Z Z A2 (Ji _ _ _ hv6) (.inl Z) (sv Z<|sv Z<|sv Z<|sq Z<|Bb Z G_hit [(di v6.1),(di 0),(di 0),(di 0)] Z (sq Z<|Bb Z G_hit [(di v6.1),(di v6.2),(di 0),(di 0)] Z (A1<|A4<|A5 (s0:=⟨T [(9,(.ptr (9,u4) 0)),(14,(.ptr (14,u13) 0)),(15,(.ptr (15,u13) 0)),(16,(.ptr (16,u15) 0))],G [((9,u4),some<|.box 229 [(oS x2 (80,g4))]),((80,g4),oB 226 4 Q6 x2),((14,u13),some<|.box 283 ((R3 a1.2)++ [(di p2),(di 0),(di a1.2.l)])),((15,u13),some<|.box 283 ((R3 a2.2)++ [(di p4),(di 0),(di a2.2.l)])),((16,u15),some<|.box 226 [(di v6.1),(di v6.2),(di 0),(di 0)]),((5,u1),some<|.box 2 [(di p2)]),((6,u1),some<|.box 39 [(dl M0 p3.Pts)]),((7,u1),some<|.box 2 [(di p4)]),((11,u8),some<|.box 280 (R3 a1.2)),((1000000,u7),some<|.obj (T [(5,(.ptr (5,u1) 0)),(6,(.ptr (6,u1) 0)),(7,(.ptr (7,u1) 0)),(8,(.d .nilS)),(9,(.ptr (9,u4) 0)),(38,(.d (.fn (.func 271) [] [(.bp [(.list (List.map M0 p1.Pts))] 0)])))]) {r1 with state:= .busy}),((1000000,u11),some<|.obj (T [(5,(.ptr (5,u1) 0)),(7,(.ptr (7,u1) 0)),(9,(.ptr (9,u4) 0)),(11,(.ptr (11,u8) 0)),(42,(.d (.fn (.func 271) [] [(.bp [(.list (List.map M0 p3.Pts))] 0)])))]) {r2 with state:= .busy})]⟩) (C0 (T3 Z)<|sg Z<|C2 (gq Z)<|sg Z<|sg Z<|B2 G_hit (.of Z)<|sg Z<|sg Z<|sg Z<|sg Z<|sg Z<|B2 (YR 11 Z<|Ov (Ne.symm<|Lx hu11<|gq Z) G_hit) (.of Z) trivial) ?_)))
 refine B0<|sd Z (A7 Z (gq Z) Z Z)<|sd Z (A7 Z (gq Z) Z Z)<|bs hz2 fun v7 hv7 hz2=>B3 Z Z A2 (Ji _ _ _ hv7) (.inl Z) (sv Z<|sv Z<|sv Z<|sq Z<|Bb Z (gq Z) [(di v6.1),(di v6.2),(di v7.1),(di 0)] Z (sq Z<|Bb Z G_hit [(di v6.1),(di v6.2),(di v7.1),(di v7.2)] Z (A1<|A5 (s0:=⟨T [(9,(.ptr (9,u4) 0)),(16,(.ptr (16,u15) 0))],G [((9,u4),some<|.box 229 [(oS x2 (80,g4))]),((80,g4),oB 226 4 Q6 x2),((16,u15),some<|.box 226 [(di v6.1),(di v6.2),(di v7.1),(di v7.2)]),((5,u1),some<|.box 2 [(di p2)]),((6,u1),some<|.box 39 [(dl M0 p3.Pts)]),((7,u1),some<|.box 2 [(di p4)]),((11,u8),some<|.box 280 (R3 a1.2)),((1000000,u7),some<|.obj (T [(5,(.ptr (5,u1) 0)),(6,(.ptr (6,u1) 0)),(7,(.ptr (7,u1) 0)),(8,(.d .nilS)),(9,(.ptr (9,u4) 0)),(38,(.d (.fn (.func 271) [] [(.bp [(.list (List.map M0 p1.Pts))] 0)])))]) {r1 with state:= .busy}),((1000000,u11),some<|.obj (T [(5,(.ptr (5,u1) 0)),(7,(.ptr (7,u1) 0)),(9,(.ptr (9,u4) 0)),(11,(.ptr (11,u8) 0)),(42,(.d (.fn (.func 271) [] [(.bp [(.list (List.map M0 p3.Pts))] 0)])))]) {r2 with state:= .busy})]⟩) (C0 (T3 Z)<|sg Z<|C2 (gq Z)<|B2 G_hit (.of Z)<|sg Z<|sg Z<|sg Z<|sg Z<|sg Z<|B2 (YR 11 Z<|Ov (Ne.symm<|Lx hu11<|gq Z) G_hit) (.of Z) trivial) ?_)))
 refine Bw fun u18 _=>C1 (oS x2 (80,g4)) Z (Fr Z G_hit Z) (sd Z (A7 Z (gq Z) Z Z)<|C1 (dl Q6 [(Cross.mk v6.1 v6.2 v7.1 v7.2)]) Z Z (bs hz2 fun _ hv8 hz2=>N9 Q6 (80,g4) x2 (Cross.mk v6.1 v6.2 v7.1 v7.2) [] _ (J7<|fun _=>Z) Z (gq Z) hv8 (Bb Z (gq Z) [(.sl (80,u18))] Z (A1<|E6<|F2 ?_))))
 cases hz2
 exact JS (N4 Z<|N4 Z<|N4 Z<|N4 Z<|N4 Z<|N4 Z<|N4 Z<|N4 Z<|N4 Z<|N4 Z<|Ov (Ne.symm<|Lx hu11<|gq Z) G_hit) u18 (sg Z<|sg Z<|B2 G_hit (.box (.cons (.of (Dy<|T1 hv8).symm) .nil))<|sg Z<|sg Z<|sg Z<|U8 (gq Z) trivial)
 rintro x2 g4 _ rfl qx2
 refine E6<|U0 ?_
 exact ⟨g4,(Sb.after qx2<|C0 trivial<|B2 G_hit (.of Z)<|sg Z<|sg Z<|sg Z<|sg Z<|C2 (gq Z) trivial)⟩
 rintro _ ⟨g3,q1⟩
 refine E6<|F2 ?_
 cases hz1
 exact TR q1 (gq Z) g3 (B2 G_hit (.of Z)<|sg Z<|sg Z<|sg Z<|C2 (gq Z) trivial)
 rintro x1 g2 _ rfl qx1
 refine E6<|U0 ?_
 exact ⟨g2,(Sb.after qx1<|C0 ⟨.of Z,trivial⟩<|sg Z<|C2 (gq Z) trivial)⟩
 rintro _ ⟨g1,q2⟩
 refine A5 q2<|B7<|C1 (oS y1 (80,g1)) Z (Fr Z G_hit Z) (C1 (oS y1 (80,g1)) Z Z (A1<|B5 ?_))
 cases h
 exact A9 (.inr Z) (B6 (B4 Z)<|Ea<|gq Z) Dz
def Z6 [Lp](p1:Zone)(p2:Int)(p3:Int)(p4:Cross):Option Bool:=
  (X9 p1 p2).bind fun v1=>(X9 p1 p3).bind fun v2=>some (((((v1.2&&v2.2)&& (decide (v1.1.From≤p4.FromA)))&& (decide (p4.ToA≤v1.1.To)))&& (decide (v2.1.From≤p4.FromB)))&& (decide (p4.ToB≤v2.1.To)))
theorem Lb(p1 p2 p3 p4 r)(h:Z6 p1 p2 p3 p4=some r):PCall prog 209 [(.agg [(.list (List.map H9 p1.Parts)),(i64 p1.Signal_)]),(.bp [(i64 p2)] 0),(.bp [(i64 p3)] 0),(.bp (Q6 p4) 0)] (bo r):=by
 refine C5 (fk func209 ntmps209 m0 (by with_unfolding_all rfl)) (nl Z) ?_
 unfold Z6 at h
 refine A5 (s0:=⟨T [(0,(.d _)),(1,(.d _)),(2,(.d _)),(3,(.d _))],G []⟩) (C9 Z Z) ?_
 refine B7<|sm Z<|sv Z<|A1<|lr<|fun u2 _=>sd Z (A7 Z G_hit Z Z)<|sv Z<|bs h fun v1 hv1 h=>B3 Z Z A2 (Fh _ _ _ hv1) (.inl Z) (sv Z<|sv Z<|sv Z<|sm Z<|Bb Z G_hit (Fz v1.1) Z (sv Z<|A1<|lr<|fun u3 _=>sd Z (A7 Z (gq Z) Z Z)<|sv Z<|bs h fun v2 hv2 h=>B3 Z Z A2 (Fh _ _ _ hv2) (.inl Z) (sv Z<|sv Z<|sv Z<|sm Z<|Bb Z G_hit (Fz v2.1) Z (sv Z<|A1<|A4<|A5 (s0:=⟨T [(3,(.d _)),(6,(.ptr _ _)),(7,(.d _)),(8,(.ptr _ _)),(9,(.d _))],G [((6,u2),some<|.box 91 _),((8,u3),some<|.box 91 _)]⟩) (C9 Z Z) ?_))))
 refine B0<|sv Z<|sv Z<|gt Z (fun _=>Z)<|sa Z Z Z<|sv Z<|gp Z (Q0 Z) (fun _=>Z) (gt Z (vl Z G_hit Z)<|gt Z (fun _=>Z) ?_)
 refine gt Z (fun w5=>(by simp only [A3 w5];rfl)) ?_
 refine gt Z (fun w6=>(Q1 (A3 w6) (A3 w6) Z))<|sa Z Z Z<|sv Z<|gt Z (fun _=>Z) ?_
 refine gt Z (fun w8=>(by simp only [A3 w8];rfl)) ?_
 refine gp Z (Q0 Z) (fun _=>Z) (gt Z (vl Z G_hit Z)<|gt Z (fun w11=>(Q1 (A3 w11) (A3 w11) Z))<|sa Z Z Z<|sv Z<|gp Z (Q0 Z) (fun _=>Z) (gt Z (vl Z (gq Z) Z)<|gt Z (fun _=>Z) ?_))
 refine gt Z (fun w15=>(by simp only [A3 w15];rfl)) ?_
 refine gt Z (fun w16=>(Q1 (A3 w16) (A3 w16) Z))<|sa Z Z Z<|sv Z<|gt Z (fun _=>Z) ?_
 refine gt Z (fun w18=>(by simp only [A3 w18];rfl)) ?_
 refine gp Z (Q0 Z) (fun _=>Z) (gt Z (vl Z (gq Z) Z)<|gt Z (fun w21=>(Q1 (A3 w21) (A3 w21) Z))<|sa Z Z Z<|sv Z<|A1<|B5 ?_)
 cases h
 exact A9 (.inr Z) (B6 (B4 Z) C6) (.refl _)
def H6 [Lp](p1:(List Zone))(p2:Int)(p3:Int)(p4:Cross)(x1:Int):Option (Stp Int (Sum Unit Int)):=
  cond (decide (x1< (p1.length:Int))) ((E5 p1 x1).bind fun v1=>(Z6 v1 p2 p3 p4).bind fun v2=>cond v2 (some (.out (.inr x1))) (some (.go (C8 (x1+1))))) (some (.out (.inl ())))
def K4 [Lp](p1:(List Zone))(p2:Int)(p3:Int)(p4:Cross):Option Int:=
  thenS (loop (H6 p1 p2 p3 p4) 0) (fun _=>some (-1)) (fun r=>some r)
theorem Bh(p1 p2 p3 p4 r)(h:K4 p1 p2 p3 p4=some r):PCall prog 243 [(.list (List.map Q9 p1)),(.fn (.func 209) [] [(.bp [(i64 p2)] 0),(.bp [(i64 p3)] 0),(.bp (Q6 p4) 0)])] (i64 r):=by
 refine C5 (fk func243 ntmps243 m0 (by with_unfolding_all rfl)) (nl Z) ?_
 unfold K4 at h
 refine A5 (s0:=⟨T [(0,(.d _)),(1,(.d _))],G []⟩) (C9 Z Z) ?_
 refine B7<|sv Z<|A1<|A4<|B7<|sv Z<|sd Z (D0 Z)<|sv Z<|A1<|js h fun z1 hz1 h=>D2 (fun s=> ∃(y1:Unit) (g1:Unit),z1= .inl y1∧Sb ⟨T [],G []⟩ s) ?_ ?_
 refine A6<|E7 (H6 p1 p2 p3 p4) (fun (x1:Int) (g2:Unit)=>⟨T [(0,(dl Q9 p1)),(1,(.d (.fn (.func 209) [] [(.bp [(i64 p2)] 0),(.bp [(i64 p3)] 0),(.bp (Q6 p4) 0)]))),(7,(di (p1.length:Int))),(8,(di x1))],G []⟩) 0 () _ hz1 (C9 Z Z) ?_
 intro x1 g2 z2 hz2 ez2
 unfold H6 at hz2
 refine B7<|sv Z<|A1<|A4<|cc Z hz2 (fun c1 hz2=> ?_)<|fun c1 hz2=> ?_
 refine B1<|A4<|A6<|B7<|sv Z<|sv Z<|A1<|B7<|sv Z<|sv Z<|sv Z<|bs hz2 fun _ hv1 hz2=>sd Z (C7 Z Z hv1 Z)<|sd Z (D5 Z hv1 Z Z)<|bs hz2 fun _ hv2 hz2=>B3 Z Z A2 (Lb _ _ _ _ _ hv2) (.inl Z) (A1<|cc Z hz2 (fun c2 hz2=> ?_)<|fun c2 hz2=> ?_)
 refine B7<|sv Z<|sv Z<|A1<|B5 ?_
 cases hz2
 obtain rfl:=ez2 _ rfl
 refine ⟨nofun,F6 ?_⟩
 rw [bL]at h
 cases h
 exact A9 (.inr Z) (B6 (B4 Z) C6) (.refl _)
 refine B1<|E6<|B0<|sv Z<|sv Z<|A1<|F2 ?_
 cases hz2
 exact ⟨Z,(),(C9 Z Z)⟩
 refine C3 Z ?_
 cases hz2
 obtain rfl:=ez2 _ rfl
 refine ⟨nofun,B9 Z<|U0 ?_⟩
 exact ⟨_,(),Z,(C9 Z Z)⟩
 rintro _ ⟨y1,g1,rfl,q1⟩
 rw [bK]at h
 refine A5 q1<|B7<|sv Z<|A1<|B5 ?_
 cases h
 exact A9 (.inr Z) (B6 (B4 Z) C6) (.refl _)
def J4 [Lp](p1:(List Zone))(p2:Int)(p3:Int)(p4:Cross):Option Bool:=
  (K4 p1 p2 p3 p4).bind fun v1=>some (decide (v1≥0))
theorem Al(p1 p2 p3 p4 r)(h:J4 p1 p2 p3 p4=some r):PCall prog 179 [(.list (List.map Q9 p1)),(.fn (.func 209) [] [(.bp [(i64 p2)] 0),(.bp [(i64 p3)] 0),(.bp (Q6 p4) 0)])] (bo r):=by
 refine C5 (fk func179 ntmps179 m0 (by with_unfolding_all rfl)) (nl Z) ?_
 unfold J4 at h
 refine A5 (s0:=⟨T [(0,(.d _)),(1,(.d _))],G []⟩) (C9 Z Z) ?_
 refine B7<|sv Z<|A1<|B7<|sv Z<|sv Z<|bs h fun _ hv1 h=>B3 Z Z A2 (Bh _ _ _ _ _ hv1) (.inl Z) (sv Z<|sv Z<|A1<|B5 ?_)
 cases h
 exact A9 (.inr Z) (B6 (B4 Z) C6) (.refl _)
def V6 [Lp](p1:Cross)(p2:Map)(p3:Int)(p4:Int):Option Bool:=
  (J4 p2.Zones p3 p4 p1).bind fun v1=>some (!v1)
theorem Mv(p1 p2 p3 p4 r)(h:V6 p1 p2 p3 p4=some r):PCall prog 208 [(.agg (Q6 p1)),(.bp (L8 p2) 0),(.bp [(i64 p3)] 0),(.bp [(i64 p4)] 0)] (bo r):=by
 refine C5 (fk func208 ntmps208 m0 (by with_unfolding_all rfl)) (nl Z) ?_
 unfold V6 at h
 refine A5 (s0:=⟨T [(0,(.d _)),(1,(.d _)),(2,(.d _)),(3,(.d _))],G []⟩) (C9 Z Z) ?_
 refine B7<|sm Z<|sv Z<|A1<|B7<|sv Z<|sv Z<|C1 (.fn _ _ _) Z Z (bs h fun v1 hv1 h=>B3 Z (rD<|L9 (Qq I0<|rD<|rD<|L9 (Fq G_hit<|rD<|rD<|rD<|rD I0) I0) I0) A2 (Al _ _ _ _ _ hv1) (.inr Z) (C1 (.d (bo (!v1))) Z Z (sv Z<|A1<|B5 ?_)))
 cases h
 exact A9 (.inr Z) (B6 (B4 Z) C6) (.refl _)
def H7 [Lp](p1:(List Cross))(p2:Map)(p3:Int)(p4:Int)(x1:Int):Option (Stp Int (Sum Unit Int)):=
  cond (decide (x1< (p1.length:Int))) ((E5 p1 x1).bind fun v1=>(V6 v1 p2 p3 p4).bind fun v2=>cond v2 (some (.out (.inr x1))) (some (.go (C8 (x1+1))))) (some (.out (.inl ())))
def K5 [Lp](p1:(List Cross))(p2:Map)(p3:Int)(p4:Int):Option Int:=
  thenS (loop (H7 p1 p2 p3 p4) 0) (fun _=>some (-1)) (fun r=>some r)
theorem Bi(p1 p2 p3 p4 r)(h:K5 p1 p2 p3 p4=some r):PCall prog 256 [(.list (List.map Q6 p1)),(.fn (.func 208) [] [(.bp (L8 p2) 0),(.bp [(i64 p3)] 0),(.bp [(i64 p4)] 0)])] (i64 r):=by
 refine C5 (fk func256 ntmps256 m0 (by with_unfolding_all rfl)) (nl Z) ?_
 unfold K5 at h
 refine A5 (s0:=⟨T [(0,(.d _)),(1,(.d _))],G []⟩) (C9 Z Z) ?_
 refine B7<|sv Z<|A1<|A4<|B7<|sv Z<|sd Z (D0 Z)<|sv Z<|A1<|js h fun z1 hz1 h=>D2 (fun s=> ∃(y1:Unit) (g1:Unit),z1= .inl y1∧Sb ⟨T [],G []⟩ s) ?_ ?_
 refine A6<|E7 (H7 p1 p2 p3 p4) (fun (x1:Int) (g2:Unit)=>⟨T [(0,(dl Q6 p1)),(1,(.d (.fn (.func 208) [] [(.bp (L8 p2) 0),(.bp [(i64 p3)] 0),(.bp [(i64 p4)] 0)]))),(7,(di (p1.length:Int))),(8,(di x1))],G []⟩) 0 () _ hz1 (C9 Z Z) ?_
 intro x1 g2 z2 hz2 ez2
 unfold H7 at hz2
 refine B7<|sv Z<|A1<|A4<|cc Z hz2 (fun c1 hz2=> ?_)<|fun c1 hz2=> ?_
 refine B1<|A4<|A6<|B7<|sv Z<|sv Z<|A1<|B7<|sv Z<|sv Z<|sv Z<|bs hz2 fun _ hv1 hz2=>sd Z (C7 Z Z hv1 Z)<|sd Z (D5 Z hv1 Z Z)<|bs hz2 fun _ hv2 hz2=>B3 Z Z A2 (Mv _ _ _ _ _ hv2) (.inl Z) (A1<|cc Z hz2 (fun c2 hz2=> ?_)<|fun c2 hz2=> ?_)
 refine B7<|sv Z<|sv Z<|A1<|B5 ?_
 cases hz2
 obtain rfl:=ez2 _ rfl
 refine ⟨nofun,F6 ?_⟩
 rw [bL]at h
 cases h
 exact A9 (.inr Z) (B6 (B4 Z) C6) (.refl _)
 refine B1<|E6<|B0<|sv Z<|sv Z<|A1<|F2 ?_
 cases hz2
 exact ⟨Z,(),(C9 Z Z)⟩
 refine C3 Z ?_
 cases hz2
 obtain rfl:=ez2 _ rfl
 refine ⟨nofun,B9 Z<|U0 ?_⟩
 exact ⟨_,(),Z,(C9 Z Z)⟩
 rintro _ ⟨y1,g1,rfl,q1⟩
 rw [bK]at h
 refine A5 q1<|B7<|sv Z<|A1<|B5 ?_
 cases h
 exact A9 (.inr Z) (B6 (B4 Z) C6) (.refl _)
def H8 [Lp](p1:(List Cross))(p2:Map)(p3:Int)(p4:Int):Option Bool:=
  (K5 p1 p2 p3 p4).bind fun v1=>some (decide (v1≥0))
theorem Am(p1 p2 p3 p4 r)(h:H8 p1 p2 p3 p4=some r):PCall prog 210 [(.list (List.map Q6 p1)),(.fn (.func 208) [] [(.bp (L8 p2) 0),(.bp [(i64 p3)] 0),(.bp [(i64 p4)] 0)])] (bo r):=by
 refine C5 (fk func210 ntmps210 m0 (by with_unfolding_all rfl)) (nl Z) ?_
 unfold H8 at h
 refine A5 (s0:=⟨T [(0,(.d _)),(1,(.d _))],G []⟩) (C9 Z Z) ?_
 refine B7<|sv Z<|A1<|B7<|sv Z<|sv Z<|bs h fun _ hv1 h=>B3 Z Z A2 (Bi _ _ _ _ _ hv1) (.inl Z) (sv Z<|sv Z<|A1<|B5 ?_)
 cases h
 exact A9 (.inr Z) (B6 (B4 Z) C6) (.refl _)
def Ah [Lp](p1:Map)(x1:((List Clash)×Int))(v1:Lane)(x2:((List Clash)×Int)):Option (Stp ((List Clash)×Int) (List Clash)):=
  cond (decide (x2.2< (p1.Lanes.length:Int))) (((E5 p1.Lanes x2.2).bind fun v2=>(Mh p1 x1.2 x2.2).bind fun v3=>cond v3 (some x2.1) ((Er v1.Curve_ v1.Half v2.Curve_ v2.Half).bind fun v4=>(H8 v4 p1 x1.2 x2.2).bind fun v5=>cond v5 ((Cj x2.1 [(Clash.mk 5 (-1) x1.2 x2.2)]).bind fun v6=>some v6) (some x2.1))).bind fun y3=>some (.go (y3,(C8 (x2.2+1))))) (some (.out x2.1))
def Cp [Lp](p1:Map)(x1:((List Clash)×Int)):Option (Stp ((List Clash)×Int) (List Clash)):=
  cond (decide (x1.2< (p1.Lanes.length:Int))) ((E5 p1.Lanes x1.2).bind fun v1=>(loop (Ah p1 x1 v1) (x1.1,(C8 (x1.2+1)))).bind fun y2=>some (.go (y2,(C8 (x1.2+1))))) (some (.out x1.1))
def Gd [Lp](p1:Map):Option (List Clash):=
  (loop (Cp p1) ([],0)).bind fun y1=>some y1
theorem Vf(p1 r)(h:Gd p1=some r):PCall prog 113 [(.agg (L8 p1))] (.list (List.map B8 r)):=by
 refine C5 (fk func113 ntmps113 (fun r=>if r==11 then [1004]else []) (by with_unfolding_all rfl)) (nl Z) ?_
 unfold Gd at h
 refine A5 (s0:=⟨T [(0,(.d _))],G []⟩) (C9 Z Z) ?_
 refine lr<|fun u1 _=>sm Z<|sv Z<|A1<|A4<|B7<|sq Z<|sl Z G_hit Z<|sd Z (D0 Z)<|sv Z<|A1<|bs h fun y1 hy1 h=>D2 (fun s=> ∃g1:Nat,Sb ⟨T [(2,(oS y1 (51,g1)))],G [((51,g1),oB 93 4 B8 y1)]⟩ s) ?_ ?_
 refine A6<|E7 (Cp p1) (fun (x1:((List Clash)×Int)) (g2:Nat)=>⟨T [(1,(.ptr (1,u1) 0)),(2,(oS x1.1 (51,g2))),(9,(dl Dg p1.Lanes)),(10,(di (p1.Lanes.length:Int))),(11,(di x1.2))],G [((1,u1),some<|.box 27 (I7 p1)),((51,g2),oB 93 4 B8 x1.1)]⟩) ([],0) 0 _ hy1 (C0 (T3 Z)<|B2 G_hit (.of Z)<|U9 trivial) ?_
 intro x1 g2 z1 hz1 ez1
 unfold Cp at hz1
 refine B7<|sv Z<|A1<|A4<|cc Z hz1 (fun c1 hz1=> ?_)<|fun c1 hz1=> ?_
 refine B1<|A4<|A6<|lr<|fun u4 _=>sv Z<|bs hz1 fun v1 hv1 hz1=>sd Z (C7 Z Z hv1 Z)<|sd Z (D5 Z hv1 Z Z)<|sm Z<|sn Z Z<|Bb Z (gq Z) [(di x1.2)] Z (Bb Z (gq Z) (Ft v1) Z (A1<|lr<|fun u5 _=>sl Z (gq Z) Z (sv Z<|sm Z<|Bb Z G_hit [(di<|C8 (x1.2+1))] Z (A1<|bs hz1 fun y2 hy2 hz1=>D2 (fun s=> ∃g3:Nat,Sb ⟨T [(1,(.ptr (1,u1) 0)),(2,(oS y2 (51,g3))),(9,(dl Dg p1.Lanes)),(10,(di (p1.Lanes.length:Int))),(11,(di x1.2))],G [((1,u1),some<|.box 27 (I7 p1)),((51,g3),oB 93 4 B8 y2)]⟩ s) ?_ ?_))))
 refine A6<|E7 (Ah p1 x1 v1) (fun (x2:((List Clash)×Int)) (g4:(Nat×Nat))=>⟨T [(1,(.ptr (1,u1) 0)),(2,(oS x2.1 (51,g4.1))),(3,(.ptr (3,u4) 0)),(4,(.ptr (4,u4) 0)),(5,(.ptr (5,g4.2) 0)),(9,(dl Dg p1.Lanes)),(10,(di (p1.Lanes.length:Int))),(11,(di x1.2))],G [((1,u1),some<|.box 27 (I7 p1)),((3,u4),some<|.box 3 [(di x1.2)]),((4,u4),some<|.box 42 (Ft v1)),((51,g4.1),oB 93 4 B8 x2.1),((5,g4.2),some<|.box 3 [(di x2.2)])]⟩) (x1.1,(C8 (x1.2+1))) (g2,u5) _ hy2 (C0 (T3 Z)<|sg Z<|sg Z<|sg Z<|C2 (gq Z)<|B2 G_hit (.of Z) trivial) ?_
 intro x2 g4 z2 hz2 ez2
 unfold Ah at hz2
 refine A4<|B7<|sl Z (gq Z) Z (sq Z<|sl Z G_hit Z<|sd Z (D0 Z)<|sv Z<|A1<|cc Z hz2 (fun c2 hz2=> ?_)<|fun c2 hz2=> ?_)
 refine B1<|A4<|bs hz2 fun y3 hy3 hz2=>D2 (fun s=> ∃g5:Nat,Sb ⟨T [(1,(.ptr (1,u1) 0)),(2,(oS y3 (51,g5))),(3,(.ptr (3,u4) 0)),(4,(.ptr (4,u4) 0)),(5,(.ptr (5,g4.2) 0)),(9,(dl Dg p1.Lanes)),(10,(di (p1.Lanes.length:Int))),(11,(di x1.2))],G [((1,u1),some<|.box 27 (I7 p1)),((3,u4),some<|.box 3 [(di x1.2)]),((4,u4),some<|.box 42 (Ft v1)),((5,g4.2),some<|.box 3 [(di x2.2)]),((51,g5),oB 93 4 B8 y3)]⟩ s) ?_ ?_
 refine A6<|lr<|fun u7 _=>sq Z<|sl Z G_hit Z<|sl Z (gq Z) Z (bs hy3 fun v2 hv2 hy3=>sd Z (C7 Z Z hv2 Z)<|sd Z (D5 Z hv2 Z Z)<|sm Z<|Bb Z G_hit (Ft v2) Z (A1<|A4<|A4<|A5 (s0:=⟨T [(1,(.ptr (1,u1) 0)),(2,(oS x2.1 (51,g4.1))),(3,(.ptr (3,u4) 0)),(4,(.ptr (4,u4) 0)),(5,(.ptr (5,g4.2) 0)),(6,(.ptr (6,u7) 0)),(9,(dl Dg p1.Lanes)),(10,(di (p1.Lanes.length:Int))),(11,(di x1.2))],G [((1,u1),some<|.box 27 (I7 p1)),((51,g4.1),oB 93 4 B8 x2.1),((3,u4),some<|.box 3 [(di x1.2)]),((4,u4),some<|.box 42 (Ft v1)),((5,g4.2),some<|.box 3 [(di x2.2)]),((6,u7),some<|.box 42 (Ft v2))]⟩) (C0 (T3 Z)<|sg Z<|C2 (gq Z)<|sg Z<|sg Z<|sg Z<|B2 G_hit (.of Z) trivial) ?_))
 refine B0<|sd Z (A7 Z G_hit Z Z)<|sl Z (gq Z) Z (sl Z (gq Z) Z (bs hy3 fun _ hv3 hy3=>B3 Z Z A2 (CH _ _ _ _ hv3) (.inl Z) (A1<|cc Z hy3 (fun c3 hy3=> ?_)<|fun c3 hy3=> ?_)))
 refine EV Z ?_
 cases hy3
 exact U0 ⟨g4.1,(C0 (T3 Z)<|B2 G_hit (.of Z)<|sg Z<|sg Z<|sg Z<|C2 (gq Z) trivial)⟩
 refine B1<|B7<|C1 (.fn _ _ _) Z Z (C1 (.fn _ _ _) Z Z (A1<|B7<|sq Z<|sd Z (A7 Z (gq Z) Z Z)<|sq Z<|sl Z (gq Z) Z (sq Z<|sd Z (A7 Z (gq Z) Z Z)<|sq Z<|sl Z (gq Z) Z (bs hy3 fun _ hv4 hy3=>B3 Z Z A2 (Tj _ _ _ _ _ hv4) (.inl Z) (C1 (.fn _ _ _) Z Z (bs hy3 fun _ hv5 hy3=>B3 Z (rD<|L9 (Qq I0<|L9 (Fq G_hit<|rD<|rD<|rD<|rD<|rD I0)<|L9 (Fq (gq Z)<|rD I0)<|L9 (Fq (gq Z)<|rD I0) I0) I0) A2 (Am _ _ _ _ _ hv5) (.inr Z) (A1<|cc Z hy3 (fun c4 hy3=> ?_)<|fun c4 hy3=> ?_)))))))
 refine A5 (s0:=⟨T [(1,(.ptr (1,u1) 0)),(2,(oS x2.1 (51,g4.1))),(3,(.ptr (3,u4) 0)),(4,(.ptr (4,u4) 0)),(5,(.ptr (5,g4.2) 0)),(9,(dl Dg p1.Lanes)),(10,(di (p1.Lanes.length:Int))),(11,(di x1.2))],G [((1,u1),some<|.box 27 (I7 p1)),((51,g4.1),oB 93 4 B8 x2.1),((3,u4),some<|.box 3 [(di x1.2)]),((4,u4),some<|.box 42 (Ft v1)),((5,g4.2),some<|.box 3 [(di x2.2)])]⟩) (C0 (T3 Z)<|B2 G_hit (.of Z)<|C2 (gq Z)<|sg Z<|sg Z<|sg Z trivial) ?_
 refine Bw fun u11 _=>C1 (oS x2.1 (51,g4.1)) Z Z (sl Z (gq Z) Z (sl Z (gq Z) Z (sv Z<|C1 (dl B8 [(Clash.mk 5 (-1) x1.2 x2.2)]) Z Z (bs hy3 fun _ hv6 hy3=>N9 B8 (51,g4.1) x2.1 (Clash.mk 5 (-1) x1.2 x2.2) [] _ (J7<|fun _=>Z) Z (gq Z) hv6 (ss Z<|A1<|E6 ?_)))))
 cases hy3
 exact U0 ⟨u11,(C0 ⟨.of Z,(.of (Dy<|T1 hv6).symm), .of Z, .of Z, .of Z, .of Z, .of Z, .of Z,trivial⟩<|sg Z<|sg Z<|sg Z<|sg Z<|U8 G_hit trivial)⟩
 refine B1<|E6 ?_
 cases hy3
 exact U0 ⟨g4.1,(C0 (T3 Z)<|B2 G_hit (.of Z)<|sg Z<|sg Z<|sg Z<|C2 (gq Z) trivial)⟩
 rintro _ ⟨g5,q1⟩
 refine A5 q1<|A4<|B7<|sl Z (gq Z) Z (A1<|Bw fun u13 _=>sm Z<|Bb Z G_hit [(di x2.2)] Z (A1<|B0<|sl Z G_hit Z<|sv Z<|Bb Z G_hit [(di<|C8 (x2.2+1))] Z (A1<|F2 ?_)))
 cases hz2
 exact ⟨Z,(g5,u13),(C0 (T3 Z)<|sg Z<|sg Z<|sg Z<|C2 (gq Z)<|B2 G_hit (.of Z) trivial)⟩
 refine C3 Z ?_
 cases hz2
 obtain rfl:=ez2 _ rfl
 refine ⟨nofun,B9 Z<|U0 ?_⟩
 exact ⟨g4.1,(C0 (T3 Z)<|B2 G_hit (.of Z)<|C2 (gq Z) trivial)⟩
 rintro _ ⟨g3,q2⟩
 refine E6<|A5 q2<|B0<|sv Z<|sv Z<|A1<|F2 ?_
 cases hz1
 exact ⟨Z,g3,(C0 (T3 Z)<|B2 G_hit (.of Z)<|C2 (gq Z) trivial)⟩
 refine C3 Z ?_
 cases hz1
 obtain rfl:=ez1 _ rfl
 refine ⟨nofun,B9 Z<|U0 ?_⟩
 exact ⟨g2,(C0 ⟨.of Z,trivial⟩<|C2 (gq Z) trivial)⟩
 rintro _ ⟨g1,q3⟩
 refine A5 q3<|B7<|C1 (oS y1 (51,g1)) Z Z (C1 (oS y1 (51,g1)) Z Z (A1<|B5 ?_))
 cases h
 exact A9 (.inr Z) (B6 (B4 Z)<|Ea G_hit) Dz
section
open Go.RowKit Go.Lib
def QT:Go.Shelf.Ren:=⟨fun n=>if n=4 then 206 else 0,fun t=>if t=22 then 60 else if t=25 then 93 else t,fun x=>x⟩
theorem Xo:Lays8.n4 prog QT where
  mixed:=by kernel_rfl
  f4:=⟨Tryz.f206.name,by decide,by kernel_rfl⟩
  t0:=Tryz.underlying0
  a0:=Tryz.isAgg0
  z0:=Tryz.sizeOf0
  v0:=Tryz.zeroValue0
  t3:=Tryz.underlying3
  a3:=Tryz.isAgg3
  z3:=Tryz.sizeOf3
  v3:=Tryz.zeroValue3
  t4:=Tryz.underlying4
  a4:=Tryz.isAgg4
  z4:=Tryz.sizeOf4
  v4:=Tryz.zeroValue4
  t9:=Tryz.underlying9
  a9:=Tryz.isAgg9
  z9:=Tryz.sizeOf9
  v9:=Tryz.zeroValue9
  t20:=Tryz.underlying20
  a20:=Tryz.isAgg20
  z20:=Tryz.sizeOf20
  v20:=Tryz.zeroValue20
  t22:=Tryz.underlying60
  a22:=Tryz.isAgg60
  z22:=Tryz.sizeOf60
  v22:=Tryz.zeroValue60
theorem FD: ∃(i:TypeInfo) (z:Value),prog.info? 93=some i∧i.zero=some z∧i.size=4∧i.bytes=32∧z.cells.size=4:=by
  have e:((prog.info? 93).bind fun i=>i.zero.map fun z=>(i.size,i.bytes,z.cells.size))=some (4,32,4):=by kernel_rfl
  cases hi:prog.info? 93 with
  |none=>rw [hi]at e;cases e
  |some i=>
   rw [hi]at e
   cases hz:i.zero with
   |none=>simp [hz]at e
   |some z=>
    simp only [lA,hz,lE,Option.some.injEq,Prod.mk.injEq]at e
    exact ⟨i,z,Z,hz,e.1,e.2.1,e.2.2⟩
theorem MY (n:Int)(h1:0<n)(h2:n≤1000000):MCall prog 206 [.d .nilS, .d (i64 n)] [] (.sl (800000,0)) [] [some (.arr 93 4 [])]:=by
  refine ⟨Z,fun vs w=> ?_,fun w I ρ vs H hlen hrep=> ?_⟩
  ·have hn': ¬Tryz.f206.name= "runtime.NumGoroutine" :=by decide
   have hb: ∃c,Tryz.f206.body=some c:=⟨_,rfl⟩
   obtain ⟨c,hb⟩:=hb
   simp [callFunc,func206,hb,hn']
  obtain ⟨a,b,rfl⟩: ∃a b,vs= [a,b]:=by
    match vs,hlen with
    | [a,b],_=>exact ⟨a,b,rfl⟩
  have r0:=hrep 0 _ rfl
  have r1:=hrep 1 _ rfl
  simp only [List.getD_cons_zero,List.getD_cons_succ]at r0 r1
  cases r0 with|d _ _ r0=> ?_
  cases r0 with|nilS A=> ?_
  cases r1 with|d _ _ r1=> ?_
  cases r1
  obtain ⟨i,z,hi,hz,hs,hb,hzs⟩:=FD
  obtain ⟨m,hm⟩: ∃m:Nat,n=m:=⟨n.toNat,by omega⟩
  subst hm
  have hc:=Any8.slices_Grow_grow Xo i z hi hz (by omega) A 0 0 m [] w (bN _) (by omega) (by rw [hb];omega) (by omega) (by simp) (fun _=>rfl) (fun _ _ j _ h=>by simp at h)
  refine hc.mono ?_
  rintro e w' ⟨he,hw'⟩
  obtain ⟨u0,hu0⟩:=H.fresh
  have hk0:ρ (7,u0)=none:=hu0 7 u0 (bN _)
  have hge:=grownCap_ge w (0+m) 0 93
  have hle:=grownCap_le_maxLen w (0+m) 0 93 (by unfold maxLen;omega)
  obtain ⟨cap,hcap⟩: ∃c,c=grownCap w (0+m) 0 93:=⟨_,rfl⟩
  rw [← hcap]at hge hle
  obtain ⟨cur,hcur⟩: ∃c,c=([]:List Value).toArray++Builtin.zeroCells z.cells (0+m - 0)++Builtin.zeroCells z.cells (cap - (0+m)):=⟨_,rfl⟩
  have he:e= .returned (.slice (some ⟨w.heap.size,0,none⟩) 0 cap):=by rw [hcap];exact he
  have hw':w'=w.drew.alloc (.cells cur 93):=by rw [hcur,hcap];exact hw'
  subst he
  have hsz:cur.size=cap*4:=by
    rw [hcur]
    simp only [Array.size_append,List.size_toArray,List.length_nil,size_zeroCells,hzs]
    omega
  have how:w'.ownsRow 0 93 4 (.slice (some ⟨w.heap.size,0,none⟩) 0 cap) 0 []:=by rw [hw'];exact World.ownsRow_made w.drew cur cap (bO _) hle hsz
  have hold: ∀k,k<w.heap.size→w'.heap[k]? =w.heap[k]?:=fun k hk=>by rw [hw'];exact heap_alloc_old w.drew _ hk
  have hsize:w'.heap.size=w.heap.size+1:=by rw [hw'];show (w.heap.push _).size=_;simp
  clear hcur hcap hge hle hsz hc
  have hos:w'.os=w.os∧w'.tape=w.tape∧w'.output=w.output:=by rw [hw'];exact ⟨rfl,rfl,rfl⟩
  have H0:HeapOK w' I ρ (fun _=>none):=⟨fun k b hb=>(by cases hb),fun k k' b b' g h1=>(by cases h1),fun k b g h1=>(by cases h1),fun k b g h1=>(by cases h1),fun b hb=>by have:=H.ilt b hb;omega,⟨u0,hu0⟩,H.rone⟩
  have hloc: ∀k,L7 (W3 ρ (7,u0) (some (Value.slice (some ⟨w.heap.size,0,none⟩) 0 cap))) (7,u0) (.arr 93 4 [])=some k→k=w.heap.size:=by
    intro k hk
    have:some w.heap.size=some k:=by simpa [L7,F5,Value.ownBlock] using hk
    exact (lC this).symm
  have Hn:=FZ H0 (7,u0) (Value.slice (some ⟨w.heap.size,0,none⟩) 0 cap) (.arr 93 4 []) hk0 rfl (fun k hk=>by
    rw [hloc k hk]
    exact ⟨fun ⟨k,b,h,_⟩=>(by cases h),fun hI=>by have:=H.ilt _ hI;omega,by omega⟩)
    ⟨_,[],F5 _ _ _,how,by simp,by intro i j d hd;simp [Lo]at hd⟩
  refine ⟨_, .sl (7,u0),I,_,_,Z, .sl _ _ (F5 _ _ _),Hn,⟨hos.1,hos.2.1,hos.2.2,by omega,fun b hb _=>hold b hb,fun _ hb=>hb,fun _ hb _=> .inl hb,?_,ED hk0⟩,fun _=>(7,u0),Z,?_,?_,?_,?_⟩
  ·rintro k ⟨k',b',h1,h2⟩ hl
   by_cases ek:k'=(7,u0)
   ·subst ek
    rw [F5]at h1
    cases h1
    have:=hloc k h2;omega
   ·rw [I6 _ _ _ _ ek]at h1;cases h1
  ·intro j b hb
   simp at hb
  ·intro j b hb
   match j,hb with
   |0,hb=>cases hb;exact F5 _ _ _
   |j+1,hb=>simp at hb
  ·intro j _ i hi e;simp at hi
  ·intro j j' h1 h2 _
   simp only [lJ,List.length_nil]at h1 h2
   omega
theorem MZ:PCall prog 206 [.nilS,i64 0] .nilS:=by
  refine ⟨fun vs w=> ?_,fun w I vs hI hlen hrep=> ?_⟩
  ·have hn': ¬Tryz.f206.name= "runtime.NumGoroutine" :=by decide
   have hb: ∃c,Tryz.f206.body=some c:=⟨_,rfl⟩
   obtain ⟨c,hb⟩:=hb
   simp [callFunc,func206,hb,hn']
  obtain ⟨a,b,rfl⟩: ∃a b,vs= [a,b]:=by
    match vs,hlen with
    | [a,b],_=>exact ⟨a,b,rfl⟩
  have r0:=hrep 0 _ rfl
  have r1:=hrep 1 _ rfl
  simp only [List.getD_cons_zero,List.getD_cons_succ]at r0 r1
  cases r0 with|nilS A=> ?_
  cases r1
  refine (Any8.slices_Grow_room Xo A 0 0 0 w (bN _) (by omega) (by omega) (by omega)).mono ?_
  rintro e w' ⟨rfl,rfl⟩
  exact ⟨_,I,Z, .nilS A,Z,Z,Z,bN _,fun _ _=>Z,fun _ hb=>hb,fun _ hb _=>hb,hI⟩
theorem NA {α:Type}{e:α→List D}{v:Unit}(n:Int)(h:HJ n=some v):MCall prog 206 [.d .nilS, .d (i64 n)] [] (oW (decide (n>0)) ([]:List α) (800000,0)) [] [wB (decide (n>0)) 93 4 e ([]:List α)]:=by
  obtain ⟨h0,h1⟩:=QP h
  by_cases q:n>0
  ·rw [l5 q];exact MY n q h1
  ·obtain rfl:n=0:=by omega
   exact MCall.ofP (ds:= [.nilS,i64 0]) MZ
end
def O0 (p1:(List (List Clash)))(x2:((List Clash)×Int)):Option (Stp ((List Clash)×Int) (List Clash)):=
  cond (decide (x2.2< (p1.length:Int))) ((E5 p1 x2.2).bind fun v3=>(Cj x2.1 v3).bind fun v4=>some (.go (v4,(C8 (x2.2+1))))) (some (.out x2.1))
def O1 (p1:(List (List Clash)))(x1:(Int×Int)):Option (Stp (Int×Int) Int):=
  cond (decide (x1.2< (p1.length:Int))) ((E5 p1 x1.2).bind fun v1=>cond (decide ((C8 (x1.1+ (v1.length:Int)))<0)) (none) (some (.go ((C8 (x1.1+ (v1.length:Int))),(C8 (x1.2+1)))))) (some (.out x1.1))
def S9 [Lp](p1:(List (List Clash))):Option (List Clash):=
  (loop (O1 p1) (0,0)).bind fun y1=>(HJ y1).bind fun v2=>(loop (O0 p1) (([]:List Clash),0)).bind fun y2=>some y2
theorem Kq(p1 r)(h:S9 p1=some r):PCall prog 112 [(.list (List.map Nv p1))] (.list (List.map B8 r)):=by
 refine C5 (fk func112 ntmps112 (fun r=>if r==9 then [1009001]else []) (by with_unfolding_all rfl)) (nl Z) ?_
 unfold S9 at h
 refine A5 (s0:=⟨T [(0,(.d _))],G []⟩) (C9 Z Z) ?_
 refine B7<|sv Z<|A1<|B7<|sv Z<|A1<|A4<|B7<|sv Z<|sd Z (D0 Z)<|sv Z<|A1<|bs h fun y1 hy1 h=>D2 (fun s=> ∃g1:Unit,Sb ⟨T [(0,(dl Nv p1)),(3,(di y1))],G []⟩ s) ?_ ?_
 refine A6<|E7 (O1 p1) (fun (x1:(Int×Int)) (g2:Unit)=>⟨T [(0,(dl Nv p1)),(3,(di x1.1)),(9,(dl Nv p1)),(10,(di (p1.length:Int))),(11,(di x1.2))],G []⟩) (0,0) () _ hy1 (C9 Z Z) ?_
 intro x1 g2 z1 hz1 ez1
 unfold O1 at hz1
 refine B7<|sv Z<|A1<|A4<|cc Z hz1 (fun c1 hz1=> ?_)<|fun c1 hz1=> ?_
 refine B1<|A4<|A6<|B7<|bs hz1 fun _ hv1 hz1=>sd Z (C7 Z Z hv1 Z)<|sd Z (D9 Z hv1 Z)<|sv Z<|A1<|B7<|sv Z<|sv Z<|sd Z (D0 Z)<|sv Z<|sv Z<|A1<|B7<|sv Z<|sv Z<|A1<|cc Z hz1 (fun c2 hz1=> ?_)<|fun c2 hz1=> ?_
 refine B0<| ?_
 cases hz1
 refine B1<|E6<|B0<|sv Z<|sv Z<|A1<|F2 ?_
 cases hz1
 exact ⟨Z,(),(C9 Z Z)⟩
 refine C3 Z ?_
 cases hz1
 obtain rfl:=ez1 _ rfl
 refine ⟨nofun,B9 Z<|U0 ?_⟩
 exact ⟨(),(C9 Z Z)⟩
 rintro _ ⟨g1,q1⟩
 refine A5 q1<|lr<|fun u10 _=>sv Z<|bs h fun _ hv2 h=>QI (UF (α:=Clash) (b:=(decide (y1>0))) (e:=B8) (NA _ hv2) Z)<|C1 (oW (decide (y1>0)) ([]:List Clash) (10090010,u10)) Z Z (A1<|A4<|B7<|sv Z<|sd Z (D0 Z)<|sv Z<|A1<|bs h fun y2 hy2 h=>D2 (fun s=> ∃g3:(({d:Nat // d∈ [33,10090010]}×Nat)×Bool),Sb ⟨T [(6,(oW g3.2 y2 (g3.1.1.val,g3.1.2)))],G [((g3.1.1.val,g3.1.2),wB g3.2 93 4 B8 y2)]⟩ s) ?_ ?_)
 refine A6<|E7 (O0 p1) (fun (x2:((List Clash)×Int)) (g4:(({d:Nat // d∈ [33,10090010]}×Nat)×Bool))=>⟨T [(6,(oW g4.2 x2.1 (g4.1.1.val,g4.1.2))),(25,(dl Nv p1)),(26,(di (p1.length:Int))),(27,(di x2.2))],G [((g4.1.1.val,g4.1.2),wB g4.2 93 4 B8 x2.1)]⟩) (([]:List Clash),0) ((⟨10090010, .tail _ (.head _)⟩,u10),(decide (y1>0))) _ hy2 (C0 (T3 Z)<|JW G_hit trivial) ?_
 intro x2 g4 z2 hz2 ez2
 unfold O0 at hz2
 refine B7<|sv Z<|A1<|A4<|cc Z hz2 (fun c3 hz2=> ?_)<|fun c3 hz2=> ?_
 refine B1<|A4<|A6<|B7<|bs hz2 fun v3 hv3 hz2=>sd Z (C7 Z Z hv3 Z)<|sd Z (D9 Z hv3 Z)<|sv Z<|A1<|Bw fun u14 hu14=>C1 (oW g4.2 x2.1 (g4.1.1.val,g4.1.2)) Z Z (sv Z<|bs hz2 fun v4 hv4 hz2=>MV B8 g4.2 (g4.1.1.val,g4.1.2) x2.1 v3 _ (J7<|fun _=>Z) Z G_hit hv4 (Ly hu14) (C1 (oW g4.2 v4 (33,u14)) Z Z (A1<|E6<|B0<|sv Z<|sv Z<|A1<|F2 ?_)))
 cases hz2
 exact ⟨Z,((⟨33, .head _⟩,u14),g4.2),(C0 (T3 Z)<|JW G_hit trivial)⟩
 refine C3 Z ?_
 cases hz2
 obtain rfl:=ez2 _ rfl
 refine ⟨nofun,B9 Z<|U0 ?_⟩
 exact ⟨((g4.1.1,g4.1.2),g4.2),(C0 ⟨.of Z,trivial⟩<|JW G_hit trivial)⟩
 rintro _ ⟨g3,q2⟩
 refine A5 q2<|B7<|C1 (oW g3.2 y2 (g3.1.1.val,g3.1.2)) Z Z (C1 (oW g3.2 y2 (g3.1.1.val,g3.1.2)) Z Z (A1<|B5 ?_))
 cases h
 exact A9 (.inr Z) (B6 (B4 Z)<|YL G_hit) YK
def Hp [Lp](p1:Map):Option (List Clash):=
  (W6 p1).bind fun v1=>cond (v1 !=0) (some []) ((As p1).bind fun v2=>(Au p1).bind fun v3=>(Co p1).bind fun v4=>(Av p1).bind fun v5=>(Gd p1).bind fun v6=>(S9 [v2,v3,v4,v5,v6]).bind fun v7=>some v7)
theorem Wi(p1 r)(h:Hp p1=some r):PCall prog 27 [(.agg (L8 p1))] (.list (List.map B8 r)):=by
 refine C5 (fk func27 ntmps27 (fun r=>if r==3 then [1010]else []) (by with_unfolding_all rfl)) (nl Z) ?_
 unfold Hp at h
 refine A5 (s0:=⟨T [(0,(.d _))],G []⟩) (C9 Z Z) ?_
 refine B7<|sm Z<|sv Z<|A1<|A4<|B7<|sd Z (A7 Z G_hit Z Z)<|bs h fun _ hv1 h=>B3 Z Z A2 (Gb _ _ hv1) (.inl Z) (sv Z<|A1<|cc Z h (fun c1 h=> ?_)<|fun c1 h=> ?_)
 refine B7<|sv Z<|A1<|B5 ?_
 cases h
 exact A9 (.inr Z) (B6 (B4 Z) C6) DLe.nil
 refine B1<|A4<|J2 Z<|sd Z (A7 Z G_hit Z Z)<|bs h fun v2 hv2 h=>B3 Z Z A2 (Pn _ _ hv2) (.inl Z) (sd Z (A7 Z G_hit Z Z)<|bs h fun v3 hv3 h=>B3 Z Z A2 (Po _ _ hv3) (.inl Z) (sd Z (A7 Z G_hit Z Z)<|bs h fun v4 hv4 h=>B3 Z Z A2 (Rb _ _ hv4) (.inl Z) (sd Z (A7 Z G_hit Z Z)<|bs h fun v5 hv5 h=>B3 Z Z A2 (Pp _ _ hv5) (.inl Z) (sd Z (A7 Z G_hit Z Z)<|bs h fun v6 hv6 h=>B3 Z Z A2 (Vf _ _ hv6) (.inl Z) (C1 (dl Nv [v2,v3,v4,v5,v6]) Z Z (bs h fun _ hv7 h=>B3 Z Z A2 (Kq _ _ hv7) (.inl Z) (sv Z<|A1<|B5 ?_)))))))
 cases h
 exact A9 (.inr Z) (B6 (B4 Z) C6) (.refl _)
def Aw (p1:Int)(p2:Int)(p3:Int):Option Bool:=
  some ((decide (p1≥p2))&& (decide (p1≤p3)))
theorem Cd(p1 p2 p3 r)(h:Aw p1 p2 p3=some r):PCall prog 71 [(i64 p1),(i64 p2),(i64 p3)] (bo r):=by
 refine C5 (fk func71 ntmps71 m0 (by with_unfolding_all rfl)) (nl Z) ?_
 unfold Aw at h
 refine A5 (s0:=⟨T [(0,(.d _)),(1,(.d _)),(2,(.d _))],G []⟩) (C9 Z Z) ?_
 refine B7<|sv Z<|A1<|B7<|sv Z<|sv Z<|sv Z<|sv Z<|gt Z (fun _=>Z)<|gt Z (fun _=>Z)<|gt Z (fun w3=>(Q1 (A3 w3) (A3 w3) Z))<|sa Z Z Z<|sv Z<|A1<|B5 ?_
 cases h
 exact A9 (.inr Z) (B6 (B4 Z) C6) (.refl _)
def Kj (p1:Spot):Option Bool:=
  some ((((decide (p1.X≥(-16777216)))&& (decide (p1.X≤16777216)))&& (decide (p1.Y≥(-16777216))))&& (decide (p1.Y≤16777216)))
theorem AX(p1 r)(h:Kj p1=some r):PCall prog 238 [(.agg [(i64 p1.X),(i64 p1.Y)])] (bo r):=by
 refine C5 (fk func238 ntmps238 m0 (by with_unfolding_all rfl)) (nl Z) ?_
 unfold Kj at h
 refine A5 (s0:=⟨T [(0,(.d _))],G []⟩) (C9 Z Z) ?_
 refine B7<|sm Z<|sv Z<|A1<|B7<|sq Z<|sl Z G_hit Z<|sv Z<|sv Z<|gp Z (Q0 Z) (fun _=>Z) (gt Z (vl Z G_hit Z)<|gt Z (vb Z Z Z)<|sa Z Z Z<|sv Z<|gp Z (Q0 Z) (fun _=>Z) (gt Z (vl Z G_hit Z)<|gt Z (vb Z Z Z)<|sa Z Z Z<|sv Z<|gp Z (Q0 Z) (fun _=>Z) (gt Z (vl Z G_hit Z)<|gt Z (vb Z Z Z)<|sa Z Z Z<|sv Z<|A1<|B5 ?_)))
 cases h
 exact A9 (.inr Z) (B6 (B4 Z) C6) (.refl _)
def X2 (p1:Spot)(p2:Spot):Option Spot:=
  some (Spot.mk (C8 (p1.X - p2.X)) (C8 (p1.Y - p2.Y)))
theorem Dn(p1 p2 r)(h:X2 p1 p2=some r):PCall prog 239 [(.agg [(i64 p1.X),(i64 p1.Y)]),(.agg [(i64 p2.X),(i64 p2.Y)])] (.agg [(i64 r.X),(i64 r.Y)]):=by
 refine C5 (fk func239 ntmps239 m0 (by with_unfolding_all rfl)) (nl Z) ?_
 unfold X2 at h
 refine A5 (s0:=⟨T [(0,(.d _)),(1,(.d _))],G []⟩) (C9 Z Z) ?_
 refine B7<|sm Z<|sn Z Z<|sm Z<|A1<|B7<|sq Z<|sl Z (gq Z) Z (sq Z<|sl Z (gq Z) Z (sv Z<|sq Z<|sl Z (gq Z) Z (sq Z<|sl Z (gq Z) Z (sv Z<|sv Z<|Bb Z G_hit [(di<|C8 (p1.X - p2.X)),(di<|C8 (p1.Y - p2.Y))] Z (A1<|B5 ?_)))))
 cases h
 exact A9 (.inr Z) (B6 (Bf Z G_hit (nl Z) Z) C6) (.refl _)
def Ce (p1:Spot)(p2:Spot):Option Int:=
  some (C8 ((C8 (p1.X*p2.X))+ (C8 (p1.Y*p2.Y))))
theorem Cq(p1 p2 r)(h:Ce p1 p2=some r):PCall prog 241 [(.agg [(i64 p1.X),(i64 p1.Y)]),(.agg [(i64 p2.X),(i64 p2.Y)])] (i64 r):=by
 refine C5 (fk func241 ntmps241 m0 (by with_unfolding_all rfl)) (nl Z) ?_
 unfold Ce at h
 refine A5 (s0:=⟨T [(0,(.d _)),(1,(.d _))],G []⟩) (C9 Z Z) ?_
 refine B7<|sm Z<|sn Z Z<|sv Z<|A1<|B7<|sq Z<|sl Z (gq Z) Z (sq Z<|sl Z G_hit Z<|sv Z<|sq Z<|sl Z (gq Z) Z (sq Z<|sl Z G_hit Z<|sv Z<|sv Z<|sv Z<|A1<|B5 ?_))
 cases h
 exact A9 (.inr Z) (B6 (B4 Z) C6) (.refl _)
def Hq (p1:Int)(x1:(Int×Int)):Option (Stp (Int×Int) Int):=
  cond (decide (x1.2>0)) (cond (decide ((C8 ((C8 (x1.1+x1.2))* (C8 (x1.1+x1.2))))≤p1)) (some (.go ((C8 (x1.1+x1.2)),(C8 (x1.2.tdiv 2))))) (some (.go (x1.1,(C8 (x1.2.tdiv 2)))))) (some (.out x1.1))
def Gf [Lp](p1:Int):Option Int:=
  (loop (Hq p1) (0,67108864)).bind fun y1=>some y1
theorem So(p1 r)(h:Gf p1=some r):PCall prog 240 [(i64 p1)] (i64 r):=by
 refine C5 (fk func240 ntmps240 m0 (by with_unfolding_all rfl)) (nl Z) ?_
 unfold Gf at h
 refine A5 (s0:=⟨T [(0,(.d _))],G []⟩) (C9 Z Z) ?_
 refine B7<|sv Z<|A1<|B7<|sv Z<|A1<|A4<|B7<|sv Z<|A1<|bs h fun y1 hy1 h=>D2 (fun s=> ∃g1:Unit,Sb ⟨T [(3,(di y1))],G []⟩ s) ?_ ?_
 refine A6<|E7 (Hq p1) (fun (x1:(Int×Int)) (g2:Unit)=>⟨T [(0,(di p1)),(3,(di x1.1)),(4,(di x1.2))],G []⟩) (0,67108864) () _ hy1 (C9 Z Z) ?_
 intro x1 g2 z1 hz1 ez1
 unfold Hq at hz1
 refine A4<|B7<|sv Z<|sv Z<|A1<|cc Z hz1 (fun c1 hz1=> ?_)<|fun c1 hz1=> ?_
 refine B1<|A4<|A6<|B7<|sv Z<|sv Z<|sv Z<|sv Z<|sv Z<|sv Z<|sv Z<|sv Z<|sv Z<|A1<|cc Z hz1 (fun c2 hz1=> ?_)<|fun c2 hz1=> ?_
 refine B0<|sv Z<|sv Z<|sv Z<|sv Z<|A1<|E6<|B0<|sv Z<|sv Z<|sv Z<|A1<|F2 ?_
 cases hz1
 exact ⟨Z,(),(C9 Z Z)⟩
 refine B1<|E6<|B0<|sv Z<|sv Z<|sv Z<|A1<|F2 ?_
 cases hz1
 exact ⟨Z,(),(C9 Z Z)⟩
 refine C3 Z ?_
 cases hz1
 obtain rfl:=ez1 _ rfl
 refine ⟨nofun,B9 Z<|U0 ?_⟩
 exact ⟨(),(C9 Z Z)⟩
 rintro _ ⟨g1,q1⟩
 refine A5 q1<|B7<|sv Z<|sv Z<|A1<|B5 ?_
 cases h
 exact A9 (.inr Z) (B6 (B4 Z) C6) (.refl _)
end
end Go.Abs.Roadsz
