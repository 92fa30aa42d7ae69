/-
  The functions, part 2.
-/
import Derived.Test.YtimbepcdlehjjaaGreatFns1
set_option maxRecDepth 20000
set_option maxHeartbeats 4000000
set_option linter.unusedVariables false
namespace Go.Abs.Roadsz
noncomputable section
open Go Go.Abs Go.Proofs Tryz
attribute [local irreducible] H9 Ca Dj
def R8 [Lp](p1:Zone)(p2:Map)(p3:Int)(p4:(List Int)):Option Bool:=
  (Cn p2 p1 p3).bind fun v1=>((cond v1 (F5 p4 p2 p1) (some default))).bind fun v2=>some (v1&& (!v2))
theorem Ld(p1 p2 p3 p4 r)(h:R8 p1 p2 p3 p4=some r):PCall prog 180 [(.agg [(.list (List.map H6 p1.Parts)),(i64 p1.Signal_)]),(.bp (K6 p2) 0),(.bp [(i64 p3)] 0),(.bp [(.list (List.map A9 p4))] 0)] (bo r):=by
 refine C4 (fk func180 ntmps180 m0 (by with_unfolding_all rfl)) (nl Z) ?_
 unfold R8 at h
 refine A6 (s0:=⟨T [(0,(.d _)),(1,(.d _)),(2,(.d _)),(3,(.d _))],G []⟩) (D9 Z Z) ?_
 refine lr<|fun u1 _=>sm Z<|sv Z<|A1<|B8<|sv Z<|sd Z (B4 Z G_hit Z Z)<|sv Z<|bs h fun v1 hv1 h=>C0 Z Z A3 (Mp _ _ _ _ hv1) (.inl Z) (sv Z<|gt Z (fun _=>Z)<|S6 _ (.fn _ _ _) Z (I9 Z) (fun _=>Z) (bs h fun v2 hv2 h=> ?_))
 refine O7 v1 (bo v2) (I9 Z) (fun w3=>⟨_,[(dl A9 p4),(.fn (.func 183) [] [(.d (.bp (K6 p2) 0)),(.ptr (4,u1) 0)])],_,_,(by simp only [A2 w3];rfl),(rD<|H3 (Zf I6<|rD<|H3 (Kr G_hit<|rD<|rD I6) I6) I6),A3,Z7 _ _ _ _<|G7 w3 hv2,(.inr Z)⟩) ?_
 refine S6 _ (.d (bo (!v2))) Z (I9 Z) (fun w4=>(by simp only [A2 w4];rfl)) ?_
 refine sa Z Z Z<|sv Z<|A1<|B2 ?_
 cases h
 exact A8 (.inr Z) (B9 (B0 Z) C2) (.refl _)
def F1 [Lp](p1:(List Zone))(p2:Map)(p3:Int)(p4:(List Int))(x1:Int):Option (Stp Int (Sum Unit Int)):=
  cond (decide (x1< (p1.length:Int))) ((E6 p1 x1).bind fun v1=>(R8 v1 p2 p3 p4).bind fun v2=>cond v2 (some (.out (.inr x1))) (some (.go (J3 (x1+1))))) (some (.out (.inl ())))
def F9 [Lp](p1:(List Zone))(p2:Map)(p3:Int)(p4:(List Int)):Option Int:=
  thenS (loop (F1 p1 p2 p3 p4) 0) (fun _=>some (-1)) (fun r=>some r)
theorem Aw(p1 p2 p3 p4 r)(h:F9 p1 p2 p3 p4=some r):PCall prog 243 [(.list (List.map F0 p1)),(.fn (.func 180) [] [(.bp (K6 p2) 0),(.bp [(i64 p3)] 0),(.bp [(.list (List.map A9 p4))] 0)])] (i64 r):=by
 refine C4 (fk func243 ntmps243 m0 (by with_unfolding_all rfl)) (nl Z) ?_
 unfold F9 at h
 refine A6 (s0:=⟨T [(0,(.d _)),(1,(.d _))],G []⟩) (D9 Z Z) ?_
 refine B8<|sv Z<|A1<|A4<|B8<|sv Z<|sd Z (C3 Z)<|sv Z<|A1<|js h fun z1 hz1 h=>E4 (fun s=> ∃(y1:Unit) (g1:Unit),z1= .inl y1∧Sb ⟨T [],G []⟩ s) ?_ ?_
 refine A7<|E5 (F1 p1 p2 p3 p4) (fun (x1:Int) (g2:Unit)=>⟨T [(0,(dl F0 p1)),(1,(.d (.fn (.func 180) [] [(.bp (K6 p2) 0),(.bp [(i64 p3)] 0),(.bp [(.list (List.map A9 p4))] 0)]))),(7,(di (p1.length:Int))),(8,(di x1))],G []⟩) 0 () _ hz1 (D9 Z Z) ?_
 intro x1 g2 z2 hz2 ez2
 unfold F1 at hz2
 refine B8<|sv Z<|A1<|A4<|cc Z hz2 (fun c1 hz2=> ?_)<|fun c1 hz2=> ?_
 refine B1<|A4<|A7<|B8<|sv Z<|sv Z<|A1<|B8<|sv Z<|sv Z<|sv Z<|bs hz2 fun _ hv1 hz2=>sd Z (D8 Z Z hv1 Z)<|sd Z (D1 Z hv1 Z Z)<|bs hz2 fun _ hv2 hz2=>C0 Z Z A3 (Ld _ _ _ _ _ hv2) (.inl Z) (A1<|cc Z hz2 (fun c2 hz2=> ?_)<|fun c2 hz2=> ?_)
 refine B8<|sv Z<|sv Z<|A1<|B2 ?_
 cases hz2
 obtain rfl:=ez2 _ rfl
 refine ⟨nofun,E1 ?_⟩
 rw [bI]at h
 cases h
 exact A8 (.inr Z) (B9 (B0 Z) C2) (.refl _)
 refine B1<|D7<|B5<|sv Z<|sv Z<|A1<|F8 ?_
 cases hz2
 exact ⟨Z,(),(D9 Z Z)⟩
 refine D2 Z ?_
 cases hz2
 obtain rfl:=ez2 _ rfl
 refine ⟨nofun,C9 Z<|Z9 ?_⟩
 exact ⟨_,(),Z,(D9 Z Z)⟩
 rintro _ ⟨y1,g1,rfl,q1⟩
 rw [bH]at h
 refine A6 q1<|B8<|sv Z<|A1<|B2 ?_
 cases h
 exact A8 (.inr Z) (B9 (B0 Z) C2) (.refl _)
def F2 [Lp](p1:(List Zone))(p2:Map)(p3:Int)(p4:(List Int)):Option Bool:=
  (F9 p1 p2 p3 p4).bind fun v1=>some (decide (v1≥0))
theorem Y7(p1 p2 p3 p4 r)(h:F2 p1 p2 p3 p4=some r):PCall prog 179 [(.list (List.map F0 p1)),(.fn (.func 180) [] [(.bp (K6 p2) 0),(.bp [(i64 p3)] 0),(.bp [(.list (List.map A9 p4))] 0)])] (bo r):=by
 refine C4 (fk func179 ntmps179 m0 (by with_unfolding_all rfl)) (nl Z) ?_
 unfold F2 at h
 refine A6 (s0:=⟨T [(0,(.d _)),(1,(.d _))],G []⟩) (D9 Z Z) ?_
 refine B8<|sv Z<|A1<|B8<|sv Z<|sv Z<|bs h fun _ hv1 h=>C0 Z Z A3 (Aw _ _ _ _ _ hv1) (.inl Z) (sv Z<|sv Z<|A1<|B2 ?_)
 cases h
 exact A8 (.inr Z) (B9 (B0 Z) C2) (.refl _)
def Ai [Lp](p1:Map)(x1:((List Clash)×Int)):Option (Stp ((List Clash)×Int) (List Clash)):=
  cond (decide (x1.2< (p1.Lanes.length:Int))) ((Av p1 x1.2).bind fun v1=>(F2 p1.Zones p1 x1.2 v1).bind fun v2=>cond ((decide ((v1.length:Int)>1))&& (!v2)) ((Q8 x1.1 [(Clash.mk 1 (-1) x1.2 (-1))]).bind fun v3=>some (.go (v3,(J3 (x1.2+1))))) (some (.go (x1.1,(J3 (x1.2+1)))))) (some (.out x1.1))
def Em [Lp](p1:Map):Option (List Clash):=
  (loop (Ai p1) ([],0)).bind fun y1=>some y1
theorem Un(p1 r)(h:Em p1=some r):PCall prog 77 [(.agg (K6 p1))] (.list (List.map I8 r)):=by
 refine C4 (fk func77 ntmps77 (fun r=>if r==7 then [1003]else []) (by with_unfolding_all rfl)) (nl Z) ?_
 unfold Em at h
 refine A6 (s0:=⟨T [(0,(.d _))],G []⟩) (D9 Z Z) ?_
 refine lr<|fun u1 _=>sm Z<|sv Z<|A1<|A4<|B8<|sq Z<|sl Z G_hit Z<|sd Z (C3 Z)<|sv Z<|A1<|bs h fun y1 hy1 h=>E4 (fun s=> ∃g1:Nat,Sb ⟨T [(2,(oS y1 (30,g1)))],G [((30,g1),oB 93 4 I8 y1)]⟩ s) ?_ ?_
 refine A7<|E5 (Ai p1) (fun (x1:((List Clash)×Int)) (g2:Nat)=>⟨T [(1,(.ptr (1,u1) 0)),(2,(oS x1.1 (30,g2))),(8,(di (p1.Lanes.length:Int))),(9,(di x1.2))],G [((1,u1),some<|.box 27 (H4 p1)),((30,g2),oB 93 4 I8 x1.1)]⟩) ([],0) 0 _ hy1 (D3 (Z5 Z)<|B7 G_hit (.of Z)<|O9 trivial) ?_
 intro x1 g2 z1 hz1 ez1
 unfold Ai at hz1
 refine B8<|sv Z<|A1<|A4<|cc Z hz1 (fun c1 hz1=> ?_)<|fun c1 hz1=> ?_
 refine B1<|A4<|A7<|lr<|fun u4 _=>sv Z<|sm Z<|U1 Z G_hit [(di x1.2)] Z (A1<|B8<|sd Z (B4 Z (gq Z) Z Z)<|sl Z G_hit Z<|bs hz1 fun v1 hv1 hz1=>C0 Z Z A3 (Ik _ _ _ hv1) (.inl Z) (sm Z<|U1 Z G_hit [(dl A9 v1)] Z (A1<|B8<|sq Z<|sl Z (gq Z) Z (B6 (.fn _ _ _) Z Z (bs hz1 fun v2 hv2 hz1=>C0 Z (rD<|H3 (Zf I6<|H3 (Kr (gq Z)<|rD<|rD<|rD<|rD<|rD I6)<|H3 (Kr (gq Z)<|rD I6)<|H3 (Kr G_hit<|rD I6) I6) I6) A3 (Y7 _ _ _ _ _ hv2) (.inr Z) (sv Z<|A1<|B8<|sl Z G_hit Z<|sd Z (C3 Z)<|sv Z<|sv Z<|gt Z (fun _=>Z) ?_))))))
 refine S6 _ (.d (bo (!v2))) Z (I9 Z) (fun w2=>(by simp only [A2 w2];rfl)) ?_
 refine sa Z Z Z<|A1<|cc Z hz1 (fun c2 hz1=> ?_)<|fun c2 hz1=> ?_
 refine A6 (s0:=⟨T [(1,(.ptr (1,u1) 0)),(2,(oS x1.1 (30,g2))),(3,(.ptr (3,u4) 0)),(8,(di (p1.Lanes.length:Int))),(9,(di x1.2))],G [((1,u1),some<|.box 27 (H4 p1)),((30,g2),oB 93 4 I8 x1.1),((3,u4),some<|.box 3 [(di x1.2)])]⟩) (D3 (Z5 Z)<|sg Z<|D4 (gq Z)<|sg Z trivial) ?_
 refine O8 fun u8 _=>B6 (oS x1.1 (30,g2)) Z Z (sl Z (gq Z) Z (sv Z<|B6 (dl I8 [(Clash.mk 1 (-1) x1.2 (-1))]) Z Z (bs hz1 fun _ hv3 hz1=>J0 I8 (30,g2) x1.1 (Clash.mk 1 (-1) x1.2 (-1)) [] _ (D0<|fun _=>Z) Z (gq Z) hv3 (ss Z<|A1<|D7<|B5<|sv Z<|sv Z<|A1<|F8 ?_))))
 cases hz1
 exact ⟨Z,u8,(D3 ⟨.of Z,(.of (Z8<|N1 hv3).symm), .of Z, .of Z,trivial⟩<|sg Z<|O6 G_hit trivial)⟩
 refine B1<|D7<|A6 (s0:=⟨T [(1,(.ptr (1,u1) 0)),(2,(oS x1.1 (30,g2))),(8,(di (p1.Lanes.length:Int))),(9,(di x1.2))],G [((1,u1),some<|.box 27 (H4 p1)),((30,g2),oB 93 4 I8 x1.1)]⟩) (D3 (Z5 Z)<|sg Z<|D4 (gq Z) trivial) ?_
 refine B5<|sv Z<|sv Z<|A1<|F8 ?_
 cases hz1
 exact ⟨Z,g2,(D3 (Z5 Z)<|B7 G_hit (.of Z)<|D4 (gq Z) trivial)⟩
 refine D2 Z ?_
 cases hz1
 obtain rfl:=ez1 _ rfl
 refine ⟨nofun,C9 Z<|Z9 ?_⟩
 exact ⟨g2,(D3 ⟨.of Z,trivial⟩<|D4 (gq Z) trivial)⟩
 rintro _ ⟨g1,q1⟩
 refine A6 q1<|B8<|B6 (oS y1 (30,g1)) Z Z (B6 (oS y1 (30,g1)) Z Z (A1<|B2 ?_))
 cases h
 exact A8 (.inr Z) (B9 (B0 Z)<|Cd G_hit) Cc
def Aj [Lp](p1:Map)(x1:((List Clash)×Int))(v1:Zone)(x2:((List Clash)×Int)):Option (Stp ((List Clash)×Int) (List Clash)):=
  cond (decide (x2.2< (v1.Parts.length:Int))) ((E6 v1.Parts x2.2).bind fun v2=>(Ce p1 v1 v2.Lane_).bind fun v3=>((cond (!v3) (Cn p1 v1 v2.Lane_) (some default))).bind fun v4=>cond ((!v3)&& (!v4)) ((Q8 x2.1 [(Clash.mk 2 x1.2 v2.Lane_ (-1))]).bind fun v5=>some (.go (v5,(J3 (x2.2+1))))) (some (.go (x2.1,(J3 (x2.2+1)))))) (some (.out x2.1))
def Ak [Lp](p1:Map)(x1:((List Clash)×Int)):Option (Stp ((List Clash)×Int) (List Clash)):=
  cond (decide (x1.2< (p1.Zones.length:Int))) ((E6 p1.Zones x1.2).bind fun v1=>(loop (Aj p1 x1 v1) (x1.1,0)).bind fun y2=>some (.go (y2,(J3 (x1.2+1))))) (some (.out x1.1))
def En [Lp](p1:Map):Option (List Clash):=
  (loop (Ak p1) ([],0)).bind fun y1=>some y1
theorem Uo(p1 r)(h:En p1=some r):PCall prog 78 [(.agg (K6 p1))] (.list (List.map I8 r)):=by
 refine C4 (fk func78 ntmps78 (fun r=>if r==8 then [1005]else []) (by with_unfolding_all rfl)) (nl Z) ?_
 unfold En at h
 refine A6 (s0:=⟨T [(0,(.d _))],G []⟩) (D9 Z Z) ?_
 refine lr<|fun u1 _=>sm Z<|sv Z<|A1<|A4<|B8<|sq Z<|sl Z G_hit Z<|sd Z (C3 Z)<|sv Z<|A1<|bs h fun y1 hy1 h=>E4 (fun s=> ∃g1:Nat,Sb ⟨T [(2,(oS y1 (42,g1)))],G [((42,g1),oB 93 4 I8 y1)]⟩ s) ?_ ?_
 refine A7<|E5 (Ak p1) (fun (x1:((List Clash)×Int)) (g2:Nat)=>⟨T [(1,(.ptr (1,u1) 0)),(2,(oS x1.1 (42,g2))),(8,(dl F0 p1.Zones)),(9,(di (p1.Zones.length:Int))),(10,(di x1.2))],G [((1,u1),some<|.box 27 (H4 p1)),((42,g2),oB 93 4 I8 x1.1)]⟩) ([],0) 0 _ hy1 (D3 (Z5 Z)<|B7 G_hit (.of Z)<|O9 trivial) ?_
 intro x1 g2 z1 hz1 ez1
 unfold Ak at hz1
 refine B8<|sv Z<|A1<|A4<|cc Z hz1 (fun c1 hz1=> ?_)<|fun c1 hz1=> ?_
 refine B1<|A4<|A7<|lr<|fun u4 _=>sv Z<|bs hz1 fun v1 hv1 hz1=>sd Z (D8 Z Z hv1 Z)<|sd Z (D1 Z hv1 Z Z)<|sm Z<|sv Z<|U1 Z G_hit [(dl H6 v1.Parts),(di v1.Signal_)] Z (A1<|B8<|sq Z<|sl Z G_hit Z<|sd Z (C3 Z)<|sv Z<|A1<|bs hz1 fun y2 hy2 hz1=>E4 (fun s=> ∃g3:Nat,Sb ⟨T [(1,(.ptr (1,u1) 0)),(2,(oS y2 (42,g3))),(8,(dl F0 p1.Zones)),(9,(di (p1.Zones.length:Int))),(10,(di x1.2))],G [((1,u1),some<|.box 27 (H4 p1)),((42,g3),oB 93 4 I8 y2)]⟩ s) ?_ ?_)
 refine A7<|E5 (Aj p1 x1 v1) (fun (x2:((List Clash)×Int)) (g4:Nat)=>⟨T [(1,(.ptr (1,u1) 0)),(2,(oS x2.1 (42,g4))),(3,(di x1.2)),(4,(.ptr (4,u4) 0)),(8,(dl F0 p1.Zones)),(9,(di (p1.Zones.length:Int))),(10,(di x1.2)),(16,(dl H6 v1.Parts)),(17,(di (v1.Parts.length:Int))),(18,(di x2.2))],G [((1,u1),some<|.box 27 (H4 p1)),((4,u4),some<|.box 45 [(dl H6 v1.Parts),(di v1.Signal_)]),((42,g4),oB 93 4 I8 x2.1)]⟩) (x1.1,0) g2 _ hy2 (D3 (Z5 Z)<|sg Z<|B7 G_hit (.of Z)<|D4 (gq Z) trivial) ?_
 intro x2 g4 z2 hz2 ez2
 unfold Aj at hz2
 refine B8<|sv Z<|A1<|A4<|cc Z hz2 (fun c2 hz2=> ?_)<|fun c2 hz2=> ?_
 refine B1<|A4<|A7<|lr<|fun u7 _=>bs hz2 fun v2 hv2 hz2=>sd Z (D8 Z Z hv2 Z)<|sd Z (D1 Z hv2 Z Z)<|sm Z<|U1 Z G_hit (Nu v2) Z (A1<|B8<|sd Z (B4 Z (gq Z) Z Z)<|sd Z (B4 Z (gq Z) Z Z)<|sq Z<|sl Z G_hit Z<|bs hz2 fun v3 hv3 hz2=>C0 Z Z A3 (Js _ _ _ _ hv3) (.inl Z) (B6 (.d (bo (!v3))) Z Z (sv Z<|gt Z (fun _=>(B4 Z (gq Z) Z Z))<|gt Z (fun _=>(B4 Z (gq Z) Z Z))<|gp Z (I9 Z) (fun _=>Z) (gt Z (vl Z G_hit Z)<|bs hz2 fun v4 hv4 hz2=> ?_))))
 refine O7 _ (bo v4) (I9 Z) (fun w5=>⟨_,[(.d (.agg (K6 p1))),(.d (.agg [(.list (List.map H6 v1.Parts)),(i64 v1.Signal_)])),(di v2.Lane_)],_,_,(by simp only [A2 w5];rfl),Z,A3,Mp _ _ _ _<|G7 w5 hv4,(.inl Z)⟩) ?_
 refine S6 _ (.d (bo (!v4))) Z (I9 Z) (fun w6=>(by simp only [A2 w6];rfl)) ?_
 refine sa Z Z Z<|A1<|cc Z hz2 (fun c3 hz2=> ?_)<|fun c3 hz2=> ?_
 refine A6 (s0:=⟨T [(1,(.ptr (1,u1) 0)),(2,(oS x2.1 (42,g4))),(3,(di x1.2)),(4,(.ptr (4,u4) 0)),(6,(.ptr (6,u7) 0)),(8,(dl F0 p1.Zones)),(9,(di (p1.Zones.length:Int))),(10,(di x1.2)),(16,(dl H6 v1.Parts)),(17,(di (v1.Parts.length:Int))),(18,(di x2.2))],G [((1,u1),some<|.box 27 (H4 p1)),((42,g4),oB 93 4 I8 x2.1),((4,u4),some<|.box 45 [(dl H6 v1.Parts),(di v1.Signal_)]),((6,u7),some<|.box 91 (Nu v2))]⟩) (D3 (Z5 Z)<|sg Z<|D4 (gq Z)<|sg Z<|B7 G_hit (.of Z) trivial) ?_
 refine O8 fun u9 _=>B6 (oS x2.1 (42,g4)) Z Z (sv Z<|sq Z<|sl Z (gq Z) Z (sv Z<|B6 (dl I8 [(Clash.mk 2 x1.2 v2.Lane_ (-1))]) Z Z (bs hz2 fun _ hv5 hz2=>J0 I8 (42,g4) x2.1 (Clash.mk 2 x1.2 v2.Lane_ (-1)) [] _ (D0<|fun _=>Z) Z (gq Z) hv5 (ss Z<|A1<|D7<|A6 (s0:=⟨T [(1,(.ptr _ _)),(2,(.sl _)),(3,(.d _)),(4,(.ptr _ _)),(8,(.d _)),(9,(.d _)),(10,(.d _)),(16,(.d _)),(17,(.d _)),(18,(.d _))],G [((1,u1),some<|.box 27 _),((42,u9),some _),((4,u4),some<|.box 45 _)]⟩) (D9 Z Z) ?_))))
 refine B5<|sv Z<|sv Z<|A1<|F8 ?_
 cases hz2
 exact ⟨Z,u9,(D3 ⟨.of Z,(.of (Z8<|N1 hv5).symm), .of Z, .of Z, .of Z, .of Z, .of Z, .of Z, .of Z, .of Z,trivial⟩<|B7 G_hit (.of Z)<|sg Z<|O6 (gq Z) trivial)⟩
 refine B1<|D7<|A6 (s0:=⟨T [(1,(.ptr (1,u1) 0)),(2,(oS x2.1 (42,g4))),(3,(di x1.2)),(4,(.ptr (4,u4) 0)),(8,(dl F0 p1.Zones)),(9,(di (p1.Zones.length:Int))),(10,(di x1.2)),(16,(dl H6 v1.Parts)),(17,(di (v1.Parts.length:Int))),(18,(di x2.2))],G [((1,u1),some<|.box 27 (H4 p1)),((42,g4),oB 93 4 I8 x2.1),((4,u4),some<|.box 45 [(dl H6 v1.Parts),(di v1.Signal_)])]⟩) (D3 (Z5 Z)<|sg Z<|D4 (gq Z)<|sg Z trivial) ?_
 refine B5<|sv Z<|sv Z<|A1<|F8 ?_
 cases hz2
 exact ⟨Z,g4,(D3 (Z5 Z)<|B7 G_hit (.of Z)<|sg Z<|D4 (gq Z) trivial)⟩
 refine D2 Z ?_
 cases hz2
 obtain rfl:=ez2 _ rfl
 refine ⟨nofun,C9 Z<|Z9 ?_⟩
 exact ⟨g4,(D3 (Z5 Z)<|B7 G_hit (.of Z)<|D4 (gq Z) trivial)⟩
 rintro _ ⟨g3,q1⟩
 refine D7<|A6 q1<|B5<|sv Z<|sv Z<|A1<|F8 ?_
 cases hz1
 exact ⟨Z,g3,(D3 (Z5 Z)<|B7 G_hit (.of Z)<|D4 (gq Z) trivial)⟩
 refine D2 Z ?_
 cases hz1
 obtain rfl:=ez1 _ rfl
 refine ⟨nofun,C9 Z<|Z9 ?_⟩
 exact ⟨g2,(D3 ⟨.of Z,trivial⟩<|D4 (gq Z) trivial)⟩
 rintro _ ⟨g1,q2⟩
 refine A6 q2<|B8<|B6 (oS y1 (42,g1)) Z Z (B6 (oS y1 (42,g1)) Z Z (A1<|B2 ?_))
 cases h
 exact A8 (.inr Z) (B9 (B0 Z)<|Cd G_hit) Cc
def Y6 [Lp](p1:Map)(p2:Zone)(x1:((List Int)×Int)):Option (Stp ((List Int)×Int) (List Int)):=
  cond (decide (x1.2< (p2.Parts.length:Int))) ((E6 p2.Parts x1.2).bind fun v1=>(Ce p1 p2 v1.Lane_).bind fun v2=>cond v2 ((Q8 x1.1 [v1.Lane_]).bind fun v3=>some (.go (v3,(J3 (x1.2+1))))) (some (.go (x1.1,(J3 (x1.2+1)))))) (some (.out x1.1))
def Y2 [Lp](p1:Map)(p2:Zone):Option (List Int):=
  (loop (Y6 p1 p2) ([],0)).bind fun y1=>some y1
theorem Hh(p1 p2 r)(h:Y2 p1 p2=some r):PCall prog 248 [(.agg (K6 p1)),(.agg [(.list (List.map H6 p2.Parts)),(i64 p2.Signal_)])] (.list (List.map A9 r)):=by
 refine C4 (fk func248 ntmps248 (fun r=>if r==6 then [1003]else []) (by with_unfolding_all rfl)) (nl Z) ?_
 unfold Y2 at h
 refine A6 (s0:=⟨T [(0,(.d _)),(1,(.d _))],G []⟩) (D9 Z Z) ?_
 refine lr<|fun u1 _=>sm Z<|sm Z<|sv Z<|A1<|B8<|sv Z<|A1<|A4<|B8<|sq Z<|sl Z G_hit Z<|sd Z (C3 Z)<|sv Z<|A1<|bs h fun y1 hy1 h=>E4 (fun s=> ∃g1:Nat,Sb ⟨T [(5,(oS y1 (24,g1)))],G [((24,g1),oB 3 1 A9 y1)]⟩ s) ?_ ?_
 refine A7<|E5 (Y6 p1 p2) (fun (x1:((List Int)×Int)) (g2:Nat)=>⟨T [(2,(.ptr (2,u1) 0)),(3,(.ptr (3,u1) 0)),(5,(oS x1.1 (24,g2))),(9,(dl H6 p2.Parts)),(10,(di (p2.Parts.length:Int))),(11,(di x1.2))],G [((2,u1),some<|.box 27 (H4 p1)),((3,u1),some<|.box 45 [(dl H6 p2.Parts),(di p2.Signal_)]),((24,g2),oB 3 1 A9 x1.1)]⟩) ([],0) 0 _ hy1 (D3 (Z5 Z)<|sg Z<|B7 G_hit (.of Z)<|O9 trivial) ?_
 intro x1 g2 z1 hz1 ez1
 unfold Y6 at hz1
 refine B8<|sv Z<|A1<|A4<|cc Z hz1 (fun c1 hz1=> ?_)<|fun c1 hz1=> ?_
 refine B1<|A4<|A7<|B8<|bs hz1 fun v1 hv1 hz1=>sd Z (D8 Z Z hv1 Z)<|sd Z (D1 Z hv1 Z Z)<|sm Z<|U1 Z G_hit (Nu v1) Z (A1<|B8<|sd Z (B4 Z (gq Z) Z Z)<|sd Z (B4 Z (gq Z) Z Z)<|sq Z<|sl Z G_hit Z<|bs hz1 fun _ hv2 hz1=>C0 Z Z A3 (Js _ _ _ _ hv2) (.inl Z) (A1<|cc Z hz1 (fun c2 hz1=> ?_)<|fun c2 hz1=> ?_))
 refine O8 fun u7 _=>B6 (oS x1.1 (24,g2)) Z Z (sq Z<|sl Z G_hit Z<|B6 (dl A9 [v1.Lane_]) Z Z (bs hz1 fun _ hv3 hz1=>J0 A9 (24,g2) x1.1 v1.Lane_ [] _ (D0<|fun _=>Z) Z (gq Z) hv3 (ss Z<|A1<|D7<|A6 (s0:=⟨T [(2,(.ptr _ _)),(3,(.ptr _ _)),(5,(.sl _)),(9,(.d _)),(10,(.d _)),(11,(.d _))],G [((2,u1),some<|.box 27 _),((3,u1),some<|.box 45 _),((24,u7),some _)]⟩) (D9 Z Z) ?_)))
 refine B5<|sv Z<|sv Z<|A1<|F8 ?_
 cases hz1
 exact ⟨Z,u7,(D3 ⟨.of Z, .of Z,(.of (Z8<|N1 hv3).symm), .of Z, .of Z, .of Z,trivial⟩<|B7 G_hit (.of Z)<|sg Z<|O6 (gq Z) trivial)⟩
 refine B1<|D7<|B5<|sv Z<|sv Z<|A1<|F8 ?_
 cases hz1
 exact ⟨Z,g2,(D3 (Z5 Z)<|sg Z<|sg Z<|D4 (gq Z) trivial)⟩
 refine D2 Z ?_
 cases hz1
 obtain rfl:=ez1 _ rfl
 refine ⟨nofun,C9 Z<|Z9 ?_⟩
 exact ⟨g2,(D3 ⟨.of Z,trivial⟩<|D4 (gq Z) trivial)⟩
 rintro _ ⟨g1,q1⟩
 refine A6 q1<|B8<|B6 (oS y1 (24,g1)) Z Z (B6 (oS y1 (24,g1)) Z Z (A1<|B2 ?_))
 cases h
 exact A8 (.inr Z) (B9 (B0 Z)<|Cd G_hit) Cc
def Dl [Lp](p1:Zone)(p2:Int)(p3:Int):Option Bool:=
  (Cm p1 p2).bind fun v1=>(Cm p1 p3).bind fun v2=>some ((p1.Signal_==0)&& (v1.1.Rank==v2.1.Rank))
theorem Tc(p1 p2 p3 r)(h:Dl p1 p2 p3=some r):PCall prog 186 [(.agg [(.list (List.map H6 p1.Parts)),(i64 p1.Signal_)]),(i64 p2),(i64 p3)] (bo r):=by
 refine C4 (fk func186 ntmps186 m0 (by with_unfolding_all rfl)) (nl Z) ?_
 unfold Dl at h
 refine A6 (s0:=⟨T [(0,(.d _)),(1,(.d _)),(2,(.d _))],G []⟩) (D9 Z Z) ?_
 refine lr<|fun u1 _=>sm Z<|sv Z<|A1<|lr<|fun u2 _=>sd Z (B4 Z G_hit Z Z)<|sv Z<|bs h fun v1 hv1 h=>C0 Z Z A3 (Hu _ _ _ hv1) (.inl Z) (sv Z<|sv Z<|sv Z<|sm Z<|U1 Z G_hit (Nu v1.1) Z (sv Z<|A1<|lr<|fun u3 _=>sd Z (B4 Z (gq Z) Z Z)<|sv Z<|bs h fun v2 hv2 h=>C0 Z Z A3 (Hu _ _ _ hv2) (.inl Z) (sv Z<|sv Z<|sv Z<|sm Z<|U1 Z G_hit (Nu v2.1) Z (sv Z<|A1<|A4<|A6 (s0:=⟨T [(3,(.ptr _ _)),(7,(.ptr _ _)),(9,(.ptr _ _))],G [((3,u1),some<|.box 45 _),((7,u2),some<|.box 91 _),((9,u3),some<|.box 91 _)]⟩) (D9 Z Z) ?_))))
 refine B5<|sq Z<|sl Z G_hit Z<|sv Z<|sv Z<|gp Z (I9 Z) (fun _=>Z) (gt Z (vl Z (gq Z) Z)<|gp Z (I9 Z) (fun _=>Z) (gt Z (vl Z (gq Z) Z)<|gt Z (fun w5=>(H5 (A2 w5) (A2 w5) Z))<|sa Z Z Z<|sv Z<|A1<|B2 ?_))
 cases h
 exact A8 (.inr Z) (B9 (B0 Z) C2) (.refl _)
def L6 [Lp](p2:Int)(x1:((List Clash)×Int))(v1:Zone)(v3:Int)(v4:List Int)(x3:((List Clash)×Int)):Option (Stp ((List Clash)×Int) (List Clash)):=
  cond (decide (x3.2< (v4.length:Int))) ((E6 v4 x3.2).bind fun v5=>(Dl v1 v3 v5).bind fun v6=>cond v6 ((Q8 x3.1 [(Clash.mk p2 x1.2 v3 v5)]).bind fun v7=>some (.go (v7,(J3 (x3.2+1))))) (some (.go (x3.1,(J3 (x3.2+1)))))) (some (.out x3.1))
def L7 [Lp](p2:Int)(x1:((List Clash)×Int))(v1:Zone)(v2:(List Int))(x2:((List Clash)×Int)):Option (Stp ((List Clash)×Int) (List Clash)):=
  cond (decide (x2.2< (v2.length:Int))) ((E6 v2 x2.2).bind fun v3=>(Gi v2 (J3 (x2.2+1)) (v2.length:Int)).bind fun v4=>(loop (L6 p2 x1 v1 v3 v4) (x2.1,0)).bind fun y3=>some (.go (y3,(J3 (x2.2+1))))) (some (.out x2.1))
def L8 [Lp](p1:Map)(p2:Int)(x1:((List Clash)×Int)):Option (Stp ((List Clash)×Int) (List Clash)):=
  cond (decide (x1.2< (p1.Zones.length:Int))) ((E6 p1.Zones x1.2).bind fun v1=>(Y2 p1 v1).bind fun v2=>(loop (L7 p2 x1 v1 v2) (x1.1,0)).bind fun y2=>some (.go (y2,(J3 (x1.2+1))))) (some (.out x1.1))
def O3 [Lp](p1:Map)(p2:Int):Option (List Clash):=
  (loop (L8 p1 p2) ([],0)).bind fun y1=>some y1
theorem Il(p1 p2 r)(h:O3 p1 p2=some r):PCall prog 185 [(.agg (K6 p1)),(i64 p2),(.fn (.func 186) [] [])] (.list (List.map I8 r)):=by
 refine C4 (fk func185 ntmps185 (fun r=>if r==12 then [1006]else []) (by with_unfolding_all rfl)) (nl Z) ?_
 unfold O3 at h
 refine A6 (s0:=⟨T [(0,(.d _)),(1,(.d _)),(2,(.d _))],G []⟩) (D9 Z Z) ?_
 refine lr<|fun u1 _=>sm Z<|sv Z<|A1<|A4<|B8<|sq Z<|sl Z G_hit Z<|sd Z (C3 Z)<|sv Z<|A1<|bs h fun y1 hy1 h=>E4 (fun s=> ∃g1:Nat,Sb ⟨T [(6,(oS y1 (53,g1)))],G [((53,g1),oB 93 4 I8 y1)]⟩ s) ?_ ?_
 refine A7<|E5 (L8 p1 p2) (fun (x1:((List Clash)×Int)) (g2:Nat)=>⟨T [(1,(di p2)),(2,(.d (.fn (.func 186) [] []))),(3,(.ptr (3,u1) 0)),(6,(oS x1.1 (53,g2))),(15,(dl F0 p1.Zones)),(16,(di (p1.Zones.length:Int))),(17,(di x1.2))],G [((3,u1),some<|.box 27 (H4 p1)),((53,g2),oB 93 4 I8 x1.1)]⟩) ([],0) 0 _ hy1 (D3 (Z5 Z)<|B7 G_hit (.of Z)<|O9 trivial) ?_
 intro x1 g2 z1 hz1 ez1
 unfold L8 at hz1
 refine B8<|sv Z<|A1<|A4<|cc Z hz1 (fun c1 hz1=> ?_)<|fun c1 hz1=> ?_
 refine B1<|A4<|A7<|lr<|fun u4 _=>sv Z<|bs hz1 fun v1 hv1 hz1=>sd Z (D8 Z Z hv1 Z)<|sd Z (D1 Z hv1 Z Z)<|sm Z<|sv Z<|U1 Z G_hit [(dl H6 v1.Parts),(di v1.Signal_)] Z (A1<|B8<|sd Z (B4 Z (gq Z) Z Z)<|sd Z (B4 Z G_hit Z Z)<|bs hz1 fun v2 hv2 hz1=>C0 Z Z A3 (Hh _ _ _ hv2) (.inl Z) (sv Z<|A1<|B8<|sv Z<|sd Z (C3 Z)<|sv Z<|A1<|bs hz1 fun y2 hy2 hz1=>E4 (fun s=> ∃g3:Nat,Sb ⟨T [(1,(di p2)),(2,(.d (.fn (.func 186) [] []))),(3,(.ptr (3,u1) 0)),(6,(oS y2 (53,g3))),(15,(dl F0 p1.Zones)),(16,(di (p1.Zones.length:Int))),(17,(di x1.2))],G [((3,u1),some<|.box 27 (H4 p1)),((53,g3),oB 93 4 I8 y2)]⟩ s) ?_ ?_))
 refine A7<|E5 (L7 p2 x1 v1 v2) (fun (x2:((List Clash)×Int)) (g4:Nat)=>⟨T [(1,(di p2)),(2,(.d (.fn (.func 186) [] []))),(3,(.ptr (3,u1) 0)),(6,(oS x2.1 (53,g4))),(7,(di x1.2)),(8,(.ptr (8,u4) 0)),(9,(dl A9 v2)),(15,(dl F0 p1.Zones)),(16,(di (p1.Zones.length:Int))),(17,(di x1.2)),(25,(dl A9 v2)),(26,(di (v2.length:Int))),(27,(di x2.2))],G [((3,u1),some<|.box 27 (H4 p1)),((8,u4),some<|.box 45 [(dl H6 v1.Parts),(di v1.Signal_)]),((53,g4),oB 93 4 I8 x2.1)]⟩) (x1.1,0) g2 _ hy2 (D3 (Z5 Z)<|sg Z<|B7 G_hit (.of Z)<|D4 (gq Z) trivial) ?_
 intro x2 g4 z2 hz2 ez2
 unfold L7 at hz2
 refine B8<|sv Z<|A1<|A4<|cc Z hz2 (fun c2 hz2=> ?_)<|fun c2 hz2=> ?_
 refine B1<|A4<|A7<|B8<|sv Z<|bs hz2 fun v3 hv3 hz2=>sd Z (D8 Z Z hv3 Z)<|sd Z (G1 Z hv3 Z)<|sv Z<|sv Z<|A1<|B8<|sv Z<|sv Z<|sv Z<|bs hz2 fun v4 hv4 hz2=>sd Z (Io Z (fun _=>Z) (Pb Z) Nr hv4)<|sd Z (C3 Z)<|sv Z<|A1<|bs hz2 fun y3 hy3 hz2=>E4 (fun s=> ∃g5:Nat,Sb ⟨T [(1,(di p2)),(2,(.d (.fn (.func 186) [] []))),(3,(.ptr (3,u1) 0)),(6,(oS y3 (53,g5))),(7,(di x1.2)),(8,(.ptr (8,u4) 0)),(9,(dl A9 v2)),(15,(dl F0 p1.Zones)),(16,(di (p1.Zones.length:Int))),(17,(di x1.2)),(25,(dl A9 v2)),(26,(di (v2.length:Int))),(27,(di x2.2))],G [((3,u1),some<|.box 27 (H4 p1)),((8,u4),some<|.box 45 [(dl H6 v1.Parts),(di v1.Signal_)]),((53,g5),oB 93 4 I8 y3)]⟩ s) ?_ ?_
 refine A7<|E5 (L6 p2 x1 v1 v3 v4) (fun (x3:((List Clash)×Int)) (g6:Nat)=>⟨T [(1,(di p2)),(2,(.d (.fn (.func 186) [] []))),(3,(.ptr (3,u1) 0)),(6,(oS x3.1 (53,g6))),(7,(di x1.2)),(8,(.ptr (8,u4) 0)),(9,(dl A9 v2)),(11,(di v3)),(15,(dl F0 p1.Zones)),(16,(di (p1.Zones.length:Int))),(17,(di x1.2)),(25,(dl A9 v2)),(26,(di (v2.length:Int))),(27,(di x2.2)),(35,(dl A9 v4)),(36,(di (v4.length:Int))),(37,(di x3.2))],G [((3,u1),some<|.box 27 (H4 p1)),((8,u4),some<|.box 45 [(dl H6 v1.Parts),(di v1.Signal_)]),((53,g6),oB 93 4 I8 x3.1)]⟩) (x2.1,0) g4 _ hy3 (D3 (Z5 Z)<|B7 G_hit (.of Z)<|sg Z<|D4 (gq Z) trivial) ?_
 intro x3 g6 z3 hz3 ez3
 unfold L6 at hz3
 refine B8<|sv Z<|A1<|A4<|cc Z hz3 (fun c3 hz3=> ?_)<|fun c3 hz3=> ?_
 refine B1<|A4<|A7<|B8<|bs hz3 fun v5 hv5 hz3=>sd Z (D8 Z Z hv5 Z)<|sd Z (G1 Z hv5 Z)<|sv Z<|A1<|B8<|sv Z<|sd Z (B4 Z (gq Z) Z Z)<|sv Z<|sv Z<|bs hz3 fun _ hv6 hz3=>C0 Z Z A3 (Tc _ _ _ _ hv6) (.inl Z) (A1<|cc Z hz3 (fun c4 hz3=> ?_)<|fun c4 hz3=> ?_)
 refine A6 (s0:=⟨T [(1,(di p2)),(2,(.d (.fn (.func 186) [] []))),(3,(.ptr (3,u1) 0)),(6,(oS x3.1 (53,g6))),(7,(di x1.2)),(8,(.ptr (8,u4) 0)),(9,(dl A9 v2)),(11,(di v3)),(13,(di v5)),(15,(dl F0 p1.Zones)),(16,(di (p1.Zones.length:Int))),(17,(di x1.2)),(25,(dl A9 v2)),(26,(di (v2.length:Int))),(27,(di x2.2)),(35,(dl A9 v4)),(36,(di (v4.length:Int))),(37,(di x3.2))],G [((3,u1),some<|.box 27 (H4 p1)),((53,g6),oB 93 4 I8 x3.1),((8,u4),some<|.box 45 [(dl H6 v1.Parts),(di v1.Signal_)])]⟩) (D3 (Z5 Z)<|B7 G_hit (.of Z)<|D4 (gq Z)<|sg Z trivial) ?_
 refine O8 fun u13 _=>B6 (oS x3.1 (53,g6)) Z Z (sv Z<|sv Z<|sv Z<|sv Z<|sv Z<|B6 (dl I8 [(Clash.mk p2 x1.2 v3 v5)]) Z Z (bs hz3 fun _ hv7 hz3=>J0 I8 (53,g6) x3.1 (Clash.mk p2 x1.2 v3 v5) [] _ (D0<|fun _=>Z) Z (gq Z) hv7 (ss Z<|A1<|D7<|A6 (s0:=⟨T [(1,(.d _)),(2,(.d _)),(3,(.ptr _ _)),(6,(.sl _)),(7,(.d _)),(8,(.ptr _ _)),(9,(.d _)),(11,(.d _)),(15,(.d _)),(16,(.d _)),(17,(.d _)),(25,(.d _)),(26,(.d _)),(27,(.d _)),(35,(.d _)),(36,(.d _)),(37,(.d _))],G [((3,u1),some<|.box 27 _),((53,u13),some _),((8,u4),some<|.box 45 _)]⟩) (D9 Z Z) ?_)))
 refine B5<|sv Z<|sv Z<|A1<|F8 ?_
 cases hz3
 exact ⟨Z,u13,(D3 ⟨.of Z, .of Z, .of Z,(.of (Z8<|N1 hv7).symm), .of Z, .of Z, .of Z, .of Z, .of Z, .of Z, .of Z, .of Z, .of Z, .of Z, .of Z, .of Z, .of Z,trivial⟩<|B7 G_hit (.of Z)<|sg Z<|O6 (gq Z) trivial)⟩
 refine B1<|D7<|A6 (s0:=⟨T [(1,(di p2)),(2,(.d (.fn (.func 186) [] []))),(3,(.ptr (3,u1) 0)),(6,(oS x3.1 (53,g6))),(7,(di x1.2)),(8,(.ptr (8,u4) 0)),(9,(dl A9 v2)),(11,(di v3)),(15,(dl F0 p1.Zones)),(16,(di (p1.Zones.length:Int))),(17,(di x1.2)),(25,(dl A9 v2)),(26,(di (v2.length:Int))),(27,(di x2.2)),(35,(dl A9 v4)),(36,(di (v4.length:Int))),(37,(di x3.2))],G [((3,u1),some<|.box 27 (H4 p1)),((53,g6),oB 93 4 I8 x3.1),((8,u4),some<|.box 45 [(dl H6 v1.Parts),(di v1.Signal_)])]⟩) (D3 (Z5 Z)<|B7 G_hit (.of Z)<|D4 (gq Z)<|sg Z trivial) ?_
 refine B5<|sv Z<|sv Z<|A1<|F8 ?_
 cases hz3
 exact ⟨Z,g6,(D3 (Z5 Z)<|B7 G_hit (.of Z)<|sg Z<|D4 (gq Z) trivial)⟩
 refine D2 Z ?_
 cases hz3
 obtain rfl:=ez3 _ rfl
 refine ⟨nofun,C9 Z<|Z9 ?_⟩
 exact ⟨g6,(D3 (Z5 Z)<|B7 G_hit (.of Z)<|sg Z<|D4 (gq Z) trivial)⟩
 rintro _ ⟨g5,q1⟩
 refine D7<|A6 q1<|B5<|sv Z<|sv Z<|A1<|F8 ?_
 cases hz2
 exact ⟨Z,g5,(D3 (Z5 Z)<|B7 G_hit (.of Z)<|sg Z<|D4 (gq Z) trivial)⟩
 refine D2 Z ?_
 cases hz2
 obtain rfl:=ez2 _ rfl
 refine ⟨nofun,C9 Z<|Z9 ?_⟩
 exact ⟨g4,(D3 (Z5 Z)<|B7 G_hit (.of Z)<|D4 (gq Z) trivial)⟩
 rintro _ ⟨g3,q2⟩
 refine D7<|A6 q2<|B5<|sv Z<|sv Z<|A1<|F8 ?_
 cases hz1
 exact ⟨Z,g3,(D3 (Z5 Z)<|B7 G_hit (.of Z)<|D4 (gq Z) trivial)⟩
 refine D2 Z ?_
 cases hz1
 obtain rfl:=ez1 _ rfl
 refine ⟨nofun,C9 Z<|Z9 ?_⟩
 exact ⟨g2,(D3 ⟨.of Z,trivial⟩<|D4 (gq Z) trivial)⟩
 rintro _ ⟨g1,q3⟩
 refine A6 q3<|B8<|B6 (oS y1 (53,g1)) Z Z (B6 (oS y1 (53,g1)) Z Z (A1<|B2 ?_))
 cases h
 exact A8 (.inr Z) (B9 (B0 Z)<|Cd G_hit) Cc
def Fw [Lp](p1:Map):Option (List Clash):=
  (O3 p1 3).bind fun v1=>some v1
theorem Xa(p1 r)(h:Fw p1=some r):PCall prog 79 [(.agg (K6 p1))] (.list (List.map I8 r)):=by
 refine C4 (fk func79 ntmps79 m0 (by with_unfolding_all rfl)) (nl Z) ?_
 unfold Fw at h
 refine A6 (s0:=⟨T [(0,(.d _))],G []⟩) (D9 Z Z) ?_
 refine B8<|sm Z<|sv Z<|A1<|B8<|sd Z (B4 Z G_hit Z Z)<|bs h fun _ hv1 h=>C0 Z Z A3 (Il _ _ _ hv1) (.inl Z) (sv Z<|A1<|B2 ?_)
 cases h
 exact A8 (.inr Z) (B9 (B0 Z) C2) (.refl _)
def R9 [Lp](p1:Phase)(p2:Int)(p3:Int):Option Bool:=
  (J4 p1.Green p2).bind fun v1=>((cond v1 (J4 p1.Green p3) (some default))).bind fun v2=>some (v1&&v2)
theorem Lf(p1 p2 p3 r)(h:R9 p1 p2 p3=some r):PCall prog 188 [(.agg [(i64 p1.Ticks),(.list (List.map A9 p1.Green))]),(.bp [(i64 p2)] 0),(.bp [(i64 p3)] 0)] (bo r):=by
 refine C4 (fk func188 ntmps188 m0 (by with_unfolding_all rfl)) (nl Z) ?_
 unfold R9 at h
 refine A6 (s0:=⟨T [(0,(.d _)),(1,(.d _)),(2,(.d _))],G []⟩) (D9 Z Z) ?_
 refine B8<|sm Z<|sv Z<|A1<|B8<|sq Z<|sl Z G_hit Z<|sv Z<|bs h fun v1 hv1 h=>C0 Z Z A3 (T1 _ _ _ hv1) (.inl Z) (sv Z<|gp Z (I9 Z) (fun _=>Z) (gt Z (vl Z G_hit Z)<|gt Z (fun _=>Z)<|bs h fun v2 hv2 h=> ?_))
 refine O7 v1 (bo v2) (I9 Z) (fun w4=>⟨_,[(dl A9 p1.Green),(di p3)],_,_,(by simp only [A2 w4];rfl),Z,A3,T1 _ _ _<|G7 w4 hv2,(.inl Z)⟩) ?_
 refine sa Z Z Z<|sv Z<|A1<|B2 ?_
 cases h
 exact A8 (.inr Z) (B9 (B0 Z) C2) (.refl _)
def E8 [Lp](p1:(List Phase))(p2:Int)(p3:Int)(x1:Int):Option (Stp Int (Sum Unit Int)):=
  cond (decide (x1< (p1.length:Int))) ((E6 p1 x1).bind fun v1=>(R9 v1 p2 p3).bind fun v2=>cond v2 (some (.out (.inr x1))) (some (.go (J3 (x1+1))))) (some (.out (.inl ())))
def F3 [Lp](p1:(List Phase))(p2:Int)(p3:Int):Option Int:=
  thenS (loop (E8 p1 p2 p3) 0) (fun _=>some (-1)) (fun r=>some r)
theorem Y8(p1 p2 p3 r)(h:F3 p1 p2 p3=some r):PCall prog 237 [(.list (List.map I3 p1)),(.fn (.func 188) [] [(.bp [(i64 p2)] 0),(.bp [(i64 p3)] 0)])] (i64 r):=by
 refine C4 (fk func237 ntmps237 m0 (by with_unfolding_all rfl)) (nl Z) ?_
 unfold F3 at h
 refine A6 (s0:=⟨T [(0,(.d _)),(1,(.d _))],G []⟩) (D9 Z Z) ?_
 refine B8<|sv Z<|A1<|A4<|B8<|sv Z<|sd Z (C3 Z)<|sv Z<|A1<|js h fun z1 hz1 h=>E4 (fun s=> ∃(y1:Unit) (g1:Unit),z1= .inl y1∧Sb ⟨T [],G []⟩ s) ?_ ?_
 refine A7<|E5 (E8 p1 p2 p3) (fun (x1:Int) (g2:Unit)=>⟨T [(0,(dl I3 p1)),(1,(.d (.fn (.func 188) [] [(.bp [(i64 p2)] 0),(.bp [(i64 p3)] 0)]))),(7,(di (p1.length:Int))),(8,(di x1))],G []⟩) 0 () _ hz1 (D9 Z Z) ?_
 intro x1 g2 z2 hz2 ez2
 unfold E8 at hz2
 refine B8<|sv Z<|A1<|A4<|cc Z hz2 (fun c1 hz2=> ?_)<|fun c1 hz2=> ?_
 refine B1<|A4<|A7<|B8<|sv Z<|sv Z<|A1<|B8<|sv Z<|sv Z<|sv Z<|bs hz2 fun _ hv1 hz2=>sd Z (D8 Z Z hv1 Z)<|sd Z (D1 Z hv1 Z Z)<|bs hz2 fun _ hv2 hz2=>C0 Z Z A3 (Lf _ _ _ _ hv2) (.inl Z) (A1<|cc Z hz2 (fun c2 hz2=> ?_)<|fun c2 hz2=> ?_)
 refine B8<|sv Z<|sv Z<|A1<|B2 ?_
 cases hz2
 obtain rfl:=ez2 _ rfl
 refine ⟨nofun,E1 ?_⟩
 rw [bI]at h
 cases h
 exact A8 (.inr Z) (B9 (B0 Z) C2) (.refl _)
 refine B1<|D7<|B5<|sv Z<|sv Z<|A1<|F8 ?_
 cases hz2
 exact ⟨Z,(),(D9 Z Z)⟩
 refine D2 Z ?_
 cases hz2
 obtain rfl:=ez2 _ rfl
 refine ⟨nofun,C9 Z<|Z9 ?_⟩
 exact ⟨_,(),Z,(D9 Z Z)⟩
 rintro _ ⟨y1,g1,rfl,q1⟩
 rw [bH]at h
 refine A6 q1<|B8<|sv Z<|A1<|B2 ?_
 cases h
 exact A8 (.inr Z) (B9 (B0 Z) C2) (.refl _)
def E9 [Lp](p1:(List Phase))(p2:Int)(p3:Int):Option Bool:=
  (F3 p1 p2 p3).bind fun v1=>some (decide (v1≥0))
theorem X9(p1 p2 p3 r)(h:E9 p1 p2 p3=some r):PCall prog 172 [(.list (List.map I3 p1)),(.fn (.func 188) [] [(.bp [(i64 p2)] 0),(.bp [(i64 p3)] 0)])] (bo r):=by
 refine C4 (fk func172 ntmps172 m0 (by with_unfolding_all rfl)) (nl Z) ?_
 unfold E9 at h
 refine A6 (s0:=⟨T [(0,(.d _)),(1,(.d _))],G []⟩) (D9 Z Z) ?_
 refine B8<|sv Z<|A1<|B8<|sv Z<|sv Z<|bs h fun _ hv1 h=>C0 Z Z A3 (Y8 _ _ _ _ hv1) (.inl Z) (sv Z<|sv Z<|A1<|B2 ?_)
 cases h
 exact A8 (.inr Z) (B9 (B0 Z) C2) (.refl _)
def U6 [Lp](p1:Zone)(p2:Int)(p3:Int)(p4:Map):Option Bool:=
  ((cond (decide (p1.Signal_>0)) (E6 p4.Signals (J3 (p1.Signal_ - 1))) (some default))).bind fun v1=>((cond (decide (p1.Signal_>0)) (E9 v1.Phases p2 p3) (some default))).bind fun v2=>some ((decide (p1.Signal_>0))&&v2)
theorem Ip(p1 p2 p3 p4 r)(h:U6 p1 p2 p3 p4=some r):PCall prog 187 [(.agg [(.list (List.map H6 p1.Parts)),(i64 p1.Signal_)]),(i64 p2),(i64 p3),(.bp (K6 p4) 0)] (bo r):=by
 refine C4 (fk func187 ntmps187 m0 (by with_unfolding_all rfl)) (nl Z) ?_
 unfold U6 at h
 refine A6 (s0:=⟨T [(0,(.d _)),(1,(.d _)),(2,(.d _)),(3,(.d _))],G []⟩) (D9 Z Z) ?_
 refine lr<|fun u1 _=>sm Z<|sm Z<|sn Z Z<|sv Z<|A1<|B8<|sq Z<|sl Z (gq Z) Z (sv Z<|sv Z<|gt Z (fun _=>Z) ?_)
 refine gt Z (fun w2=>(by simp only [A2 w2];rfl)) ?_
 refine gp Z (I9 Z) (fun _=>Z) (gt Z (vl Z (gq Z) Z)<|gt Z (vb Z Z Z)<|bs h fun v1 hv1 h=>gt Z (fun w6=>(D8 (A2 w6) (A2 w6) (G7 w6 hv1) Z)) ?_)
 refine gt Z (fun w7=>(by simp only [A2 w7];rfl)) ?_
 refine gt Z (fun w8=>(G1 (A2 w8) (G7 w8 hv1) Z))<|S6 _ (.fn _ _ _) Z (I9 Z) (fun _=>Z) (bs h fun v2 hv2 h=> ?_)
 refine O7 _ (bo v2) (I9 Z) (fun w10=>⟨_,[(dl I3 v1.Phases),(.fn (.func 188) [] [(.ptr (5,u1) 0),(.ptr (6,u1) 0)])],_,_,(by simp only [A2 w10];rfl),(rD<|H3 (Zf I6<|H3 (Kr (gq Z)<|rD I6)<|H3 (Kr G_hit<|rD I6) I6) I6),A3,X9 _ _ _ _<|G7 w10 hv2,(.inr Z)⟩) ?_
 refine sa Z Z Z<|sv Z<|A1<|B2 ?_
 cases h
 exact A8 (.inr Z) (B9 (B0 Z) C2) (.refl _)
def U7 [Lp](p2:Int)(p3:Map)(x1:((List Clash)×Int))(v1:Zone)(v3:Int)(v4:List Int)(x3:((List Clash)×Int)):Option (Stp ((List Clash)×Int) (List Clash)):=
  cond (decide (x3.2< (v4.length:Int))) ((E6 v4 x3.2).bind fun v5=>(U6 v1 v3 v5 p3).bind fun v6=>cond v6 ((Q8 x3.1 [(Clash.mk p2 x1.2 v3 v5)]).bind fun v7=>some (.go (v7,(J3 (x3.2+1))))) (some (.go (x3.1,(J3 (x3.2+1)))))) (some (.out x3.1))
def U8 [Lp](p2:Int)(p3:Map)(x1:((List Clash)×Int))(v1:Zone)(v2:(List Int))(x2:((List Clash)×Int)):Option (Stp ((List Clash)×Int) (List Clash)):=
  cond (decide (x2.2< (v2.length:Int))) ((E6 v2 x2.2).bind fun v3=>(Gi v2 (J3 (x2.2+1)) (v2.length:Int)).bind fun v4=>(loop (U7 p2 p3 x1 v1 v3 v4) (x2.1,0)).bind fun y3=>some (.go (y3,(J3 (x2.2+1))))) (some (.out x2.1))
def U9 [Lp](p1:Map)(p2:Int)(p3:Map)(x1:((List Clash)×Int)):Option (Stp ((List Clash)×Int) (List Clash)):=
  cond (decide (x1.2< (p1.Zones.length:Int))) ((E6 p1.Zones x1.2).bind fun v1=>(Y2 p1 v1).bind fun v2=>(loop (U8 p2 p3 x1 v1 v2) (x1.1,0)).bind fun y2=>some (.go (y2,(J3 (x1.2+1))))) (some (.out x1.1))
def Du [Lp](p1:Map)(p2:Int)(p3:Map):Option (List Clash):=
  (loop (U9 p1 p2 p3) ([],0)).bind fun y1=>some y1
theorem Td(p1 p2 p3 r)(h:Du p1 p2 p3=some r):PCall prog 185 [(.agg (K6 p1)),(i64 p2),(.fn (.func 187) [] [(.bp (K6 p3) 0)])] (.list (List.map I8 r)):=by
 refine C4 (fk func185 ntmps185 (fun r=>if r==12 then [1006]else []) (by with_unfolding_all rfl)) (nl Z) ?_
 unfold Du at h
 refine A6 (s0:=⟨T [(0,(.d _)),(1,(.d _)),(2,(.d _))],G []⟩) (D9 Z Z) ?_
 refine lr<|fun u1 _=>sm Z<|sv Z<|A1<|A4<|B8<|sq Z<|sl Z G_hit Z<|sd Z (C3 Z)<|sv Z<|A1<|bs h fun y1 hy1 h=>E4 (fun s=> ∃g1:Nat,Sb ⟨T [(6,(oS y1 (53,g1)))],G [((53,g1),oB 93 4 I8 y1)]⟩ s) ?_ ?_
 refine A7<|E5 (U9 p1 p2 p3) (fun (x1:((List Clash)×Int)) (g2:Nat)=>⟨T [(1,(di p2)),(2,(.d (.fn (.func 187) [] [(.bp (K6 p3) 0)]))),(3,(.ptr (3,u1) 0)),(6,(oS x1.1 (53,g2))),(15,(dl F0 p1.Zones)),(16,(di (p1.Zones.length:Int))),(17,(di x1.2))],G [((3,u1),some<|.box 27 (H4 p1)),((53,g2),oB 93 4 I8 x1.1)]⟩) ([],0) 0 _ hy1 (D3 (Z5 Z)<|B7 G_hit (.of Z)<|O9 trivial) ?_
 intro x1 g2 z1 hz1 ez1
 unfold U9 at hz1
 refine B8<|sv Z<|A1<|A4<|cc Z hz1 (fun c1 hz1=> ?_)<|fun c1 hz1=> ?_
 refine B1<|A4<|A7<|lr<|fun u4 _=>sv Z<|bs hz1 fun v1 hv1 hz1=>sd Z (D8 Z Z hv1 Z)<|sd Z (D1 Z hv1 Z Z)<|sm Z<|sv Z<|U1 Z G_hit [(dl H6 v1.Parts),(di v1.Signal_)] Z (A1<|B8<|sd Z (B4 Z (gq Z) Z Z)<|sd Z (B4 Z G_hit Z Z)<|bs hz1 fun v2 hv2 hz1=>C0 Z Z A3 (Hh _ _ _ hv2) (.inl Z) (sv Z<|A1<|B8<|sv Z<|sd Z (C3 Z)<|sv Z<|A1<|bs hz1 fun y2 hy2 hz1=>E4 (fun s=> ∃g3:Nat,Sb ⟨T [(1,(di p2)),(2,(.d (.fn (.func 187) [] [(.bp (K6 p3) 0)]))),(3,(.ptr (3,u1) 0)),(6,(oS y2 (53,g3))),(15,(dl F0 p1.Zones)),(16,(di (p1.Zones.length:Int))),(17,(di x1.2))],G [((3,u1),some<|.box 27 (H4 p1)),((53,g3),oB 93 4 I8 y2)]⟩ s) ?_ ?_))
 refine A7<|E5 (U8 p2 p3 x1 v1 v2) (fun (x2:((List Clash)×Int)) (g4:Nat)=>⟨T [(1,(di p2)),(2,(.d (.fn (.func 187) [] [(.bp (K6 p3) 0)]))),(3,(.ptr (3,u1) 0)),(6,(oS x2.1 (53,g4))),(7,(di x1.2)),(8,(.ptr (8,u4) 0)),(9,(dl A9 v2)),(15,(dl F0 p1.Zones)),(16,(di (p1.Zones.length:Int))),(17,(di x1.2)),(25,(dl A9 v2)),(26,(di (v2.length:Int))),(27,(di x2.2))],G [((3,u1),some<|.box 27 (H4 p1)),((8,u4),some<|.box 45 [(dl H6 v1.Parts),(di v1.Signal_)]),((53,g4),oB 93 4 I8 x2.1)]⟩) (x1.1,0) g2 _ hy2 (D3 (Z5 Z)<|sg Z<|B7 G_hit (.of Z)<|D4 (gq Z) trivial) ?_
 intro x2 g4 z2 hz2 ez2
 unfold U8 at hz2
 refine B8<|sv Z<|A1<|A4<|cc Z hz2 (fun c2 hz2=> ?_)<|fun c2 hz2=> ?_
 refine B1<|A4<|A7<|B8<|sv Z<|bs hz2 fun v3 hv3 hz2=>sd Z (D8 Z Z hv3 Z)<|sd Z (G1 Z hv3 Z)<|sv Z<|sv Z<|A1<|B8<|sv Z<|sv Z<|sv Z<|bs hz2 fun v4 hv4 hz2=>sd Z (Io Z (fun _=>Z) (Pb Z) Nr hv4)<|sd Z (C3 Z)<|sv Z<|A1<|bs hz2 fun y3 hy3 hz2=>E4 (fun s=> ∃g5:Nat,Sb ⟨T [(1,(di p2)),(2,(.d (.fn (.func 187) [] [(.bp (K6 p3) 0)]))),(3,(.ptr (3,u1) 0)),(6,(oS y3 (53,g5))),(7,(di x1.2)),(8,(.ptr (8,u4) 0)),(9,(dl A9 v2)),(15,(dl F0 p1.Zones)),(16,(di (p1.Zones.length:Int))),(17,(di x1.2)),(25,(dl A9 v2)),(26,(di (v2.length:Int))),(27,(di x2.2))],G [((3,u1),some<|.box 27 (H4 p1)),((8,u4),some<|.box 45 [(dl H6 v1.Parts),(di v1.Signal_)]),((53,g5),oB 93 4 I8 y3)]⟩ s) ?_ ?_
 refine A7<|E5 (U7 p2 p3 x1 v1 v3 v4) (fun (x3:((List Clash)×Int)) (g6:Nat)=>⟨T [(1,(di p2)),(2,(.d (.fn (.func 187) [] [(.bp (K6 p3) 0)]))),(3,(.ptr (3,u1) 0)),(6,(oS x3.1 (53,g6))),(7,(di x1.2)),(8,(.ptr (8,u4) 0)),(9,(dl A9 v2)),(11,(di v3)),(15,(dl F0 p1.Zones)),(16,(di (p1.Zones.length:Int))),(17,(di x1.2)),(25,(dl A9 v2)),(26,(di (v2.length:Int))),(27,(di x2.2)),(35,(dl A9 v4)),(36,(di (v4.length:Int))),(37,(di x3.2))],G [((3,u1),some<|.box 27 (H4 p1)),((8,u4),some<|.box 45 [(dl H6 v1.Parts),(di v1.Signal_)]),((53,g6),oB 93 4 I8 x3.1)]⟩) (x2.1,0) g4 _ hy3 (D3 (Z5 Z)<|B7 G_hit (.of Z)<|sg Z<|D4 (gq Z) trivial) ?_
 intro x3 g6 z3 hz3 ez3
 unfold U7 at hz3
 refine B8<|sv Z<|A1<|A4<|cc Z hz3 (fun c3 hz3=> ?_)<|fun c3 hz3=> ?_
 refine B1<|A4<|A7<|B8<|bs hz3 fun v5 hv5 hz3=>sd Z (D8 Z Z hv5 Z)<|sd Z (G1 Z hv5 Z)<|sv Z<|A1<|B8<|sv Z<|sd Z (B4 Z (gq Z) Z Z)<|sv Z<|sv Z<|bs hz3 fun _ hv6 hz3=>C0 Z Z A3 (Ip _ _ _ _ _ hv6) (.inl Z) (A1<|cc Z hz3 (fun c4 hz3=> ?_)<|fun c4 hz3=> ?_)
 refine A6 (s0:=⟨T [(1,(di p2)),(2,(.d (.fn (.func 187) [] [(.bp (K6 p3) 0)]))),(3,(.ptr (3,u1) 0)),(6,(oS x3.1 (53,g6))),(7,(di x1.2)),(8,(.ptr (8,u4) 0)),(9,(dl A9 v2)),(11,(di v3)),(13,(di v5)),(15,(dl F0 p1.Zones)),(16,(di (p1.Zones.length:Int))),(17,(di x1.2)),(25,(dl A9 v2)),(26,(di (v2.length:Int))),(27,(di x2.2)),(35,(dl A9 v4)),(36,(di (v4.length:Int))),(37,(di x3.2))],G [((3,u1),some<|.box 27 (H4 p1)),((53,g6),oB 93 4 I8 x3.1),((8,u4),some<|.box 45 [(dl H6 v1.Parts),(di v1.Signal_)])]⟩) (D3 (Z5 Z)<|B7 G_hit (.of Z)<|D4 (gq Z)<|sg Z trivial) ?_
 refine O8 fun u13 _=>B6 (oS x3.1 (53,g6)) Z Z (sv Z<|sv Z<|sv Z<|sv Z<|sv Z<|B6 (dl I8 [(Clash.mk p2 x1.2 v3 v5)]) Z Z (bs hz3 fun _ hv7 hz3=>J0 I8 (53,g6) x3.1 (Clash.mk p2 x1.2 v3 v5) [] _ (D0<|fun _=>Z) Z (gq Z) hv7 (ss Z<|A1<|D7<|A6 (s0:=⟨T [(1,(.d _)),(2,(.d _)),(3,(.ptr _ _)),(6,(.sl _)),(7,(.d _)),(8,(.ptr _ _)),(9,(.d _)),(11,(.d _)),(15,(.d _)),(16,(.d _)),(17,(.d _)),(25,(.d _)),(26,(.d _)),(27,(.d _)),(35,(.d _)),(36,(.d _)),(37,(.d _))],G [((3,u1),some<|.box 27 _),((53,u13),some _),((8,u4),some<|.box 45 _)]⟩) (D9 Z Z) ?_)))
 refine B5<|sv Z<|sv Z<|A1<|F8 ?_
 cases hz3
 exact ⟨Z,u13,(D3 ⟨.of Z, .of Z, .of Z,(.of (Z8<|N1 hv7).symm), .of Z, .of Z, .of Z, .of Z, .of Z, .of Z, .of Z, .of Z, .of Z, .of Z, .of Z, .of Z, .of Z,trivial⟩<|B7 G_hit (.of Z)<|sg Z<|O6 (gq Z) trivial)⟩
 refine B1<|D7<|A6 (s0:=⟨T [(1,(di p2)),(2,(.d (.fn (.func 187) [] [(.bp (K6 p3) 0)]))),(3,(.ptr (3,u1) 0)),(6,(oS x3.1 (53,g6))),(7,(di x1.2)),(8,(.ptr (8,u4) 0)),(9,(dl A9 v2)),(11,(di v3)),(15,(dl F0 p1.Zones)),(16,(di (p1.Zones.length:Int))),(17,(di x1.2)),(25,(dl A9 v2)),(26,(di (v2.length:Int))),(27,(di x2.2)),(35,(dl A9 v4)),(36,(di (v4.length:Int))),(37,(di x3.2))],G [((3,u1),some<|.box 27 (H4 p1)),((53,g6),oB 93 4 I8 x3.1),((8,u4),some<|.box 45 [(dl H6 v1.Parts),(di v1.Signal_)])]⟩) (D3 (Z5 Z)<|B7 G_hit (.of Z)<|D4 (gq Z)<|sg Z trivial) ?_
 refine B5<|sv Z<|sv Z<|A1<|F8 ?_
 cases hz3
 exact ⟨Z,g6,(D3 (Z5 Z)<|B7 G_hit (.of Z)<|sg Z<|D4 (gq Z) trivial)⟩
 refine D2 Z ?_
 cases hz3
 obtain rfl:=ez3 _ rfl
 refine ⟨nofun,C9 Z<|Z9 ?_⟩
 exact ⟨g6,(D3 (Z5 Z)<|B7 G_hit (.of Z)<|sg Z<|D4 (gq Z) trivial)⟩
 rintro _ ⟨g5,q1⟩
 refine D7<|A6 q1<|B5<|sv Z<|sv Z<|A1<|F8 ?_
 cases hz2
 exact ⟨Z,g5,(D3 (Z5 Z)<|B7 G_hit (.of Z)<|sg Z<|D4 (gq Z) trivial)⟩
 refine D2 Z ?_
 cases hz2
 obtain rfl:=ez2 _ rfl
 refine ⟨nofun,C9 Z<|Z9 ?_⟩
 exact ⟨g4,(D3 (Z5 Z)<|B7 G_hit (.of Z)<|D4 (gq Z) trivial)⟩
 rintro _ ⟨g3,q2⟩
 refine D7<|A6 q2<|B5<|sv Z<|sv Z<|A1<|F8 ?_
 cases hz1
 exact ⟨Z,g3,(D3 (Z5 Z)<|B7 G_hit (.of Z)<|D4 (gq Z) trivial)⟩
 refine D2 Z ?_
 cases hz1
 obtain rfl:=ez1 _ rfl
 refine ⟨nofun,C9 Z<|Z9 ?_⟩
 exact ⟨g2,(D3 ⟨.of Z,trivial⟩<|D4 (gq Z) trivial)⟩
 rintro _ ⟨g1,q3⟩
 refine A6 q3<|B8<|B6 (oS y1 (53,g1)) Z Z (B6 (oS y1 (53,g1)) Z Z (A1<|B2 ?_))
 cases h
 exact A8 (.inr Z) (B9 (B0 Z)<|Cd G_hit) Cc
def K2 [Lp](p2:Int)(p3:Map)(x1:((List Clash)×Int))(v1:Zone)(v3:Int)(v4:List Int)(x3:((List Clash)×Int)):Option (Stp ((List Clash)×Int) (List Clash)):=
  cond (decide (x3.2< (v4.length:Int))) ((E6 v4 x3.2).bind fun v5=>(U6 v1 v3 v5 p3).bind fun v6=>cond v6 ((Q8 x3.1 [(Clash.mk p2 x1.2 v3 v5)]).bind fun v7=>some (.go (v7,(J3 (x3.2+1))))) (some (.go (x3.1,(J3 (x3.2+1)))))) (some (.out x3.1))
def K3 [Lp](p2:Int)(p3:Map)(x1:((List Clash)×Int))(v1:Zone)(v2:(List Int))(x2:((List Clash)×Int)):Option (Stp ((List Clash)×Int) (List Clash)):=
  cond (decide (x2.2< (v2.length:Int))) ((E6 v2 x2.2).bind fun v3=>(Gi v2 (J3 (x2.2+1)) (v2.length:Int)).bind fun v4=>(loop (K2 p2 p3 x1 v1 v3 v4) (x2.1,0)).bind fun y3=>some (.go (y3,(J3 (x2.2+1))))) (some (.out x2.1))
def K4 [Lp](p1:Map)(p2:Int)(p3:Map)(x1:((List Clash)×Int)):Option (Stp ((List Clash)×Int) (List Clash)):=
  cond (decide (x1.2< (p1.Zones.length:Int))) ((E6 p1.Zones x1.2).bind fun v1=>(Y2 p1 v1).bind fun v2=>(loop (K3 p2 p3 x1 v1 v2) (x1.1,0)).bind fun y2=>some (.go (y2,(J3 (x1.2+1))))) (some (.out x1.1))
def M8 [Lp](p1:Map)(p2:Int)(p3:Map):Option (List Clash):=
  (loop (K4 p1 p2 p3) ([],0)).bind fun y1=>some y1
theorem Hi(p1 p2 p3 r)(h:M8 p1 p2 p3=some r):MCall prog 185 [(.d (.agg (K6 p1))),(di p2),(.fn (.func 187) [] [(.ptr (900000,0) 0)])] [(.box 27 (H4 p3))] (dl I8 r) [some (.box 27 (H4 p3))] []:=by
 refine Vg (fk func185 ntmps185 (fun r=>if r==12 then [1006]else []) (by with_unfolding_all rfl)) Z (nl Z) ?_
 unfold M8 at h
 refine A6 (s0:=⟨T [(0,(.d _)),(1,(.d _)),(2,(.fn _ _ _))],G [((900000,0),some<|.box 27 _)]⟩) (D9 Z Z) ?_
 refine lr<|fun u1 _=>sm Z<|sv Z<|A1<|A4<|B8<|sq Z<|sl Z G_hit Z<|sd Z (C3 Z)<|sv Z<|A1<|bs h fun y1 hy1 h=>E4 (fun s=> ∃g1:Nat,Sb ⟨T [(2,(.fn (.func 187) [] [(.ptr (900000,0) 0)])),(6,(oS y1 (53,g1)))],G [((900000,0),some<|.box 27 (H4 p3)),((53,g1),oB 93 4 I8 y1)]⟩ s) ?_ ?_
 refine A7<|E5 (K4 p1 p2 p3) (fun (x1:((List Clash)×Int)) (g2:Nat)=>⟨T [(1,(di p2)),(2,(.fn (.func 187) [] [(.ptr (900000,0) 0)])),(3,(.ptr (3,u1) 0)),(6,(oS x1.1 (53,g2))),(15,(dl F0 p1.Zones)),(16,(di (p1.Zones.length:Int))),(17,(di x1.2))],G [((900000,0),some<|.box 27 (H4 p3)),((3,u1),some<|.box 27 (H4 p1)),((53,g2),oB 93 4 I8 x1.1)]⟩) ([],0) 0 _ hy1 (D3 (Z5 Z)<|sg Z<|B7 G_hit (.of Z)<|O9 trivial) ?_
 intro x1 g2 z1 hz1 ez1
 unfold K4 at hz1
 refine B8<|sv Z<|A1<|A4<|cc Z hz1 (fun c1 hz1=> ?_)<|fun c1 hz1=> ?_
 refine B1<|A4<|A7<|lr<|fun u4 _=>sv Z<|bs hz1 fun v1 hv1 hz1=>sd Z (D8 Z Z hv1 Z)<|sd Z (D1 Z hv1 Z Z)<|sm Z<|sv Z<|U1 Z G_hit [(dl H6 v1.Parts),(di v1.Signal_)] Z (A1<|B8<|sd Z (B4 Z (gq Z) Z Z)<|sd Z (B4 Z G_hit Z Z)<|bs hz1 fun v2 hv2 hz1=>C0 Z Z A3 (Hh _ _ _ hv2) (.inl Z) (sv Z<|A1<|B8<|sv Z<|sd Z (C3 Z)<|sv Z<|A1<|bs hz1 fun y2 hy2 hz1=>E4 (fun s=> ∃g3:Nat,Sb ⟨T [(1,(di p2)),(2,(.fn (.func 187) [] [(.ptr (900000,0) 0)])),(3,(.ptr (3,u1) 0)),(6,(oS y2 (53,g3))),(15,(dl F0 p1.Zones)),(16,(di (p1.Zones.length:Int))),(17,(di x1.2))],G [((900000,0),some<|.box 27 (H4 p3)),((3,u1),some<|.box 27 (H4 p1)),((53,g3),oB 93 4 I8 y2)]⟩ s) ?_ ?_))
 refine A7<|E5 (K3 p2 p3 x1 v1 v2) (fun (x2:((List Clash)×Int)) (g4:Nat)=>⟨T [(1,(di p2)),(2,(.fn (.func 187) [] [(.ptr (900000,0) 0)])),(3,(.ptr (3,u1) 0)),(6,(oS x2.1 (53,g4))),(7,(di x1.2)),(8,(.ptr (8,u4) 0)),(9,(dl A9 v2)),(15,(dl F0 p1.Zones)),(16,(di (p1.Zones.length:Int))),(17,(di x1.2)),(25,(dl A9 v2)),(26,(di (v2.length:Int))),(27,(di x2.2))],G [((900000,0),some<|.box 27 (H4 p3)),((3,u1),some<|.box 27 (H4 p1)),((8,u4),some<|.box 45 [(dl H6 v1.Parts),(di v1.Signal_)]),((53,g4),oB 93 4 I8 x2.1)]⟩) (x1.1,0) g2 _ hy2 (D3 (Z5 Z)<|sg Z<|sg Z<|B7 G_hit (.of Z)<|D4 (gq Z) trivial) ?_
 intro x2 g4 z2 hz2 ez2
 unfold K3 at hz2
 refine B8<|sv Z<|A1<|A4<|cc Z hz2 (fun c2 hz2=> ?_)<|fun c2 hz2=> ?_
 refine B1<|A4<|A7<|B8<|sv Z<|bs hz2 fun v3 hv3 hz2=>sd Z (D8 Z Z hv3 Z)<|sd Z (G1 Z hv3 Z)<|sv Z<|sv Z<|A1<|B8<|sv Z<|sv Z<|sv Z<|bs hz2 fun v4 hv4 hz2=>sd Z (Io Z (fun _=>Z) (Pb Z) Nr hv4)<|sd Z (C3 Z)<|sv Z<|A1<|bs hz2 fun y3 hy3 hz2=>E4 (fun s=> ∃g5:Nat,Sb ⟨T [(1,(di p2)),(2,(.fn (.func 187) [] [(.ptr (900000,0) 0)])),(3,(.ptr (3,u1) 0)),(6,(oS y3 (53,g5))),(7,(di x1.2)),(8,(.ptr (8,u4) 0)),(9,(dl A9 v2)),(15,(dl F0 p1.Zones)),(16,(di (p1.Zones.length:Int))),(17,(di x1.2)),(25,(dl A9 v2)),(26,(di (v2.length:Int))),(27,(di x2.2))],G [((900000,0),some<|.box 27 (H4 p3)),((3,u1),some<|.box 27 (H4 p1)),((8,u4),some<|.box 45 [(dl H6 v1.Parts),(di v1.Signal_)]),((53,g5),oB 93 4 I8 y3)]⟩ s) ?_ ?_
 refine A7<|E5 (K2 p2 p3 x1 v1 v3 v4) (fun (x3:((List Clash)×Int)) (g6:Nat)=>⟨T [(1,(di p2)),(2,(.fn (.func 187) [] [(.ptr (900000,0) 0)])),(3,(.ptr (3,u1) 0)),(6,(oS x3.1 (53,g6))),(7,(di x1.2)),(8,(.ptr (8,u4) 0)),(9,(dl A9 v2)),(11,(di v3)),(15,(dl F0 p1.Zones)),(16,(di (p1.Zones.length:Int))),(17,(di x1.2)),(25,(dl A9 v2)),(26,(di (v2.length:Int))),(27,(di x2.2)),(35,(dl A9 v4)),(36,(di (v4.length:Int))),(37,(di x3.2))],G [((900000,0),some<|.box 27 (H4 p3)),((3,u1),some<|.box 27 (H4 p1)),((8,u4),some<|.box 45 [(dl H6 v1.Parts),(di v1.Signal_)]),((53,g6),oB 93 4 I8 x3.1)]⟩) (x2.1,0) g4 _ hy3 (D3 (Z5 Z)<|B7 G_hit (.of Z)<|sg Z<|sg Z<|D4 (gq Z) trivial) ?_
 intro x3 g6 z3 hz3 ez3
 unfold K2 at hz3
 refine B8<|sv Z<|A1<|A4<|cc Z hz3 (fun c3 hz3=> ?_)<|fun c3 hz3=> ?_
 refine B1<|A4<|A7<|B8<|bs hz3 fun v5 hv5 hz3=>sd Z (D8 Z Z hv5 Z)<|sd Z (G1 Z hv5 Z)<|sv Z<|A1<|B8<|B6 (.fn _ _ _) Z Z (sd Z (B4 Z (gq Z) Z Z)<|sv Z<|sv Z<|bs hz3 fun _ hv6 hz3=>C0 Z (rD<|rD<|rD<|H3 (Kr G_hit<|rD<|rD<|rD<|rD<|rD I6) I6) A3 (Ip _ _ _ _ _ hv6) (.inr Z) (A1<|cc Z hz3 (fun c4 hz3=> ?_)<|fun c4 hz3=> ?_))
 refine A6 (s0:=⟨T [(1,(di p2)),(2,(.fn (.func 187) [] [(.ptr (900000,0) 0)])),(3,(.ptr (3,u1) 0)),(6,(oS x3.1 (53,g6))),(7,(di x1.2)),(8,(.ptr (8,u4) 0)),(9,(dl A9 v2)),(11,(di v3)),(13,(di v5)),(15,(dl F0 p1.Zones)),(16,(di (p1.Zones.length:Int))),(17,(di x1.2)),(25,(dl A9 v2)),(26,(di (v2.length:Int))),(27,(di x2.2)),(35,(dl A9 v4)),(36,(di (v4.length:Int))),(37,(di x3.2))],G [((900000,0),some<|.box 27 (H4 p3)),((3,u1),some<|.box 27 (H4 p1)),((53,g6),oB 93 4 I8 x3.1),((8,u4),some<|.box 45 [(dl H6 v1.Parts),(di v1.Signal_)])]⟩) (D3 (Z5 Z)<|B7 G_hit (.of Z)<|sg Z<|D4 (gq Z)<|sg Z trivial) ?_
 refine O8 fun u13 _=>B6 (oS x3.1 (53,g6)) Z Z (sv Z<|sv Z<|sv Z<|sv Z<|sv Z<|B6 (dl I8 [(Clash.mk p2 x1.2 v3 v5)]) Z Z (bs hz3 fun _ hv7 hz3=>J0 I8 (53,g6) x3.1 (Clash.mk p2 x1.2 v3 v5) [] _ (D0<|fun _=>Z) Z (gq Z) hv7 (ss Z<|A1<|D7<|A6 (s0:=⟨T [(1,(.d _)),(2,(.fn _ _ _)),(3,(.ptr _ _)),(6,(.sl _)),(7,(.d _)),(8,(.ptr _ _)),(9,(.d _)),(11,(.d _)),(15,(.d _)),(16,(.d _)),(17,(.d _)),(25,(.d _)),(26,(.d _)),(27,(.d _)),(35,(.d _)),(36,(.d _)),(37,(.d _))],G [((900000,0),some<|.box 27 _),((3,u1),some<|.box 27 _),((53,u13),some _),((8,u4),some<|.box 45 _)]⟩) (D9 Z Z) ?_)))
 refine B5<|sv Z<|sv Z<|A1<|F8 ?_
 cases hz3
 exact ⟨Z,u13,(D3 ⟨.of Z, .of Z, .of Z,(.of (Z8<|N1 hv7).symm), .of Z, .of Z, .of Z, .of Z, .of Z, .of Z, .of Z, .of Z, .of Z, .of Z, .of Z, .of Z, .of Z,trivial⟩<|B7 G_hit (.of Z)<|sg Z<|sg Z<|O6 (gq Z) trivial)⟩
 refine B1<|D7<|A6 (s0:=⟨T [(1,(di p2)),(2,(.fn (.func 187) [] [(.ptr (900000,0) 0)])),(3,(.ptr (3,u1) 0)),(6,(oS x3.1 (53,g6))),(7,(di x1.2)),(8,(.ptr (8,u4) 0)),(9,(dl A9 v2)),(11,(di v3)),(15,(dl F0 p1.Zones)),(16,(di (p1.Zones.length:Int))),(17,(di x1.2)),(25,(dl A9 v2)),(26,(di (v2.length:Int))),(27,(di x2.2)),(35,(dl A9 v4)),(36,(di (v4.length:Int))),(37,(di x3.2))],G [((900000,0),some<|.box 27 (H4 p3)),((3,u1),some<|.box 27 (H4 p1)),((53,g6),oB 93 4 I8 x3.1),((8,u4),some<|.box 45 [(dl H6 v1.Parts),(di v1.Signal_)])]⟩) (D3 (Z5 Z)<|B7 G_hit (.of Z)<|sg Z<|D4 (gq Z)<|sg Z trivial) ?_
 refine B5<|sv Z<|sv Z<|A1<|F8 ?_
 cases hz3
 exact ⟨Z,g6,(D3 (Z5 Z)<|B7 G_hit (.of Z)<|sg Z<|sg Z<|D4 (gq Z) trivial)⟩
 refine D2 Z ?_
 cases hz3
 obtain rfl:=ez3 _ rfl
 refine ⟨nofun,C9 Z<|Z9 ?_⟩
 exact ⟨g6,(D3 (Z5 Z)<|B7 G_hit (.of Z)<|sg Z<|sg Z<|D4 (gq Z) trivial)⟩
 rintro _ ⟨g5,q1⟩
 refine D7<|A6 q1<|B5<|sv Z<|sv Z<|A1<|F8 ?_
 cases hz2
 exact ⟨Z,g5,(D3 (Z5 Z)<|B7 G_hit (.of Z)<|sg Z<|sg Z<|D4 (gq Z) trivial)⟩
 refine D2 Z ?_
 cases hz2
 obtain rfl:=ez2 _ rfl
 refine ⟨nofun,C9 Z<|Z9 ?_⟩
 exact ⟨g4,(D3 (Z5 Z)<|B7 G_hit (.of Z)<|sg Z<|D4 (gq Z) trivial)⟩
 rintro _ ⟨g3,q2⟩
 refine D7<|A6 q2<|B5<|sv Z<|sv Z<|A1<|F8 ?_
 cases hz1
 exact ⟨Z,g3,(D3 (Z5 Z)<|B7 G_hit (.of Z)<|sg Z<|D4 (gq Z) trivial)⟩
 refine D2 Z ?_
 cases hz1
 obtain rfl:=ez1 _ rfl
 refine ⟨nofun,C9 Z<|Z9 ?_⟩
 exact ⟨g2,(D3 (Z5 Z)<|B7 G_hit (.of Z)<|D4 (gq Z) trivial)⟩
 rintro _ ⟨g1,q3⟩
 refine A6 q3<|B8<|B6 (oS y1 (53,g1)) Z Z (B6 (oS y1 (53,g1)) Z Z (A1<|B2 ?_))
 obtain rfl:=(lC h)
 exact Wt (.inr Z) [(53,g1)] (Wu (B0 Z)<|Cd<|RY (.head _)<|gq Z) Cc ⟨⟨_,_,_,G_hit,(IC Z V6),Z,Ly,Z⟩,trivial⟩
def Eo [Lp](p1:Map):Option (List Clash):=
  (M8 p1 4 p1).bind fun v1=>some v1
theorem Up(p1 r)(h:Eo p1=some r):PCall prog 80 [(.agg (K6 p1))] (.list (List.map I8 r)):=by
 refine C4 (fk func80 ntmps80 (fun r=>if r==1 then [1001002]else []) (by with_unfolding_all rfl)) (nl Z) ?_
 unfold Eo at h
 refine A6 (s0:=⟨T [(0,(.d _))],G []⟩) (D9 Z Z) ?_
 refine lr<|fun u1 _=>sm Z<|sv Z<|A1<|B8<|sd Z (B4 Z G_hit Z Z)<|B6 (.fn _ _ _) Z Z (bs h fun v1 hv1 h=>FP (v:= .d (.list (List.map I8 v1))) (us:= [(1,u1)]) (FO (Hi _ _ _ _ hv1) [(1,u1)] [(1,u1)] _ (((1,u1),some<|.box 27 (H4 p1))::_) Z Fj (Cl LH<|Cl LH<|Cl (LI Z<|Cl (Qg G_hit Z) Qh) Qh) (Ft G_hit Cz) ⟨⟨_,G_hit, .of Z⟩,trivial⟩ (fun _ h=>h) nd1 Z Z Z) (sv Z<|A1<|B2 ?_))
 cases h
 exact A8 (.inr Z) (B9 (B0 Z) C2) (.refl _)
def Jc [Lp](p1:Map):Option Bool:=
  (Q3 p1).bind fun v1=>((cond (v1==0) (Em p1) (some default))).bind fun v2=>((cond (v1==0) (En p1) (some default))).bind fun v3=>((cond (v1==0) (Fw p1) (some default))).bind fun v4=>((cond (v1==0) (Eo p1) (some default))).bind fun v5=>some ((v1==0)&& ((J3 ((J3 ((J3 ((v2.length:Int)+ (v3.length:Int)))+ (v4.length:Int)))+ (v5.length:Int)))==0))
theorem BH(p1 r)(h:Jc p1=some r):PCall prog 18 [(.agg (K6 p1))] (bo r):=by
 refine C4 (fk func18 ntmps18 m0 (by with_unfolding_all rfl)) (nl Z) ?_
 unfold Jc at h
 refine A6 (s0:=⟨T [(0,(.d _))],G []⟩) (D9 Z Z) ?_
 refine B8<|sm Z<|sv Z<|A1<|A4<|N2 Z<|sd Z (B4 Z G_hit Z Z)<|bs h fun _ hv1 h=>C0 Z Z A3 (Bq _ _ hv1) (.inl Z) (sv Z<|sv Z<|gt Z (fun _=>(B4 Z G_hit Z Z))<|bs h fun v2 hv2 h=> ?_)
 refine O7 _ (.list (List.map I8 v2)) (I9 Z) (fun w2=>⟨_,[(.d (.agg (K6 p1)))],_,_,(by simp only [A2 w2];rfl),Z,A3,Un _ _<|G7 w2 hv2,(.inl Z)⟩) ?_
 refine gt Z (fun w3=>(C3<|A2 w3))<|gt Z (fun _=>(B4 Z G_hit Z Z))<|bs h fun v3 hv3 h=> ?_
 refine O7 _ (.list (List.map I8 v3)) (I9 Z) (fun w5=>⟨_,[(.d (.agg (K6 p1)))],_,_,(by simp only [A2 w5];rfl),Z,A3,Uo _ _<|G7 w5 hv3,(.inl Z)⟩) ?_
 refine gt Z (fun w6=>(C3<|A2 w6))<|gt Z (fun w7=>(H5 (A2 w7) (A2 w7) Z))<|gt Z (fun _=>(B4 Z G_hit Z Z))<|bs h fun v4 hv4 h=> ?_
 refine O7 _ (.list (List.map I8 v4)) (I9 Z) (fun w9=>⟨_,[(.d (.agg (K6 p1)))],_,_,(by simp only [A2 w9];rfl),Z,A3,Xa _ _<|G7 w9 hv4,(.inl Z)⟩) ?_
 refine gt Z (fun w10=>(C3<|A2 w10))<|gt Z (fun w11=>(H5 (A2 w11) (A2 w11) Z))<|gt Z (fun _=>(B4 Z G_hit Z Z))<|bs h fun v5 hv5 h=> ?_
 refine O7 _ (.list (List.map I8 v5)) (I9 Z) (fun w13=>⟨_,[(.d (.agg (K6 p1)))],_,_,(by simp only [A2 w13];rfl),Z,A3,Up _ _<|G7 w13 hv5,(.inl Z)⟩) ?_
 refine gt Z (fun w14=>(C3<|A2 w14))<|gt Z (fun w15=>(H5 (A2 w15) (A2 w15) Z))<|gt Z (vb Z Z Z)<|sa Z Z Z<|sv Z<|A1<|B2 ?_
 cases h
 exact A8 (.inr Z) (B9 (B0 Z) C2) (.refl _)
def Jt [Lp](p1:Map)(p2:Int):Option Bool:=
  ((cond ((decide (p2≥0))&& (decide (p2< (p1.Lanes.length:Int)))) (Q3 p1) (some default))).bind fun v1=>some (((decide (p2≥0))&& (decide (p2< (p1.Lanes.length:Int))))&& (v1==0))
theorem Ue(p1 p2 r)(h:Jt p1 p2=some r):PCall prog 159 [(.agg (K6 p1)),(i64 p2)] (bo r):=by
 refine C4 (fk func159 ntmps159 m0 (by with_unfolding_all rfl)) (nl Z) ?_
 unfold Jt at h
 refine A6 (s0:=⟨T [(0,(.d _)),(1,(.d _))],G []⟩) (D9 Z Z) ?_
 refine B8<|sm Z<|sv Z<|A1<|B8<|sv Z<|sv Z<|sv Z<|gt Z (fun _=>Z)<|gp Z (I9 Z) (fun _=>Z) (gt Z (vl Z G_hit Z)<|gt Z (fun w4=>(C3<|A2 w4))<|gt Z (fun w5=>(H5 (A2 w5) (A2 w5) Z))<|sa Z Z Z<|sv Z<|gt Z (fun _=>(B4 Z G_hit Z Z))<|bs h fun v1 hv1 h=> ?_)
 refine O7 _ (i64 v1) (I9 Z) (fun w7=>⟨_,[(.d (.agg (K6 p1)))],_,_,(by simp only [A2 w7];rfl),Z,A3,Bq _ _<|G7 w7 hv1,(.inl Z)⟩) ?_
 refine gt Z (vb Z Z Z)<|sa Z Z Z<|sv Z<|A1<|B2 ?_
 cases h
 exact A8 (.inr Z) (B9 (B0 Z) C2) (.refl _)
def Ep [Lp](p1:Map)(p2:Int):Option Int:=
  (Jt p1 p2).bind fun v1=>cond (!v1) (some 0) ((T0 p1 p2).bind fun v2=>some v2)
theorem Uq(p1 p2 r)(h:Ep p1 p2=some r):PCall prog 61 [(.agg (K6 p1)),(i64 p2)] (i64 r):=by
 refine C4 (fk func61 ntmps61 m0 (by with_unfolding_all rfl)) (nl Z) ?_
 unfold Ep at h
 refine A6 (s0:=⟨T [(0,(.d _)),(1,(.d _))],G []⟩) (D9 Z Z) ?_
 refine B8<|sm Z<|sv Z<|A1<|A4<|B8<|sd Z (B4 Z G_hit Z Z)<|sv Z<|bs h fun v1 hv1 h=>C0 Z Z A3 (Ue _ _ _ hv1) (.inl Z) (B6 (.d (bo (!v1))) Z Z (A1<|cc Z h (fun c1 h=> ?_)<|fun c1 h=> ?_))
 refine B8<|sv Z<|A1<|B2 ?_
 cases h
 exact A8 (.inr Z) (B9 (B0 Z) C2) (.refl _)
 refine B1<|B8<|sd Z (B4 Z G_hit Z Z)<|sv Z<|bs h fun _ hv2 h=>C0 Z Z A3 (Dk _ _ _ hv2) (.inl Z) (sv Z<|A1<|B2 ?_)
 cases h
 exact A8 (.inr Z) (B9 (B0 Z) C2) (.refl _)
def Ju (p1:Map)(p2:Int)(p3:Int)(p4:Int)(x1:(Int×Int)):Option (Stp (Int×Int) Int):=
  cond (decide (x1.2< (p1.Works.length:Int))) ((E6 p1.Works x1.2).bind fun v5=>((cond (v5.Lane_==p2) (Q1 p3 v5.From v5.To) (some default))).bind fun v6=>((cond ((v5.Lane_==p2)&&v6) (Q1 p4 v5.Begin (J3 (v5.End - 1))) (some default))).bind fun v7=>cond (((v5.Lane_==p2)&&v6)&&v7) (some (.go ((BM false x1.1 v5.Limit),(J3 (x1.2+1))))) (some (.go (x1.1,(J3 (x1.2+1)))))) (some (.out x1.1))
def Fx [Lp](p1:Map)(p2:Int)(p3:Int)(p4:Int):Option Int:=
  (Jt p1 p2).bind fun v1=>((cond (!(!v1)) (T0 p1 p2) (some default))).bind fun v2=>((cond (!(!v1)) (Q1 p3 0 v2) (some default))).bind fun v3=>cond ((!v1)||(!v3)) (some 0) ((E6 p1.Lanes p2).bind fun v4=>(loop (Ju p1 p2 p3 p4) (v4.Limit,0)).bind fun y1=>some y1)
theorem Xb(p1 p2 p3 p4 r)(h:Fx p1 p2 p3 p4=some r):PCall prog 56 [(.agg (K6 p1)),(i64 p2),(i64 p3),(i64 p4)] (i64 r):=by
 refine C4 (fk func56 ntmps56 m0 (by with_unfolding_all rfl)) (nl Z) ?_
 unfold Fx at h
 refine A6 (s0:=⟨T [(0,(.d _)),(1,(.d _)),(2,(.d _)),(3,(.d _))],G []⟩) (D9 Z Z) ?_
 refine lr<|fun u1 _=>sm Z<|sv Z<|A1<|A4<|B8<|sd Z (B4 Z G_hit Z Z)<|sv Z<|bs h fun v1 hv1 h=>C0 Z Z A3 (Ue _ _ _ hv1) (.inl Z) (B6 (.d (bo (!v1))) Z Z (sv Z<|gf Z (fun _=>Z)<|gf Z (fun _=>(B4 Z G_hit Z Z))<|gf Z (fun _=>Z)<|bs h fun v2 hv2 h=> ?_))
 refine O7 _ (i64 v2) (K1 Z) (fun w4=>⟨_,[(.d (.agg (K6 p1))),(di p2)],_,_,(by simp only [A2 w4];rfl),Z,A3,Dk _ _ _<|G7 w4 hv2,(.inl Z)⟩) ?_
 refine bs h fun v3 hv3 h=> ?_
 refine O7 _ (bo v3) (K1 Z) (fun w5=>⟨_,[(di p3),(di 0),(di v2)],_,_,(by simp only [A2 w5];rfl),Z,A3,P9 _ _ _ _<|G7 w5 hv3,(.inl Z)⟩) ?_
 refine S6 _ (.d (bo (!v3))) Z (K1 Z) (fun w6=>(by simp only [A2 w6];rfl)) ?_
 refine sd Z (R4 Z Z<|fun hc=>A2<|K9 hc)<|A1<|cc Z h (fun c1 h=> ?_)<|fun c1 h=> ?_
 refine B8<|sv Z<|A1<|B2 ?_
 cases h
 exact A8 (.inr Z) (B9 (B0 Z) C2) (.refl _)
 refine B1<|B8<|sq Z<|sl Z G_hit Z<|sv Z<|bs h fun v4 hv4 h=>sd Z (D8 Z Z hv4 Z)<|sv Z<|sd Z (G1 Z hv4 Z)<|sv Z<|A1<|A4<|A4<|A6 (s0:=⟨T [(1,(.d _)),(2,(.d _)),(3,(.d _)),(4,(.ptr _ _)),(9,(.d _))],G [((4,u1),some<|.box 27 _)]⟩) (D9 Z Z) ?_
 refine B5<|sq Z<|sl Z G_hit Z<|sd Z (C3 Z)<|sv Z<|A1<|bs h fun y1 hy1 h=>E4 (fun s=> ∃g1:Unit,Sb ⟨T [(9,(di y1))],G []⟩ s) ?_ ?_
 refine A7<|E5 (Ju p1 p2 p3 p4) (fun (x1:(Int×Int)) (g2:Unit)=>⟨T [(1,(di p2)),(2,(di p3)),(3,(di p4)),(9,(di x1.1)),(31,(dl H8 p1.Works)),(32,(di (p1.Works.length:Int))),(33,(di x1.2))],G []⟩) (v4.Limit,0) () _ hy1 (D9 Z Z) ?_
 intro x1 g2 z1 hz1 ez1
 unfold Ju at hz1
 refine B8<|sv Z<|A1<|A4<|cc Z hz1 (fun c2 hz1=> ?_)<|fun c2 hz1=> ?_
 refine B1<|A4<|A7<|lr<|fun u7 _=>bs hz1 fun v5 hv5 hz1=>sd Z (D8 Z Z hv5 Z)<|sd Z (D1 Z hv5 Z Z)<|sm Z<|U1 Z G_hit (DC v5) Z (A1<|B8<|sq Z<|sl Z G_hit Z<|sv Z<|sv Z<|sv Z<|gt Z (fun _=>Z)<|gp Z (I9 Z) (fun _=>Z) (gt Z (vl Z G_hit Z)<|gp Z (I9 Z) (fun _=>Z) (gt Z (vl Z G_hit Z)<|bs hz1 fun v6 hv6 hz1=> ?_)))
 refine O7 _ (bo v6) (I9 Z) (fun w12=>⟨_,[(di p3),(di v5.From),(di v5.To)],_,_,(by simp only [A2 w12];rfl),Z,A3,P9 _ _ _ _<|G7 w12 hv6,(.inl Z)⟩) ?_
 refine sa Z Z Z<|sv Z<|gt Z (fun _=>Z)<|gp Z (I9 Z) (fun _=>Z) (gt Z (vl Z G_hit Z)<|gp Z (I9 Z) (fun _=>Z) (gt Z (vl Z G_hit Z)<|gt Z (vb Z Z Z)<|bs hz1 fun v7 hv7 hz1=> ?_))
 refine O7 _ (bo v7) (I9 Z) (fun w19=>⟨_,[(di p4),(di v5.Begin),(di<|J3 (v5.End - 1))],_,_,(by simp only [A2 w19];rfl),Z,A3,P9 _ _ _ _<|G7 w19 hv7,(.inl Z)⟩) ?_
 refine sa Z Z Z<|A1<|cc Z hz1 (fun c3 hz1=> ?_)<|fun c3 hz1=> ?_
 refine A6 (s0:=⟨T [(1,(.d _)),(2,(.d _)),(3,(.d _)),(9,(.d _)),(11,(.ptr _ _)),(31,(.d _)),(32,(.d _)),(33,(.d _))],G [((11,u7),some<|.box 50 _)]⟩) (D9 Z Z) ?_
 refine B5<|sv Z<|sq Z<|sl Z G_hit Z<|sv Z<|sv Z<|A1<|D7<|B5<|sv Z<|sv Z<|A1<|F8 ?_
 cases hz1
 exact ⟨Z,(),(D9 Z Z)⟩
 refine B1<|D7<|A6 (s0:=⟨T [(1,(.d _)),(2,(.d _)),(3,(.d _)),(9,(.d _)),(31,(.d _)),(32,(.d _)),(33,(.d _))],G []⟩) (D9 Z Z) ?_
 refine B5<|sv Z<|sv Z<|A1<|F8 ?_
 cases hz1
 exact ⟨Z,(),(D9 Z Z)⟩
 refine D2 Z ?_
 cases hz1
 obtain rfl:=ez1 _ rfl
 refine ⟨nofun,C9 Z<|Z9 ?_⟩
 exact ⟨(),(D9 Z Z)⟩
 rintro _ ⟨g1,q1⟩
 refine A6 q1<|B8<|sv Z<|sv Z<|A1<|B2 ?_
 cases h
 exact A8 (.inr Z) (B9 (B0 Z) C2) (.refl _)
def Ax [Lp]:Option Bool:=
  (Jb).bind fun v1=>(Fu v1 [0] 60000).bind fun v2=>(Q3 v1).bind fun v3=>((cond (v3==0) (Jc v1) (some default))).bind fun v4=>((cond (((((v3==0)&&v4)&& (v2.1==0))&& (v2.2.1==60000))&&v2.2.2) (Ep v1 1) (some default))).bind fun v5=>((cond ((((((v3==0)&&v4)&& (v2.1==0))&& (v2.2.1==60000))&&v2.2.2)&& (v5==100000)) (Fx v1 0 10 5) (some default))).bind fun v6=>some (((((((v3==0)&&v4)&& (v2.1==0))&& (v2.2.1==60000))&&v2.2.2)&& (v5==100000))&& (v6==1500))
theorem Jv(r)(h:Ax=some r):PCall prog 14 [] (bo r):=by
 refine C4 (fk func14 ntmps14 (fun r=>if r==2 then [1001]else []) (by with_unfolding_all rfl)) (nl Z) ?_
 unfold Ax at h
 refine A6 (s0:=⟨T [],G []⟩) (D9 Z Z) ?_
 refine B8<|sv Z<|A1<|B8<|bs h fun v1 hv1 h=>C0 Z Z A3 (BF _ hv1) (.inl Z) (sm Z<|U1 Z G_hit (H4 v1) Z (A1<|B8<|sd Z (B4 Z G_hit Z Z)<|B6 (dl A9 [0]) Z Z (bs h fun _ hv2 h=>C0 Z Z A3 (Wy _ _ _ _ hv2) (.inl Z) (sv Z<|sv Z<|sv Z<|sv Z<|sv Z<|sv Z<|sv Z<|A1<|B8<|sd Z (B4 Z G_hit Z Z)<|bs h fun _ hv3 h=>C0 Z Z A3 (Bq _ _ hv3) (.inl Z) (sv Z<|sv Z<|gt Z (fun _=>(B4 Z G_hit Z Z))<|bs h fun v4 hv4 h=> ?_)))))
 refine O7 _ (bo v4) (I9 Z) (fun w2=>⟨_,[(.d (.agg (K6 v1)))],_,_,(by simp only [A2 w2];rfl),Z,A3,BH _ _<|G7 w2 hv4,(.inl Z)⟩) ?_
 refine sa Z Z Z<|sv Z<|gt Z (fun _=>Z)<|gt Z (vb Z Z Z)<|sa Z Z Z<|sv Z<|gt Z (fun _=>Z)<|gt Z (vb Z Z Z)<|sa Z Z Z<|sv Z<|gt Z (fun _=>Z)<|sa Z Z Z<|sv Z<|gt Z (fun _=>(B4 Z G_hit Z Z))<|bs h fun v5 hv5 h=> ?_
 refine O7 _ (i64 v5) (I9 Z) (fun w9=>⟨_,[(.d (.agg (K6 v1))),(di 1)],_,_,(by simp only [A2 w9];rfl),Z,A3,Uq _ _ _<|G7 w9 hv5,(.inl Z)⟩) ?_
 refine gt Z (vb Z Z Z)<|sa Z Z Z<|sv Z<|gt Z (fun _=>(B4 Z G_hit Z Z))<|bs h fun v6 hv6 h=> ?_
 refine O7 _ (i64 v6) (I9 Z) (fun w12=>⟨_,[(.d (.agg (K6 v1))),(di 0),(di 10),(di 5)],_,_,(by simp only [A2 w12];rfl),Z,A3,Xb _ _ _ _ _<|G7 w12 hv6,(.inl Z)⟩) ?_
 refine gt Z (vb Z Z Z)<|sa Z Z Z<|sv Z<|A1<|B2 ?_
 cases h
 exact A8 (.inr Z) (B9 (B0 Z) C2) (.refl _)
def Mc (p1:Curve):Option Curve:=
  (Q8 ([]:List Spot) p1.Pts).bind fun v1=>some (Curve.mk v1)
theorem Yh(p1 r)(h:Mc p1=some r):PCall prog 167 [(.agg [(.list (List.map J6 p1.Pts))])] (.agg [(.list (List.map J6 r.Pts))]):=by
 refine C4 (fk func167 ntmps167 m0 (by with_unfolding_all rfl)) (nl Z) ?_
 unfold Mc at h
 refine A6 (s0:=⟨T [(0,(.d _))],G []⟩) (D9 Z Z) ?_
 refine B8<|sm Z<|sn Z Z<|A1<|lr<|fun u2 _=>Tz (.sl _) (.arr 148 2 (List.map J6 ([]:List Spot))) Z Z (sq Z<|sl Z (gq Z) Z (bs h fun _ hv1 h=>Cw J6 _ _ _ _ (D0<|fun _=>Z) Z G_hit hv1 (B6 (.agg _) Z Z (U1 Z (gq Z) [(.sl (6,u2))] Z (A1<|B2 ?_)))))
 cases h
 exact A8 (.inr Z) (B9 (E7 Z G_hit (nl Z) Z)<|Sv<|H3 (Mm<|gq Z) I6) (.refl _)
def Hj (p1:(List Int)):Option (List Int):=
  (Q8 ([]:List Int) p1).bind fun v1=>some v1
theorem Pm(p1 r)(h:Hj p1=some r):PCall prog 168 [(.list (List.map A9 p1))] (.list (List.map A9 r)):=by
 refine C4 (fk func168 ntmps168 m0 (by with_unfolding_all rfl)) (nl Z) ?_
 unfold Hj at h
 refine A6 (s0:=⟨T [(0,(.d _))],G []⟩) (D9 Z Z) ?_
 refine B8<|sv Z<|A1<|lr<|fun u2 hu2=>sv Z<|bs h fun v1 hv1 h=>Zp A9 (4,u2) ([]:List Int) p1 _ (D0<|fun _=>Z) Z (Jl hu2) hv1 (Jl hu2) (B6 (oS v1 (4,u2)) Z Z (A1<|B2 ?_))
 cases h
 exact A8 (.inr Z) (B9 (B0 Z)<|Cd G_hit) Cc
def Dm (p1:Lane):Option Lane:=
  (Mc p1.Curve_).bind fun v1=>(Hj p1.Next).bind fun v2=>some (Lane.mk p1.Kind v1 p1.Half p1.Limit v2)
theorem Lg(p1 r)(h:Dm p1=some r):PCall prog 62 [(.agg (G5 p1))] (.agg (G5 r)):=by
 refine C4 (fk func62 ntmps62 m0 (by with_unfolding_all rfl)) (nl Z) ?_
 unfold Dm at h
 refine A6 (s0:=⟨T [(0,(.d _))],G []⟩) (D9 Z Z) ?_
 refine B8<|sm Z<|sn Z Z<|A1<|B8<|sq Z<|sd Z (B4 Z (gq Z) Z Z)<|bs h fun v1 hv1 h=>C0 Z Z A3 (Yh _ _ hv1) (.inl Z) (sq Z<|U1 Z (gq Z) ((Db p1).set 1 (dl J6 v1.Pts)) Z (A1<|B8<|sq Z<|sl Z G_hit Z<|bs h fun v2 hv2 h=>C0 Z Z A3 (Pm _ _ hv2) (.inl Z) (sq Z<|U1 Z G_hit (((Db p1).set 1 (dl J6 v1.Pts)).set 4 (dl A9 v2)) Z (A1<|B8<|sd Z (B4 Z G_hit Z Z)<|U1 Z (gq Z) (((Db p1).set 1 (dl J6 v1.Pts)).set 4 (dl A9 v2)) Z (A1<|B2 ?_)))))
 cases h
 exact A8 (.inr Z) (B9 (E7 Z G_hit (nl Z) Z) C2) (.refl _)
def Dn (p1:Zone):Option Zone:=
  (Q8 ([]:List Part) p1.Parts).bind fun v1=>some (Zone.mk v1 p1.Signal_)
theorem Lh(p1 r)(h:Dn p1=some r):PCall prog 63 [(.agg [(.list (List.map H6 p1.Parts)),(i64 p1.Signal_)])] (.agg [(.list (List.map H6 r.Parts)),(i64 r.Signal_)]):=by
 refine C4 (fk func63 ntmps63 m0 (by with_unfolding_all rfl)) (nl Z) ?_
 unfold Dn at h
 refine A6 (s0:=⟨T [(0,(.d _))],G []⟩) (D9 Z Z) ?_
 refine B8<|sm Z<|sn Z Z<|A1<|lr<|fun u2 hu2=>sq Z<|sl Z (gq Z) Z (bs h fun v1 hv1 h=>Zp H6 (5,u2) ([]:List Part) p1.Parts _ (D0<|fun _=>Z) Z (Jl hu2) hv1 (Jl hu2) (sq Z<|Z4 _ _ _ _ _ (Zm _ _) Z Z (gq Z) (nl Z) [(oS v1 (5,u2)),(di p1.Signal_)] Z (A1<|B8<|B6 (W7 [(oS v1 (5,u2)),(di p1.Signal_)]) Z (B4 Z G_hit Z Z) (Z4 _ _ _ _ _ (S9 _) Z Z (gq Z) (nl Z) [(oS v1 (5,u2)),(di p1.Signal_)] Z (A1<|B2 ?_)))))
 cases h
 exact A8 (.inr Z) (B9 (E7 Z G_hit (nl Z) Z)<|Gj<|H3 (Cd<|gq Z)<|rD I6) (.agg (.cons ⟨Cc,Z⟩ (cz Z)))
def Y9 (p1:Signal)(x1:((List Phase)×Int)):Option (Stp ((List Phase)×Int) (List Phase)):=
  cond (decide (x1.2< (p1.Phases.length:Int))) ((E6 p1.Phases x1.2).bind fun v1=>(E6 p1.Phases x1.2).bind fun v2=>(Hj v2.Green).bind fun v3=>(Q8 x1.1 [(Phase.mk v1.Ticks v3)]).bind fun v4=>some (.go (v4,(J3 (x1.2+1))))) (some (.out x1.1))
def Al [Lp](p1:Signal):Option Signal:=
  (loop (Y9 p1) ([],0)).bind fun y1=>some (Signal.mk p1.Offset y1)
theorem Jw(p1 r)(h:Al p1=some r):PCall prog 64 [(.agg [(i64 p1.Offset),(.list (List.map I3 p1.Phases))])] (.agg [(i64 r.Offset),(.list (List.map I3 r.Phases))]):=by
 refine C4 (fk func64 ntmps64 (fun r=>if r==5 then [1015]else []) (by with_unfolding_all rfl)) (nl Z) ?_
 unfold Al at h
 refine A6 (s0:=⟨T [(0,(.d _))],G []⟩) (D9 Z Z) ?_
 refine lr<|fun u1 _=>sm Z<|sm Z<|A1<|B8<|sv Z<|A1<|A4<|B8<|sv Z<|A1<|bs h fun y1 hy1 h=>E4 (fun s=> ∃g1:Nat,Sb ⟨T [(1,(.ptr (1,u1) 0)),(2,(.ptr (2,u1) 0)),(3,(oS y1 (28,g1)))],G [((1,u1),some<|.box 48 [(di p1.Offset),(dl I3 p1.Phases)]),((2,u1),some<|.box 48 [(di 0),(.d .nilS)]),((28,g1),oB 97 2 I3 y1)]⟩ s) ?_ ?_
 refine A7<|E5 (Y9 p1) (fun (x1:((List Phase)×Int)) (g2:Nat)=>⟨T [(1,(.ptr (1,u1) 0)),(2,(.ptr (2,u1) 0)),(3,(oS x1.1 (28,g2))),(4,(di x1.2))],G [((1,u1),some<|.box 48 [(di p1.Offset),(dl I3 p1.Phases)]),((2,u1),some<|.box 48 [(di 0),(.d .nilS)]),((28,g2),oB 97 2 I3 x1.1)]⟩) ([],0) 0 _ hy1 (D3 (Z5 Z)<|sg Z<|B7 G_hit (.of Z)<|O9 trivial) ?_
 intro x1 g2 z1 hz1 ez1
 unfold Y9 at hz1
 refine A4<|B8<|sv Z<|sq Z<|sl Z G_hit Z<|sd Z (C3 Z)<|sv Z<|A1<|cc Z hz1 (fun c1 hz1=> ?_)<|fun c1 hz1=> ?_
 refine B1<|A4<|A7<|Hf Z fun u5 _=>B6 (oS x1.1 (28,g2)) Z Z (sq Z<|sl Z G_hit Z<|sv Z<|bs hz1 fun v1 hv1 hz1=>sd Z (D8 Z Z hv1 Z)<|sv Z<|sd Z (G1 Z hv1 Z)<|sq Z<|sl Z G_hit Z<|sv Z<|bs hz1 fun _ hv2 hz1=>sd Z (D8 Z Z hv2 Z)<|sv Z<|sd Z (G1 Z hv2 Z)<|bs hz1 fun v3 hv3 hz1=>C0 Z Z A3 (Pm _ _ hv3) (.inl Z) (sv Z<|B6 (dl I3 [(Phase.mk v1.Ticks v3)]) Z Z (bs hz1 fun _ hv4 hz1=>J0 I3 (28,g2) x1.1 (Phase.mk v1.Ticks v3) [] _ (D0<|fun _=>Z) Z (gq Z) hv4 (ss Z<|A1<|D7<|A6 (s0:=⟨T [(1,(.ptr _ _)),(2,(.ptr _ _)),(3,(.sl _)),(4,(.d _))],G [((1,u1),some<|.box 48 _),((2,u1),some<|.box 48 _),((28,u5),some _)]⟩) (D9 Z Z) ?_))))
 refine B5<|sv Z<|sv Z<|sv Z<|A1<|F8 ?_
 cases hz1
 exact ⟨Z,u5,(D3 ⟨.of Z, .of Z,(.of (Z8<|N1 hv4).symm), .of Z,trivial⟩<|B7 G_hit (.of Z)<|sg Z<|O6 (gq Z) trivial)⟩
 refine D2 Z ?_
 cases hz1
 obtain rfl:=ez1 _ rfl
 refine ⟨nofun,C9 Z<|Z9 ?_⟩
 exact ⟨g2,(D3 (Z5 Z)<|B7 G_hit (.of Z)<|sg Z<|D4 (gq Z) trivial)⟩
 rintro _ ⟨g1,q1⟩
 refine A6 q1<|B8<|B6 (oS y1 (28,g1)) Z Z (sq Z<|Z4 _ _ _ _ _ (Zm _ _) Z Z G_hit (nl Z) [(di p1.Offset),(oS y1 (28,g1))] Z (A1<|B8<|B6 (W7 [(di p1.Offset),(oS y1 (28,g1))]) Z (B4 Z G_hit Z Z) (Z4 _ _ _ _ _ (S9 _) Z Z (gq Z) (nl Z) [(di p1.Offset),(oS y1 (28,g1))] Z (A1<|B2 ?_))))
 cases h
 exact A8 (.inr Z) (B9 (E7 Z G_hit (nl Z) Z)<|Gj<|rD<|H3 (Cd<|gq Z) I6) (.agg (ca Z<|.cons ⟨Cc,Z⟩ .nil))
def Fb [Lp](p1:Map)(x3:(Int×Map)):Option (Stp (Int×Map) Map):=
  cond (decide (x3.1< (p1.Signals.length:Int))) ((E6 p1.Signals x3.1).bind fun v8=>(Al v8).bind fun v9=>(Q8 x3.2.Signals [v9]).bind fun v10=>some (.go ((J3 (x3.1+1)),(Map.mk x3.2.Version x3.2.Lanes x3.2.Zones v10 x3.2.Works)))) (some (.out x3.2))
def Fc (p1:Map)(x2:(Int×Map)):Option (Stp (Int×Map) Map):=
  cond (decide (x2.1< (p1.Zones.length:Int))) ((E6 p1.Zones x2.1).bind fun v5=>(Dn v5).bind fun v6=>(Q8 x2.2.Zones [v6]).bind fun v7=>some (.go ((J3 (x2.1+1)),(Map.mk x2.2.Version x2.2.Lanes v7 [] x2.2.Works)))) (some (.out (Map.mk x2.2.Version x2.2.Lanes x2.2.Zones [] x2.2.Works)))
def Fd (p1:Map)(x1:(Int×Map)):Option (Stp (Int×Map) Map):=
  cond (decide (x1.1< (p1.Lanes.length:Int))) ((E6 p1.Lanes x1.1).bind fun v2=>(Dm v2).bind fun v3=>(Q8 x1.2.Lanes [v3]).bind fun v4=>some (.go ((J3 (x1.1+1)),(Map.mk x1.2.Version v4 [] [] x1.2.Works)))) (some (.out (Map.mk x1.2.Version x1.2.Lanes [] [] x1.2.Works)))
def Fl [Lp](p1:Map):Option Map:=
  (Q8 ([]:List Work) p1.Works).bind fun v1=>(loop (Fd p1) (0,(Map.mk p1.Version [] [] [] v1))).bind fun y1=>(loop (Fc p1) (0,(Map.mk y1.Version y1.Lanes [] [] y1.Works))).bind fun y2=>(loop (Fb p1) (0,(Map.mk y2.Version y2.Lanes y2.Zones [] y2.Works))).bind fun y3=>some y3
theorem Pn(p1 r)(h:Fl p1=some r):PCall prog 15 [(.agg (K6 p1))] (.agg (K6 r)):=by
 refine C4 (fk func15 ntmps15 (fun r=>if r==5 then [1008]else if r==9 then [1008]else if r==13 then [1008]else []) (by with_unfolding_all rfl)) (nl Z) ?_
 unfold Fl at h
 refine A6 (s0:=⟨T [(0,(.d _))],G []⟩) (D9 Z Z) ?_
 refine lr<|fun u1 _=>sm Z<|sm Z<|A1<|A4<|Oo fun u2 hu2=>G4 (.ptr _ _) Z Z (G4 (.d _) Z (M1 Z (gq Z) Z) (G4 (.ptr _ _) Z Z (G4 (.d _) Z (M1 Z (gq Z) Z) (bs h fun v1 hv1 h=>IF H8 p1.Works _ (D0<|fun _=>Z) Z hv1 (Jl hu2) ?_))))
 refine G4 (W7 [(di p1.Version),(.d .nilS),(.d .nilS),(.d .nilS),(oS v1 (11,u2))]) Z (by generalize v1=x1;cases x1<;>rfl) ?_
 refine CR (.ptr _ _) (.box _ _) Z Z (Oq _ _ _ _ _ (S9 _) Z Z G_hit (nl Z) [(di p1.Version),(.d .nilS),(.d .nilS),(.d .nilS),(oS v1 (11,u2))] Z (Zh<|SH (fun q=>⟨⟨by first|rfl|((generalize v1=l0;cases l0)<;>rfl),q⟩,⟨by first|rfl|((generalize v1=l0;cases l0)<;>rfl),q⟩⟩) ?_))
 refine A4<|B8<|sv Z<|A1<|bs h fun y1 hy1 h=>E4 (fun s=> ∃g1:(Nat×Nat),Sb ⟨T [(1,(.ptr (1,u1) 0)),(2,(.ptr (2,u1) 0)),(3,(.ptr (3,u2) 0))],G [((1,u1),some<|.box 27 (H4 p1)),((2,u1),some<|.box 27 [(di 0),(.d .nilS),(.d .nilS),(.d .nilS),(.d .nilS)]),((3,u2),some<|.box 27 [(di y1.Version),(oS y1.Lanes (29,g1.1)),(.d .nilS),(.d .nilS),(oS y1.Works (11,g1.2))]),((29,g1.1),oB 42 5 G5 y1.Lanes),((11,g1.2),oB 50 6 H8 y1.Works)]⟩ s) ?_ ?_
 refine A7<|E5 (Fd p1) (fun (x1:(Int×Map)) (g2:(Nat×Nat))=>⟨T [(1,(.ptr (1,u1) 0)),(2,(.ptr (2,u1) 0)),(3,(.ptr (3,u2) 0)),(4,(di x1.1))],G [((1,u1),some<|.box 27 (H4 p1)),((2,u1),some<|.box 27 [(di 0),(.d .nilS),(.d .nilS),(.d .nilS),(.d .nilS)]),((3,u2),some<|.box 27 [(di x1.2.Version),(oS x1.2.Lanes (29,g2.1)),(.d .nilS),(.d .nilS),(oS x1.2.Works (11,g2.2))]),((29,g2.1),oB 42 5 G5 x1.2.Lanes),((11,g2.2),oB 50 6 H8 x1.2.Works)]⟩) (0,(Map.mk p1.Version [] [] [] v1)) (0,u2) _ hy1 (D3 (Z5 Z)<|sg Z<|sg Z<|B7 G_hit (.of Z)<|O9<|D4 (gq Z) trivial) ?_
 intro x1 g2 z1 hz1 ez1
 unfold Fd at hz1
 refine A4<|B8<|sv Z<|sq Z<|sl Z G_hit Z<|sd Z (C3 Z)<|sv Z<|A1<|cc Z hz1 (fun c1 hz1=> ?_)<|fun c1 hz1=> ?_
 refine B1<|A4<|A7<|Hf Z fun u5 _=>sq Z<|B6 (oS x1.2.Lanes (29,g2.1)) Z (M1 Z (gq Z) Z) (sq Z<|sl Z G_hit Z<|sv Z<|bs hz1 fun _ hv2 hz1=>sd Z (D8 Z Z hv2 Z)<|sd Z (D1 Z hv2 Z Z)<|bs hz1 fun v3 hv3 hz1=>C0 Z Z A3 (Lg _ _ hv3) (.inl Z) (B6 (dl G5 [v3]) Z Z (bs hz1 fun v4 hv4 hz1=>J0 G5 (29,g2.1) x1.2.Lanes v3 [] _ (D0<|fun _=>Z) Z (gq Z) hv4 (sq Z<|U1 Z (gq Z) [(di x1.2.Version),(.sl (29,u5)),(.d .nilS),(.d .nilS),(oS x1.2.Works (11,g2.2))] Z (A1<|D7<|A6 (s0:=⟨T [(1,(.ptr (1,u1) 0)),(2,(.ptr (2,u1) 0)),(3,(.ptr (3,u2) 0)),(4,(di x1.1))],G [((1,u1),some<|.box 27 (H4 p1)),((2,u1),some<|.box 27 [(di 0),(.d .nilS),(.d .nilS),(.d .nilS),(.d .nilS)]),((3,u2),some<|.box 27 [(di x1.2.Version),(.sl (29,u5)),(.d .nilS),(.d .nilS),(oS x1.2.Works (11,g2.2))]),((29,u5),some<|.arr 42 5 (List.map G5 v4)),((11,g2.2),oB 50 6 H8 x1.2.Works)]⟩) (D3 (Z5 Z)<|sg Z<|sg Z<|B7 G_hit (.of Z)<|sg Z<|D4 (gq Z) trivial) ?_)))))
 refine B5<|sv Z<|sv Z<|sv Z<|A1<|F8 ?_
 cases hz1
 exact ⟨Z,(u5,g2.2),(D3 (Z5 Z)<|B7 G_hit (.of Z)<|sg Z<|B7 (gq Z) (.box (cv<|.cons (.of (Z8<|N1 hv4).symm) cw)) (O6 (gq Z)<|D4 (gq Z) trivial))⟩
 refine D2 Z ?_
 cases hz1
 obtain rfl:=ez1 _ rfl
 refine ⟨nofun,C9 Z<|Z9 ?_⟩
 exact ⟨(g2.1,g2.2),(D3 (Z5 Z)<|B7 G_hit (.of Z)<|sg Z<|sg Z<|D4 (gq Z)<|D4 (gq Z) trivial)⟩
 rintro _ ⟨g1,q1⟩
 refine A6 q1<|A4<|B8<|sv Z<|A1<|bs h fun y2 hy2 h=>E4 (fun s=> ∃g3:(Nat×Nat×Nat),Sb ⟨T [(1,(.ptr (1,u1) 0)),(2,(.ptr (2,u1) 0)),(3,(.ptr (3,u2) 0))],G [((1,u1),some<|.box 27 (H4 p1)),((2,u1),some<|.box 27 [(di 0),(.d .nilS),(.d .nilS),(.d .nilS),(.d .nilS)]),((3,u2),some<|.box 27 [(di y2.Version),(oS y2.Lanes (29,g3.1)),(oS y2.Zones (47,g3.2.1)),(.d .nilS),(oS y2.Works (11,g3.2.2))]),((29,g3.1),oB 42 5 G5 y2.Lanes),((47,g3.2.1),oB 45 2 F0 y2.Zones),((11,g3.2.2),oB 50 6 H8 y2.Works)]⟩ s) ?_ ?_
 refine A7<|E5 (Fc p1) (fun (x2:(Int×Map)) (g4:(Nat×Nat×Nat))=>⟨T [(1,(.ptr (1,u1) 0)),(2,(.ptr (2,u1) 0)),(3,(.ptr (3,u2) 0)),(5,(di x2.1))],G [((1,u1),some<|.box 27 (H4 p1)),((2,u1),some<|.box 27 [(di 0),(.d .nilS),(.d .nilS),(.d .nilS),(.d .nilS)]),((3,u2),some<|.box 27 [(di x2.2.Version),(oS x2.2.Lanes (29,g4.1)),(oS x2.2.Zones (47,g4.2.1)),(.d .nilS),(oS x2.2.Works (11,g4.2.2))]),((29,g4.1),oB 42 5 G5 x2.2.Lanes),((47,g4.2.1),oB 45 2 F0 x2.2.Zones),((11,g4.2.2),oB 50 6 H8 x2.2.Works)]⟩) (0,(Map.mk y1.Version y1.Lanes [] [] y1.Works)) (g1.1,0,g1.2) _ hy2 (D3 (Z5 Z)<|B7 G_hit (.of Z)<|sg Z<|sg Z<|D4 (gq Z)<|O9<|D4 (gq Z) trivial) ?_
 intro x2 g4 z2 hz2 ez2
 unfold Fc at hz2
 refine A4<|B8<|sv Z<|sq Z<|sl Z G_hit Z<|sd Z (C3 Z)<|sv Z<|A1<|cc Z hz2 (fun c2 hz2=> ?_)<|fun c2 hz2=> ?_
 refine B1<|A4<|A7<|Hf Z fun u9 _=>sq Z<|B6 (oS x2.2.Zones (47,g4.2.1)) Z (M1 Z (gq Z) Z) (sq Z<|sl Z G_hit Z<|sv Z<|bs hz2 fun _ hv5 hz2=>sd Z (D8 Z Z hv5 Z)<|sd Z (D1 Z hv5 Z Z)<|bs hz2 fun v6 hv6 hz2=>C0 Z Z A3 (Lh _ _ hv6) (.inl Z) (B6 (dl F0 [v6]) Z Z (bs hz2 fun v7 hv7 hz2=>J0 F0 (47,g4.2.1) x2.2.Zones v6 [] _ (D0<|fun _=>Z) Z (gq Z) hv7 (sq Z<|U1 Z (gq Z) [(di x2.2.Version),(oS x2.2.Lanes (29,g4.1)),(.sl (47,u9)),(.d .nilS),(oS x2.2.Works (11,g4.2.2))] Z (A1<|D7<|A6 (s0:=⟨T [(1,(.ptr (1,u1) 0)),(2,(.ptr (2,u1) 0)),(3,(.ptr (3,u2) 0)),(5,(di x2.1))],G [((1,u1),some<|.box 27 (H4 p1)),((2,u1),some<|.box 27 [(di 0),(.d .nilS),(.d .nilS),(.d .nilS),(.d .nilS)]),((3,u2),some<|.box 27 [(di x2.2.Version),(oS x2.2.Lanes (29,g4.1)),(.sl (47,u9)),(.d .nilS),(oS x2.2.Works (11,g4.2.2))]),((29,g4.1),oB 42 5 G5 x2.2.Lanes),((47,u9),some<|.arr 45 2 (List.map F0 v7)),((11,g4.2.2),oB 50 6 H8 x2.2.Works)]⟩) (D3 (Z5 Z)<|sg Z<|sg Z<|B7 G_hit (.of Z)<|D4 (gq Z)<|sg Z<|D4 (gq Z) trivial) ?_)))))
 refine B5<|sv Z<|sv Z<|sv Z<|A1<|F8 ?_
 cases hz2
 exact ⟨Z,(g4.1,u9,g4.2.2),(D3 (Z5 Z)<|B7 G_hit (.of Z)<|sg Z<|B7 (gq Z) (.box (cv<|cv<|.cons (.of (Z8<|N1 hv7).symm) cw)) (D4 (gq Z)<|O6 (gq Z)<|D4 (gq Z) trivial))⟩
 refine D2 Z ?_
 cases hz2
 obtain rfl:=ez2 _ rfl
 refine ⟨nofun,C9 Z<|Z9 ?_⟩
 exact ⟨(g4.1,g4.2.1,g4.2.2),(D3 (Z5 Z)<|B7 G_hit (.of Z)<|sg Z<|sg Z<|D4 (gq Z)<|D4 (gq Z)<|D4 (gq Z) trivial)⟩
 rintro _ ⟨g3,q2⟩
 refine A6 q2<|A4<|B8<|sv Z<|A1<|bs h fun y3 hy3 h=>E4 (fun s=> ∃g5:(Nat×Nat×Nat×Nat),Sb ⟨T [(2,(.ptr (2,u1) 0)),(3,(.ptr (3,u2) 0))],G [((2,u1),some<|.box 27 [(di 0),(.d .nilS),(.d .nilS),(.d .nilS),(.d .nilS)]),((3,u2),some<|.box 27 [(di y3.Version),(oS y3.Lanes (29,g5.1)),(oS y3.Zones (47,g5.2.1)),(oS y3.Signals (65,g5.2.2.1)),(oS y3.Works (11,g5.2.2.2))]),((29,g5.1),oB 42 5 G5 y3.Lanes),((47,g5.2.1),oB 45 2 F0 y3.Zones),((65,g5.2.2.1),oB 48 2 E2 y3.Signals),((11,g5.2.2.2),oB 50 6 H8 y3.Works)]⟩ s) ?_ ?_
 refine A7<|E5 (Fb p1) (fun (x3:(Int×Map)) (g6:(Nat×Nat×Nat×Nat))=>⟨T [(1,(.ptr (1,u1) 0)),(2,(.ptr (2,u1) 0)),(3,(.ptr (3,u2) 0)),(6,(di x3.1))],G [((1,u1),some<|.box 27 (H4 p1)),((2,u1),some<|.box 27 [(di 0),(.d .nilS),(.d .nilS),(.d .nilS),(.d .nilS)]),((3,u2),some<|.box 27 [(di x3.2.Version),(oS x3.2.Lanes (29,g6.1)),(oS x3.2.Zones (47,g6.2.1)),(oS x3.2.Signals (65,g6.2.2.1)),(oS x3.2.Works (11,g6.2.2.2))]),((29,g6.1),oB 42 5 G5 x3.2.Lanes),((47,g6.2.1),oB 45 2 F0 x3.2.Zones),((65,g6.2.2.1),oB 48 2 E2 x3.2.Signals),((11,g6.2.2.2),oB 50 6 H8 x3.2.Works)]⟩) (0,(Map.mk y2.Version y2.Lanes y2.Zones [] y2.Works)) (g3.1,g3.2.1,0,g3.2.2) _ hy3 (D3 (Z5 Z)<|B7 G_hit (.of Z)<|sg Z<|sg Z<|D4 (gq Z)<|D4 (gq Z)<|O9<|D4 (gq Z) trivial) ?_
 intro x3 g6 z3 hz3 ez3
 unfold Fb at hz3
 refine A4<|B8<|sv Z<|sq Z<|sl Z G_hit Z<|sd Z (C3 Z)<|sv Z<|A1<|cc Z hz3 (fun c3 hz3=> ?_)<|fun c3 hz3=> ?_
 refine B1<|A4<|A7<|Hf Z fun u13 _=>sq Z<|B6 (oS x3.2.Signals (65,g6.2.2.1)) Z (M1 Z (gq Z) Z) (sq Z<|sl Z G_hit Z<|sv Z<|bs hz3 fun _ hv8 hz3=>sd Z (D8 Z Z hv8 Z)<|sd Z (D1 Z hv8 Z Z)<|bs hz3 fun v9 hv9 hz3=>C0 Z Z A3 (Jw _ _ hv9) (.inl Z) (B6 (dl E2 [v9]) Z Z (bs hz3 fun v10 hv10 hz3=>J0 E2 (65,g6.2.2.1) x3.2.Signals v9 [] _ (D0<|fun _=>Z) Z (gq Z) hv10 (sq Z<|U1 Z (gq Z) [(di x3.2.Version),(oS x3.2.Lanes (29,g6.1)),(oS x3.2.Zones (47,g6.2.1)),(.sl (65,u13)),(oS x3.2.Works (11,g6.2.2.2))] Z (A1<|D7<|A6 (s0:=⟨T [(1,(.ptr (1,u1) 0)),(2,(.ptr (2,u1) 0)),(3,(.ptr (3,u2) 0)),(6,(di x3.1))],G [((1,u1),some<|.box 27 (H4 p1)),((2,u1),some<|.box 27 [(di 0),(.d .nilS),(.d .nilS),(.d .nilS),(.d .nilS)]),((3,u2),some<|.box 27 [(di x3.2.Version),(oS x3.2.Lanes (29,g6.1)),(oS x3.2.Zones (47,g6.2.1)),(.sl (65,u13)),(oS x3.2.Works (11,g6.2.2.2))]),((29,g6.1),oB 42 5 G5 x3.2.Lanes),((47,g6.2.1),oB 45 2 F0 x3.2.Zones),((65,u13),some<|.arr 48 2 (List.map E2 v10)),((11,g6.2.2.2),oB 50 6 H8 x3.2.Works)]⟩) (D3 (Z5 Z)<|sg Z<|sg Z<|B7 G_hit (.of Z)<|D4 (gq Z)<|D4 (gq Z)<|sg Z<|D4 (gq Z) trivial) ?_)))))
 refine B5<|sv Z<|sv Z<|sv Z<|A1<|F8 ?_
 cases hz3
 exact ⟨Z,(g6.1,g6.2.1,u13,g6.2.2.2),(D3 (Z5 Z)<|B7 G_hit (.of Z)<|sg Z<|B7 (gq Z) (.box (cv<|cv<|cv<|.cons (.of (Z8<|N1 hv10).symm) cw)) (D4 (gq Z)<|D4 (gq Z)<|O6 (gq Z)<|D4 (gq Z) trivial))⟩
 refine D2 Z ?_
 cases hz3
 obtain rfl:=ez3 _ rfl
 refine ⟨nofun,C9 Z<|Z9 ?_⟩
 exact ⟨(g6.1,g6.2.1,g6.2.2.1,g6.2.2.2),(D3 (Z5 Z)<|sg Z<|sg Z<|D4 (gq Z)<|D4 (gq Z)<|D4 (gq Z)<|D4 (gq Z) trivial)⟩
 rintro _ ⟨g5,q3⟩
 refine A6 q3<|B8<|B6 (W7 [(di y3.Version),(oS y3.Lanes (29,g5.1)),(oS y3.Zones (47,g5.2.1)),(oS y3.Signals (65,g5.2.2.1)),(oS y3.Works (11,g5.2.2.2))]) Z (B4 Z (gq Z) Z Z) (Z4 _ _ _ _ _ (S9 _) Z Z G_hit (nl Z) [(di y3.Version),(oS y3.Lanes (29,g5.1)),(oS y3.Zones (47,g5.2.1)),(oS y3.Signals (65,g5.2.2.1)),(oS y3.Works (11,g5.2.2.2))] Z (A1<|B2 ?_))
 cases h
 exact A8 (.inr Z) (B9 (E7 Z G_hit (nl Z) Z)<|Gj<|rD<|H3 (Cd<|gq Z)<|H3 (Cd<|gq Z)<|H3 (Cd<|gq Z)<|H3 (Cd<|gq Z) I6) (.agg (ca Z<|.cons ⟨Cc,Z⟩ (.cons ⟨Cc,Z⟩ (.cons ⟨Cc,Z⟩ (.cons ⟨Cc,Z⟩ .nil)))))
def Co (p1:List Spot):Option (List Spot):=Q8 [] p1
theorem Dv (p1:List Spot)(a0:D)(hl:Q8 ([]:List Spot) p1=some p1)(hn: ∀h,G6 (T [(3, .d a0),(2, .d .nilS),(0, .d a0)]) h (.isnil false (.t 3))=some (.d (bo false)))(he: ∀h,S3 h 2 (.d a0)=some (List.map J6 p1)):
    PCall prog 269 [a0] (.list (List.map J6 p1)):=by
  refine C4 (fk func269 ntmps269 m0 (by with_unfolding_all rfl)) (Nat.le_of_ble_eq_true Z) ?_
  refine (A6 (s0:=⟨T [(0, .d a0)],G []⟩) (D3 ⟨.of Z,trivial⟩ trivial) ?_)
  refine A4 ?_
  refine O8 fun _ _=> ?_
  refine B6 (.d .nilS) Z Z ?_
  refine A1 ?_
  refine A4 ?_
  refine A4 ?_
  refine O8 fun _ _=> ?_
  refine B6 (.d a0) Z Z ?_
  refine B6 (.d (bo false)) Z (hn _) ?_
  refine A1 ?_
  refine Rh Z ?_
  refine B1 ?_
  refine A4 ?_
  refine O8 fun _ _=> ?_
  refine Tz (.sl _) (.arr 148 2 (List.map J6 ([]:List Spot))) Z Z ?_
  refine B6 (.d a0) Z Z ?_
  refine Cw J6 _ [] p1 _ (he _) Z G_hit hl ?_
  refine B6 (.sl _) Z Z ?_
  refine A1 ?_
  refine B2 ?_
  exact A8 (.inr Z) (B9 (B0 Z)<|Mm G_hit) (.refl _)
theorem Kf(p1 r)(h:Co p1=some r):PCall prog 269 [.list (List.map J6 p1)] (.list (List.map J6 r)):=by
  have hr:r=p1:=by obtain ⟨_,rfl⟩:=Ad h;rfl
  subst hr
  cases r with
  |cons x xs=>exact Dv (x::xs) _ h (fun _=>rfl) fun _=>D0 (fun _=>rfl)
  |nil=>
   refine PCall.nil fun A cap=> ?_
   cases A with
   |some A=>exact Dv [] (.v (.slice (some A) 0 cap)) h (fun _=>rfl) fun _=>rfl
   |none=>
    refine C4 (fk func269 ntmps269 m0 (by with_unfolding_all rfl)) (Nat.le_of_ble_eq_true Z) ?_
    refine (A6 (s0:=⟨T [(0, .d (.v (.slice none 0 cap)))],G []⟩) (D3 ⟨.of Z,trivial⟩ trivial) ?_)
    refine A4 ?_
    refine O8 fun _ _=> ?_
    refine B6 (.d .nilS) Z Z ?_
    refine A1 ?_
    refine A4 ?_
    refine A4 ?_
    refine O8 fun _ _=> ?_
    refine B6 (.d _) Z Z ?_
    refine B6 (.d (bo true)) Z Z ?_
    refine A1 ?_
    refine Vf Z ?_
    refine A4 ?_
    refine O8 fun _ _=> ?_
    refine B6 (.d .nilS) Z Z ?_
    refine A1 ?_
    refine B2 ?_
    exact A8 (.inr Z) (B9 (B0 Z) C2) .nil
def Hv (p1:(List Spot)):Option Curve:=
  (Co p1).bind fun v1=>some (Curve.mk v1)
theorem Te(p1 r)(h:Hv p1=some r):PCall prog 250 [(.list (List.map J6 p1))] (.agg [(.list (List.map J6 r.Pts))]):=by
 refine C4 (fk func250 ntmps250 m0 (by with_unfolding_all rfl)) (nl Z) ?_
 unfold Hv at h
 refine A6 (s0:=⟨T [(0,(.d _))],G []⟩) (D9 Z Z) ?_
 refine B8<|sm Z<|A1<|B8<|sv Z<|bs h fun v1 hv1 h=>C0 Z Z A3 (Kf _ _ hv1) (.inl Z) (sv Z<|U1 Z G_hit [(dl J6 v1)] Z (A1<|B2 ?_))
 cases h
 exact A8 (.inr Z) (B9 (E7 Z G_hit (nl Z) Z) C2) (.refl _)
def Md (p1:Curve):Option Curve:=
  (Hv p1.Pts).bind fun v1=>some v1
theorem Yi(p1 r)(h:Md p1=some r):PCall prog 194 [(.agg [(.list (List.map J6 p1.Pts))])] (.agg [(.list (List.map J6 r.Pts))]):=by
 refine C4 (fk func194 ntmps194 m0 (by with_unfolding_all rfl)) (nl Z) ?_
 unfold Md at h
 refine A6 (s0:=⟨T [(0,(.d _))],G []⟩) (D9 Z Z) ?_
 refine B8<|sm Z<|sn Z Z<|A1<|B8<|sq Z<|sl Z (gq Z) Z (bs h fun v1 hv1 h=>C0 Z Z A3 (Te _ _ hv1) (.inl Z) (U1 Z G_hit [(dl J6 v1.Pts)] Z (A1<|B2 ?_)))
 cases h
 exact A8 (.inr Z) (B9 (E7 Z G_hit (nl Z) Z) C2) (.refl _)
def W3 (p1:List Int):Option (List Int):=Q8 [] p1
theorem Et (p1:List Int)(a0:D)(hl:Q8 ([]:List Int) p1=some p1)(hn: ∀h,G6 (T [(3, .d a0),(2, .d .nilS),(0, .d a0)]) h (.isnil false (.t 3))=some (.d (bo false)))(he: ∀h,S3 h 1 (.d a0)=some (List.map A9 p1)):
    PCall prog 195 [a0] (.list (List.map A9 p1)):=by
  refine C4 (fk func195 ntmps195 m0 (by with_unfolding_all rfl)) (Nat.le_of_ble_eq_true Z) ?_
  refine (A6 (s0:=⟨T [(0, .d a0)],G []⟩) (D3 ⟨.of Z,trivial⟩ trivial) ?_)
  refine A4 ?_
  refine O8 fun _ _=> ?_
  refine B6 (.d .nilS) Z Z ?_
  refine A1 ?_
  refine A4 ?_
  refine A4 ?_
  refine O8 fun _ _=> ?_
  refine B6 (.d a0) Z Z ?_
  refine B6 (.d (bo false)) Z (hn _) ?_
  refine A1 ?_
  refine Rh Z ?_
  refine B1 ?_
  refine A4 ?_
  refine O8 fun _ _=> ?_
  refine Tz (.sl _) (.arr 3 1 (List.map A9 ([]:List Int))) Z Z ?_
  refine B6 (.d a0) Z Z ?_
  refine Cw A9 _ [] p1 _ (he _) Z G_hit hl ?_
  refine B6 (.sl _) Z Z ?_
  refine A1 ?_
  refine B2 ?_
  exact A8 (.inr Z) (B9 (B0 Z)<|Mm G_hit) (.refl _)
theorem Fy(p1 r)(h:W3 p1=some r):PCall prog 195 [.list (List.map A9 p1)] (.list (List.map A9 r)):=by
  have hr:r=p1:=by obtain ⟨_,rfl⟩:=Ad h;rfl
  subst hr
  cases r with
  |cons x xs=>exact Et (x::xs) _ h (fun _=>rfl) fun _=>D0 (fun _=>rfl)
  |nil=>
   refine PCall.nil fun A cap=> ?_
   cases A with
   |some A=>exact Et [] (.v (.slice (some A) 0 cap)) h (fun _=>rfl) fun _=>rfl
   |none=>
    refine C4 (fk func195 ntmps195 m0 (by with_unfolding_all rfl)) (Nat.le_of_ble_eq_true Z) ?_
    refine (A6 (s0:=⟨T [(0, .d (.v (.slice none 0 cap)))],G []⟩) (D3 ⟨.of Z,trivial⟩ trivial) ?_)
    refine A4 ?_
    refine O8 fun _ _=> ?_
    refine B6 (.d .nilS) Z Z ?_
    refine A1 ?_
    refine A4 ?_
    refine A4 ?_
    refine O8 fun _ _=> ?_
    refine B6 (.d _) Z Z ?_
    refine B6 (.d (bo true)) Z Z ?_
    refine A1 ?_
    refine Vf Z ?_
    refine A4 ?_
    refine O8 fun _ _=> ?_
    refine B6 (.d .nilS) Z Z ?_
    refine A1 ?_
    refine B2 ?_
    exact A8 (.inr Z) (B9 (B0 Z) C2) .nil
def Bg (p1:Lane):Option Lane:=
  (Md p1.Curve_).bind fun v1=>(W3 p1.Next).bind fun v2=>some (Lane.mk p1.Kind v1 p1.Half p1.Limit v2)
theorem Hl(p1 r)(h:Bg p1=some r):PCall prog 87 [(.agg (G5 p1))] (.agg (G5 r)):=by
 refine C4 (fk func87 ntmps87 m0 (by with_unfolding_all rfl)) (nl Z) ?_
 unfold Bg at h
 refine A6 (s0:=⟨T [(0,(.d _))],G []⟩) (D9 Z Z) ?_
 refine B8<|sm Z<|sn Z Z<|A1<|A4<|N2 Z<|sq Z<|sd Z (B4 Z (gq Z) Z Z)<|bs h fun v1 hv1 h=>C0 Z Z A3 (Yi _ _ hv1) (.inl Z) (sq Z<|sl Z (gq Z) Z (bs h fun v2 hv2 h=>C0 Z Z A3 (Fy _ _ hv2) (.inl Z) (sq Z<|U1 Z (gq Z) ((Db p1).set 1 (dl J6 v1.Pts)) Z (sq Z<|U1 Z G_hit (((Db p1).set 1 (dl J6 v1.Pts)).set 4 (dl A9 v2)) Z (A1<|B8<|sd Z (B4 Z G_hit Z Z)<|U1 Z (gq Z) (((Db p1).set 1 (dl J6 v1.Pts)).set 4 (dl A9 v2)) Z (A1<|B2 ?_))))))
 cases h
 exact A8 (.inr Z) (B9 (E7 Z G_hit (nl Z) Z) C2) (.refl _)
def T3 (p1:(List Lane))(x1:((List Lane)×Int)):Option (Stp ((List Lane)×Int) (List Lane)):=
  cond (decide (x1.2< (p1.length:Int))) ((E6 p1 x1.2).bind fun v1=>(Bg v1).bind fun v2=>(Q8 x1.1 [v2]).bind fun v3=>some (.go (v3,(J3 (x1.2+1))))) (some (.out x1.1))
def W4 [Lp](p1:(List Lane)):Option (List Lane):=
  (loop (T3 p1) ([],0)).bind fun y1=>some y1
theorem Gv(p1 r)(h:W4 p1=some r):PCall prog 154 [(.list (List.map G5 p1)),(.fn (.func 87) [] [])] (.list (List.map G5 r)):=by
 refine C4 (fk func154 ntmps154 (fun r=>if r==5 then [1004]else []) (by with_unfolding_all rfl)) (nl Z) ?_
 unfold W4 at h
 refine A6 (s0:=⟨T [(0,(.d _)),(1,(.d _))],G []⟩) (D9 Z Z) ?_
 refine B8<|sv Z<|A1<|B8<|sv Z<|A1<|A4<|B8<|sv Z<|sd Z (C3 Z)<|sv Z<|A1<|bs h fun y1 hy1 h=>E4 (fun s=> ∃g1:Nat,Sb ⟨T [(5,(oS y1 (19,g1)))],G [((19,g1),oB 42 5 G5 y1)]⟩ s) ?_ ?_
 refine A7<|E5 (T3 p1) (fun (x1:((List Lane)×Int)) (g2:Nat)=>⟨T [(1,(.d (.fn (.func 87) [] []))),(5,(oS x1.1 (19,g2))),(8,(dl G5 p1)),(9,(di (p1.length:Int))),(10,(di x1.2))],G [((19,g2),oB 42 5 G5 x1.1)]⟩) ([],0) 0 _ hy1 (D3 (Z5 Z)<|O9 trivial) ?_
 intro x1 g2 z1 hz1 ez1
 unfold T3 at hz1
 refine B8<|sv Z<|A1<|A4<|cc Z hz1 (fun c1 hz1=> ?_)<|fun c1 hz1=> ?_
 refine B1<|A4<|A7<|B8<|bs hz1 fun v1 hv1 hz1=>sd Z (D8 Z Z hv1 Z)<|sd Z (D1 Z hv1 Z Z)<|sm Z<|U1 Z G_hit (Db v1) Z (A1<|O8 fun u6 _=>B6 (oS x1.1 (19,g2)) Z Z (sv Z<|sd Z (B4 Z G_hit Z Z)<|bs hz1 fun v2 hv2 hz1=>C0 Z Z A3 (Hl _ _ hv2) (.inl Z) (B6 (dl G5 [v2]) Z Z (bs hz1 fun _ hv3 hz1=>J0 G5 (19,g2) x1.1 v2 [] _ (D0<|fun _=>Z) Z (gq Z) hv3 (ss Z<|A1<|D7<|B5<|sv Z<|sv Z<|A1<|F8 ?_)))))
 cases hz1
 exact ⟨Z,u6,(D3 ⟨.of Z,(.of (Z8<|N1 hv3).symm), .of Z, .of Z, .of Z,trivial⟩<|O6 G_hit trivial)⟩
 refine D2 Z ?_
 cases hz1
 obtain rfl:=ez1 _ rfl
 refine ⟨nofun,C9 Z<|Z9 ?_⟩
 exact ⟨g2,(D3 ⟨.of Z,trivial⟩<|D4 G_hit trivial)⟩
 rintro _ ⟨g1,q1⟩
 refine A6 q1<|B8<|B6 (oS y1 (19,g1)) Z Z (B6 (oS y1 (19,g1)) Z Z (A1<|B2 ?_))
 cases h
 exact A8 (.inr Z) (B9 (B0 Z)<|Cd G_hit) Cc
def Cp (p1:List Part):Option (List Part):=Q8 [] p1
theorem Dw (p1:List Part)(a0:D)(hl:Q8 ([]:List Part) p1=some p1)(hn: ∀h,G6 (T [(3, .d a0),(2, .d .nilS),(0, .d a0)]) h (.isnil false (.t 3))=some (.d (bo false)))(he: ∀h,S3 h 4 (.d a0)=some (List.map H6 p1)):
    PCall prog 196 [a0] (.list (List.map H6 p1)):=by
  refine C4 (fk func196 ntmps196 m0 (by with_unfolding_all rfl)) (Nat.le_of_ble_eq_true Z) ?_
  refine (A6 (s0:=⟨T [(0, .d a0)],G []⟩) (D3 ⟨.of Z,trivial⟩ trivial) ?_)
  refine A4 ?_
  refine O8 fun _ _=> ?_
  refine B6 (.d .nilS) Z Z ?_
  refine A1 ?_
  refine A4 ?_
  refine A4 ?_
  refine O8 fun _ _=> ?_
  refine B6 (.d a0) Z Z ?_
  refine B6 (.d (bo false)) Z (hn _) ?_
  refine A1 ?_
  refine Rh Z ?_
  refine B1 ?_
  refine A4 ?_
  refine O8 fun _ _=> ?_
  refine Tz (.sl _) (.arr 91 4 (List.map H6 ([]:List Part))) Z Z ?_
  refine B6 (.d a0) Z Z ?_
  refine Cw H6 _ [] p1 _ (he _) Z G_hit hl ?_
  refine B6 (.sl _) Z Z ?_
  refine A1 ?_
  refine B2 ?_
  exact A8 (.inr Z) (B9 (B0 Z)<|Mm G_hit) (.refl _)
theorem Kg(p1 r)(h:Cp p1=some r):PCall prog 196 [.list (List.map H6 p1)] (.list (List.map H6 r)):=by
  have hr:r=p1:=by obtain ⟨_,rfl⟩:=Ad h;rfl
  subst hr
  cases r with
  |cons x xs=>exact Dw (x::xs) _ h (fun _=>rfl) fun _=>D0 (fun _=>rfl)
  |nil=>
   refine PCall.nil fun A cap=> ?_
   cases A with
   |some A=>exact Dw [] (.v (.slice (some A) 0 cap)) h (fun _=>rfl) fun _=>rfl
   |none=>
    refine C4 (fk func196 ntmps196 m0 (by with_unfolding_all rfl)) (Nat.le_of_ble_eq_true Z) ?_
    refine (A6 (s0:=⟨T [(0, .d (.v (.slice none 0 cap)))],G []⟩) (D3 ⟨.of Z,trivial⟩ trivial) ?_)
    refine A4 ?_
    refine O8 fun _ _=> ?_
    refine B6 (.d .nilS) Z Z ?_
    refine A1 ?_
    refine A4 ?_
    refine A4 ?_
    refine O8 fun _ _=> ?_
    refine B6 (.d _) Z Z ?_
    refine B6 (.d (bo true)) Z Z ?_
    refine A1 ?_
    refine Vf Z ?_
    refine A4 ?_
    refine O8 fun _ _=> ?_
    refine B6 (.d .nilS) Z Z ?_
    refine A1 ?_
    refine B2 ?_
    exact A8 (.inr Z) (B9 (B0 Z) C2) .nil
def Bh (p1:Zone):Option Zone:=
  (Cp p1.Parts).bind fun v1=>some (Zone.mk v1 p1.Signal_)
theorem Hm(p1 r)(h:Bh p1=some r):PCall prog 89 [(.agg [(.list (List.map H6 p1.Parts)),(i64 p1.Signal_)])] (.agg [(.list (List.map H6 r.Parts)),(i64 r.Signal_)]):=by
 refine C4 (fk func89 ntmps89 m0 (by with_unfolding_all rfl)) (nl Z) ?_
 unfold Bh at h
 refine A6 (s0:=⟨T [(0,(.d _))],G []⟩) (D9 Z Z) ?_
 refine B8<|sm Z<|sn Z Z<|A1<|B8<|sq Z<|sl Z (gq Z) Z (bs h fun v1 hv1 h=>C0 Z Z A3 (Kg _ _ hv1) (.inl Z) (sq Z<|U1 Z (gq Z) [(dl H6 v1),(di p1.Signal_)] Z (A1<|B8<|sd Z (B4 Z G_hit Z Z)<|U1 Z (gq Z) [(dl H6 v1),(di p1.Signal_)] Z (A1<|B2 ?_))))
 cases h
 exact A8 (.inr Z) (B9 (E7 Z G_hit (nl Z) Z) C2) (.refl _)
def T4 (p1:(List Zone))(x1:((List Zone)×Int)):Option (Stp ((List Zone)×Int) (List Zone)):=
  cond (decide (x1.2< (p1.length:Int))) ((E6 p1 x1.2).bind fun v1=>(Bh v1).bind fun v2=>(Q8 x1.1 [v2]).bind fun v3=>some (.go (v3,(J3 (x1.2+1))))) (some (.out x1.1))
def W5 [Lp](p1:(List Zone)):Option (List Zone):=
  (loop (T4 p1) ([],0)).bind fun y1=>some y1
theorem Gw(p1 r)(h:W5 p1=some r):PCall prog 155 [(.list (List.map F0 p1)),(.fn (.func 89) [] [])] (.list (List.map F0 r)):=by
 refine C4 (fk func155 ntmps155 (fun r=>if r==5 then [1004]else []) (by with_unfolding_all rfl)) (nl Z) ?_
 unfold W5 at h
 refine A6 (s0:=⟨T [(0,(.d _)),(1,(.d _))],G []⟩) (D9 Z Z) ?_
 refine B8<|sv Z<|A1<|B8<|sv Z<|A1<|A4<|B8<|sv Z<|sd Z (C3 Z)<|sv Z<|A1<|bs h fun y1 hy1 h=>E4 (fun s=> ∃g1:Nat,Sb ⟨T [(5,(oS y1 (19,g1)))],G [((19,g1),oB 45 2 F0 y1)]⟩ s) ?_ ?_
 refine A7<|E5 (T4 p1) (fun (x1:((List Zone)×Int)) (g2:Nat)=>⟨T [(1,(.d (.fn (.func 89) [] []))),(5,(oS x1.1 (19,g2))),(8,(dl F0 p1)),(9,(di (p1.length:Int))),(10,(di x1.2))],G [((19,g2),oB 45 2 F0 x1.1)]⟩) ([],0) 0 _ hy1 (D3 (Z5 Z)<|O9 trivial) ?_
 intro x1 g2 z1 hz1 ez1
 unfold T4 at hz1
 refine B8<|sv Z<|A1<|A4<|cc Z hz1 (fun c1 hz1=> ?_)<|fun c1 hz1=> ?_
 refine B1<|A4<|A7<|B8<|bs hz1 fun v1 hv1 hz1=>sd Z (D8 Z Z hv1 Z)<|sd Z (D1 Z hv1 Z Z)<|sm Z<|U1 Z G_hit [(dl H6 v1.Parts),(di v1.Signal_)] Z (A1<|O8 fun u6 _=>B6 (oS x1.1 (19,g2)) Z Z (sv Z<|sd Z (B4 Z G_hit Z Z)<|bs hz1 fun v2 hv2 hz1=>C0 Z Z A3 (Hm _ _ hv2) (.inl Z) (B6 (dl F0 [v2]) Z Z (bs hz1 fun _ hv3 hz1=>J0 F0 (19,g2) x1.1 v2 [] _ (D0<|fun _=>Z) Z (gq Z) hv3 (ss Z<|A1<|D7<|B5<|sv Z<|sv Z<|A1<|F8 ?_)))))
 cases hz1
 exact ⟨Z,u6,(D3 ⟨.of Z,(.of (Z8<|N1 hv3).symm), .of Z, .of Z, .of Z,trivial⟩<|O6 G_hit trivial)⟩
 refine D2 Z ?_
 cases hz1
 obtain rfl:=ez1 _ rfl
 refine ⟨nofun,C9 Z<|Z9 ?_⟩
 exact ⟨g2,(D3 ⟨.of Z,trivial⟩<|D4 G_hit trivial)⟩
 rintro _ ⟨g1,q1⟩
 refine A6 q1<|B8<|B6 (oS y1 (19,g1)) Z Z (B6 (oS y1 (19,g1)) Z Z (A1<|B2 ?_))
 cases h
 exact A8 (.inr Z) (B9 (B0 Z)<|Cd G_hit) Cc
def V9 (p1:List Phase):Option (List Phase):=Q8 [] p1
theorem Cf (p1:List Phase)(a0:D)(hl:Q8 ([]:List Phase) p1=some p1)(hn: ∀h,G6 (T [(3, .d a0),(2, .d .nilS),(0, .d a0)]) h (.isnil false (.t 3))=some (.d (bo false)))(he: ∀h,S3 h 2 (.d a0)=some (List.map I3 p1)):
    PCall prog 197 [a0] (.list (List.map I3 p1)):=by
  refine C4 (fk func197 ntmps197 m0 (by with_unfolding_all rfl)) (Nat.le_of_ble_eq_true Z) ?_
  refine (A6 (s0:=⟨T [(0, .d a0)],G []⟩) (D3 ⟨.of Z,trivial⟩ trivial) ?_)
  refine A4 ?_
  refine O8 fun _ _=> ?_
  refine B6 (.d .nilS) Z Z ?_
  refine A1 ?_
  refine A4 ?_
  refine A4 ?_
  refine O8 fun _ _=> ?_
  refine B6 (.d a0) Z Z ?_
  refine B6 (.d (bo false)) Z (hn _) ?_
  refine A1 ?_
  refine Rh Z ?_
  refine B1 ?_
  refine A4 ?_
  refine O8 fun _ _=> ?_
  refine Tz (.sl _) (.arr 97 2 (List.map I3 ([]:List Phase))) Z Z ?_
  refine B6 (.d a0) Z Z ?_
  refine Cw I3 _ [] p1 _ (he _) Z G_hit hl ?_
  refine B6 (.sl _) Z Z ?_
  refine A1 ?_
  refine B2 ?_
  exact A8 (.inr Z) (B9 (B0 Z)<|Mm G_hit) (.refl _)
theorem Iu(p1 r)(h:V9 p1=some r):PCall prog 197 [.list (List.map I3 p1)] (.list (List.map I3 r)):=by
  have hr:r=p1:=by obtain ⟨_,rfl⟩:=Ad h;rfl
  subst hr
  cases r with
  |cons x xs=>exact Cf (x::xs) _ h (fun _=>rfl) fun _=>D0 (fun _=>rfl)
  |nil=>
   refine PCall.nil fun A cap=> ?_
   cases A with
   |some A=>exact Cf [] (.v (.slice (some A) 0 cap)) h (fun _=>rfl) fun _=>rfl
   |none=>
    refine C4 (fk func197 ntmps197 m0 (by with_unfolding_all rfl)) (Nat.le_of_ble_eq_true Z) ?_
    refine (A6 (s0:=⟨T [(0, .d (.v (.slice none 0 cap)))],G []⟩) (D3 ⟨.of Z,trivial⟩ trivial) ?_)
    refine A4 ?_
    refine O8 fun _ _=> ?_
    refine B6 (.d .nilS) Z Z ?_
    refine A1 ?_
    refine A4 ?_
    refine A4 ?_
    refine O8 fun _ _=> ?_
    refine B6 (.d _) Z Z ?_
    refine B6 (.d (bo true)) Z Z ?_
    refine A1 ?_
    refine Vf Z ?_
    refine A4 ?_
    refine O8 fun _ _=> ?_
    refine B6 (.d .nilS) Z Z ?_
    refine A1 ?_
    refine B2 ?_
    exact A8 (.inr Z) (B9 (B0 Z) C2) .nil
theorem Im(p1 r)(h:V9 p1=some r):MCall prog 197 [.d (.list (List.map I3 p1))] [] (oE r (800000,0)) [] [oB 97 2 I3 r]:=by
  cases p1 with
  |nil=>
   have hr:r= []:=by obtain ⟨_,rfl⟩:=Ad h;rfl
   subst hr
   exact MCall.ofP<|Iu [] [] h
  |cons x xs=>
  have hr:Q8 ([]:List Phase) (x::xs)=some r:=h
  have e:=(Ad hr).2
  rw [lL]at e
  rw [HB (N1 hr),KV (N1 hr)]
  refine Dt (fk func197 ntmps197 m0 (by with_unfolding_all rfl)) Z (Nat.le_of_ble_eq_true Z) ?_
  refine (A6 (s0:=⟨T [(0, .d (.list (List.map I3 (x::xs))))],G []⟩) (D3 ⟨.of Z,trivial⟩ trivial) ?_)
  refine A4 ?_
  refine O8 fun _ _=> ?_
  refine B6 (.d .nilS) Z Z ?_
  refine A1 ?_
  refine A4 ?_
  refine A4 ?_
  refine O8 fun _ _=> ?_
  refine B6 (.d (.list (List.map I3 (x::xs)))) Z Z ?_
  refine B6 (.d (bo false)) Z Z ?_
  refine A1 ?_
  refine Rh Z ?_
  refine B1 ?_
  refine A4 ?_
  refine O8 fun u3 _=> ?_
  refine Tz (.sl _) (.arr 97 2 (List.map I3 ([]:List Phase))) Z Z ?_
  refine B6 (.d (.list (List.map I3 (x::xs)))) Z Z ?_
  refine Cw I3 _ [] (x::xs) _ (D0<|fun _=>Z) Z G_hit hr ?_
  refine B6 (.sl _) Z Z ?_
  refine A1 ?_
  refine B2 ?_
  exact Aa (v1:= .sl (7,u3)) (.inr Z) (Zj<|B0 Z) (.of Z) [((7,u3),some<|.arr 97 2 (List.map I3 r))] (B7 G_hit (.of Z) trivial) (LG [(7,u3)] Z trivial ⟨G_hit,trivial⟩ Z (by simp only [lP,List.not_mem_nil,or_false,forall_eq];exact fun i=>LF rfl i) nd1)
def V0 (v1:(List Phase))(x1:(Int×Signal)):Option (Stp (Int×Signal) Signal):=
  cond (decide (x1.1< (v1.length:Int))) ((E6 x1.2.Phases x1.1).bind fun v2=>(W3 v2.Green).bind fun v3=>(E6 x1.2.Phases x1.1).bind fun v4=>some (.go ((J3 (x1.1+1)),(Signal.mk x1.2.Offset (Sw x1.2.Phases x1.1 (Phase.mk v4.Ticks v3)))))) (some (.out x1.2))
def X4 [Lp](p1:Signal):Option Signal:=
  (V9 p1.Phases).bind fun v1=>(loop (V0 v1) (0,(Signal.mk p1.Offset v1))).bind fun y1=>some y1
theorem Fm(p1 r)(h:X4 p1=some r):PCall prog 91 [(.agg [(i64 p1.Offset),(.list (List.map I3 p1.Phases))])] (.agg [(i64 r.Offset),(.list (List.map I3 r.Phases))]):=by
 refine C4 (fk func91 ntmps91 (fun r=>if r==1 then [1001002]else []) (by with_unfolding_all rfl)) (nl Z) ?_
 unfold X4 at h
 refine A6 (s0:=⟨T [(0,(.d _))],G []⟩) (D9 Z Z) ?_
 refine lr<|fun u1 _=>sm Z<|sm Z<|A1<|lr<|fun u2 _=>sq Z<|sl Z (gq Z) Z (bs h fun v1 hv1 h=> ?_)
 refine FP (v:=oE v1 (10010020,u2)) (us:= [(10010020,u2)]) (Zq (Im _ _ hv1) [] [] _ (((10010020,u2),oB 97 2 I3 v1)::_) Z Fj Z Cz trivial (fun _ h=>h) List.nodup_nil (by generalize v1=x1;cases x1<;>rfl) Z (Lz (Z)) Z) ?_
 refine sp Z Z<|Z4 _ _ _ _ _ (IE _ _) Z Z (gq Z) (nl Z) [(di p1.Offset),(oE v1 (10010020,u2))] Z (A1<|A4<|B8<|sq Z<|B6 (oE v1 (10010020,u2)) Z (M1 Z G_hit Z) (sd Z (QV (f:=I3) Z (gq Z))<|sv Z<|A1<|bs h fun y1 hy1 h=>E4 (fun s=> ∃g1:Nat,Sb ⟨T [(1,(.ptr (1,u1) 0)),(2,(.ptr (2,u1) 0))],G [((1,u1),some<|.box 48 [(di y1.Offset),(oE y1.Phases (10010020,g1))]),((2,u1),some<|.box 48 [(di 0),(.d .nilS)]),((10010020,g1),oB 97 2 I3 y1.Phases)]⟩ s) ?_ ?_))
 refine A7<|E5 (V0 v1) (fun (x1:(Int×Signal)) (g2:Nat)=>⟨T [(1,(.ptr (1,u1) 0)),(2,(.ptr (2,u1) 0)),(10,(di (v1.length:Int))),(11,(di x1.1))],G [((1,u1),some<|.box 48 [(di x1.2.Offset),(oE x1.2.Phases (10010020,g2))]),((2,u1),some<|.box 48 [(di 0),(.d .nilS)]),((10010020,g2),oB 97 2 I3 x1.2.Phases)]⟩) (0,(Signal.mk p1.Offset v1)) u2 _ hy1 (D3 (Z5 Z)<|B7 G_hit (.of Z)<|sg Z<|D4 (gq Z) trivial) ?_
 intro x1 g2 z1 hz1 ez1
 unfold V0 at hz1
 refine B8<|sv Z<|A1<|A4<|cc Z hz1 (fun c1 hz1=> ?_)<|fun c1 hz1=> ?_
 refine B1<|A4<|A7<|B8<|sv Z<|sv Z<|A1<|N2 Z<|sq Z<|B6 (oE x1.2.Phases (10010020,g2)) Z (M1 Z G_hit Z) (sv Z<|sq Z<|B6 (oE x1.2.Phases (10010020,g2)) Z (M1 Z G_hit Z) (sv Z<|bs hz1 fun _ hv2 hz1=>B6 (.aptr _ _ _ _) Z (LL Z Z (gq Z) hv2) (B6 (.aptr _ _ _ _) Z Z (sd Z (OM Z (AZ (gq Z)<|Ht hv2) hv2 Z)<|bs hz1 fun v3 hv3 hz1=>C0 Z Z A3 (Fy _ _ hv3) (.inl Z) (bs hz1 fun v4 hv4 hz1=>B6 (.aptr _ _ _ _) Z (LL Z Z (gq Z) hv4) (B6 (.aptr _ _ _ _) Z Z ?_))))))
 rw [HB (Ht hv4)]
 refine Nq I3 _ _ _ (x1.1) _ (Phase.mk v4.Ticks v3) [(.list (List.map A9 v3))] Z Z Z (AZ (gq Z)<|Ht hv4) hv4 (nl Z) Z (A1<|D7<|A6 (s0:=⟨T [(1,(.ptr _ _)),(2,(.ptr _ _)),(10,(.d _)),(11,(.d _))],G [((1,u1),some<|.box 48 _),((10010020,g2),some _),((2,u1),some<|.box 48 _)]⟩) (D9 Z Z) ?_)
 refine B5<|sv Z<|sv Z<|A1<|F8 ?_
 cases hz1
 exact ⟨Z,g2,(D3 (Z5 Z)<|B7 G_hit (.box (cv<|.cons (.of (HB<|OL<|Ht hv4).symm) .nil))<|sg Z<|O6 (gq Z) trivial)⟩
 refine D2 Z ?_
 cases hz1
 obtain rfl:=ez1 _ rfl
 refine ⟨nofun,C9 Z<|Z9 ?_⟩
 exact ⟨g2,(D3 (Z5 Z)<|B7 G_hit (.of Z)<|sg Z<|D4 (gq Z) trivial)⟩
 rintro _ ⟨g1,q1⟩
 refine A6 q1<|B8<|B6 (W7 [(di y1.Offset),(oE y1.Phases (10010020,g1))]) Z (B4 Z G_hit Z Z) (Z4 _ _ _ _ _ (S9 _) Z Z (gq Z) (nl Z) [(di y1.Offset),(oE y1.Phases (10010020,g1))] Z (A1<|B2 ?_))
 cases h
 exact A8 (.inr Z) (B9 (E7 Z G_hit (nl Z) Z)<|Gj<|rD<|H3 (SA<|gq Z) I6) (.refl _)
def Q2 [Lp](p1:(List Signal))(x1:((List Signal)×Int)):Option (Stp ((List Signal)×Int) (List Signal)):=
  cond (decide (x1.2< (p1.length:Int))) ((E6 p1 x1.2).bind fun v1=>(X4 v1).bind fun v2=>(Q8 x1.1 [v2]).bind fun v3=>some (.go (v3,(J3 (x1.2+1))))) (some (.out x1.1))
def S5 [Lp](p1:(List Signal)):Option (List Signal):=
  (loop (Q2 p1) ([],0)).bind fun y1=>some y1
theorem Ey(p1 r)(h:S5 p1=some r):PCall prog 156 [(.list (List.map E2 p1)),(.fn (.func 91) [] [])] (.list (List.map E2 r)):=by
 refine C4 (fk func156 ntmps156 (fun r=>if r==5 then [1004]else []) (by with_unfolding_all rfl)) (nl Z) ?_
 unfold S5 at h
 refine A6 (s0:=⟨T [(0,(.d _)),(1,(.d _))],G []⟩) (D9 Z Z) ?_
 refine B8<|sv Z<|A1<|B8<|sv Z<|A1<|A4<|B8<|sv Z<|sd Z (C3 Z)<|sv Z<|A1<|bs h fun y1 hy1 h=>E4 (fun s=> ∃g1:Nat,Sb ⟨T [(5,(oS y1 (19,g1)))],G [((19,g1),oB 48 2 E2 y1)]⟩ s) ?_ ?_
 refine A7<|E5 (Q2 p1) (fun (x1:((List Signal)×Int)) (g2:Nat)=>⟨T [(1,(.d (.fn (.func 91) [] []))),(5,(oS x1.1 (19,g2))),(8,(dl E2 p1)),(9,(di (p1.length:Int))),(10,(di x1.2))],G [((19,g2),oB 48 2 E2 x1.1)]⟩) ([],0) 0 _ hy1 (D3 (Z5 Z)<|O9 trivial) ?_
 intro x1 g2 z1 hz1 ez1
 unfold Q2 at hz1
 refine B8<|sv Z<|A1<|A4<|cc Z hz1 (fun c1 hz1=> ?_)<|fun c1 hz1=> ?_
 refine B1<|A4<|A7<|B8<|bs hz1 fun v1 hv1 hz1=>sd Z (D8 Z Z hv1 Z)<|sd Z (D1 Z hv1 Z Z)<|sm Z<|U1 Z G_hit [(di v1.Offset),(dl I3 v1.Phases)] Z (A1<|O8 fun u6 _=>B6 (oS x1.1 (19,g2)) Z Z (sv Z<|sd Z (B4 Z G_hit Z Z)<|bs hz1 fun v2 hv2 hz1=>C0 Z Z A3 (Fm _ _ hv2) (.inl Z) (B6 (dl E2 [v2]) Z Z (bs hz1 fun _ hv3 hz1=>J0 E2 (19,g2) x1.1 v2 [] _ (D0<|fun _=>Z) Z (gq Z) hv3 (ss Z<|A1<|D7<|B5<|sv Z<|sv Z<|A1<|F8 ?_)))))
 cases hz1
 exact ⟨Z,u6,(D3 ⟨.of Z,(.of (Z8<|N1 hv3).symm), .of Z, .of Z, .of Z,trivial⟩<|O6 G_hit trivial)⟩
 refine D2 Z ?_
 cases hz1
 obtain rfl:=ez1 _ rfl
 refine ⟨nofun,C9 Z<|Z9 ?_⟩
 exact ⟨g2,(D3 ⟨.of Z,trivial⟩<|D4 G_hit trivial)⟩
 rintro _ ⟨g1,q1⟩
 refine A6 q1<|B8<|B6 (oS y1 (19,g1)) Z Z (B6 (oS y1 (19,g1)) Z Z (A1<|B2 ?_))
 cases h
 exact A8 (.inr Z) (B9 (B0 Z)<|Cd G_hit) Cc
def Fe (p1:Work):Option Work:=
  some p1
theorem Li(p1 r)(h:Fe p1=some r):PCall prog 158 [(.agg (H8 p1))] (.agg (H8 r)):=by
 refine C4 (fk func158 ntmps158 m0 (by with_unfolding_all rfl)) (nl Z) ?_
 unfold Fe at h
 refine A6 (s0:=⟨T [(0,(.d _))],G []⟩) (D9 Z Z) ?_
 refine B8<|sm Z<|sn Z Z<|A1<|B8<|sd Z (B4 Z (gq Z) Z Z)<|U1 Z G_hit (DC p1) Z (A1<|B2 ?_)
 cases h
 exact A8 (.inr Z) (B9 (E7 Z G_hit (nl Z) Z) C2) (.refl _)
def T5 (p1:(List Work))(x1:((List Work)×Int)):Option (Stp ((List Work)×Int) (List Work)):=
  cond (decide (x1.2< (p1.length:Int))) ((E6 p1 x1.2).bind fun v1=>(Fe v1).bind fun v2=>(Q8 x1.1 [v2]).bind fun v3=>some (.go (v3,(J3 (x1.2+1))))) (some (.out x1.1))
def W6 [Lp](p1:(List Work)):Option (List Work):=
  (loop (T5 p1) ([],0)).bind fun y1=>some y1
theorem Gx(p1 r)(h:W6 p1=some r):PCall prog 157 [(.list (List.map H8 p1)),(.fn (.func 158) [] [])] (.list (List.map H8 r)):=by
 refine C4 (fk func157 ntmps157 (fun r=>if r==5 then [1004]else []) (by with_unfolding_all rfl)) (nl Z) ?_
 unfold W6 at h
 refine A6 (s0:=⟨T [(0,(.d _)),(1,(.d _))],G []⟩) (D9 Z Z) ?_
 refine B8<|sv Z<|A1<|B8<|sv Z<|A1<|A4<|B8<|sv Z<|sd Z (C3 Z)<|sv Z<|A1<|bs h fun y1 hy1 h=>E4 (fun s=> ∃g1:Nat,Sb ⟨T [(5,(oS y1 (19,g1)))],G [((19,g1),oB 50 6 H8 y1)]⟩ s) ?_ ?_
 refine A7<|E5 (T5 p1) (fun (x1:((List Work)×Int)) (g2:Nat)=>⟨T [(1,(.d (.fn (.func 158) [] []))),(5,(oS x1.1 (19,g2))),(8,(dl H8 p1)),(9,(di (p1.length:Int))),(10,(di x1.2))],G [((19,g2),oB 50 6 H8 x1.1)]⟩) ([],0) 0 _ hy1 (D3 (Z5 Z)<|O9 trivial) ?_
 intro x1 g2 z1 hz1 ez1
 unfold T5 at hz1
 refine B8<|sv Z<|A1<|A4<|cc Z hz1 (fun c1 hz1=> ?_)<|fun c1 hz1=> ?_
 refine B1<|A4<|A7<|B8<|bs hz1 fun v1 hv1 hz1=>sd Z (D8 Z Z hv1 Z)<|sd Z (D1 Z hv1 Z Z)<|sm Z<|U1 Z G_hit (DC v1) Z (A1<|O8 fun u6 _=>B6 (oS x1.1 (19,g2)) Z Z (sv Z<|sd Z (B4 Z G_hit Z Z)<|bs hz1 fun v2 hv2 hz1=>C0 Z Z A3 (Li _ _ hv2) (.inl Z) (B6 (dl H8 [v2]) Z Z (bs hz1 fun _ hv3 hz1=>J0 H8 (19,g2) x1.1 v2 [] _ (D0<|fun _=>Z) Z (gq Z) hv3 (ss Z<|A1<|D7<|B5<|sv Z<|sv Z<|A1<|F8 ?_)))))
 cases hz1
 exact ⟨Z,u6,(D3 ⟨.of Z,(.of (Z8<|N1 hv3).symm), .of Z, .of Z, .of Z,trivial⟩<|O6 G_hit trivial)⟩
 refine D2 Z ?_
 cases hz1
 obtain rfl:=ez1 _ rfl
 refine ⟨nofun,C9 Z<|Z9 ?_⟩
 exact ⟨g2,(D3 ⟨.of Z,trivial⟩<|D4 G_hit trivial)⟩
 rintro _ ⟨g1,q1⟩
 refine A6 q1<|B8<|B6 (oS y1 (19,g1)) Z Z (B6 (oS y1 (19,g1)) Z Z (A1<|B2 ?_))
 cases h
 exact A8 (.inr Z) (B9 (B0 Z)<|Cd G_hit) Cc
def Xc [Lp](p1:Map):Option Map:=
  (W4 p1.Lanes).bind fun v1=>(W5 p1.Zones).bind fun v2=>(S5 p1.Signals).bind fun v3=>(W6 p1.Works).bind fun v4=>some (Map.mk p1.Version v1 v2 v3 v4)
theorem NA(p1 r)(h:Xc p1=some r):PCall prog 51 [(.agg (K6 p1))] (.agg (K6 r)):=by
 refine C4 (fk func51 ntmps51 m0 (by with_unfolding_all rfl)) (nl Z) ?_
 unfold Xc at h
 refine A6 (s0:=⟨T [(0,(.d _))],G []⟩) (D9 Z Z) ?_
 refine B8<|sm Z<|sn Z Z<|A1<|A4<|N2 Z<|sq Z<|sl Z (gq Z) Z (sq Z<|sl Z (gq Z) Z (bs h fun v1 hv1 h=>C0 Z Z A3 (Gv _ _ hv1) (.inl Z) (sq Z<|sl Z (gq Z) Z (bs h fun v2 hv2 h=>C0 Z Z A3 (Gw _ _ hv2) (.inl Z) (sq Z<|sl Z (gq Z) Z (bs h fun v3 hv3 h=>C0 Z Z A3 (Ey _ _ hv3) (.inl Z) (sq Z<|sl Z (gq Z) Z (bs h fun v4 hv4 h=>C0 Z Z A3 (Gx _ _ hv4) (.inl Z) (sv Z<|U1 Z G_hit [(di p1.Version),(dl G5 v1),(dl F0 v2),(dl E2 v3),(dl H8 v4)] Z (A1<|B2 ?_))))))))))
 cases h
 exact A8 (.inr Z) (B9 (E7 Z G_hit (nl Z) Z) C2) (.refl _)
def L3 (p1:(List Lane))(x1:((List Lane)×Int)):Option (Stp ((List Lane)×Int) (List Lane)):=
  cond (decide (x1.2< (p1.length:Int))) ((E6 p1 x1.2).bind fun v1=>(Bg v1).bind fun v2=>(Q8 x1.1 [v2]).bind fun v3=>some (.go (v3,(J3 (x1.2+1))))) (some (.out x1.1))
def N7 [Lp](p1:(List Lane)):Option (List Lane):=
  (loop (L3 p1) ([],0)).bind fun y1=>some y1
theorem Gc(p1 r)(h:N7 p1=some r):MCall prog 154 [(dl G5 p1),(.d (.fn (.func 87) [] []))] [] (oS r (800000,0)) [] [oB 42 5 G5 r]:=by
 refine Dt (fk func154 ntmps154 (fun r=>if r==5 then [1004]else []) (by with_unfolding_all rfl)) (by generalize r=x1;cases x1<;>rfl) (nl Z) ?_
 unfold N7 at h
 refine A6 (s0:=⟨T [(0,(.d _)),(1,(.d _))],G []⟩) (D9 Z Z) ?_
 refine B8<|sv Z<|A1<|B8<|sv Z<|A1<|A4<|B8<|sv Z<|sd Z (C3 Z)<|sv Z<|A1<|bs h fun y1 hy1 h=>E4 (fun s=> ∃g1:Nat,Sb ⟨T [(5,(oS y1 (19,g1)))],G [((19,g1),oB 42 5 G5 y1)]⟩ s) ?_ ?_
 refine A7<|E5 (L3 p1) (fun (x1:((List Lane)×Int)) (g2:Nat)=>⟨T [(1,(.d (.fn (.func 87) [] []))),(5,(oS x1.1 (19,g2))),(8,(dl G5 p1)),(9,(di (p1.length:Int))),(10,(di x1.2))],G [((19,g2),oB 42 5 G5 x1.1)]⟩) ([],0) 0 _ hy1 (D3 (Z5 Z)<|O9 trivial) ?_
 intro x1 g2 z1 hz1 ez1
 unfold L3 at hz1
 refine B8<|sv Z<|A1<|A4<|cc Z hz1 (fun c1 hz1=> ?_)<|fun c1 hz1=> ?_
 refine B1<|A4<|A7<|B8<|bs hz1 fun v1 hv1 hz1=>sd Z (D8 Z Z hv1 Z)<|sd Z (D1 Z hv1 Z Z)<|sm Z<|U1 Z G_hit (Db v1) Z (A1<|O8 fun u6 _=>B6 (oS x1.1 (19,g2)) Z Z (sv Z<|sd Z (B4 Z G_hit Z Z)<|bs hz1 fun v2 hv2 hz1=>C0 Z Z A3 (Hl _ _ hv2) (.inl Z) (B6 (dl G5 [v2]) Z Z (bs hz1 fun _ hv3 hz1=>J0 G5 (19,g2) x1.1 v2 [] _ (D0<|fun _=>Z) Z (gq Z) hv3 (ss Z<|A1<|D7<|B5<|sv Z<|sv Z<|A1<|F8 ?_)))))
 cases hz1
 exact ⟨Z,u6,(D3 ⟨.of Z,(.of (Z8<|N1 hv3).symm), .of Z, .of Z, .of Z,trivial⟩<|O6 G_hit trivial)⟩
 refine D2 Z ?_
 cases hz1
 obtain rfl:=ez1 _ rfl
 refine ⟨nofun,C9 Z<|Z9 ?_⟩
 exact ⟨g2,(D3 ⟨.of Z,trivial⟩<|D4 G_hit trivial)⟩
 rintro _ ⟨g1,q1⟩
 refine A6 q1<|B8<|B6 (oS y1 (19,g1)) Z Z (B6 (oS y1 (19,g1)) Z Z (A1<|B2 ?_))
 obtain rfl:=(lC h)
 exact Aa (v1:=(oS y1 (19,g1))) (.inr Z) (Zj<|B0 Z) (.of Z) [((19,g1),oB 42 5 G5 y1)] (D4 G_hit trivial) (P0 [(19,g1)] (by generalize y1=x1;cases x1<;>rfl) trivial ⟨(G_hit).trans oB_ren.symm,trivial⟩ Z (lY.2 ⟨fun _ hi=>O0 Z hi,(fun _ h=>nomatch h)⟩) nd1)
def L4 (p1:(List Zone))(x1:((List Zone)×Int)):Option (Stp ((List Zone)×Int) (List Zone)):=
  cond (decide (x1.2< (p1.length:Int))) ((E6 p1 x1.2).bind fun v1=>(Bh v1).bind fun v2=>(Q8 x1.1 [v2]).bind fun v3=>some (.go (v3,(J3 (x1.2+1))))) (some (.out x1.1))
def N8 [Lp](p1:(List Zone)):Option (List Zone):=
  (loop (L4 p1) ([],0)).bind fun y1=>some y1
theorem Gd(p1 r)(h:N8 p1=some r):MCall prog 155 [(dl F0 p1),(.d (.fn (.func 89) [] []))] [] (oS r (800000,0)) [] [oB 45 2 F0 r]:=by
 refine Dt (fk func155 ntmps155 (fun r=>if r==5 then [1004]else []) (by with_unfolding_all rfl)) (by generalize r=x1;cases x1<;>rfl) (nl Z) ?_
 unfold N8 at h
 refine A6 (s0:=⟨T [(0,(.d _)),(1,(.d _))],G []⟩) (D9 Z Z) ?_
 refine B8<|sv Z<|A1<|B8<|sv Z<|A1<|A4<|B8<|sv Z<|sd Z (C3 Z)<|sv Z<|A1<|bs h fun y1 hy1 h=>E4 (fun s=> ∃g1:Nat,Sb ⟨T [(5,(oS y1 (19,g1)))],G [((19,g1),oB 45 2 F0 y1)]⟩ s) ?_ ?_
 refine A7<|E5 (L4 p1) (fun (x1:((List Zone)×Int)) (g2:Nat)=>⟨T [(1,(.d (.fn (.func 89) [] []))),(5,(oS x1.1 (19,g2))),(8,(dl F0 p1)),(9,(di (p1.length:Int))),(10,(di x1.2))],G [((19,g2),oB 45 2 F0 x1.1)]⟩) ([],0) 0 _ hy1 (D3 (Z5 Z)<|O9 trivial) ?_
 intro x1 g2 z1 hz1 ez1
 unfold L4 at hz1
 refine B8<|sv Z<|A1<|A4<|cc Z hz1 (fun c1 hz1=> ?_)<|fun c1 hz1=> ?_
 refine B1<|A4<|A7<|B8<|bs hz1 fun v1 hv1 hz1=>sd Z (D8 Z Z hv1 Z)<|sd Z (D1 Z hv1 Z Z)<|sm Z<|U1 Z G_hit [(dl H6 v1.Parts),(di v1.Signal_)] Z (A1<|O8 fun u6 _=>B6 (oS x1.1 (19,g2)) Z Z (sv Z<|sd Z (B4 Z G_hit Z Z)<|bs hz1 fun v2 hv2 hz1=>C0 Z Z A3 (Hm _ _ hv2) (.inl Z) (B6 (dl F0 [v2]) Z Z (bs hz1 fun _ hv3 hz1=>J0 F0 (19,g2) x1.1 v2 [] _ (D0<|fun _=>Z) Z (gq Z) hv3 (ss Z<|A1<|D7<|B5<|sv Z<|sv Z<|A1<|F8 ?_)))))
 cases hz1
 exact ⟨Z,u6,(D3 ⟨.of Z,(.of (Z8<|N1 hv3).symm), .of Z, .of Z, .of Z,trivial⟩<|O6 G_hit trivial)⟩
 refine D2 Z ?_
 cases hz1
 obtain rfl:=ez1 _ rfl
 refine ⟨nofun,C9 Z<|Z9 ?_⟩
 exact ⟨g2,(D3 ⟨.of Z,trivial⟩<|D4 G_hit trivial)⟩
 rintro _ ⟨g1,q1⟩
 refine A6 q1<|B8<|B6 (oS y1 (19,g1)) Z Z (B6 (oS y1 (19,g1)) Z Z (A1<|B2 ?_))
 obtain rfl:=(lC h)
 exact Aa (v1:=(oS y1 (19,g1))) (.inr Z) (Zj<|B0 Z) (.of Z) [((19,g1),oB 45 2 F0 y1)] (D4 G_hit trivial) (P0 [(19,g1)] (by generalize y1=x1;cases x1<;>rfl) trivial ⟨(G_hit).trans oB_ren.symm,trivial⟩ Z (lY.2 ⟨fun _ hi=>O0 Z hi,(fun _ h=>nomatch h)⟩) nd1)
def J5 [Lp](p1:(List Signal))(x1:((List Signal)×Int)):Option (Stp ((List Signal)×Int) (List Signal)):=
  cond (decide (x1.2< (p1.length:Int))) ((E6 p1 x1.2).bind fun v1=>(X4 v1).bind fun v2=>(Q8 x1.1 [v2]).bind fun v3=>some (.go (v3,(J3 (x1.2+1))))) (some (.out x1.1))
def K7 [Lp](p1:(List Signal)):Option (List Signal):=
  (loop (J5 p1) ([],0)).bind fun y1=>some y1
theorem Er(p1 r)(h:K7 p1=some r):MCall prog 156 [(dl E2 p1),(.d (.fn (.func 91) [] []))] [] (oS r (800000,0)) [] [oB 48 2 E2 r]:=by
 refine Dt (fk func156 ntmps156 (fun r=>if r==5 then [1004]else []) (by with_unfolding_all rfl)) (by generalize r=x1;cases x1<;>rfl) (nl Z) ?_
 unfold K7 at h
 refine A6 (s0:=⟨T [(0,(.d _)),(1,(.d _))],G []⟩) (D9 Z Z) ?_
 refine B8<|sv Z<|A1<|B8<|sv Z<|A1<|A4<|B8<|sv Z<|sd Z (C3 Z)<|sv Z<|A1<|bs h fun y1 hy1 h=>E4 (fun s=> ∃g1:Nat,Sb ⟨T [(5,(oS y1 (19,g1)))],G [((19,g1),oB 48 2 E2 y1)]⟩ s) ?_ ?_
 refine A7<|E5 (J5 p1) (fun (x1:((List Signal)×Int)) (g2:Nat)=>⟨T [(1,(.d (.fn (.func 91) [] []))),(5,(oS x1.1 (19,g2))),(8,(dl E2 p1)),(9,(di (p1.length:Int))),(10,(di x1.2))],G [((19,g2),oB 48 2 E2 x1.1)]⟩) ([],0) 0 _ hy1 (D3 (Z5 Z)<|O9 trivial) ?_
 intro x1 g2 z1 hz1 ez1
 unfold J5 at hz1
 refine B8<|sv Z<|A1<|A4<|cc Z hz1 (fun c1 hz1=> ?_)<|fun c1 hz1=> ?_
 refine B1<|A4<|A7<|B8<|bs hz1 fun v1 hv1 hz1=>sd Z (D8 Z Z hv1 Z)<|sd Z (D1 Z hv1 Z Z)<|sm Z<|U1 Z G_hit [(di v1.Offset),(dl I3 v1.Phases)] Z (A1<|O8 fun u6 _=>B6 (oS x1.1 (19,g2)) Z Z (sv Z<|sd Z (B4 Z G_hit Z Z)<|bs hz1 fun v2 hv2 hz1=>C0 Z Z A3 (Fm _ _ hv2) (.inl Z) (B6 (dl E2 [v2]) Z Z (bs hz1 fun _ hv3 hz1=>J0 E2 (19,g2) x1.1 v2 [] _ (D0<|fun _=>Z) Z (gq Z) hv3 (ss Z<|A1<|D7<|B5<|sv Z<|sv Z<|A1<|F8 ?_)))))
 cases hz1
 exact ⟨Z,u6,(D3 ⟨.of Z,(.of (Z8<|N1 hv3).symm), .of Z, .of Z, .of Z,trivial⟩<|O6 G_hit trivial)⟩
 refine D2 Z ?_
 cases hz1
 obtain rfl:=ez1 _ rfl
 refine ⟨nofun,C9 Z<|Z9 ?_⟩
 exact ⟨g2,(D3 ⟨.of Z,trivial⟩<|D4 G_hit trivial)⟩
 rintro _ ⟨g1,q1⟩
 refine A6 q1<|B8<|B6 (oS y1 (19,g1)) Z Z (B6 (oS y1 (19,g1)) Z Z (A1<|B2 ?_))
 obtain rfl:=(lC h)
 exact Aa (v1:=(oS y1 (19,g1))) (.inr Z) (Zj<|B0 Z) (.of Z) [((19,g1),oB 48 2 E2 y1)] (D4 G_hit trivial) (P0 [(19,g1)] (by generalize y1=x1;cases x1<;>rfl) trivial ⟨(G_hit).trans oB_ren.symm,trivial⟩ Z (lY.2 ⟨fun _ hi=>O0 Z hi,(fun _ h=>nomatch h)⟩) nd1)
def L5 (p1:(List Work))(x1:((List Work)×Int)):Option (Stp ((List Work)×Int) (List Work)):=
  cond (decide (x1.2< (p1.length:Int))) ((E6 p1 x1.2).bind fun v1=>(Fe v1).bind fun v2=>(Q8 x1.1 [v2]).bind fun v3=>some (.go (v3,(J3 (x1.2+1))))) (some (.out x1.1))
def N9 [Lp](p1:(List Work)):Option (List Work):=
  (loop (L5 p1) ([],0)).bind fun y1=>some y1
theorem Gf(p1 r)(h:N9 p1=some r):MCall prog 157 [(dl H8 p1),(.d (.fn (.func 158) [] []))] [] (oS r (800000,0)) [] [oB 50 6 H8 r]:=by
 refine Dt (fk func157 ntmps157 (fun r=>if r==5 then [1004]else []) (by with_unfolding_all rfl)) (by generalize r=x1;cases x1<;>rfl) (nl Z) ?_
 unfold N9 at h
 refine A6 (s0:=⟨T [(0,(.d _)),(1,(.d _))],G []⟩) (D9 Z Z) ?_
 refine B8<|sv Z<|A1<|B8<|sv Z<|A1<|A4<|B8<|sv Z<|sd Z (C3 Z)<|sv Z<|A1<|bs h fun y1 hy1 h=>E4 (fun s=> ∃g1:Nat,Sb ⟨T [(5,(oS y1 (19,g1)))],G [((19,g1),oB 50 6 H8 y1)]⟩ s) ?_ ?_
 refine A7<|E5 (L5 p1) (fun (x1:((List Work)×Int)) (g2:Nat)=>⟨T [(1,(.d (.fn (.func 158) [] []))),(5,(oS x1.1 (19,g2))),(8,(dl H8 p1)),(9,(di (p1.length:Int))),(10,(di x1.2))],G [((19,g2),oB 50 6 H8 x1.1)]⟩) ([],0) 0 _ hy1 (D3 (Z5 Z)<|O9 trivial) ?_
 intro x1 g2 z1 hz1 ez1
 unfold L5 at hz1
 refine B8<|sv Z<|A1<|A4<|cc Z hz1 (fun c1 hz1=> ?_)<|fun c1 hz1=> ?_
 refine B1<|A4<|A7<|B8<|bs hz1 fun v1 hv1 hz1=>sd Z (D8 Z Z hv1 Z)<|sd Z (D1 Z hv1 Z Z)<|sm Z<|U1 Z G_hit (DC v1) Z (A1<|O8 fun u6 _=>B6 (oS x1.1 (19,g2)) Z Z (sv Z<|sd Z (B4 Z G_hit Z Z)<|bs hz1 fun v2 hv2 hz1=>C0 Z Z A3 (Li _ _ hv2) (.inl Z) (B6 (dl H8 [v2]) Z Z (bs hz1 fun _ hv3 hz1=>J0 H8 (19,g2) x1.1 v2 [] _ (D0<|fun _=>Z) Z (gq Z) hv3 (ss Z<|A1<|D7<|B5<|sv Z<|sv Z<|A1<|F8 ?_)))))
 cases hz1
 exact ⟨Z,u6,(D3 ⟨.of Z,(.of (Z8<|N1 hv3).symm), .of Z, .of Z, .of Z,trivial⟩<|O6 G_hit trivial)⟩
 refine D2 Z ?_
 cases hz1
 obtain rfl:=ez1 _ rfl
 refine ⟨nofun,C9 Z<|Z9 ?_⟩
 exact ⟨g2,(D3 ⟨.of Z,trivial⟩<|D4 G_hit trivial)⟩
 rintro _ ⟨g1,q1⟩
 refine A6 q1<|B8<|B6 (oS y1 (19,g1)) Z Z (B6 (oS y1 (19,g1)) Z Z (A1<|B2 ?_))
 obtain rfl:=(lC h)
 exact Aa (v1:=(oS y1 (19,g1))) (.inr Z) (Zj<|B0 Z) (.of Z) [((19,g1),oB 50 6 H8 y1)] (D4 G_hit trivial) (P0 [(19,g1)] (by generalize y1=x1;cases x1<;>rfl) trivial ⟨(G_hit).trans oB_ren.symm,trivial⟩ Z (lY.2 ⟨fun _ hi=>O0 Z hi,(fun _ h=>nomatch h)⟩) nd1)
def Ff [Lp](p1:Map):Option Map:=
  (N7 p1.Lanes).bind fun v1=>(N8 p1.Zones).bind fun v2=>(K7 p1.Signals).bind fun v3=>(N9 p1.Works).bind fun v4=>some (Map.mk p1.Version v1 v2 v3 v4)
theorem Tf(p1 r)(h:Ff p1=some r):MCall prog 51 [(.d (.agg (K6 p1)))] [] (W7 [(di r.Version),(oS r.Lanes (800000,0)),(oS r.Zones (800001,0)),(oS r.Signals (800002,0)),(oS r.Works (800003,0))]) [] [oB 42 5 G5 r.Lanes,oB 45 2 F0 r.Zones,oB 48 2 E2 r.Signals,oB 50 6 H8 r.Works]:=by
 refine Dt (fk func51 ntmps51 (fun r=>if r==1 then [1001004,1001007,1001010,1001013]else []) (by with_unfolding_all rfl)) (by generalize r.Lanes=x1;generalize r.Zones=x2;generalize r.Signals=x3;generalize r.Works=x4;cases x1<;>cases x2<;>cases x3<;>cases x4<;>rfl) (nl Z) ?_
 unfold Ff at h
 refine A6 (s0:=⟨T [(0,(.d _))],G []⟩) (D9 Z Z) ?_
 refine B8<|sm Z<|sn Z Z<|A1<|A4<|Oo fun u2 _=>G4 (.ptr _ _) Z Z (G4 (.d _) Z (M1 Z (gq Z) Z) (G4 (.ptr _ _) Z Z (G4 (.d _) Z (M1 Z (gq Z) Z) (bs h fun v1 hv1 h=> ?_))))
 refine OU (v:=oS v1 (10010040,u2)) (us:= [(10010040,u2)]) (Zq (Gc _ _ hv1) [] [] _ (((10010040,u2),oB 42 5 G5 v1)::_) Z Fj Z Cz trivial (fun _ h=>h) List.nodup_nil (by generalize v1=x1;cases x1<;>rfl) Z (Lz (Z)) Z) ?_
 refine G4 (.ptr _ _) Z Z (G4 (.d _) Z (M1 Z (gq Z) Z) (bs h fun v2 hv2 h=> ?_))
 refine OU (v:=oS v2 (10010070,u2)) (us:= [(10010070,u2)]) (Zq (Gd _ _ hv2) [] [] _ (((10010070,u2),oB 45 2 F0 v2)::_) Z Fj Z Cz trivial (fun _ h=>h) List.nodup_nil (by generalize v2=x1;cases x1<;>rfl) Z (Lz (Z)) Z) ?_
 refine G4 (.ptr _ _) Z Z (G4 (.d _) Z (M1 Z (gq Z) Z) (bs h fun v3 hv3 h=> ?_))
 refine OU (v:=oS v3 (10010100,u2)) (us:= [(10010100,u2)]) (Zq (Er _ _ hv3) [] [] _ (((10010100,u2),oB 48 2 E2 v3)::_) Z Fj Z Cz trivial (fun _ h=>h) List.nodup_nil (by generalize v3=x1;cases x1<;>rfl) Z (Lz (Z)) Z) ?_
 refine G4 (.ptr _ _) Z Z (G4 (.d _) Z (M1 Z (gq Z) Z) (bs h fun v4 hv4 h=> ?_))
 refine OU (v:=oS v4 (10010130,u2)) (us:= [(10010130,u2)]) (Zq (Gf _ _ hv4) [] [] _ (((10010130,u2),oB 50 6 H8 v4)::_) Z Fj Z Cz trivial (fun _ h=>h) List.nodup_nil (by generalize v4=x1;cases x1<;>rfl) Z (Lz (Z)) Z) ?_
 refine G4 (W7 [(di p1.Version),(oS v1 (10010040,u2)),(oS v2 (10010070,u2)),(oS v3 (10010100,u2)),(oS v4 (10010130,u2))]) Z (by generalize v1=x1;generalize v2=x2;generalize v3=x3;generalize v4=x4;cases x1<;>cases x2<;>cases x3<;>cases x4<;>rfl) ?_
 refine Oq _ _ _ _ _ (S9 _) Z Z (gq Z) (nl Z) [(di p1.Version),(oS v1 (10010040,u2)),(oS v2 (10010070,u2)),(oS v3 (10010100,u2)),(oS v4 (10010130,u2))] Z (Zh ⟨Z,?_⟩)
 refine B2 ?_
 cases h
 exact Aa (v1:=(W7 [(di p1.Version),(oS v1 (10010040,u2)),(oS v2 (10010070,u2)),(oS v3 (10010100,u2)),(oS v4 (10010130,u2))])) (.inr Z) (Zj<|E7 Z G_hit (Nat.le_of_ble_eq_true Z) Z) (.of Z) [((10010040,u2),oB 42 5 G5 v1),((10010070,u2),oB 45 2 F0 v2),((10010100,u2),oB 48 2 E2 v3),((10010130,u2),oB 50 6 H8 v4)] (D4 (gq Z)<|D4 (gq Z)<|D4 (gq Z)<|D4 (gq Z) trivial) (P0 [(10010040,u2),(10010070,u2),(10010100,u2),(10010130,u2)] (by generalize v1=x1;generalize v2=x2;generalize v3=x3;generalize v4=x4;cases x1<;>cases x2<;>cases x3<;>cases x4<;>rfl) trivial ⟨(G_hit).trans oB_ren.symm,((gq Z)).trans oB_ren.symm,((gq Z)).trans oB_ren.symm,((gq Z)).trans oB_ren.symm,trivial⟩ Z (lY.2 ⟨fun i hi=>O0 Z hi,(lY.2 ⟨fun i hi=>O0 Z hi,(lY.2 ⟨fun i hi=>O0 Z hi,(lY.2 ⟨fun i hi=>O0 Z hi,(fun _ h=>nomatch h)⟩)⟩)⟩)⟩) (TA (Ot (Lx Z)<|Ot (Lx Z)<|Ot (Lx Z) BD)<|TA (Ot (Lx Z)<|Ot (Lx Z) BD)<|TA (Ot (Lx Z) BD)<|TA BD List.nodup_nil))
section
theorem LV (xs zs:List Lane)(x:Edit)(v:Lane)(ok:Bool)(h:Da x.Kind x.At xs v=some (zs,ok)):MCall prog 86 [.sl (900000,0), .d (.agg (Bj x)), .d (.agg (G5 v))] [.arr 42 5 (xs.map G5)] (.tup [.sl (800000,0), .d (bo ok)]) [none] [some (.arr 42 5 (zs.map G5))]:=by
 refine Dt (fk func86 ntmps86 (fun r=>if r==2 then [1002]else if r==4 then [1003]else []) (by with_unfolding_all rfl)) Z (nl Z) ?_
 unfold Da at h
 refine B8 ?_
 refine sm Z ?_
 refine sm Z ?_
 refine sv Z ?_
 refine sv Z<|A1 ?_
 refine A4<|A7<|B8 ?_
 refine sq Z ?_
 refine sl Z (gq Z) Z ?_
 refine sv Z<|sv Z ?_
 refine gp Z (I9 Z) (fun _=>Z) ?_
 refine gt Z (vl Z (gq Z) Z) ?_
 refine S6 _ (.sl (900000,0)) Z (I9 Z) (fun _=>Z) ?_
 refine gt Z (fun w=>Eb (f:=G5) (A2 w) (gq Z)) ?_
 refine gt Z (fun w=>H5 (A2 w) (A2 w) Z) ?_
 refine sa Z Z Z ?_
 refine sv Z<|A1 ?_
 refine cc Z h (fun c1 h=> ?_)<|fun c1 h=> ?_
 ·refine bs h fun y hy h=> ?_
  cases h
  refine lr fun u hu=> ?_
  refine ss Z ?_
  refine sd Z (B4 Z (gq Z) Z Z) ?_
  refine B6 (dl G5 [v]) Z Z ?_
  refine Cw G5 (900000,0) xs [v] _ (D0<|fun _=>Z) Z (gq Z) hy ?_
  refine ss Z<|sv Z<|A1<|B2 ?_
  exact Aa (v1:= .tup [.sl (22,u), .d (bo true)]) (.inr Z) (Ds (B0 Z)<|B0 Z) (.of Z) [((22,u),some<|.arr 42 5 (List.map G5 zs))] (B7 (gq Z) (.of Z) trivial) (P0 [(22,u)] Z ⟨trivial,trivial⟩ ⟨gq Z,trivial⟩ Z (lY.2 ⟨fun i hi=>O0 Z hi,(fun _ h=>nomatch h)⟩) nd1)
 ·refine B8 ?_
  refine sq Z ?_
  refine sl Z (gq Z) Z ?_
  refine sv Z<|sv Z ?_
  refine S6 _ (.sl (900000,0)) Z (I9 Z) (fun _=>Z) ?_
  refine gt Z (fun w=>Eb (f:=G5) (A2 w) (gq Z)) ?_
  refine gt Z (fun w=>H5 (A2 w) Z Z) ?_
  refine sa Z Z Z ?_
  refine sv Z ?_
  refine gp Z (I9 Z) (fun _=>Z) ?_
  refine gt Z (vl Z (gq Z) Z) ?_
  refine S6 _ (.sl (900000,0)) Z (I9 Z) (fun _=>Z) ?_
  refine gt Z (fun w=>Eb (f:=G5) (A2 w) (gq Z)) ?_
  refine gt Z (fun w=>H5 (A2 w) Z Z) ?_
  refine gt Z (fun w=>H5 (A2 w) (A2 w) Z) ?_
  refine sa Z Z Z ?_
  refine sv Z<|A1 ?_
  refine cc Z h (fun c2 h=> ?_)<|fun c2 h=> ?_
  ·refine bs h fun y hy h=> ?_
   cases h
   refine lr fun u hu=> ?_
   refine ss Z ?_
   refine sq Z ?_
   refine sl Z (gq Z) Z ?_
   refine Rp G5 (900000,0) xs _ Z (gq Z) Z hy ?_
   refine ss Z<|sv Z<|A1<|B2 ?_
   exact Aa (v1:= .tup [.sl (43,u), .d (bo true)]) (.inr Z) (Ds (B0 Z)<|B0 Z) (.of Z) [((43,u),some<|.arr 42 5 (List.map G5 zs))] (B7 (gq Z) (.of Z) trivial) (P0 [(43,u)] Z ⟨trivial,trivial⟩ ⟨gq Z,trivial⟩ Z (lY.2 ⟨fun i hi=>O0 Z hi,(fun _ h=>nomatch h)⟩) nd1)
  ·refine B8 ?_
   refine sq Z ?_
   refine sl Z (gq Z) Z ?_
   refine sv Z<|sv Z ?_
   refine gp Z (I9 Z) (fun _=>Z) ?_
   refine gt Z (vl Z (gq Z) Z) ?_
   refine gt Z (fun w=>H5 (A2 w) Z Z) ?_
   refine sa Z Z Z ?_
   refine sv Z ?_
   refine gp Z (I9 Z) (fun _=>Z) ?_
   refine gt Z (vl Z (gq Z) Z) ?_
   refine S6 _ (.sl (900000,0)) Z (I9 Z) (fun _=>Z) ?_
   refine gt Z (fun w=>Eb (f:=G5) (A2 w) (gq Z)) ?_
   refine gt Z (fun w=>H5 (A2 w) (A2 w) Z) ?_
   refine sa Z Z Z ?_
   refine sv Z<|A1 ?_
   refine cc Z h (fun c3 h=> ?_)<|fun c3 h=> ?_
   ·refine bs h fun y hy h=> ?_
    cases h
    refine B8 ?_
    refine ss Z ?_
    refine sq Z ?_
    refine sl Z (gq Z) Z ?_
    refine sd Z (B4 Z (gq Z) Z Z) ?_
    refine B6 (.aptr (900000,0) 5 x.At.toNat 0) Z (Wl (f:=G5) Z Z (gq Z) hy) ?_
    refine Nq G5 (900000,0) _ xs x.At y v (G5 v) Z Z Z (gq Z) hy (Nat.le_of_ble_eq_true Z) Z ?_
    refine A1<|B8 ?_
    refine ss Z<|ss Z<|sv Z<|A1 ?_
    refine Uc 6 (900000,0) Z (gq Z) fun u'=>B2 ?_
    exact Aa (v1:= .tup [.sl (700000,u'), .d (bo true)]) (.inr Z) (Ds (B0 Z)<|B0 Z) (.of Z) [((700000,u'),some<|.arr 42 5 (List.map G5<|Sw xs x.At v))] (B7 (gq Z) (.of Z) trivial) (P0 [(700000,u')] Z ⟨trivial,trivial⟩ ⟨gq Z,trivial⟩ Z (lY.2 ⟨fun i hi=>O0 Z hi,(fun _ h=>nomatch h)⟩) nd1)
   ·cases h
    refine B1<|D7<|B8 ?_
    refine ss Z<|ss Z<|sv Z<|A1 ?_
    refine Uc 6 (900000,0) Z (gq Z) fun u'=>B2 ?_
    exact Aa (v1:= .tup [.sl (700000,u'), .d (bo false)]) (.inr Z) (Ds (B0 Z)<|B0 Z) (.of Z) [((700000,u'),some<|.arr 42 5 (List.map G5 xs))] (B7 (gq Z) (.of Z) trivial) (P0 [(700000,u')] Z ⟨trivial,trivial⟩ ⟨gq Z,trivial⟩ Z (lY.2 ⟨fun i hi=>O0 Z hi,(fun _ h=>nomatch h)⟩) nd1)
theorem LW (zs:List Lane)(x:Edit)(v:Lane)(ok:Bool)(h:Da x.Kind x.At [] v=some (zs,ok)):MCall prog 86 [.d .nilS, .d (.agg (Bj x)), .d (.agg (G5 v))] [] (.tup [oS zs (800000,0), .d (bo ok)]) [] [oB 42 5 G5 zs]:=by
 refine Dt (fk func86 ntmps86 (fun r=>if r==2 then [1002]else if r==4 then [1003]else []) (by with_unfolding_all rfl)) (by generalize zs=y;cases y<;>rfl) (nl Z) ?_
 unfold Da at h
 refine B8 ?_
 refine sm Z ?_
 refine sm Z ?_
 refine sv Z ?_
 refine sv Z<|A1 ?_
 refine A4<|A7<|B8 ?_
 refine sq Z ?_
 refine sl Z (gq Z) Z ?_
 refine sv Z<|sv Z ?_
 refine gp Z (I9 Z) (fun _=>Z) ?_
 refine gt Z (vl Z (gq Z) Z) ?_
 refine gt Z (fun _=>Z) ?_
 refine gt (v:=i64 (([]:List Lane).length:Int)) Z (fun w=>Ev<|A2 w) ?_
 refine gt Z (fun w=>H5 (A2 w) (A2 w) Z) ?_
 refine sa Z Z Z ?_
 refine sv Z<|A1 ?_
 refine cc Z h (fun c1 h=> ?_)<|fun c1 h=> ?_
 ·refine bs h fun y hy h=> ?_
  cases h
  refine lr fun u hu=> ?_
  refine sv Z ?_
  refine sd Z (B4 Z (gq Z) Z Z) ?_
  refine B6 (dl G5 [v]) Z Z ?_
  refine J0 G5 (22,u) [] v [] _ (D0<|fun _=>Z) Z (Classical.byContradiction fun e=>hu (22,u) e Z) hy ?_
  refine ss Z<|sv Z<|A1<|B2 ?_
  exact Aa (v1:= .tup [oS zs (22,u), .d (bo true)]) (.inr Z) (Ds (B0 Z)<|B0 Z) (.of (by rw [Z8<|N1 hy];rfl)) [((22,u),oB 42 5 G5 zs)] (O6 (gq Z) trivial) (P0 [(22,u)] (by generalize zs=y;cases y<;>rfl) trivial ⟨(gq Z).trans oB_ren.symm,trivial⟩ Z (lY.2 ⟨fun i hi=>O0 Z hi,(fun _ h=>nomatch h)⟩) nd1)
 ·refine B8 ?_
  refine sq Z ?_
  refine sl Z (gq Z) Z ?_
  refine sv Z<|sv Z ?_
  refine gt Z (fun _=>Z) ?_
  refine gt (v:=i64 (([]:List Lane).length:Int)) Z (fun w=>Ev<|A2 w) ?_
  refine gt Z (fun w=>H5 (A2 w) Z Z) ?_
  refine sa Z Z Z ?_
  refine sv Z ?_
  refine gp Z (I9 Z) (fun _=>Z) ?_
  refine gt Z (vl Z (gq Z) Z) ?_
  refine gt Z (fun _=>Z) ?_
  refine gt (v:=i64 (([]:List Lane).length:Int)) Z (fun w=>Ev<|A2 w) ?_
  refine gt Z (fun w=>H5 (A2 w) Z Z) ?_
  refine gt Z (fun w=>H5 (A2 w) (A2 w) Z) ?_
  refine sa Z Z Z ?_
  refine sv Z<|A1 ?_
  refine cc Z h (fun c2 h=> ?_)<|fun c2 h=> ?_
  ·simp at c2
  ·refine B8 ?_
   refine sq Z ?_
   refine sl Z (gq Z) Z ?_
   refine sv Z<|sv Z ?_
   refine gp Z (I9 Z) (fun _=>Z) ?_
   refine gt Z (vl Z (gq Z) Z) ?_
   refine gt Z (fun w=>H5 (A2 w) Z Z) ?_
   refine sa Z Z Z ?_
   refine sv Z ?_
   refine gp Z (I9 Z) (fun _=>Z) ?_
   refine gt Z (vl Z (gq Z) Z) ?_
   refine gt Z (fun _=>Z) ?_
   refine gt (v:=i64 (([]:List Lane).length:Int)) Z (fun w=>Ev<|A2 w) ?_
   refine gt Z (fun w=>H5 (A2 w) (A2 w) Z) ?_
   refine sa Z Z Z ?_
   refine sv Z<|A1 ?_
   refine cc Z h (fun c3 h=> ?_)<|fun c3 h=> ?_
   ·exact absurd h (by rintro h;refine bs h fun y hy _=>Ht hy rfl)
   ·cases h
    refine B1<|D7<|B8 ?_
    refine sv Z<|sv Z<|sv Z<|A1<|B2 ?_
    exact Aa (v1:= .tup [oS ([]:List Lane) (700000,0), .d (bo false)]) (.inr Z) (Ds (B0 Z)<|B0 Z) (.of Z) [((700000,0),oB 42 5 G5 [])] (O9 trivial) (P0 [(700000,0)] Z trivial ⟨Z,trivial⟩ Z (lY.2 ⟨fun i hi=>O0 Z hi,(fun _ h=>nomatch h)⟩) nd1)
theorem LX:EditC prog 86 42 5 G5 Bj Edit.Kind Edit.At:=⟨LV,LW⟩
end
section
theorem LY (xs zs:List Zone)(x:Edit)(v:Zone)(ok:Bool)(h:Da x.Kind x.At xs v=some (zs,ok)):MCall prog 88 [.sl (900000,0), .d (.agg (Bj x)), .d (.agg (F0 v))] [.arr 45 2 (xs.map F0)] (.tup [.sl (800000,0), .d (bo ok)]) [none] [some (.arr 45 2 (zs.map F0))]:=by
 refine Dt (fk func88 ntmps88 (fun r=>if r==2 then [1002]else if r==4 then [1003]else []) (by with_unfolding_all rfl)) Z (nl Z) ?_
 unfold Da at h
 refine B8 ?_
 refine sm Z ?_
 refine sm Z ?_
 refine sv Z ?_
 refine sv Z<|A1 ?_
 refine A4<|A7<|B8 ?_
 refine sq Z ?_
 refine sl Z (gq Z) Z ?_
 refine sv Z<|sv Z ?_
 refine gp Z (I9 Z) (fun _=>Z) ?_
 refine gt Z (vl Z (gq Z) Z) ?_
 refine S6 _ (.sl (900000,0)) Z (I9 Z) (fun _=>Z) ?_
 refine gt Z (fun w=>Eb (f:=F0) (A2 w) (gq Z)) ?_
 refine gt Z (fun w=>H5 (A2 w) (A2 w) Z) ?_
 refine sa Z Z Z ?_
 refine sv Z<|A1 ?_
 refine cc Z h (fun c1 h=> ?_)<|fun c1 h=> ?_
 ·refine bs h fun y hy h=> ?_
  cases h
  refine lr fun u hu=> ?_
  refine ss Z ?_
  refine sd Z (B4 Z (gq Z) Z Z) ?_
  refine B6 (dl F0 [v]) Z Z ?_
  refine Cw F0 (900000,0) xs [v] _ (D0<|fun _=>Z) Z (gq Z) hy ?_
  refine ss Z<|sv Z<|A1<|B2 ?_
  exact Aa (v1:= .tup [.sl (22,u), .d (bo true)]) (.inr Z) (Ds (B0 Z)<|B0 Z) (.of Z) [((22,u),some<|.arr 45 2 (List.map F0 zs))] (B7 (gq Z) (.of Z) trivial) (P0 [(22,u)] Z ⟨trivial,trivial⟩ ⟨gq Z,trivial⟩ Z (lY.2 ⟨fun i hi=>O0 Z hi,(fun _ h=>nomatch h)⟩) nd1)
 ·refine B8 ?_
  refine sq Z ?_
  refine sl Z (gq Z) Z ?_
  refine sv Z<|sv Z ?_
  refine S6 _ (.sl (900000,0)) Z (I9 Z) (fun _=>Z) ?_
  refine gt Z (fun w=>Eb (f:=F0) (A2 w) (gq Z)) ?_
  refine gt Z (fun w=>H5 (A2 w) Z Z) ?_
  refine sa Z Z Z ?_
  refine sv Z ?_
  refine gp Z (I9 Z) (fun _=>Z) ?_
  refine gt Z (vl Z (gq Z) Z) ?_
  refine S6 _ (.sl (900000,0)) Z (I9 Z) (fun _=>Z) ?_
  refine gt Z (fun w=>Eb (f:=F0) (A2 w) (gq Z)) ?_
  refine gt Z (fun w=>H5 (A2 w) Z Z) ?_
  refine gt Z (fun w=>H5 (A2 w) (A2 w) Z) ?_
  refine sa Z Z Z ?_
  refine sv Z<|A1 ?_
  refine cc Z h (fun c2 h=> ?_)<|fun c2 h=> ?_
  ·refine bs h fun y hy h=> ?_
   cases h
   refine lr fun u hu=> ?_
   refine ss Z ?_
   refine sq Z ?_
   refine sl Z (gq Z) Z ?_
   refine Rp F0 (900000,0) xs _ Z (gq Z) Z hy ?_
   refine ss Z<|sv Z<|A1<|B2 ?_
   exact Aa (v1:= .tup [.sl (43,u), .d (bo true)]) (.inr Z) (Ds (B0 Z)<|B0 Z) (.of Z) [((43,u),some<|.arr 45 2 (List.map F0 zs))] (B7 (gq Z) (.of Z) trivial) (P0 [(43,u)] Z ⟨trivial,trivial⟩ ⟨gq Z,trivial⟩ Z (lY.2 ⟨fun i hi=>O0 Z hi,(fun _ h=>nomatch h)⟩) nd1)
  ·refine B8 ?_
   refine sq Z ?_
   refine sl Z (gq Z) Z ?_
   refine sv Z<|sv Z ?_
   refine gp Z (I9 Z) (fun _=>Z) ?_
   refine gt Z (vl Z (gq Z) Z) ?_
   refine gt Z (fun w=>H5 (A2 w) Z Z) ?_
   refine sa Z Z Z ?_
   refine sv Z ?_
   refine gp Z (I9 Z) (fun _=>Z) ?_
   refine gt Z (vl Z (gq Z) Z) ?_
   refine S6 _ (.sl (900000,0)) Z (I9 Z) (fun _=>Z) ?_
   refine gt Z (fun w=>Eb (f:=F0) (A2 w) (gq Z)) ?_
   refine gt Z (fun w=>H5 (A2 w) (A2 w) Z) ?_
   refine sa Z Z Z ?_
   refine sv Z<|A1 ?_
   refine cc Z h (fun c3 h=> ?_)<|fun c3 h=> ?_
   ·refine bs h fun y hy h=> ?_
    cases h
    refine B8 ?_
    refine ss Z ?_
    refine sq Z ?_
    refine sl Z (gq Z) Z ?_
    refine sd Z (B4 Z (gq Z) Z Z) ?_
    refine B6 (.aptr (900000,0) 2 x.At.toNat 0) Z (Wl (f:=F0) Z Z (gq Z) hy) ?_
    refine Nq F0 (900000,0) _ xs x.At y v (F0 v) Z Z Z (gq Z) hy (Nat.le_of_ble_eq_true Z) Z ?_
    refine A1<|B8 ?_
    refine ss Z<|ss Z<|sv Z<|A1 ?_
    refine Uc 6 (900000,0) Z (gq Z) fun u'=>B2 ?_
    exact Aa (v1:= .tup [.sl (700000,u'), .d (bo true)]) (.inr Z) (Ds (B0 Z)<|B0 Z) (.of Z) [((700000,u'),some<|.arr 45 2 (List.map F0<|Sw xs x.At v))] (B7 (gq Z) (.of Z) trivial) (P0 [(700000,u')] Z ⟨trivial,trivial⟩ ⟨gq Z,trivial⟩ Z (lY.2 ⟨fun i hi=>O0 Z hi,(fun _ h=>nomatch h)⟩) nd1)
   ·cases h
    refine B1<|D7<|B8 ?_
    refine ss Z<|ss Z<|sv Z<|A1 ?_
    refine Uc 6 (900000,0) Z (gq Z) fun u'=>B2 ?_
    exact Aa (v1:= .tup [.sl (700000,u'), .d (bo false)]) (.inr Z) (Ds (B0 Z)<|B0 Z) (.of Z) [((700000,u'),some<|.arr 45 2 (List.map F0 xs))] (B7 (gq Z) (.of Z) trivial) (P0 [(700000,u')] Z ⟨trivial,trivial⟩ ⟨gq Z,trivial⟩ Z (lY.2 ⟨fun i hi=>O0 Z hi,(fun _ h=>nomatch h)⟩) nd1)
theorem LZ (zs:List Zone)(x:Edit)(v:Zone)(ok:Bool)(h:Da x.Kind x.At [] v=some (zs,ok)):MCall prog 88 [.d .nilS, .d (.agg (Bj x)), .d (.agg (F0 v))] [] (.tup [oS zs (800000,0), .d (bo ok)]) [] [oB 45 2 F0 zs]:=by
 refine Dt (fk func88 ntmps88 (fun r=>if r==2 then [1002]else if r==4 then [1003]else []) (by with_unfolding_all rfl)) (by generalize zs=y;cases y<;>rfl) (nl Z) ?_
 unfold Da at h
 refine B8 ?_
 refine sm Z ?_
 refine sm Z ?_
 refine sv Z ?_
 refine sv Z<|A1 ?_
 refine A4<|A7<|B8 ?_
 refine sq Z ?_
 refine sl Z (gq Z) Z ?_
 refine sv Z<|sv Z ?_
 refine gp Z (I9 Z) (fun _=>Z) ?_
 refine gt Z (vl Z (gq Z) Z) ?_
 refine gt Z (fun _=>Z) ?_
 refine gt (v:=i64 (([]:List Zone).length:Int)) Z (fun w=>Ev<|A2 w) ?_
 refine gt Z (fun w=>H5 (A2 w) (A2 w) Z) ?_
 refine sa Z Z Z ?_
 refine sv Z<|A1 ?_
 refine cc Z h (fun c1 h=> ?_)<|fun c1 h=> ?_
 ·refine bs h fun y hy h=> ?_
  cases h
  refine lr fun u hu=> ?_
  refine sv Z ?_
  refine sd Z (B4 Z (gq Z) Z Z) ?_
  refine B6 (dl F0 [v]) Z Z ?_
  refine J0 F0 (22,u) [] v [] _ (D0<|fun _=>Z) Z (Classical.byContradiction fun e=>hu (22,u) e Z) hy ?_
  refine ss Z<|sv Z<|A1<|B2 ?_
  exact Aa (v1:= .tup [oS zs (22,u), .d (bo true)]) (.inr Z) (Ds (B0 Z)<|B0 Z) (.of (by rw [Z8<|N1 hy];rfl)) [((22,u),oB 45 2 F0 zs)] (O6 (gq Z) trivial) (P0 [(22,u)] (by generalize zs=y;cases y<;>rfl) trivial ⟨(gq Z).trans oB_ren.symm,trivial⟩ Z (lY.2 ⟨fun i hi=>O0 Z hi,(fun _ h=>nomatch h)⟩) nd1)
 ·refine B8 ?_
  refine sq Z ?_
  refine sl Z (gq Z) Z ?_
  refine sv Z<|sv Z ?_
  refine gt Z (fun _=>Z) ?_
  refine gt (v:=i64 (([]:List Zone).length:Int)) Z (fun w=>Ev<|A2 w) ?_
  refine gt Z (fun w=>H5 (A2 w) Z Z) ?_
  refine sa Z Z Z ?_
  refine sv Z ?_
  refine gp Z (I9 Z) (fun _=>Z) ?_
  refine gt Z (vl Z (gq Z) Z) ?_
  refine gt Z (fun _=>Z) ?_
  refine gt (v:=i64 (([]:List Zone).length:Int)) Z (fun w=>Ev<|A2 w) ?_
  refine gt Z (fun w=>H5 (A2 w) Z Z) ?_
  refine gt Z (fun w=>H5 (A2 w) (A2 w) Z) ?_
  refine sa Z Z Z ?_
  refine sv Z<|A1 ?_
  refine cc Z h (fun c2 h=> ?_)<|fun c2 h=> ?_
  ·simp at c2
  ·refine B8 ?_
   refine sq Z ?_
   refine sl Z (gq Z) Z ?_
   refine sv Z<|sv Z ?_
   refine gp Z (I9 Z) (fun _=>Z) ?_
   refine gt Z (vl Z (gq Z) Z) ?_
   refine gt Z (fun w=>H5 (A2 w) Z Z) ?_
   refine sa Z Z Z ?_
   refine sv Z ?_
   refine gp Z (I9 Z) (fun _=>Z) ?_
   refine gt Z (vl Z (gq Z) Z) ?_
   refine gt Z (fun _=>Z) ?_
   refine gt (v:=i64 (([]:List Zone).length:Int)) Z (fun w=>Ev<|A2 w) ?_
   refine gt Z (fun w=>H5 (A2 w) (A2 w) Z) ?_
   refine sa Z Z Z ?_
   refine sv Z<|A1 ?_
   refine cc Z h (fun c3 h=> ?_)<|fun c3 h=> ?_
   ·exact absurd h (by rintro h;refine bs h fun y hy _=>Ht hy rfl)
   ·cases h
    refine B1<|D7<|B8 ?_
    refine sv Z<|sv Z<|sv Z<|A1<|B2 ?_
    exact Aa (v1:= .tup [oS ([]:List Zone) (700000,0), .d (bo false)]) (.inr Z) (Ds (B0 Z)<|B0 Z) (.of Z) [((700000,0),oB 45 2 F0 [])] (O9 trivial) (P0 [(700000,0)] Z trivial ⟨Z,trivial⟩ Z (lY.2 ⟨fun i hi=>O0 Z hi,(fun _ h=>nomatch h)⟩) nd1)
theorem MA:EditC prog 88 45 2 F0 Bj Edit.Kind Edit.At:=⟨LY,LZ⟩
end
end
end Go.Abs.Roadsz
