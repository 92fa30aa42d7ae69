/-
  The functions, part 2.
-/
import Derived.Test.YtimbepcdlehjjaaGreatFns1
set_option maxRecDepth 20000
set_option maxHeartbeats 4000000
set_option linter.unusedVariables false
namespace Go.Abs.Roadsz
noncomputable section
open Go Go.Abs Go.Proofs Tryz
attribute [local irreducible] L6 Fs Gl
def Y1 [Lp](p1:Zone)(p2:Map)(p3:Int)(p4:(List Int)):Option Bool:=
  (Gq p2 p1 p3).bind fun v1=>((cond v1 (J0 p4 p2 p1) (some default))).bind fun v2=>some (v1&& (!v2))
theorem Tc(p1 p2 p3 p4 r)(h:Y1 p1 p2 p3 p4=some r):PCall prog 180 [(.agg [(.list (List.map G8 p1.Parts)),(i64 p1.Signal_)]),(.bp (N8 p2) 0),(.bp [(i64 p3)] 0),(.bp [(.list (List.map A4 p4))] 0)] (bo r):=by
 refine D7 (fk func180 ntmps180 m0 (by with_unfolding_all rfl)) (nl Z) ?_
 unfold Y1 at h
 refine A7 (s0:=⟨T [(0,(.d _)),(1,(.d _)),(2,(.d _)),(3,(.d _))],G []⟩) (E3 Z Z) ?_
 refine lr<|fun u1 _=>sm Z<|sv Z<|A1<|B8<|sv Z<|sd Z (C6 Z G_hit Z Z)<|sv Z<|bs h fun v1 hv1 h=>D1 Z Z A6 (Us _ _ _ _ hv1) (.inl Z) (sv Z<|gt Z (fun _=>Z)<|T3 _ (.fn _ _ _) Z (L5 Z) (fun _=>Z) (bs h fun v2 hv2 h=> ?_))
 refine N0 v1 (bo v2) (L5 Z) (fun w3=>⟨_,[(dl A4 p4),(.fn (.func 183) [] [(.d (.bp (N8 p2) 0)),(.ptr (4,u1) 0)])],_,_,(by simp only [A8 w3];rfl),(rD<|L9 (HV N1<|rD<|L9 (Sh G_hit<|rD<|rD N1) N1) N1),A6,Dz _ _ _ _<|H4 w3 hv2,(.inr Z)⟩) ?_
 refine T3 _ (.d (bo (!v2))) Z (L5 Z) (fun w4=>(by simp only [A8 w4];rfl)) ?_
 refine sa Z Z Z<|sv Z<|A1<|B9 ?_
 cases h
 exact B4 (.inr Z) (C5 (C0 Z) D4) (.refl _)
def I3 [Lp](p1:(List Zone))(p2:Map)(p3:Int)(p4:(List Int))(x1:Int):Option (Stp Int (Sum Unit Int)):=
  cond (decide (x1< (p1.length:Int))) ((F0 p1 x1).bind fun v1=>(Y1 v1 p2 p3 p4).bind fun v2=>cond v2 (some (.out (.inr x1))) (some (.go (K2 (x1+1))))) (some (.out (.inl ())))
def J6 [Lp](p1:(List Zone))(p2:Map)(p3:Int)(p4:(List Int)):Option Int:=
  thenS (loop (I3 p1 p2 p3 p4) 0) (fun _=>some (-1)) (fun r=>some r)
theorem Ez(p1 p2 p3 p4 r)(h:J6 p1 p2 p3 p4=some r):PCall prog 243 [(.list (List.map J2 p1)),(.fn (.func 180) [] [(.bp (N8 p2) 0),(.bp [(i64 p3)] 0),(.bp [(.list (List.map A4 p4))] 0)])] (i64 r):=by
 refine D7 (fk func243 ntmps243 m0 (by with_unfolding_all rfl)) (nl Z) ?_
 unfold J6 at h
 refine A7 (s0:=⟨T [(0,(.d _)),(1,(.d _))],G []⟩) (E3 Z Z) ?_
 refine B8<|sv Z<|A1<|A3<|B8<|sv Z<|sd Z (C8 Z)<|sv Z<|A1<|js h fun z1 hz1 h=>D0 (fun s=> ∃(y1:Unit) (g1:Unit),z1= .inl y1∧Sb ⟨T [],G []⟩ s) ?_ ?_
 refine A5<|D2 (I3 p1 p2 p3 p4) (fun (x1:Int) (g2:Unit)=>⟨T [(0,(dl J2 p1)),(1,(.d (.fn (.func 180) [] [(.bp (N8 p2) 0),(.bp [(i64 p3)] 0),(.bp [(.list (List.map A4 p4))] 0)]))),(7,(di (p1.length:Int))),(8,(di x1))],G []⟩) 0 () _ hz1 (E3 Z Z) ?_
 intro x1 g2 z2 hz2 ez2
 unfold I3 at hz2
 refine B8<|sv Z<|A1<|A3<|cc Z hz2 (fun c1 hz2=> ?_)<|fun c1 hz2=> ?_
 refine B3<|A3<|A5<|B8<|sv Z<|sv Z<|A1<|B8<|sv Z<|sv Z<|sv Z<|bs hz2 fun _ hv1 hz2=>sd Z (D8 Z Z hv1 Z)<|sd Z (D9 Z hv1 Z Z)<|bs hz2 fun _ hv2 hz2=>D1 Z Z A6 (Tc _ _ _ _ _ hv2) (.inl Z) (A1<|cc Z hz2 (fun c2 hz2=> ?_)<|fun c2 hz2=> ?_)
 refine B8<|sv Z<|sv Z<|A1<|B9 ?_
 cases hz2
 obtain rfl:=ez2 _ rfl
 refine ⟨nofun,F8 ?_⟩
 rw [bN]at h
 cases h
 exact B4 (.inr Z) (C5 (C0 Z) D4) (.refl _)
 refine B3<|E0<|B5<|sv Z<|sv Z<|A1<|D6 ?_
 cases hz2
 exact ⟨Z,(),(E3 Z Z)⟩
 refine C3 Z ?_
 cases hz2
 obtain rfl:=ez2 _ rfl
 refine ⟨nofun,C2 Z<|T4 ?_⟩
 exact ⟨_,(),Z,(E3 Z Z)⟩
 rintro _ ⟨y1,g1,rfl,q1⟩
 rw [bM]at h
 refine A7 q1<|B8<|sv Z<|A1<|B9 ?_
 cases h
 exact B4 (.inr Z) (C5 (C0 Z) D4) (.refl _)
def I4 [Lp](p1:(List Zone))(p2:Map)(p3:Int)(p4:(List Int)):Option Bool:=
  (J6 p1 p2 p3 p4).bind fun v1=>some (decide (v1≥0))
theorem Dh(p1 p2 p3 p4 r)(h:I4 p1 p2 p3 p4=some r):PCall prog 179 [(.list (List.map J2 p1)),(.fn (.func 180) [] [(.bp (N8 p2) 0),(.bp [(i64 p3)] 0),(.bp [(.list (List.map A4 p4))] 0)])] (bo r):=by
 refine D7 (fk func179 ntmps179 m0 (by with_unfolding_all rfl)) (nl Z) ?_
 unfold I4 at h
 refine A7 (s0:=⟨T [(0,(.d _)),(1,(.d _))],G []⟩) (E3 Z Z) ?_
 refine B8<|sv Z<|A1<|B8<|sv Z<|sv Z<|bs h fun _ hv1 h=>D1 Z Z A6 (Ez _ _ _ _ _ hv1) (.inl Z) (sv Z<|sv Z<|A1<|B9 ?_)
 cases h
 exact B4 (.inr Z) (C5 (C0 Z) D4) (.refl _)
def Ei [Lp](p1:Map)(x1:((List Clash)×Int)):Option (Stp ((List Clash)×Int) (List Clash)):=
  cond (decide (x1.2< (p1.Lanes.length:Int))) ((Ey p1 x1.2).bind fun v1=>(I4 p1.Zones p1 x1.2 v1).bind fun v2=>cond ((decide ((v1.length:Int)>1))&& (!v2)) ((Q4 x1.1 [(Clash.mk 1 (-1) x1.2 (-1))]).bind fun v3=>some (.go (v3,(K2 (x1.2+1))))) (some (.go (x1.1,(K2 (x1.2+1)))))) (some (.out x1.1))
def Je [Lp](p1:Map):Option (List Clash):=
  (loop (Ei p1) ([],0)).bind fun y1=>some y1
theorem CT(p1 r)(h:Je p1=some r):PCall prog 77 [(.agg (N8 p1))] (.list (List.map M3 r)):=by
 refine D7 (fk func77 ntmps77 (fun r=>if r==7 then [1003]else []) (by with_unfolding_all rfl)) (nl Z) ?_
 unfold Je at h
 refine A7 (s0:=⟨T [(0,(.d _))],G []⟩) (E3 Z Z) ?_
 refine lr<|fun u1 _=>sm Z<|sv Z<|A1<|A3<|B8<|sq Z<|sl Z G_hit Z<|sd Z (C8 Z)<|sv Z<|A1<|bs h fun y1 hy1 h=>D0 (fun s=> ∃g1:Nat,Sb ⟨T [(2,(oS y1 (30,g1)))],G [((30,g1),oB 93 4 M3 y1)]⟩ s) ?_ ?_
 refine A5<|D2 (Ei p1) (fun (x1:((List Clash)×Int)) (g2:Nat)=>⟨T [(1,(.ptr (1,u1) 0)),(2,(oS x1.1 (30,g2))),(8,(di (p1.Lanes.length:Int))),(9,(di x1.2))],G [((1,u1),some<|.box 27 (F2 p1)),((30,g2),oB 93 4 M3 x1.1)]⟩) ([],0) 0 _ hy1 (B7 (K8 Z)<|A2 G_hit (.of Z)<|O6 trivial) ?_
 intro x1 g2 z1 hz1 ez1
 unfold Ei at hz1
 refine B8<|sv Z<|A1<|A3<|cc Z hz1 (fun c1 hz1=> ?_)<|fun c1 hz1=> ?_
 refine B3<|A3<|A5<|lr<|fun u4 _=>sv Z<|sm Z<|V6 Z G_hit [(di x1.2)] Z (A1<|B8<|sd Z (C6 Z (gq Z) Z Z)<|sl Z G_hit Z<|bs hz1 fun v1 hv1 hz1=>D1 Z Z A6 (Nj _ _ _ hv1) (.inl Z) (sm Z<|V6 Z G_hit [(dl A4 v1)] Z (A1<|B8<|sq Z<|sl Z (gq Z) Z (B6 (.fn _ _ _) Z Z (bs hz1 fun v2 hv2 hz1=>D1 Z (rD<|L9 (HV N1<|L9 (Sh (gq Z)<|rD<|rD<|rD<|rD<|rD N1)<|L9 (Sh (gq Z)<|rD N1)<|L9 (Sh G_hit<|rD N1) N1) N1) A6 (Dh _ _ _ _ _ hv2) (.inr Z) (sv Z<|A1<|B8<|sl Z G_hit Z<|sd Z (C8 Z)<|sv Z<|sv Z<|gt Z (fun _=>Z) ?_))))))
 refine T3 _ (.d (bo (!v2))) Z (L5 Z) (fun w2=>(by simp only [A8 w2];rfl)) ?_
 refine sa Z Z Z<|A1<|cc Z hz1 (fun c2 hz1=> ?_)<|fun c2 hz1=> ?_
 refine A7 (s0:=⟨T [(1,(.ptr (1,u1) 0)),(2,(oS x1.1 (30,g2))),(3,(.ptr (3,u4) 0)),(8,(di (p1.Lanes.length:Int))),(9,(di x1.2))],G [((1,u1),some<|.box 27 (F2 p1)),((30,g2),oB 93 4 M3 x1.1),((3,u4),some<|.box 3 [(di x1.2)])]⟩) (B7 (K8 Z)<|sg Z<|B0 (gq Z)<|sg Z trivial) ?_
 refine M6 fun u8 _=>B6 (oS x1.1 (30,g2)) Z Z (sl Z (gq Z) Z (sv Z<|B6 (dl M3 [(Clash.mk 1 (-1) x1.2 (-1))]) Z Z (bs hz1 fun _ hv3 hz1=>G7 M3 (30,g2) x1.1 (Clash.mk 1 (-1) x1.2 (-1)) [] _ (E1<|fun _=>Z) Z (gq Z) hv3 (ss Z<|A1<|E0<|B5<|sv Z<|sv Z<|A1<|D6 ?_))))
 cases hz1
 exact ⟨Z,u8,(B7 ⟨.of Z,(.of (T1<|K5 hv3).symm), .of Z, .of Z,trivial⟩<|sg Z<|K9 G_hit trivial)⟩
 refine B3<|E0<|A7 (s0:=⟨T [(1,(.ptr (1,u1) 0)),(2,(oS x1.1 (30,g2))),(8,(di (p1.Lanes.length:Int))),(9,(di x1.2))],G [((1,u1),some<|.box 27 (F2 p1)),((30,g2),oB 93 4 M3 x1.1)]⟩) (B7 (K8 Z)<|sg Z<|B0 (gq Z) trivial) ?_
 refine B5<|sv Z<|sv Z<|A1<|D6 ?_
 cases hz1
 exact ⟨Z,g2,(B7 (K8 Z)<|A2 G_hit (.of Z)<|B0 (gq Z) trivial)⟩
 refine C3 Z ?_
 cases hz1
 obtain rfl:=ez1 _ rfl
 refine ⟨nofun,C2 Z<|T4 ?_⟩
 exact ⟨g2,(B7 ⟨.of Z,trivial⟩<|B0 (gq Z) trivial)⟩
 rintro _ ⟨g1,q1⟩
 refine A7 q1<|B8<|B6 (oS y1 (30,g1)) Z Z (B6 (oS y1 (30,g1)) Z Z (A1<|B9 ?_))
 cases h
 exact B4 (.inr Z) (C5 (C0 Z)<|U9 G_hit) U8
def Ej [Lp](p1:Map)(x1:((List Clash)×Int))(v1:Zone)(x2:((List Clash)×Int)):Option (Stp ((List Clash)×Int) (List Clash)):=
  cond (decide (x2.2< (v1.Parts.length:Int))) ((F0 v1.Parts x2.2).bind fun v2=>(Gf p1 v1 v2.Lane_).bind fun v3=>((cond (!v3) (Gq p1 v1 v2.Lane_) (some default))).bind fun v4=>cond ((!v3)&& (!v4)) ((Q4 x2.1 [(Clash.mk 2 x1.2 v2.Lane_ (-1))]).bind fun v5=>some (.go (v5,(K2 (x2.2+1))))) (some (.go (x2.1,(K2 (x2.2+1)))))) (some (.out x2.1))
def Ek [Lp](p1:Map)(x1:((List Clash)×Int)):Option (Stp ((List Clash)×Int) (List Clash)):=
  cond (decide (x1.2< (p1.Zones.length:Int))) ((F0 p1.Zones x1.2).bind fun v1=>(loop (Ej p1 x1 v1) (x1.1,0)).bind fun y2=>some (.go (y2,(K2 (x1.2+1))))) (some (.out x1.1))
def Jf [Lp](p1:Map):Option (List Clash):=
  (loop (Ek p1) ([],0)).bind fun y1=>some y1
theorem CU(p1 r)(h:Jf p1=some r):PCall prog 78 [(.agg (N8 p1))] (.list (List.map M3 r)):=by
 refine D7 (fk func78 ntmps78 (fun r=>if r==8 then [1005]else []) (by with_unfolding_all rfl)) (nl Z) ?_
 unfold Jf at h
 refine A7 (s0:=⟨T [(0,(.d _))],G []⟩) (E3 Z Z) ?_
 refine lr<|fun u1 _=>sm Z<|sv Z<|A1<|A3<|B8<|sq Z<|sl Z G_hit Z<|sd Z (C8 Z)<|sv Z<|A1<|bs h fun y1 hy1 h=>D0 (fun s=> ∃g1:Nat,Sb ⟨T [(2,(oS y1 (42,g1)))],G [((42,g1),oB 93 4 M3 y1)]⟩ s) ?_ ?_
 refine A5<|D2 (Ek p1) (fun (x1:((List Clash)×Int)) (g2:Nat)=>⟨T [(1,(.ptr (1,u1) 0)),(2,(oS x1.1 (42,g2))),(8,(dl J2 p1.Zones)),(9,(di (p1.Zones.length:Int))),(10,(di x1.2))],G [((1,u1),some<|.box 27 (F2 p1)),((42,g2),oB 93 4 M3 x1.1)]⟩) ([],0) 0 _ hy1 (B7 (K8 Z)<|A2 G_hit (.of Z)<|O6 trivial) ?_
 intro x1 g2 z1 hz1 ez1
 unfold Ek at hz1
 refine B8<|sv Z<|A1<|A3<|cc Z hz1 (fun c1 hz1=> ?_)<|fun c1 hz1=> ?_
 refine B3<|A3<|A5<|lr<|fun u4 _=>sv Z<|bs hz1 fun v1 hv1 hz1=>sd Z (D8 Z Z hv1 Z)<|sd Z (D9 Z hv1 Z Z)<|sm Z<|sv Z<|V6 Z G_hit [(dl G8 v1.Parts),(di v1.Signal_)] Z (A1<|B8<|sq Z<|sl Z G_hit Z<|sd Z (C8 Z)<|sv Z<|A1<|bs hz1 fun y2 hy2 hz1=>D0 (fun s=> ∃g3:Nat,Sb ⟨T [(1,(.ptr (1,u1) 0)),(2,(oS y2 (42,g3))),(8,(dl J2 p1.Zones)),(9,(di (p1.Zones.length:Int))),(10,(di x1.2))],G [((1,u1),some<|.box 27 (F2 p1)),((42,g3),oB 93 4 M3 y2)]⟩ s) ?_ ?_)
 refine A5<|D2 (Ej p1 x1 v1) (fun (x2:((List Clash)×Int)) (g4:Nat)=>⟨T [(1,(.ptr (1,u1) 0)),(2,(oS x2.1 (42,g4))),(3,(di x1.2)),(4,(.ptr (4,u4) 0)),(8,(dl J2 p1.Zones)),(9,(di (p1.Zones.length:Int))),(10,(di x1.2)),(16,(dl G8 v1.Parts)),(17,(di (v1.Parts.length:Int))),(18,(di x2.2))],G [((1,u1),some<|.box 27 (F2 p1)),((4,u4),some<|.box 45 [(dl G8 v1.Parts),(di v1.Signal_)]),((42,g4),oB 93 4 M3 x2.1)]⟩) (x1.1,0) g2 _ hy2 (B7 (K8 Z)<|sg Z<|A2 G_hit (.of Z)<|B0 (gq Z) trivial) ?_
 intro x2 g4 z2 hz2 ez2
 unfold Ej at hz2
 refine B8<|sv Z<|A1<|A3<|cc Z hz2 (fun c2 hz2=> ?_)<|fun c2 hz2=> ?_
 refine B3<|A3<|A5<|lr<|fun u7 _=>bs hz2 fun v2 hv2 hz2=>sd Z (D8 Z Z hv2 Z)<|sd Z (D9 Z hv2 Z Z)<|sm Z<|V6 Z G_hit (Sz v2) Z (A1<|B8<|sd Z (C6 Z (gq Z) Z Z)<|sd Z (C6 Z (gq Z) Z Z)<|sq Z<|sl Z G_hit Z<|bs hz2 fun v3 hv3 hz2=>D1 Z Z A6 (Ql _ _ _ _ hv3) (.inl Z) (B6 (.d (bo (!v3))) Z Z (sv Z<|gt Z (fun _=>(C6 Z (gq Z) Z Z))<|gt Z (fun _=>(C6 Z (gq Z) Z Z))<|gp Z (L5 Z) (fun _=>Z) (gt Z (vl Z G_hit Z)<|bs hz2 fun v4 hv4 hz2=> ?_))))
 refine N0 _ (bo v4) (L5 Z) (fun w5=>⟨_,[(.d (.agg (N8 p1))),(.d (.agg [(.list (List.map G8 v1.Parts)),(i64 v1.Signal_)])),(di v2.Lane_)],_,_,(by simp only [A8 w5];rfl),Z,A6,Us _ _ _ _<|H4 w5 hv4,(.inl Z)⟩) ?_
 refine T3 _ (.d (bo (!v4))) Z (L5 Z) (fun w6=>(by simp only [A8 w6];rfl)) ?_
 refine sa Z Z Z<|A1<|cc Z hz2 (fun c3 hz2=> ?_)<|fun c3 hz2=> ?_
 refine A7 (s0:=⟨T [(1,(.ptr (1,u1) 0)),(2,(oS x2.1 (42,g4))),(3,(di x1.2)),(4,(.ptr (4,u4) 0)),(6,(.ptr (6,u7) 0)),(8,(dl J2 p1.Zones)),(9,(di (p1.Zones.length:Int))),(10,(di x1.2)),(16,(dl G8 v1.Parts)),(17,(di (v1.Parts.length:Int))),(18,(di x2.2))],G [((1,u1),some<|.box 27 (F2 p1)),((42,g4),oB 93 4 M3 x2.1),((4,u4),some<|.box 45 [(dl G8 v1.Parts),(di v1.Signal_)]),((6,u7),some<|.box 91 (Sz v2))]⟩) (B7 (K8 Z)<|sg Z<|B0 (gq Z)<|sg Z<|A2 G_hit (.of Z) trivial) ?_
 refine M6 fun u9 _=>B6 (oS x2.1 (42,g4)) Z Z (sv Z<|sq Z<|sl Z (gq Z) Z (sv Z<|B6 (dl M3 [(Clash.mk 2 x1.2 v2.Lane_ (-1))]) Z Z (bs hz2 fun _ hv5 hz2=>G7 M3 (42,g4) x2.1 (Clash.mk 2 x1.2 v2.Lane_ (-1)) [] _ (E1<|fun _=>Z) Z (gq Z) hv5 (ss Z<|A1<|E0<|A7 (s0:=⟨T [(1,(.ptr _ _)),(2,(.sl _)),(3,(.d _)),(4,(.ptr _ _)),(8,(.d _)),(9,(.d _)),(10,(.d _)),(16,(.d _)),(17,(.d _)),(18,(.d _))],G [((1,u1),some<|.box 27 _),((42,u9),some _),((4,u4),some<|.box 45 _)]⟩) (E3 Z Z) ?_))))
 refine B5<|sv Z<|sv Z<|A1<|D6 ?_
 cases hz2
 exact ⟨Z,u9,(B7 ⟨.of Z,(.of (T1<|K5 hv5).symm), .of Z, .of Z, .of Z, .of Z, .of Z, .of Z, .of Z, .of Z,trivial⟩<|A2 G_hit (.of Z)<|sg Z<|K9 (gq Z) trivial)⟩
 refine B3<|E0<|A7 (s0:=⟨T [(1,(.ptr (1,u1) 0)),(2,(oS x2.1 (42,g4))),(3,(di x1.2)),(4,(.ptr (4,u4) 0)),(8,(dl J2 p1.Zones)),(9,(di (p1.Zones.length:Int))),(10,(di x1.2)),(16,(dl G8 v1.Parts)),(17,(di (v1.Parts.length:Int))),(18,(di x2.2))],G [((1,u1),some<|.box 27 (F2 p1)),((42,g4),oB 93 4 M3 x2.1),((4,u4),some<|.box 45 [(dl G8 v1.Parts),(di v1.Signal_)])]⟩) (B7 (K8 Z)<|sg Z<|B0 (gq Z)<|sg Z trivial) ?_
 refine B5<|sv Z<|sv Z<|A1<|D6 ?_
 cases hz2
 exact ⟨Z,g4,(B7 (K8 Z)<|A2 G_hit (.of Z)<|sg Z<|B0 (gq Z) trivial)⟩
 refine C3 Z ?_
 cases hz2
 obtain rfl:=ez2 _ rfl
 refine ⟨nofun,C2 Z<|T4 ?_⟩
 exact ⟨g4,(B7 (K8 Z)<|A2 G_hit (.of Z)<|B0 (gq Z) trivial)⟩
 rintro _ ⟨g3,q1⟩
 refine E0<|A7 q1<|B5<|sv Z<|sv Z<|A1<|D6 ?_
 cases hz1
 exact ⟨Z,g3,(B7 (K8 Z)<|A2 G_hit (.of Z)<|B0 (gq Z) trivial)⟩
 refine C3 Z ?_
 cases hz1
 obtain rfl:=ez1 _ rfl
 refine ⟨nofun,C2 Z<|T4 ?_⟩
 exact ⟨g2,(B7 ⟨.of Z,trivial⟩<|B0 (gq Z) trivial)⟩
 rintro _ ⟨g1,q2⟩
 refine A7 q2<|B8<|B6 (oS y1 (42,g1)) Z Z (B6 (oS y1 (42,g1)) Z Z (A1<|B9 ?_))
 cases h
 exact B4 (.inr Z) (C5 (C0 Z)<|U9 G_hit) U8
def Dd [Lp](p1:Map)(p2:Zone)(x1:((List Int)×Int)):Option (Stp ((List Int)×Int) (List Int)):=
  cond (decide (x1.2< (p2.Parts.length:Int))) ((F0 p2.Parts x1.2).bind fun v1=>(Gf p1 p2 v1.Lane_).bind fun v2=>cond v2 ((Q4 x1.1 [v1.Lane_]).bind fun v3=>some (.go (v3,(K2 (x1.2+1))))) (some (.go (x1.1,(K2 (x1.2+1)))))) (some (.out x1.1))
def Cz [Lp](p1:Map)(p2:Zone):Option (List Int):=
  (loop (Dd p1 p2) ([],0)).bind fun y1=>some y1
theorem Mj(p1 p2 r)(h:Cz p1 p2=some r):PCall prog 248 [(.agg (N8 p1)),(.agg [(.list (List.map G8 p2.Parts)),(i64 p2.Signal_)])] (.list (List.map A4 r)):=by
 refine D7 (fk func248 ntmps248 (fun r=>if r==6 then [1003]else []) (by with_unfolding_all rfl)) (nl Z) ?_
 unfold Cz at h
 refine A7 (s0:=⟨T [(0,(.d _)),(1,(.d _))],G []⟩) (E3 Z Z) ?_
 refine lr<|fun u1 _=>sm Z<|sm Z<|sv Z<|A1<|B8<|sv Z<|A1<|A3<|B8<|sq Z<|sl Z G_hit Z<|sd Z (C8 Z)<|sv Z<|A1<|bs h fun y1 hy1 h=>D0 (fun s=> ∃g1:Nat,Sb ⟨T [(5,(oS y1 (24,g1)))],G [((24,g1),oB 3 1 A4 y1)]⟩ s) ?_ ?_
 refine A5<|D2 (Dd p1 p2) (fun (x1:((List Int)×Int)) (g2:Nat)=>⟨T [(2,(.ptr (2,u1) 0)),(3,(.ptr (3,u1) 0)),(5,(oS x1.1 (24,g2))),(9,(dl G8 p2.Parts)),(10,(di (p2.Parts.length:Int))),(11,(di x1.2))],G [((2,u1),some<|.box 27 (F2 p1)),((3,u1),some<|.box 45 [(dl G8 p2.Parts),(di p2.Signal_)]),((24,g2),oB 3 1 A4 x1.1)]⟩) ([],0) 0 _ hy1 (B7 (K8 Z)<|sg Z<|A2 G_hit (.of Z)<|O6 trivial) ?_
 intro x1 g2 z1 hz1 ez1
 unfold Dd at hz1
 refine B8<|sv Z<|A1<|A3<|cc Z hz1 (fun c1 hz1=> ?_)<|fun c1 hz1=> ?_
 refine B3<|A3<|A5<|B8<|bs hz1 fun v1 hv1 hz1=>sd Z (D8 Z Z hv1 Z)<|sd Z (D9 Z hv1 Z Z)<|sm Z<|V6 Z G_hit (Sz v1) Z (A1<|B8<|sd Z (C6 Z (gq Z) Z Z)<|sd Z (C6 Z (gq Z) Z Z)<|sq Z<|sl Z G_hit Z<|bs hz1 fun _ hv2 hz1=>D1 Z Z A6 (Ql _ _ _ _ hv2) (.inl Z) (A1<|cc Z hz1 (fun c2 hz1=> ?_)<|fun c2 hz1=> ?_))
 refine M6 fun u7 _=>B6 (oS x1.1 (24,g2)) Z Z (sq Z<|sl Z G_hit Z<|B6 (dl A4 [v1.Lane_]) Z Z (bs hz1 fun _ hv3 hz1=>G7 A4 (24,g2) x1.1 v1.Lane_ [] _ (E1<|fun _=>Z) Z (gq Z) hv3 (ss Z<|A1<|E0<|A7 (s0:=⟨T [(2,(.ptr _ _)),(3,(.ptr _ _)),(5,(.sl _)),(9,(.d _)),(10,(.d _)),(11,(.d _))],G [((2,u1),some<|.box 27 _),((3,u1),some<|.box 45 _),((24,u7),some _)]⟩) (E3 Z Z) ?_)))
 refine B5<|sv Z<|sv Z<|A1<|D6 ?_
 cases hz1
 exact ⟨Z,u7,(B7 ⟨.of Z, .of Z,(.of (T1<|K5 hv3).symm), .of Z, .of Z, .of Z,trivial⟩<|A2 G_hit (.of Z)<|sg Z<|K9 (gq Z) trivial)⟩
 refine B3<|E0<|B5<|sv Z<|sv Z<|A1<|D6 ?_
 cases hz1
 exact ⟨Z,g2,(B7 (K8 Z)<|sg Z<|sg Z<|B0 (gq Z) trivial)⟩
 refine C3 Z ?_
 cases hz1
 obtain rfl:=ez1 _ rfl
 refine ⟨nofun,C2 Z<|T4 ?_⟩
 exact ⟨g2,(B7 ⟨.of Z,trivial⟩<|B0 (gq Z) trivial)⟩
 rintro _ ⟨g1,q1⟩
 refine A7 q1<|B8<|B6 (oS y1 (24,g1)) Z Z (B6 (oS y1 (24,g1)) Z Z (A1<|B9 ?_))
 cases h
 exact B4 (.inr Z) (C5 (C0 Z)<|U9 G_hit) U8
def Ho [Lp](p1:Zone)(p2:Int)(p3:Int):Option Bool:=
  (Gp p1 p2).bind fun v1=>(Gp p1 p3).bind fun v2=>some ((p1.Signal_==0)&& (v1.1.Rank==v2.1.Rank))
theorem BE(p1 p2 p3 r)(h:Ho p1 p2 p3=some r):PCall prog 186 [(.agg [(.list (List.map G8 p1.Parts)),(i64 p1.Signal_)]),(i64 p2),(i64 p3)] (bo r):=by
 refine D7 (fk func186 ntmps186 m0 (by with_unfolding_all rfl)) (nl Z) ?_
 unfold Ho at h
 refine A7 (s0:=⟨T [(0,(.d _)),(1,(.d _)),(2,(.d _))],G []⟩) (E3 Z Z) ?_
 refine lr<|fun u1 _=>sm Z<|sv Z<|A1<|lr<|fun u2 _=>sd Z (C6 Z G_hit Z Z)<|sv Z<|bs h fun v1 hv1 h=>D1 Z Z A6 (Ms _ _ _ hv1) (.inl Z) (sv Z<|sv Z<|sv Z<|sm Z<|V6 Z G_hit (Sz v1.1) Z (sv Z<|A1<|lr<|fun u3 _=>sd Z (C6 Z (gq Z) Z Z)<|sv Z<|bs h fun v2 hv2 h=>D1 Z Z A6 (Ms _ _ _ hv2) (.inl Z) (sv Z<|sv Z<|sv Z<|sm Z<|V6 Z G_hit (Sz v2.1) Z (sv Z<|A1<|A3<|A7 (s0:=⟨T [(3,(.ptr _ _)),(7,(.ptr _ _)),(9,(.ptr _ _))],G [((3,u1),some<|.box 45 _),((7,u2),some<|.box 91 _),((9,u3),some<|.box 91 _)]⟩) (E3 Z Z) ?_))))
 refine B5<|sq Z<|sl Z G_hit Z<|sv Z<|sv Z<|gp Z (L5 Z) (fun _=>Z) (gt Z (vl Z (gq Z) Z)<|gp Z (L5 Z) (fun _=>Z) (gt Z (vl Z (gq Z) Z)<|gt Z (fun w5=>(An (A8 w5) (A8 w5) Z))<|sa Z Z Z<|sv Z<|A1<|B9 ?_))
 cases h
 exact B4 (.inr Z) (C5 (C0 Z) D4) (.refl _)
def P1 [Lp](p2:Int)(x1:((List Clash)×Int))(v1:Zone)(v3:Int)(v4:List Int)(x3:((List Clash)×Int)):Option (Stp ((List Clash)×Int) (List Clash)):=
  cond (decide (x3.2< (v4.length:Int))) ((F0 v4 x3.2).bind fun v5=>(Ho v1 v3 v5).bind fun v6=>cond v6 ((Q4 x3.1 [(Clash.mk p2 x1.2 v3 v5)]).bind fun v7=>some (.go (v7,(K2 (x3.2+1))))) (some (.go (x3.1,(K2 (x3.2+1)))))) (some (.out x3.1))
def P2 [Lp](p2:Int)(x1:((List Clash)×Int))(v1:Zone)(v2:(List Int))(x2:((List Clash)×Int)):Option (Stp ((List Clash)×Int) (List Clash)):=
  cond (decide (x2.2< (v2.length:Int))) ((F0 v2 x2.2).bind fun v3=>(LX v2 (K2 (x2.2+1)) (v2.length:Int)).bind fun v4=>(loop (P1 p2 x1 v1 v3 v4) (x2.1,0)).bind fun y3=>some (.go (y3,(K2 (x2.2+1))))) (some (.out x2.1))
def P3 [Lp](p1:Map)(p2:Int)(x1:((List Clash)×Int)):Option (Stp ((List Clash)×Int) (List Clash)):=
  cond (decide (x1.2< (p1.Zones.length:Int))) ((F0 p1.Zones x1.2).bind fun v1=>(Cz p1 v1).bind fun v2=>(loop (P2 p2 x1 v1 v2) (x1.1,0)).bind fun y2=>some (.go (y2,(K2 (x1.2+1))))) (some (.out x1.1))
def S5 [Lp](p1:Map)(p2:Int):Option (List Clash):=
  (loop (P3 p1 p2) ([],0)).bind fun y1=>some y1
theorem Nk(p1 p2 r)(h:S5 p1 p2=some r):PCall prog 185 [(.agg (N8 p1)),(i64 p2),(.fn (.func 186) [] [])] (.list (List.map M3 r)):=by
 refine D7 (fk func185 ntmps185 (fun r=>if r==12 then [1006]else []) (by with_unfolding_all rfl)) (nl Z) ?_
 unfold S5 at h
 refine A7 (s0:=⟨T [(0,(.d _)),(1,(.d _)),(2,(.d _))],G []⟩) (E3 Z Z) ?_
 refine lr<|fun u1 _=>sm Z<|sv Z<|A1<|A3<|B8<|sq Z<|sl Z G_hit Z<|sd Z (C8 Z)<|sv Z<|A1<|bs h fun y1 hy1 h=>D0 (fun s=> ∃g1:Nat,Sb ⟨T [(6,(oS y1 (53,g1)))],G [((53,g1),oB 93 4 M3 y1)]⟩ s) ?_ ?_
 refine A5<|D2 (P3 p1 p2) (fun (x1:((List Clash)×Int)) (g2:Nat)=>⟨T [(1,(di p2)),(2,(.d (.fn (.func 186) [] []))),(3,(.ptr (3,u1) 0)),(6,(oS x1.1 (53,g2))),(15,(dl J2 p1.Zones)),(16,(di (p1.Zones.length:Int))),(17,(di x1.2))],G [((3,u1),some<|.box 27 (F2 p1)),((53,g2),oB 93 4 M3 x1.1)]⟩) ([],0) 0 _ hy1 (B7 (K8 Z)<|A2 G_hit (.of Z)<|O6 trivial) ?_
 intro x1 g2 z1 hz1 ez1
 unfold P3 at hz1
 refine B8<|sv Z<|A1<|A3<|cc Z hz1 (fun c1 hz1=> ?_)<|fun c1 hz1=> ?_
 refine B3<|A3<|A5<|lr<|fun u4 _=>sv Z<|bs hz1 fun v1 hv1 hz1=>sd Z (D8 Z Z hv1 Z)<|sd Z (D9 Z hv1 Z Z)<|sm Z<|sv Z<|V6 Z G_hit [(dl G8 v1.Parts),(di v1.Signal_)] Z (A1<|B8<|sd Z (C6 Z (gq Z) Z Z)<|sd Z (C6 Z G_hit Z Z)<|bs hz1 fun v2 hv2 hz1=>D1 Z Z A6 (Mj _ _ _ hv2) (.inl Z) (sv Z<|A1<|B8<|sv Z<|sd Z (C8 Z)<|sv Z<|A1<|bs hz1 fun y2 hy2 hz1=>D0 (fun s=> ∃g3:Nat,Sb ⟨T [(1,(di p2)),(2,(.d (.fn (.func 186) [] []))),(3,(.ptr (3,u1) 0)),(6,(oS y2 (53,g3))),(15,(dl J2 p1.Zones)),(16,(di (p1.Zones.length:Int))),(17,(di x1.2))],G [((3,u1),some<|.box 27 (F2 p1)),((53,g3),oB 93 4 M3 y2)]⟩ s) ?_ ?_))
 refine A5<|D2 (P2 p2 x1 v1 v2) (fun (x2:((List Clash)×Int)) (g4:Nat)=>⟨T [(1,(di p2)),(2,(.d (.fn (.func 186) [] []))),(3,(.ptr (3,u1) 0)),(6,(oS x2.1 (53,g4))),(7,(di x1.2)),(8,(.ptr (8,u4) 0)),(9,(dl A4 v2)),(15,(dl J2 p1.Zones)),(16,(di (p1.Zones.length:Int))),(17,(di x1.2)),(25,(dl A4 v2)),(26,(di (v2.length:Int))),(27,(di x2.2))],G [((3,u1),some<|.box 27 (F2 p1)),((8,u4),some<|.box 45 [(dl G8 v1.Parts),(di v1.Signal_)]),((53,g4),oB 93 4 M3 x2.1)]⟩) (x1.1,0) g2 _ hy2 (B7 (K8 Z)<|sg Z<|A2 G_hit (.of Z)<|B0 (gq Z) trivial) ?_
 intro x2 g4 z2 hz2 ez2
 unfold P2 at hz2
 refine B8<|sv Z<|A1<|A3<|cc Z hz2 (fun c2 hz2=> ?_)<|fun c2 hz2=> ?_
 refine B3<|A3<|A5<|B8<|sv Z<|bs hz2 fun v3 hv3 hz2=>sd Z (D8 Z Z hv3 Z)<|sd Z (E9 Z hv3 Z)<|sv Z<|sv Z<|A1<|B8<|sv Z<|sv Z<|sv Z<|bs hz2 fun v4 hv4 hz2=>sd Z (RE Z (fun _=>Z) (cD Z) JQ hv4)<|sd Z (C8 Z)<|sv Z<|A1<|bs hz2 fun y3 hy3 hz2=>D0 (fun s=> ∃g5:Nat,Sb ⟨T [(1,(di p2)),(2,(.d (.fn (.func 186) [] []))),(3,(.ptr (3,u1) 0)),(6,(oS y3 (53,g5))),(7,(di x1.2)),(8,(.ptr (8,u4) 0)),(9,(dl A4 v2)),(15,(dl J2 p1.Zones)),(16,(di (p1.Zones.length:Int))),(17,(di x1.2)),(25,(dl A4 v2)),(26,(di (v2.length:Int))),(27,(di x2.2))],G [((3,u1),some<|.box 27 (F2 p1)),((8,u4),some<|.box 45 [(dl G8 v1.Parts),(di v1.Signal_)]),((53,g5),oB 93 4 M3 y3)]⟩ s) ?_ ?_
 refine A5<|D2 (P1 p2 x1 v1 v3 v4) (fun (x3:((List Clash)×Int)) (g6:Nat)=>⟨T [(1,(di p2)),(2,(.d (.fn (.func 186) [] []))),(3,(.ptr (3,u1) 0)),(6,(oS x3.1 (53,g6))),(7,(di x1.2)),(8,(.ptr (8,u4) 0)),(9,(dl A4 v2)),(11,(di v3)),(15,(dl J2 p1.Zones)),(16,(di (p1.Zones.length:Int))),(17,(di x1.2)),(25,(dl A4 v2)),(26,(di (v2.length:Int))),(27,(di x2.2)),(35,(dl A4 v4)),(36,(di (v4.length:Int))),(37,(di x3.2))],G [((3,u1),some<|.box 27 (F2 p1)),((8,u4),some<|.box 45 [(dl G8 v1.Parts),(di v1.Signal_)]),((53,g6),oB 93 4 M3 x3.1)]⟩) (x2.1,0) g4 _ hy3 (B7 (K8 Z)<|A2 G_hit (.of Z)<|sg Z<|B0 (gq Z) trivial) ?_
 intro x3 g6 z3 hz3 ez3
 unfold P1 at hz3
 refine B8<|sv Z<|A1<|A3<|cc Z hz3 (fun c3 hz3=> ?_)<|fun c3 hz3=> ?_
 refine B3<|A3<|A5<|B8<|bs hz3 fun v5 hv5 hz3=>sd Z (D8 Z Z hv5 Z)<|sd Z (E9 Z hv5 Z)<|sv Z<|A1<|B8<|sv Z<|sd Z (C6 Z (gq Z) Z Z)<|sv Z<|sv Z<|bs hz3 fun _ hv6 hz3=>D1 Z Z A6 (BE _ _ _ _ hv6) (.inl Z) (A1<|cc Z hz3 (fun c4 hz3=> ?_)<|fun c4 hz3=> ?_)
 refine A7 (s0:=⟨T [(1,(di p2)),(2,(.d (.fn (.func 186) [] []))),(3,(.ptr (3,u1) 0)),(6,(oS x3.1 (53,g6))),(7,(di x1.2)),(8,(.ptr (8,u4) 0)),(9,(dl A4 v2)),(11,(di v3)),(13,(di v5)),(15,(dl J2 p1.Zones)),(16,(di (p1.Zones.length:Int))),(17,(di x1.2)),(25,(dl A4 v2)),(26,(di (v2.length:Int))),(27,(di x2.2)),(35,(dl A4 v4)),(36,(di (v4.length:Int))),(37,(di x3.2))],G [((3,u1),some<|.box 27 (F2 p1)),((53,g6),oB 93 4 M3 x3.1),((8,u4),some<|.box 45 [(dl G8 v1.Parts),(di v1.Signal_)])]⟩) (B7 (K8 Z)<|A2 G_hit (.of Z)<|B0 (gq Z)<|sg Z trivial) ?_
 refine M6 fun u13 _=>B6 (oS x3.1 (53,g6)) Z Z (sv Z<|sv Z<|sv Z<|sv Z<|sv Z<|B6 (dl M3 [(Clash.mk p2 x1.2 v3 v5)]) Z Z (bs hz3 fun _ hv7 hz3=>G7 M3 (53,g6) x3.1 (Clash.mk p2 x1.2 v3 v5) [] _ (E1<|fun _=>Z) Z (gq Z) hv7 (ss Z<|A1<|E0<|A7 (s0:=⟨T [(1,(.d _)),(2,(.d _)),(3,(.ptr _ _)),(6,(.sl _)),(7,(.d _)),(8,(.ptr _ _)),(9,(.d _)),(11,(.d _)),(15,(.d _)),(16,(.d _)),(17,(.d _)),(25,(.d _)),(26,(.d _)),(27,(.d _)),(35,(.d _)),(36,(.d _)),(37,(.d _))],G [((3,u1),some<|.box 27 _),((53,u13),some _),((8,u4),some<|.box 45 _)]⟩) (E3 Z Z) ?_)))
 refine B5<|sv Z<|sv Z<|A1<|D6 ?_
 cases hz3
 exact ⟨Z,u13,(B7 ⟨.of Z, .of Z, .of Z,(.of (T1<|K5 hv7).symm), .of Z, .of Z, .of Z, .of Z, .of Z, .of Z, .of Z, .of Z, .of Z, .of Z, .of Z, .of Z, .of Z,trivial⟩<|A2 G_hit (.of Z)<|sg Z<|K9 (gq Z) trivial)⟩
 refine B3<|E0<|A7 (s0:=⟨T [(1,(di p2)),(2,(.d (.fn (.func 186) [] []))),(3,(.ptr (3,u1) 0)),(6,(oS x3.1 (53,g6))),(7,(di x1.2)),(8,(.ptr (8,u4) 0)),(9,(dl A4 v2)),(11,(di v3)),(15,(dl J2 p1.Zones)),(16,(di (p1.Zones.length:Int))),(17,(di x1.2)),(25,(dl A4 v2)),(26,(di (v2.length:Int))),(27,(di x2.2)),(35,(dl A4 v4)),(36,(di (v4.length:Int))),(37,(di x3.2))],G [((3,u1),some<|.box 27 (F2 p1)),((53,g6),oB 93 4 M3 x3.1),((8,u4),some<|.box 45 [(dl G8 v1.Parts),(di v1.Signal_)])]⟩) (B7 (K8 Z)<|A2 G_hit (.of Z)<|B0 (gq Z)<|sg Z trivial) ?_
 refine B5<|sv Z<|sv Z<|A1<|D6 ?_
 cases hz3
 exact ⟨Z,g6,(B7 (K8 Z)<|A2 G_hit (.of Z)<|sg Z<|B0 (gq Z) trivial)⟩
 refine C3 Z ?_
 cases hz3
 obtain rfl:=ez3 _ rfl
 refine ⟨nofun,C2 Z<|T4 ?_⟩
 exact ⟨g6,(B7 (K8 Z)<|A2 G_hit (.of Z)<|sg Z<|B0 (gq Z) trivial)⟩
 rintro _ ⟨g5,q1⟩
 refine E0<|A7 q1<|B5<|sv Z<|sv Z<|A1<|D6 ?_
 cases hz2
 exact ⟨Z,g5,(B7 (K8 Z)<|A2 G_hit (.of Z)<|sg Z<|B0 (gq Z) trivial)⟩
 refine C3 Z ?_
 cases hz2
 obtain rfl:=ez2 _ rfl
 refine ⟨nofun,C2 Z<|T4 ?_⟩
 exact ⟨g4,(B7 (K8 Z)<|A2 G_hit (.of Z)<|B0 (gq Z) trivial)⟩
 rintro _ ⟨g3,q2⟩
 refine E0<|A7 q2<|B5<|sv Z<|sv Z<|A1<|D6 ?_
 cases hz1
 exact ⟨Z,g3,(B7 (K8 Z)<|A2 G_hit (.of Z)<|B0 (gq Z) trivial)⟩
 refine C3 Z ?_
 cases hz1
 obtain rfl:=ez1 _ rfl
 refine ⟨nofun,C2 Z<|T4 ?_⟩
 exact ⟨g2,(B7 ⟨.of Z,trivial⟩<|B0 (gq Z) trivial)⟩
 rintro _ ⟨g1,q3⟩
 refine A7 q3<|B8<|B6 (oS y1 (53,g1)) Z Z (B6 (oS y1 (53,g1)) Z Z (A1<|B9 ?_))
 cases h
 exact B4 (.inr Z) (C5 (C0 Z)<|U9 G_hit) U8
def Kr [Lp](p1:Map):Option (List Clash):=
  (S5 p1 3).bind fun v1=>some v1
theorem FG(p1 r)(h:Kr p1=some r):PCall prog 79 [(.agg (N8 p1))] (.list (List.map M3 r)):=by
 refine D7 (fk func79 ntmps79 m0 (by with_unfolding_all rfl)) (nl Z) ?_
 unfold Kr at h
 refine A7 (s0:=⟨T [(0,(.d _))],G []⟩) (E3 Z Z) ?_
 refine B8<|sm Z<|sv Z<|A1<|B8<|sd Z (C6 Z G_hit Z Z)<|bs h fun _ hv1 h=>D1 Z Z A6 (Nk _ _ _ hv1) (.inl Z) (sv Z<|A1<|B9 ?_)
 cases h
 exact B4 (.inr Z) (C5 (C0 Z) D4) (.refl _)
def Y2 [Lp](p1:Phase)(p2:Int)(p3:Int):Option Bool:=
  (N2 p1.Green p2).bind fun v1=>((cond v1 (N2 p1.Green p3) (some default))).bind fun v2=>some (v1&&v2)
theorem Td(p1 p2 p3 r)(h:Y2 p1 p2 p3=some r):PCall prog 188 [(.agg [(i64 p1.Ticks),(.list (List.map A4 p1.Green))]),(.bp [(i64 p2)] 0),(.bp [(i64 p3)] 0)] (bo r):=by
 refine D7 (fk func188 ntmps188 m0 (by with_unfolding_all rfl)) (nl Z) ?_
 unfold Y2 at h
 refine A7 (s0:=⟨T [(0,(.d _)),(1,(.d _)),(2,(.d _))],G []⟩) (E3 Z Z) ?_
 refine B8<|sm Z<|sv Z<|A1<|B8<|sq Z<|sl Z G_hit Z<|sv Z<|bs h fun v1 hv1 h=>D1 Z Z A6 (Z7 _ _ _ hv1) (.inl Z) (sv Z<|gp Z (L5 Z) (fun _=>Z) (gt Z (vl Z G_hit Z)<|gt Z (fun _=>Z)<|bs h fun v2 hv2 h=> ?_))
 refine N0 v1 (bo v2) (L5 Z) (fun w4=>⟨_,[(dl A4 p1.Green),(di p3)],_,_,(by simp only [A8 w4];rfl),Z,A6,Z7 _ _ _<|H4 w4 hv2,(.inl Z)⟩) ?_
 refine sa Z Z Z<|sv Z<|A1<|B9 ?_
 cases h
 exact B4 (.inr Z) (C5 (C0 Z) D4) (.refl _)
def H5 [Lp](p1:(List Phase))(p2:Int)(p3:Int)(x1:Int):Option (Stp Int (Sum Unit Int)):=
  cond (decide (x1< (p1.length:Int))) ((F0 p1 x1).bind fun v1=>(Y2 v1 p2 p3).bind fun v2=>cond v2 (some (.out (.inr x1))) (some (.go (K2 (x1+1))))) (some (.out (.inl ())))
def I5 [Lp](p1:(List Phase))(p2:Int)(p3:Int):Option Int:=
  thenS (loop (H5 p1 p2 p3) 0) (fun _=>some (-1)) (fun r=>some r)
theorem Di(p1 p2 p3 r)(h:I5 p1 p2 p3=some r):PCall prog 237 [(.list (List.map G2 p1)),(.fn (.func 188) [] [(.bp [(i64 p2)] 0),(.bp [(i64 p3)] 0)])] (i64 r):=by
 refine D7 (fk func237 ntmps237 m0 (by with_unfolding_all rfl)) (nl Z) ?_
 unfold I5 at h
 refine A7 (s0:=⟨T [(0,(.d _)),(1,(.d _))],G []⟩) (E3 Z Z) ?_
 refine B8<|sv Z<|A1<|A3<|B8<|sv Z<|sd Z (C8 Z)<|sv Z<|A1<|js h fun z1 hz1 h=>D0 (fun s=> ∃(y1:Unit) (g1:Unit),z1= .inl y1∧Sb ⟨T [],G []⟩ s) ?_ ?_
 refine A5<|D2 (H5 p1 p2 p3) (fun (x1:Int) (g2:Unit)=>⟨T [(0,(dl G2 p1)),(1,(.d (.fn (.func 188) [] [(.bp [(i64 p2)] 0),(.bp [(i64 p3)] 0)]))),(7,(di (p1.length:Int))),(8,(di x1))],G []⟩) 0 () _ hz1 (E3 Z Z) ?_
 intro x1 g2 z2 hz2 ez2
 unfold H5 at hz2
 refine B8<|sv Z<|A1<|A3<|cc Z hz2 (fun c1 hz2=> ?_)<|fun c1 hz2=> ?_
 refine B3<|A3<|A5<|B8<|sv Z<|sv Z<|A1<|B8<|sv Z<|sv Z<|sv Z<|bs hz2 fun _ hv1 hz2=>sd Z (D8 Z Z hv1 Z)<|sd Z (D9 Z hv1 Z Z)<|bs hz2 fun _ hv2 hz2=>D1 Z Z A6 (Td _ _ _ _ hv2) (.inl Z) (A1<|cc Z hz2 (fun c2 hz2=> ?_)<|fun c2 hz2=> ?_)
 refine B8<|sv Z<|sv Z<|A1<|B9 ?_
 cases hz2
 obtain rfl:=ez2 _ rfl
 refine ⟨nofun,F8 ?_⟩
 rw [bN]at h
 cases h
 exact B4 (.inr Z) (C5 (C0 Z) D4) (.refl _)
 refine B3<|E0<|B5<|sv Z<|sv Z<|A1<|D6 ?_
 cases hz2
 exact ⟨Z,(),(E3 Z Z)⟩
 refine C3 Z ?_
 cases hz2
 obtain rfl:=ez2 _ rfl
 refine ⟨nofun,C2 Z<|T4 ?_⟩
 exact ⟨_,(),Z,(E3 Z Z)⟩
 rintro _ ⟨y1,g1,rfl,q1⟩
 rw [bM]at h
 refine A7 q1<|B8<|sv Z<|A1<|B9 ?_
 cases h
 exact B4 (.inr Z) (C5 (C0 Z) D4) (.refl _)
def H6 [Lp](p1:(List Phase))(p2:Int)(p3:Int):Option Bool:=
  (I5 p1 p2 p3).bind fun v1=>some (decide (v1≥0))
theorem Cq(p1 p2 p3 r)(h:H6 p1 p2 p3=some r):PCall prog 172 [(.list (List.map G2 p1)),(.fn (.func 188) [] [(.bp [(i64 p2)] 0),(.bp [(i64 p3)] 0)])] (bo r):=by
 refine D7 (fk func172 ntmps172 m0 (by with_unfolding_all rfl)) (nl Z) ?_
 unfold H6 at h
 refine A7 (s0:=⟨T [(0,(.d _)),(1,(.d _))],G []⟩) (E3 Z Z) ?_
 refine B8<|sv Z<|A1<|B8<|sv Z<|sv Z<|bs h fun _ hv1 h=>D1 Z Z A6 (Di _ _ _ _ hv1) (.inl Z) (sv Z<|sv Z<|A1<|B9 ?_)
 cases h
 exact B4 (.inr Z) (C5 (C0 Z) D4) (.refl _)
def Ax [Lp](p1:Zone)(p2:Int)(p3:Int)(p4:Map):Option Bool:=
  ((cond (decide (p1.Signal_>0)) (F0 p4.Signals (K2 (p1.Signal_ - 1))) (some default))).bind fun v1=>((cond (decide (p1.Signal_>0)) (H6 v1.Phases p2 p3) (some default))).bind fun v2=>some ((decide (p1.Signal_>0))&&v2)
theorem Pf(p1 p2 p3 p4 r)(h:Ax p1 p2 p3 p4=some r):PCall prog 187 [(.agg [(.list (List.map G8 p1.Parts)),(i64 p1.Signal_)]),(i64 p2),(i64 p3),(.bp (N8 p4) 0)] (bo r):=by
 refine D7 (fk func187 ntmps187 m0 (by with_unfolding_all rfl)) (nl Z) ?_
 unfold Ax at h
 refine A7 (s0:=⟨T [(0,(.d _)),(1,(.d _)),(2,(.d _)),(3,(.d _))],G []⟩) (E3 Z Z) ?_
 refine lr<|fun u1 _=>sm Z<|sm Z<|sn Z Z<|sv Z<|A1<|B8<|sq Z<|sl Z (gq Z) Z (sv Z<|sv Z<|gt Z (fun _=>Z) ?_)
 refine gt Z (fun w2=>(by simp only [A8 w2];rfl)) ?_
 refine gp Z (L5 Z) (fun _=>Z) (gt Z (vl Z (gq Z) Z)<|gt Z (vb Z Z Z)<|bs h fun v1 hv1 h=>gt Z (fun w6=>(D8 (A8 w6) (A8 w6) (H4 w6 hv1) Z)) ?_)
 refine gt Z (fun w7=>(by simp only [A8 w7];rfl)) ?_
 refine gt Z (fun w8=>(E9 (A8 w8) (H4 w8 hv1) Z))<|T3 _ (.fn _ _ _) Z (L5 Z) (fun _=>Z) (bs h fun v2 hv2 h=> ?_)
 refine N0 _ (bo v2) (L5 Z) (fun w10=>⟨_,[(dl G2 v1.Phases),(.fn (.func 188) [] [(.ptr (5,u1) 0),(.ptr (6,u1) 0)])],_,_,(by simp only [A8 w10];rfl),(rD<|L9 (HV N1<|L9 (Sh (gq Z)<|rD N1)<|L9 (Sh G_hit<|rD N1) N1) N1),A6,Cq _ _ _ _<|H4 w10 hv2,(.inr Z)⟩) ?_
 refine sa Z Z Z<|sv Z<|A1<|B9 ?_
 cases h
 exact B4 (.inr Z) (C5 (C0 Z) D4) (.refl _)
def Ay [Lp](p2:Int)(p3:Map)(x1:((List Clash)×Int))(v1:Zone)(v3:Int)(v4:List Int)(x3:((List Clash)×Int)):Option (Stp ((List Clash)×Int) (List Clash)):=
  cond (decide (x3.2< (v4.length:Int))) ((F0 v4 x3.2).bind fun v5=>(Ax v1 v3 v5 p3).bind fun v6=>cond v6 ((Q4 x3.1 [(Clash.mk p2 x1.2 v3 v5)]).bind fun v7=>some (.go (v7,(K2 (x3.2+1))))) (some (.go (x3.1,(K2 (x3.2+1)))))) (some (.out x3.1))
def Az [Lp](p2:Int)(p3:Map)(x1:((List Clash)×Int))(v1:Zone)(v2:(List Int))(x2:((List Clash)×Int)):Option (Stp ((List Clash)×Int) (List Clash)):=
  cond (decide (x2.2< (v2.length:Int))) ((F0 v2 x2.2).bind fun v3=>(LX v2 (K2 (x2.2+1)) (v2.length:Int)).bind fun v4=>(loop (Ay p2 p3 x1 v1 v3 v4) (x2.1,0)).bind fun y3=>some (.go (y3,(K2 (x2.2+1))))) (some (.out x2.1))
def Ba [Lp](p1:Map)(p2:Int)(p3:Map)(x1:((List Clash)×Int)):Option (Stp ((List Clash)×Int) (List Clash)):=
  cond (decide (x1.2< (p1.Zones.length:Int))) ((F0 p1.Zones x1.2).bind fun v1=>(Cz p1 v1).bind fun v2=>(loop (Az p2 p3 x1 v1 v2) (x1.1,0)).bind fun y2=>some (.go (y2,(K2 (x1.2+1))))) (some (.out x1.1))
def Ig [Lp](p1:Map)(p2:Int)(p3:Map):Option (List Clash):=
  (loop (Ba p1 p2 p3) ([],0)).bind fun y1=>some y1
theorem BF(p1 p2 p3 r)(h:Ig p1 p2 p3=some r):PCall prog 185 [(.agg (N8 p1)),(i64 p2),(.fn (.func 187) [] [(.bp (N8 p3) 0)])] (.list (List.map M3 r)):=by
 refine D7 (fk func185 ntmps185 (fun r=>if r==12 then [1006]else []) (by with_unfolding_all rfl)) (nl Z) ?_
 unfold Ig at h
 refine A7 (s0:=⟨T [(0,(.d _)),(1,(.d _)),(2,(.d _))],G []⟩) (E3 Z Z) ?_
 refine lr<|fun u1 _=>sm Z<|sv Z<|A1<|A3<|B8<|sq Z<|sl Z G_hit Z<|sd Z (C8 Z)<|sv Z<|A1<|bs h fun y1 hy1 h=>D0 (fun s=> ∃g1:Nat,Sb ⟨T [(6,(oS y1 (53,g1)))],G [((53,g1),oB 93 4 M3 y1)]⟩ s) ?_ ?_
 refine A5<|D2 (Ba p1 p2 p3) (fun (x1:((List Clash)×Int)) (g2:Nat)=>⟨T [(1,(di p2)),(2,(.d (.fn (.func 187) [] [(.bp (N8 p3) 0)]))),(3,(.ptr (3,u1) 0)),(6,(oS x1.1 (53,g2))),(15,(dl J2 p1.Zones)),(16,(di (p1.Zones.length:Int))),(17,(di x1.2))],G [((3,u1),some<|.box 27 (F2 p1)),((53,g2),oB 93 4 M3 x1.1)]⟩) ([],0) 0 _ hy1 (B7 (K8 Z)<|A2 G_hit (.of Z)<|O6 trivial) ?_
 intro x1 g2 z1 hz1 ez1
 unfold Ba at hz1
 refine B8<|sv Z<|A1<|A3<|cc Z hz1 (fun c1 hz1=> ?_)<|fun c1 hz1=> ?_
 refine B3<|A3<|A5<|lr<|fun u4 _=>sv Z<|bs hz1 fun v1 hv1 hz1=>sd Z (D8 Z Z hv1 Z)<|sd Z (D9 Z hv1 Z Z)<|sm Z<|sv Z<|V6 Z G_hit [(dl G8 v1.Parts),(di v1.Signal_)] Z (A1<|B8<|sd Z (C6 Z (gq Z) Z Z)<|sd Z (C6 Z G_hit Z Z)<|bs hz1 fun v2 hv2 hz1=>D1 Z Z A6 (Mj _ _ _ hv2) (.inl Z) (sv Z<|A1<|B8<|sv Z<|sd Z (C8 Z)<|sv Z<|A1<|bs hz1 fun y2 hy2 hz1=>D0 (fun s=> ∃g3:Nat,Sb ⟨T [(1,(di p2)),(2,(.d (.fn (.func 187) [] [(.bp (N8 p3) 0)]))),(3,(.ptr (3,u1) 0)),(6,(oS y2 (53,g3))),(15,(dl J2 p1.Zones)),(16,(di (p1.Zones.length:Int))),(17,(di x1.2))],G [((3,u1),some<|.box 27 (F2 p1)),((53,g3),oB 93 4 M3 y2)]⟩ s) ?_ ?_))
 refine A5<|D2 (Az p2 p3 x1 v1 v2) (fun (x2:((List Clash)×Int)) (g4:Nat)=>⟨T [(1,(di p2)),(2,(.d (.fn (.func 187) [] [(.bp (N8 p3) 0)]))),(3,(.ptr (3,u1) 0)),(6,(oS x2.1 (53,g4))),(7,(di x1.2)),(8,(.ptr (8,u4) 0)),(9,(dl A4 v2)),(15,(dl J2 p1.Zones)),(16,(di (p1.Zones.length:Int))),(17,(di x1.2)),(25,(dl A4 v2)),(26,(di (v2.length:Int))),(27,(di x2.2))],G [((3,u1),some<|.box 27 (F2 p1)),((8,u4),some<|.box 45 [(dl G8 v1.Parts),(di v1.Signal_)]),((53,g4),oB 93 4 M3 x2.1)]⟩) (x1.1,0) g2 _ hy2 (B7 (K8 Z)<|sg Z<|A2 G_hit (.of Z)<|B0 (gq Z) trivial) ?_
 intro x2 g4 z2 hz2 ez2
 unfold Az at hz2
 refine B8<|sv Z<|A1<|A3<|cc Z hz2 (fun c2 hz2=> ?_)<|fun c2 hz2=> ?_
 refine B3<|A3<|A5<|B8<|sv Z<|bs hz2 fun v3 hv3 hz2=>sd Z (D8 Z Z hv3 Z)<|sd Z (E9 Z hv3 Z)<|sv Z<|sv Z<|A1<|B8<|sv Z<|sv Z<|sv Z<|bs hz2 fun v4 hv4 hz2=>sd Z (RE Z (fun _=>Z) (cD Z) JQ hv4)<|sd Z (C8 Z)<|sv Z<|A1<|bs hz2 fun y3 hy3 hz2=>D0 (fun s=> ∃g5:Nat,Sb ⟨T [(1,(di p2)),(2,(.d (.fn (.func 187) [] [(.bp (N8 p3) 0)]))),(3,(.ptr (3,u1) 0)),(6,(oS y3 (53,g5))),(7,(di x1.2)),(8,(.ptr (8,u4) 0)),(9,(dl A4 v2)),(15,(dl J2 p1.Zones)),(16,(di (p1.Zones.length:Int))),(17,(di x1.2)),(25,(dl A4 v2)),(26,(di (v2.length:Int))),(27,(di x2.2))],G [((3,u1),some<|.box 27 (F2 p1)),((8,u4),some<|.box 45 [(dl G8 v1.Parts),(di v1.Signal_)]),((53,g5),oB 93 4 M3 y3)]⟩ s) ?_ ?_
 refine A5<|D2 (Ay p2 p3 x1 v1 v3 v4) (fun (x3:((List Clash)×Int)) (g6:Nat)=>⟨T [(1,(di p2)),(2,(.d (.fn (.func 187) [] [(.bp (N8 p3) 0)]))),(3,(.ptr (3,u1) 0)),(6,(oS x3.1 (53,g6))),(7,(di x1.2)),(8,(.ptr (8,u4) 0)),(9,(dl A4 v2)),(11,(di v3)),(15,(dl J2 p1.Zones)),(16,(di (p1.Zones.length:Int))),(17,(di x1.2)),(25,(dl A4 v2)),(26,(di (v2.length:Int))),(27,(di x2.2)),(35,(dl A4 v4)),(36,(di (v4.length:Int))),(37,(di x3.2))],G [((3,u1),some<|.box 27 (F2 p1)),((8,u4),some<|.box 45 [(dl G8 v1.Parts),(di v1.Signal_)]),((53,g6),oB 93 4 M3 x3.1)]⟩) (x2.1,0) g4 _ hy3 (B7 (K8 Z)<|A2 G_hit (.of Z)<|sg Z<|B0 (gq Z) trivial) ?_
 intro x3 g6 z3 hz3 ez3
 unfold Ay at hz3
 refine B8<|sv Z<|A1<|A3<|cc Z hz3 (fun c3 hz3=> ?_)<|fun c3 hz3=> ?_
 refine B3<|A3<|A5<|B8<|bs hz3 fun v5 hv5 hz3=>sd Z (D8 Z Z hv5 Z)<|sd Z (E9 Z hv5 Z)<|sv Z<|A1<|B8<|sv Z<|sd Z (C6 Z (gq Z) Z Z)<|sv Z<|sv Z<|bs hz3 fun _ hv6 hz3=>D1 Z Z A6 (Pf _ _ _ _ _ hv6) (.inl Z) (A1<|cc Z hz3 (fun c4 hz3=> ?_)<|fun c4 hz3=> ?_)
 refine A7 (s0:=⟨T [(1,(di p2)),(2,(.d (.fn (.func 187) [] [(.bp (N8 p3) 0)]))),(3,(.ptr (3,u1) 0)),(6,(oS x3.1 (53,g6))),(7,(di x1.2)),(8,(.ptr (8,u4) 0)),(9,(dl A4 v2)),(11,(di v3)),(13,(di v5)),(15,(dl J2 p1.Zones)),(16,(di (p1.Zones.length:Int))),(17,(di x1.2)),(25,(dl A4 v2)),(26,(di (v2.length:Int))),(27,(di x2.2)),(35,(dl A4 v4)),(36,(di (v4.length:Int))),(37,(di x3.2))],G [((3,u1),some<|.box 27 (F2 p1)),((53,g6),oB 93 4 M3 x3.1),((8,u4),some<|.box 45 [(dl G8 v1.Parts),(di v1.Signal_)])]⟩) (B7 (K8 Z)<|A2 G_hit (.of Z)<|B0 (gq Z)<|sg Z trivial) ?_
 refine M6 fun u13 _=>B6 (oS x3.1 (53,g6)) Z Z (sv Z<|sv Z<|sv Z<|sv Z<|sv Z<|B6 (dl M3 [(Clash.mk p2 x1.2 v3 v5)]) Z Z (bs hz3 fun _ hv7 hz3=>G7 M3 (53,g6) x3.1 (Clash.mk p2 x1.2 v3 v5) [] _ (E1<|fun _=>Z) Z (gq Z) hv7 (ss Z<|A1<|E0<|A7 (s0:=⟨T [(1,(.d _)),(2,(.d _)),(3,(.ptr _ _)),(6,(.sl _)),(7,(.d _)),(8,(.ptr _ _)),(9,(.d _)),(11,(.d _)),(15,(.d _)),(16,(.d _)),(17,(.d _)),(25,(.d _)),(26,(.d _)),(27,(.d _)),(35,(.d _)),(36,(.d _)),(37,(.d _))],G [((3,u1),some<|.box 27 _),((53,u13),some _),((8,u4),some<|.box 45 _)]⟩) (E3 Z Z) ?_)))
 refine B5<|sv Z<|sv Z<|A1<|D6 ?_
 cases hz3
 exact ⟨Z,u13,(B7 ⟨.of Z, .of Z, .of Z,(.of (T1<|K5 hv7).symm), .of Z, .of Z, .of Z, .of Z, .of Z, .of Z, .of Z, .of Z, .of Z, .of Z, .of Z, .of Z, .of Z,trivial⟩<|A2 G_hit (.of Z)<|sg Z<|K9 (gq Z) trivial)⟩
 refine B3<|E0<|A7 (s0:=⟨T [(1,(di p2)),(2,(.d (.fn (.func 187) [] [(.bp (N8 p3) 0)]))),(3,(.ptr (3,u1) 0)),(6,(oS x3.1 (53,g6))),(7,(di x1.2)),(8,(.ptr (8,u4) 0)),(9,(dl A4 v2)),(11,(di v3)),(15,(dl J2 p1.Zones)),(16,(di (p1.Zones.length:Int))),(17,(di x1.2)),(25,(dl A4 v2)),(26,(di (v2.length:Int))),(27,(di x2.2)),(35,(dl A4 v4)),(36,(di (v4.length:Int))),(37,(di x3.2))],G [((3,u1),some<|.box 27 (F2 p1)),((53,g6),oB 93 4 M3 x3.1),((8,u4),some<|.box 45 [(dl G8 v1.Parts),(di v1.Signal_)])]⟩) (B7 (K8 Z)<|A2 G_hit (.of Z)<|B0 (gq Z)<|sg Z trivial) ?_
 refine B5<|sv Z<|sv Z<|A1<|D6 ?_
 cases hz3
 exact ⟨Z,g6,(B7 (K8 Z)<|A2 G_hit (.of Z)<|sg Z<|B0 (gq Z) trivial)⟩
 refine C3 Z ?_
 cases hz3
 obtain rfl:=ez3 _ rfl
 refine ⟨nofun,C2 Z<|T4 ?_⟩
 exact ⟨g6,(B7 (K8 Z)<|A2 G_hit (.of Z)<|sg Z<|B0 (gq Z) trivial)⟩
 rintro _ ⟨g5,q1⟩
 refine E0<|A7 q1<|B5<|sv Z<|sv Z<|A1<|D6 ?_
 cases hz2
 exact ⟨Z,g5,(B7 (K8 Z)<|A2 G_hit (.of Z)<|sg Z<|B0 (gq Z) trivial)⟩
 refine C3 Z ?_
 cases hz2
 obtain rfl:=ez2 _ rfl
 refine ⟨nofun,C2 Z<|T4 ?_⟩
 exact ⟨g4,(B7 (K8 Z)<|A2 G_hit (.of Z)<|B0 (gq Z) trivial)⟩
 rintro _ ⟨g3,q2⟩
 refine E0<|A7 q2<|B5<|sv Z<|sv Z<|A1<|D6 ?_
 cases hz1
 exact ⟨Z,g3,(B7 (K8 Z)<|A2 G_hit (.of Z)<|B0 (gq Z) trivial)⟩
 refine C3 Z ?_
 cases hz1
 obtain rfl:=ez1 _ rfl
 refine ⟨nofun,C2 Z<|T4 ?_⟩
 exact ⟨g2,(B7 ⟨.of Z,trivial⟩<|B0 (gq Z) trivial)⟩
 rintro _ ⟨g1,q3⟩
 refine A7 q3<|B8<|B6 (oS y1 (53,g1)) Z Z (B6 (oS y1 (53,g1)) Z Z (A1<|B9 ?_))
 cases h
 exact B4 (.inr Z) (C5 (C0 Z)<|U9 G_hit) U8
def O3 [Lp](p2:Int)(p3:Map)(x1:((List Clash)×Int))(v1:Zone)(v3:Int)(v4:List Int)(x3:((List Clash)×Int)):Option (Stp ((List Clash)×Int) (List Clash)):=
  cond (decide (x3.2< (v4.length:Int))) ((F0 v4 x3.2).bind fun v5=>(Ax v1 v3 v5 p3).bind fun v6=>cond v6 ((Q4 x3.1 [(Clash.mk p2 x1.2 v3 v5)]).bind fun v7=>some (.go (v7,(K2 (x3.2+1))))) (some (.go (x3.1,(K2 (x3.2+1)))))) (some (.out x3.1))
def O4 [Lp](p2:Int)(p3:Map)(x1:((List Clash)×Int))(v1:Zone)(v2:(List Int))(x2:((List Clash)×Int)):Option (Stp ((List Clash)×Int) (List Clash)):=
  cond (decide (x2.2< (v2.length:Int))) ((F0 v2 x2.2).bind fun v3=>(LX v2 (K2 (x2.2+1)) (v2.length:Int)).bind fun v4=>(loop (O3 p2 p3 x1 v1 v3 v4) (x2.1,0)).bind fun y3=>some (.go (y3,(K2 (x2.2+1))))) (some (.out x2.1))
def O5 [Lp](p1:Map)(p2:Int)(p3:Map)(x1:((List Clash)×Int)):Option (Stp ((List Clash)×Int) (List Clash)):=
  cond (decide (x1.2< (p1.Zones.length:Int))) ((F0 p1.Zones x1.2).bind fun v1=>(Cz p1 v1).bind fun v2=>(loop (O4 p2 p3 x1 v1 v2) (x1.1,0)).bind fun y2=>some (.go (y2,(K2 (x1.2+1))))) (some (.out x1.1))
def Q6 [Lp](p1:Map)(p2:Int)(p3:Map):Option (List Clash):=
  (loop (O5 p1 p2 p3) ([],0)).bind fun y1=>some y1
theorem Mk(p1 p2 p3 r)(h:Q6 p1 p2 p3=some r):MCall prog 185 [(.d (.agg (N8 p1))),(di p2),(.fn (.func 187) [] [(.ptr (900000,0) 0)])] [(.box 27 (F2 p3))] (dl M3 r) [some (.box 27 (F2 p3))] []:=by
 refine Y6 (fk func185 ntmps185 (fun r=>if r==12 then [1006]else []) (by with_unfolding_all rfl)) Z (nl Z) ?_
 unfold Q6 at h
 refine A7 (s0:=⟨T [(0,(.d _)),(1,(.d _)),(2,(.fn _ _ _))],G [((900000,0),some<|.box 27 _)]⟩) (E3 Z Z) ?_
 refine lr<|fun u1 _=>sm Z<|sv Z<|A1<|A3<|B8<|sq Z<|sl Z G_hit Z<|sd Z (C8 Z)<|sv Z<|A1<|bs h fun y1 hy1 h=>D0 (fun s=> ∃g1:Nat,Sb ⟨T [(2,(.fn (.func 187) [] [(.ptr (900000,0) 0)])),(6,(oS y1 (53,g1)))],G [((900000,0),some<|.box 27 (F2 p3)),((53,g1),oB 93 4 M3 y1)]⟩ s) ?_ ?_
 refine A5<|D2 (O5 p1 p2 p3) (fun (x1:((List Clash)×Int)) (g2:Nat)=>⟨T [(1,(di p2)),(2,(.fn (.func 187) [] [(.ptr (900000,0) 0)])),(3,(.ptr (3,u1) 0)),(6,(oS x1.1 (53,g2))),(15,(dl J2 p1.Zones)),(16,(di (p1.Zones.length:Int))),(17,(di x1.2))],G [((900000,0),some<|.box 27 (F2 p3)),((3,u1),some<|.box 27 (F2 p1)),((53,g2),oB 93 4 M3 x1.1)]⟩) ([],0) 0 _ hy1 (B7 (K8 Z)<|sg Z<|A2 G_hit (.of Z)<|O6 trivial) ?_
 intro x1 g2 z1 hz1 ez1
 unfold O5 at hz1
 refine B8<|sv Z<|A1<|A3<|cc Z hz1 (fun c1 hz1=> ?_)<|fun c1 hz1=> ?_
 refine B3<|A3<|A5<|lr<|fun u4 _=>sv Z<|bs hz1 fun v1 hv1 hz1=>sd Z (D8 Z Z hv1 Z)<|sd Z (D9 Z hv1 Z Z)<|sm Z<|sv Z<|V6 Z G_hit [(dl G8 v1.Parts),(di v1.Signal_)] Z (A1<|B8<|sd Z (C6 Z (gq Z) Z Z)<|sd Z (C6 Z G_hit Z Z)<|bs hz1 fun v2 hv2 hz1=>D1 Z Z A6 (Mj _ _ _ hv2) (.inl Z) (sv Z<|A1<|B8<|sv Z<|sd Z (C8 Z)<|sv Z<|A1<|bs hz1 fun y2 hy2 hz1=>D0 (fun s=> ∃g3:Nat,Sb ⟨T [(1,(di p2)),(2,(.fn (.func 187) [] [(.ptr (900000,0) 0)])),(3,(.ptr (3,u1) 0)),(6,(oS y2 (53,g3))),(15,(dl J2 p1.Zones)),(16,(di (p1.Zones.length:Int))),(17,(di x1.2))],G [((900000,0),some<|.box 27 (F2 p3)),((3,u1),some<|.box 27 (F2 p1)),((53,g3),oB 93 4 M3 y2)]⟩ s) ?_ ?_))
 refine A5<|D2 (O4 p2 p3 x1 v1 v2) (fun (x2:((List Clash)×Int)) (g4:Nat)=>⟨T [(1,(di p2)),(2,(.fn (.func 187) [] [(.ptr (900000,0) 0)])),(3,(.ptr (3,u1) 0)),(6,(oS x2.1 (53,g4))),(7,(di x1.2)),(8,(.ptr (8,u4) 0)),(9,(dl A4 v2)),(15,(dl J2 p1.Zones)),(16,(di (p1.Zones.length:Int))),(17,(di x1.2)),(25,(dl A4 v2)),(26,(di (v2.length:Int))),(27,(di x2.2))],G [((900000,0),some<|.box 27 (F2 p3)),((3,u1),some<|.box 27 (F2 p1)),((8,u4),some<|.box 45 [(dl G8 v1.Parts),(di v1.Signal_)]),((53,g4),oB 93 4 M3 x2.1)]⟩) (x1.1,0) g2 _ hy2 (B7 (K8 Z)<|sg Z<|sg Z<|A2 G_hit (.of Z)<|B0 (gq Z) trivial) ?_
 intro x2 g4 z2 hz2 ez2
 unfold O4 at hz2
 refine B8<|sv Z<|A1<|A3<|cc Z hz2 (fun c2 hz2=> ?_)<|fun c2 hz2=> ?_
 refine B3<|A3<|A5<|B8<|sv Z<|bs hz2 fun v3 hv3 hz2=>sd Z (D8 Z Z hv3 Z)<|sd Z (E9 Z hv3 Z)<|sv Z<|sv Z<|A1<|B8<|sv Z<|sv Z<|sv Z<|bs hz2 fun v4 hv4 hz2=>sd Z (RE Z (fun _=>Z) (cD Z) JQ hv4)<|sd Z (C8 Z)<|sv Z<|A1<|bs hz2 fun y3 hy3 hz2=>D0 (fun s=> ∃g5:Nat,Sb ⟨T [(1,(di p2)),(2,(.fn (.func 187) [] [(.ptr (900000,0) 0)])),(3,(.ptr (3,u1) 0)),(6,(oS y3 (53,g5))),(7,(di x1.2)),(8,(.ptr (8,u4) 0)),(9,(dl A4 v2)),(15,(dl J2 p1.Zones)),(16,(di (p1.Zones.length:Int))),(17,(di x1.2)),(25,(dl A4 v2)),(26,(di (v2.length:Int))),(27,(di x2.2))],G [((900000,0),some<|.box 27 (F2 p3)),((3,u1),some<|.box 27 (F2 p1)),((8,u4),some<|.box 45 [(dl G8 v1.Parts),(di v1.Signal_)]),((53,g5),oB 93 4 M3 y3)]⟩ s) ?_ ?_
 refine A5<|D2 (O3 p2 p3 x1 v1 v3 v4) (fun (x3:((List Clash)×Int)) (g6:Nat)=>⟨T [(1,(di p2)),(2,(.fn (.func 187) [] [(.ptr (900000,0) 0)])),(3,(.ptr (3,u1) 0)),(6,(oS x3.1 (53,g6))),(7,(di x1.2)),(8,(.ptr (8,u4) 0)),(9,(dl A4 v2)),(11,(di v3)),(15,(dl J2 p1.Zones)),(16,(di (p1.Zones.length:Int))),(17,(di x1.2)),(25,(dl A4 v2)),(26,(di (v2.length:Int))),(27,(di x2.2)),(35,(dl A4 v4)),(36,(di (v4.length:Int))),(37,(di x3.2))],G [((900000,0),some<|.box 27 (F2 p3)),((3,u1),some<|.box 27 (F2 p1)),((8,u4),some<|.box 45 [(dl G8 v1.Parts),(di v1.Signal_)]),((53,g6),oB 93 4 M3 x3.1)]⟩) (x2.1,0) g4 _ hy3 (B7 (K8 Z)<|A2 G_hit (.of Z)<|sg Z<|sg Z<|B0 (gq Z) trivial) ?_
 intro x3 g6 z3 hz3 ez3
 unfold O3 at hz3
 refine B8<|sv Z<|A1<|A3<|cc Z hz3 (fun c3 hz3=> ?_)<|fun c3 hz3=> ?_
 refine B3<|A3<|A5<|B8<|bs hz3 fun v5 hv5 hz3=>sd Z (D8 Z Z hv5 Z)<|sd Z (E9 Z hv5 Z)<|sv Z<|A1<|B8<|B6 (.fn _ _ _) Z Z (sd Z (C6 Z (gq Z) Z Z)<|sv Z<|sv Z<|bs hz3 fun _ hv6 hz3=>D1 Z (rD<|rD<|rD<|L9 (Sh G_hit<|rD<|rD<|rD<|rD<|rD N1) N1) A6 (Pf _ _ _ _ _ hv6) (.inr Z) (A1<|cc Z hz3 (fun c4 hz3=> ?_)<|fun c4 hz3=> ?_))
 refine A7 (s0:=⟨T [(1,(di p2)),(2,(.fn (.func 187) [] [(.ptr (900000,0) 0)])),(3,(.ptr (3,u1) 0)),(6,(oS x3.1 (53,g6))),(7,(di x1.2)),(8,(.ptr (8,u4) 0)),(9,(dl A4 v2)),(11,(di v3)),(13,(di v5)),(15,(dl J2 p1.Zones)),(16,(di (p1.Zones.length:Int))),(17,(di x1.2)),(25,(dl A4 v2)),(26,(di (v2.length:Int))),(27,(di x2.2)),(35,(dl A4 v4)),(36,(di (v4.length:Int))),(37,(di x3.2))],G [((900000,0),some<|.box 27 (F2 p3)),((3,u1),some<|.box 27 (F2 p1)),((53,g6),oB 93 4 M3 x3.1),((8,u4),some<|.box 45 [(dl G8 v1.Parts),(di v1.Signal_)])]⟩) (B7 (K8 Z)<|A2 G_hit (.of Z)<|sg Z<|B0 (gq Z)<|sg Z trivial) ?_
 refine M6 fun u13 _=>B6 (oS x3.1 (53,g6)) Z Z (sv Z<|sv Z<|sv Z<|sv Z<|sv Z<|B6 (dl M3 [(Clash.mk p2 x1.2 v3 v5)]) Z Z (bs hz3 fun _ hv7 hz3=>G7 M3 (53,g6) x3.1 (Clash.mk p2 x1.2 v3 v5) [] _ (E1<|fun _=>Z) Z (gq Z) hv7 (ss Z<|A1<|E0<|A7 (s0:=⟨T [(1,(.d _)),(2,(.fn _ _ _)),(3,(.ptr _ _)),(6,(.sl _)),(7,(.d _)),(8,(.ptr _ _)),(9,(.d _)),(11,(.d _)),(15,(.d _)),(16,(.d _)),(17,(.d _)),(25,(.d _)),(26,(.d _)),(27,(.d _)),(35,(.d _)),(36,(.d _)),(37,(.d _))],G [((900000,0),some<|.box 27 _),((3,u1),some<|.box 27 _),((53,u13),some _),((8,u4),some<|.box 45 _)]⟩) (E3 Z Z) ?_)))
 refine B5<|sv Z<|sv Z<|A1<|D6 ?_
 cases hz3
 exact ⟨Z,u13,(B7 ⟨.of Z, .of Z, .of Z,(.of (T1<|K5 hv7).symm), .of Z, .of Z, .of Z, .of Z, .of Z, .of Z, .of Z, .of Z, .of Z, .of Z, .of Z, .of Z, .of Z,trivial⟩<|A2 G_hit (.of Z)<|sg Z<|sg Z<|K9 (gq Z) trivial)⟩
 refine B3<|E0<|A7 (s0:=⟨T [(1,(di p2)),(2,(.fn (.func 187) [] [(.ptr (900000,0) 0)])),(3,(.ptr (3,u1) 0)),(6,(oS x3.1 (53,g6))),(7,(di x1.2)),(8,(.ptr (8,u4) 0)),(9,(dl A4 v2)),(11,(di v3)),(15,(dl J2 p1.Zones)),(16,(di (p1.Zones.length:Int))),(17,(di x1.2)),(25,(dl A4 v2)),(26,(di (v2.length:Int))),(27,(di x2.2)),(35,(dl A4 v4)),(36,(di (v4.length:Int))),(37,(di x3.2))],G [((900000,0),some<|.box 27 (F2 p3)),((3,u1),some<|.box 27 (F2 p1)),((53,g6),oB 93 4 M3 x3.1),((8,u4),some<|.box 45 [(dl G8 v1.Parts),(di v1.Signal_)])]⟩) (B7 (K8 Z)<|A2 G_hit (.of Z)<|sg Z<|B0 (gq Z)<|sg Z trivial) ?_
 refine B5<|sv Z<|sv Z<|A1<|D6 ?_
 cases hz3
 exact ⟨Z,g6,(B7 (K8 Z)<|A2 G_hit (.of Z)<|sg Z<|sg Z<|B0 (gq Z) trivial)⟩
 refine C3 Z ?_
 cases hz3
 obtain rfl:=ez3 _ rfl
 refine ⟨nofun,C2 Z<|T4 ?_⟩
 exact ⟨g6,(B7 (K8 Z)<|A2 G_hit (.of Z)<|sg Z<|sg Z<|B0 (gq Z) trivial)⟩
 rintro _ ⟨g5,q1⟩
 refine E0<|A7 q1<|B5<|sv Z<|sv Z<|A1<|D6 ?_
 cases hz2
 exact ⟨Z,g5,(B7 (K8 Z)<|A2 G_hit (.of Z)<|sg Z<|sg Z<|B0 (gq Z) trivial)⟩
 refine C3 Z ?_
 cases hz2
 obtain rfl:=ez2 _ rfl
 refine ⟨nofun,C2 Z<|T4 ?_⟩
 exact ⟨g4,(B7 (K8 Z)<|A2 G_hit (.of Z)<|sg Z<|B0 (gq Z) trivial)⟩
 rintro _ ⟨g3,q2⟩
 refine E0<|A7 q2<|B5<|sv Z<|sv Z<|A1<|D6 ?_
 cases hz1
 exact ⟨Z,g3,(B7 (K8 Z)<|A2 G_hit (.of Z)<|sg Z<|B0 (gq Z) trivial)⟩
 refine C3 Z ?_
 cases hz1
 obtain rfl:=ez1 _ rfl
 refine ⟨nofun,C2 Z<|T4 ?_⟩
 exact ⟨g2,(B7 (K8 Z)<|A2 G_hit (.of Z)<|B0 (gq Z) trivial)⟩
 rintro _ ⟨g1,q3⟩
 refine A7 q3<|B8<|B6 (oS y1 (53,g1)) Z Z (B6 (oS y1 (53,g1)) Z Z (A1<|B9 ?_))
 obtain rfl:=(lC h)
 exact Ar (.inr Z) [(53,g1)] (As (C0 Z)<|U9<|Qd (.head _)<|gq Z) U8 ⟨⟨_,_,_,G_hit,(Hl Z G3),Z,X3,Z⟩,trivial⟩
def Jg [Lp](p1:Map):Option (List Clash):=
  (Q6 p1 4 p1).bind fun v1=>some v1
theorem CV(p1 r)(h:Jg p1=some r):PCall prog 80 [(.agg (N8 p1))] (.list (List.map M3 r)):=by
 refine D7 (fk func80 ntmps80 (fun r=>if r==1 then [1001002]else []) (by with_unfolding_all rfl)) (nl Z) ?_
 unfold Jg at h
 refine A7 (s0:=⟨T [(0,(.d _))],G []⟩) (E3 Z Z) ?_
 refine lr<|fun u1 _=>sm Z<|sv Z<|A1<|B8<|sd Z (C6 Z G_hit Z Z)<|B6 (.fn _ _ _) Z Z (bs h fun v1 hv1 h=>V5 (v:= .d (.list (List.map M3 v1))) (us:= [(1,u1)]) (R9 (Mk _ _ _ _ hv1) [(1,u1)] [(1,u1)] _ (((1,u1),some<|.box 27 (F2 p1))::_) Z F3 (D3 Ts<|D3 Ts<|D3 (Up Z<|D3 (F9 G_hit Z) G0) G0) (C9 G_hit E2) ⟨⟨_,G_hit, .of Z⟩,trivial⟩ (fun _ h=>h) nd1 Z Z Z) (sv Z<|A1<|B9 ?_))
 cases h
 exact B4 (.inr Z) (C5 (C0 Z) D4) (.refl _)
def Pw [Lp](p1:Map):Option Bool:=
  (W7 p1).bind fun v1=>((cond (v1==0) (Je p1) (some default))).bind fun v2=>((cond (v1==0) (Jf p1) (some default))).bind fun v3=>((cond (v1==0) (Kr p1) (some default))).bind fun v4=>((cond (v1==0) (Jg p1) (some default))).bind fun v5=>some ((v1==0)&& ((K2 ((K2 ((K2 ((v2.length:Int)+ (v3.length:Int)))+ (v4.length:Int)))+ (v5.length:Int)))==0))
theorem JX(p1 r)(h:Pw p1=some r):PCall prog 18 [(.agg (N8 p1))] (bo r):=by
 refine D7 (fk func18 ntmps18 m0 (by with_unfolding_all rfl)) (nl Z) ?_
 unfold Pw at h
 refine A7 (s0:=⟨T [(0,(.d _))],G []⟩) (E3 Z Z) ?_
 refine B8<|sm Z<|sv Z<|A1<|A3<|M8 Z<|sd Z (C6 Z G_hit Z Z)<|bs h fun _ hv1 h=>D1 Z Z A6 (Fu _ _ hv1) (.inl Z) (sv Z<|sv Z<|gt Z (fun _=>(C6 Z G_hit Z Z))<|bs h fun v2 hv2 h=> ?_)
 refine N0 _ (.list (List.map M3 v2)) (L5 Z) (fun w2=>⟨_,[(.d (.agg (N8 p1)))],_,_,(by simp only [A8 w2];rfl),Z,A6,CT _ _<|H4 w2 hv2,(.inl Z)⟩) ?_
 refine gt Z (fun w3=>(C8<|A8 w3))<|gt Z (fun _=>(C6 Z G_hit Z Z))<|bs h fun v3 hv3 h=> ?_
 refine N0 _ (.list (List.map M3 v3)) (L5 Z) (fun w5=>⟨_,[(.d (.agg (N8 p1)))],_,_,(by simp only [A8 w5];rfl),Z,A6,CU _ _<|H4 w5 hv3,(.inl Z)⟩) ?_
 refine gt Z (fun w6=>(C8<|A8 w6))<|gt Z (fun w7=>(An (A8 w7) (A8 w7) Z))<|gt Z (fun _=>(C6 Z G_hit Z Z))<|bs h fun v4 hv4 h=> ?_
 refine N0 _ (.list (List.map M3 v4)) (L5 Z) (fun w9=>⟨_,[(.d (.agg (N8 p1)))],_,_,(by simp only [A8 w9];rfl),Z,A6,FG _ _<|H4 w9 hv4,(.inl Z)⟩) ?_
 refine gt Z (fun w10=>(C8<|A8 w10))<|gt Z (fun w11=>(An (A8 w11) (A8 w11) Z))<|gt Z (fun _=>(C6 Z G_hit Z Z))<|bs h fun v5 hv5 h=> ?_
 refine N0 _ (.list (List.map M3 v5)) (L5 Z) (fun w13=>⟨_,[(.d (.agg (N8 p1)))],_,_,(by simp only [A8 w13];rfl),Z,A6,CV _ _<|H4 w13 hv5,(.inl Z)⟩) ?_
 refine gt Z (fun w14=>(C8<|A8 w14))<|gt Z (fun w15=>(An (A8 w15) (A8 w15) Z))<|gt Z (vb Z Z Z)<|sa Z Z Z<|sv Z<|A1<|B9 ?_
 cases h
 exact B4 (.inr Z) (C5 (C0 Z) D4) (.refl _)
def Qm [Lp](p1:Map)(p2:Int):Option Bool:=
  ((cond ((decide (p2≥0))&& (decide (p2< (p1.Lanes.length:Int)))) (W7 p1) (some default))).bind fun v1=>some (((decide (p2≥0))&& (decide (p2< (p1.Lanes.length:Int))))&& (v1==0))
theorem CE(p1 p2 r)(h:Qm p1 p2=some r):PCall prog 159 [(.agg (N8 p1)),(i64 p2)] (bo r):=by
 refine D7 (fk func159 ntmps159 m0 (by with_unfolding_all rfl)) (nl Z) ?_
 unfold Qm at h
 refine A7 (s0:=⟨T [(0,(.d _)),(1,(.d _))],G []⟩) (E3 Z Z) ?_
 refine B8<|sm Z<|sv Z<|A1<|B8<|sv Z<|sv Z<|sv Z<|gt Z (fun _=>Z)<|gp Z (L5 Z) (fun _=>Z) (gt Z (vl Z G_hit Z)<|gt Z (fun w4=>(C8<|A8 w4))<|gt Z (fun w5=>(An (A8 w5) (A8 w5) Z))<|sa Z Z Z<|sv Z<|gt Z (fun _=>(C6 Z G_hit Z Z))<|bs h fun v1 hv1 h=> ?_)
 refine N0 _ (i64 v1) (L5 Z) (fun w7=>⟨_,[(.d (.agg (N8 p1)))],_,_,(by simp only [A8 w7];rfl),Z,A6,Fu _ _<|H4 w7 hv1,(.inl Z)⟩) ?_
 refine gt Z (vb Z Z Z)<|sa Z Z Z<|sv Z<|A1<|B9 ?_
 cases h
 exact B4 (.inr Z) (C5 (C0 Z) D4) (.refl _)
def Jh [Lp](p1:Map)(p2:Int):Option Int:=
  (Qm p1 p2).bind fun v1=>cond (!v1) (some 0) ((Z6 p1 p2).bind fun v2=>some v2)
theorem CW(p1 p2 r)(h:Jh p1 p2=some r):PCall prog 61 [(.agg (N8 p1)),(i64 p2)] (i64 r):=by
 refine D7 (fk func61 ntmps61 m0 (by with_unfolding_all rfl)) (nl Z) ?_
 unfold Jh at h
 refine A7 (s0:=⟨T [(0,(.d _)),(1,(.d _))],G []⟩) (E3 Z Z) ?_
 refine B8<|sm Z<|sv Z<|A1<|A3<|B8<|sd Z (C6 Z G_hit Z Z)<|sv Z<|bs h fun v1 hv1 h=>D1 Z Z A6 (CE _ _ _ hv1) (.inl Z) (B6 (.d (bo (!v1))) Z Z (A1<|cc Z h (fun c1 h=> ?_)<|fun c1 h=> ?_))
 refine B8<|sv Z<|A1<|B9 ?_
 cases h
 exact B4 (.inr Z) (C5 (C0 Z) D4) (.refl _)
 refine B3<|B8<|sd Z (C6 Z G_hit Z Z)<|sv Z<|bs h fun _ hv2 h=>D1 Z Z A6 (Hm _ _ _ hv2) (.inl Z) (sv Z<|A1<|B9 ?_)
 cases h
 exact B4 (.inr Z) (C5 (C0 Z) D4) (.refl _)
def Qn (p1:Map)(p2:Int)(p3:Int)(p4:Int)(x1:(Int×Int)):Option (Stp (Int×Int) Int):=
  cond (decide (x1.2< (p1.Works.length:Int))) ((F0 p1.Works x1.2).bind fun v5=>((cond (v5.Lane_==p2) (V7 p3 v5.From v5.To) (some default))).bind fun v6=>((cond ((v5.Lane_==p2)&&v6) (V7 p4 v5.Begin (K2 (v5.End - 1))) (some default))).bind fun v7=>cond (((v5.Lane_==p2)&&v6)&&v7) (some (.go ((SP false x1.1 v5.Limit),(K2 (x1.2+1))))) (some (.go (x1.1,(K2 (x1.2+1)))))) (some (.out x1.1))
def Ks [Lp](p1:Map)(p2:Int)(p3:Int)(p4:Int):Option Int:=
  (Qm p1 p2).bind fun v1=>((cond (!(!v1)) (Z6 p1 p2) (some default))).bind fun v2=>((cond (!(!v1)) (V7 p3 0 v2) (some default))).bind fun v3=>cond ((!v1)||(!v3)) (some 0) ((F0 p1.Lanes p2).bind fun v4=>(loop (Qn p1 p2 p3 p4) (v4.Limit,0)).bind fun y1=>some y1)
theorem FH(p1 p2 p3 p4 r)(h:Ks p1 p2 p3 p4=some r):PCall prog 56 [(.agg (N8 p1)),(i64 p2),(i64 p3),(i64 p4)] (i64 r):=by
 refine D7 (fk func56 ntmps56 m0 (by with_unfolding_all rfl)) (nl Z) ?_
 unfold Ks at h
 refine A7 (s0:=⟨T [(0,(.d _)),(1,(.d _)),(2,(.d _)),(3,(.d _))],G []⟩) (E3 Z Z) ?_
 refine lr<|fun u1 _=>sm Z<|sv Z<|A1<|A3<|B8<|sd Z (C6 Z G_hit Z Z)<|sv Z<|bs h fun v1 hv1 h=>D1 Z Z A6 (CE _ _ _ hv1) (.inl Z) (B6 (.d (bo (!v1))) Z Z (sv Z<|gf Z (fun _=>Z)<|gf Z (fun _=>(C6 Z G_hit Z Z))<|gf Z (fun _=>Z)<|bs h fun v2 hv2 h=> ?_))
 refine N0 _ (i64 v2) (N7 Z) (fun w4=>⟨_,[(.d (.agg (N8 p1))),(di p2)],_,_,(by simp only [A8 w4];rfl),Z,A6,Hm _ _ _<|H4 w4 hv2,(.inl Z)⟩) ?_
 refine bs h fun v3 hv3 h=> ?_
 refine N0 _ (bo v3) (N7 Z) (fun w5=>⟨_,[(di p3),(di 0),(di v2)],_,_,(by simp only [A8 w5];rfl),Z,A6,V2 _ _ _ _<|H4 w5 hv3,(.inl Z)⟩) ?_
 refine T3 _ (.d (bo (!v3))) Z (N7 Z) (fun w6=>(by simp only [A8 w6];rfl)) ?_
 refine sd Z (X6 Z Z<|fun hc=>A8<|O7 hc)<|A1<|cc Z h (fun c1 h=> ?_)<|fun c1 h=> ?_
 refine B8<|sv Z<|A1<|B9 ?_
 cases h
 exact B4 (.inr Z) (C5 (C0 Z) D4) (.refl _)
 refine B3<|B8<|sq Z<|sl Z G_hit Z<|sv Z<|bs h fun v4 hv4 h=>sd Z (D8 Z Z hv4 Z)<|sv Z<|sd Z (E9 Z hv4 Z)<|sv Z<|A1<|A3<|A3<|A7 (s0:=⟨T [(1,(.d _)),(2,(.d _)),(3,(.d _)),(4,(.ptr _ _)),(9,(.d _))],G [((4,u1),some<|.box 27 _)]⟩) (E3 Z Z) ?_
 refine B5<|sq Z<|sl Z G_hit Z<|sd Z (C8 Z)<|sv Z<|A1<|bs h fun y1 hy1 h=>D0 (fun s=> ∃g1:Unit,Sb ⟨T [(9,(di y1))],G []⟩ s) ?_ ?_
 refine A5<|D2 (Qn p1 p2 p3 p4) (fun (x1:(Int×Int)) (g2:Unit)=>⟨T [(1,(di p2)),(2,(di p3)),(3,(di p4)),(9,(di x1.1)),(31,(dl R1 p1.Works)),(32,(di (p1.Works.length:Int))),(33,(di x1.2))],G []⟩) (v4.Limit,0) () _ hy1 (E3 Z Z) ?_
 intro x1 g2 z1 hz1 ez1
 unfold Qn at hz1
 refine B8<|sv Z<|A1<|A3<|cc Z hz1 (fun c2 hz1=> ?_)<|fun c2 hz1=> ?_
 refine B3<|A3<|A5<|lr<|fun u7 _=>bs hz1 fun v5 hv5 hz1=>sd Z (D8 Z Z hv5 Z)<|sd Z (D9 Z hv5 Z Z)<|sm Z<|V6 Z G_hit (II v5) Z (A1<|B8<|sq Z<|sl Z G_hit Z<|sv Z<|sv Z<|sv Z<|gt Z (fun _=>Z)<|gp Z (L5 Z) (fun _=>Z) (gt Z (vl Z G_hit Z)<|gp Z (L5 Z) (fun _=>Z) (gt Z (vl Z G_hit Z)<|bs hz1 fun v6 hv6 hz1=> ?_)))
 refine N0 _ (bo v6) (L5 Z) (fun w12=>⟨_,[(di p3),(di v5.From),(di v5.To)],_,_,(by simp only [A8 w12];rfl),Z,A6,V2 _ _ _ _<|H4 w12 hv6,(.inl Z)⟩) ?_
 refine sa Z Z Z<|sv Z<|gt Z (fun _=>Z)<|gp Z (L5 Z) (fun _=>Z) (gt Z (vl Z G_hit Z)<|gp Z (L5 Z) (fun _=>Z) (gt Z (vl Z G_hit Z)<|gt Z (vb Z Z Z)<|bs hz1 fun v7 hv7 hz1=> ?_))
 refine N0 _ (bo v7) (L5 Z) (fun w19=>⟨_,[(di p4),(di v5.Begin),(di<|K2 (v5.End - 1))],_,_,(by simp only [A8 w19];rfl),Z,A6,V2 _ _ _ _<|H4 w19 hv7,(.inl Z)⟩) ?_
 refine sa Z Z Z<|A1<|cc Z hz1 (fun c3 hz1=> ?_)<|fun c3 hz1=> ?_
 refine A7 (s0:=⟨T [(1,(.d _)),(2,(.d _)),(3,(.d _)),(9,(.d _)),(11,(.ptr _ _)),(31,(.d _)),(32,(.d _)),(33,(.d _))],G [((11,u7),some<|.box 50 _)]⟩) (E3 Z Z) ?_
 refine B5<|sv Z<|sq Z<|sl Z G_hit Z<|sv Z<|sv Z<|A1<|E0<|B5<|sv Z<|sv Z<|A1<|D6 ?_
 cases hz1
 exact ⟨Z,(),(E3 Z Z)⟩
 refine B3<|E0<|A7 (s0:=⟨T [(1,(.d _)),(2,(.d _)),(3,(.d _)),(9,(.d _)),(31,(.d _)),(32,(.d _)),(33,(.d _))],G []⟩) (E3 Z Z) ?_
 refine B5<|sv Z<|sv Z<|A1<|D6 ?_
 cases hz1
 exact ⟨Z,(),(E3 Z Z)⟩
 refine C3 Z ?_
 cases hz1
 obtain rfl:=ez1 _ rfl
 refine ⟨nofun,C2 Z<|T4 ?_⟩
 exact ⟨(),(E3 Z Z)⟩
 rintro _ ⟨g1,q1⟩
 refine A7 q1<|B8<|sv Z<|sv Z<|A1<|B9 ?_
 cases h
 exact B4 (.inr Z) (C5 (C0 Z) D4) (.refl _)
def Gg [Lp]:Option Bool:=
  (Pv).bind fun v1=>(Kp v1 [0] 60000).bind fun v2=>(W7 v1).bind fun v3=>((cond (v3==0) (Pw v1) (some default))).bind fun v4=>((cond (((((v3==0)&&v4)&& (v2.1==0))&& (v2.2.1==60000))&&v2.2.2) (Jh v1 1) (some default))).bind fun v5=>((cond ((((((v3==0)&&v4)&& (v2.1==0))&& (v2.2.1==60000))&&v2.2.2)&& (v5==100000)) (Ks v1 0 10 5) (some default))).bind fun v6=>some (((((((v3==0)&&v4)&& (v2.1==0))&& (v2.2.1==60000))&&v2.2.2)&& (v5==100000))&& (v6==1500))
theorem Vz(r)(h:Gg=some r):PCall prog 14 [] (bo r):=by
 refine D7 (fk func14 ntmps14 (fun r=>if r==2 then [1001]else []) (by with_unfolding_all rfl)) (nl Z) ?_
 unfold Gg at h
 refine A7 (s0:=⟨T [],G []⟩) (E3 Z Z) ?_
 refine B8<|sv Z<|A1<|B8<|bs h fun v1 hv1 h=>D1 Z Z A6 (JV _ hv1) (.inl Z) (sm Z<|V6 Z G_hit (F2 v1) Z (A1<|B8<|sd Z (C6 Z G_hit Z Z)<|B6 (dl A4 [0]) Z Z (bs h fun _ hv2 h=>D1 Z Z A6 (FE _ _ _ _ hv2) (.inl Z) (sv Z<|sv Z<|sv Z<|sv Z<|sv Z<|sv Z<|sv Z<|A1<|B8<|sd Z (C6 Z G_hit Z Z)<|bs h fun _ hv3 h=>D1 Z Z A6 (Fu _ _ hv3) (.inl Z) (sv Z<|sv Z<|gt Z (fun _=>(C6 Z G_hit Z Z))<|bs h fun v4 hv4 h=> ?_)))))
 refine N0 _ (bo v4) (L5 Z) (fun w2=>⟨_,[(.d (.agg (N8 v1)))],_,_,(by simp only [A8 w2];rfl),Z,A6,JX _ _<|H4 w2 hv4,(.inl Z)⟩) ?_
 refine sa Z Z Z<|sv Z<|gt Z (fun _=>Z)<|gt Z (vb Z Z Z)<|sa Z Z Z<|sv Z<|gt Z (fun _=>Z)<|gt Z (vb Z Z Z)<|sa Z Z Z<|sv Z<|gt Z (fun _=>Z)<|sa Z Z Z<|sv Z<|gt Z (fun _=>(C6 Z G_hit Z Z))<|bs h fun v5 hv5 h=> ?_
 refine N0 _ (i64 v5) (L5 Z) (fun w9=>⟨_,[(.d (.agg (N8 v1))),(di 1)],_,_,(by simp only [A8 w9];rfl),Z,A6,CW _ _ _<|H4 w9 hv5,(.inl Z)⟩) ?_
 refine gt Z (vb Z Z Z)<|sa Z Z Z<|sv Z<|gt Z (fun _=>(C6 Z G_hit Z Z))<|bs h fun v6 hv6 h=> ?_
 refine N0 _ (i64 v6) (L5 Z) (fun w12=>⟨_,[(.d (.agg (N8 v1))),(di 0),(di 10),(di 5)],_,_,(by simp only [A8 w12];rfl),Z,A6,FH _ _ _ _ _<|H4 w12 hv6,(.inl Z)⟩) ?_
 refine gt Z (vb Z Z Z)<|sa Z Z Z<|sv Z<|A1<|B9 ?_
 cases h
 exact B4 (.inr Z) (C5 (C0 Z) D4) (.refl _)
end
end Go.Abs.Roadsz
