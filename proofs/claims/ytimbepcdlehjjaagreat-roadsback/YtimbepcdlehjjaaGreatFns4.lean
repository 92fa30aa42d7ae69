/-
  The functions, part 4.
-/
import Derived.Test.YtimbepcdlehjjaaGreatFns3
set_option maxRecDepth 20000
set_option maxHeartbeats 4000000
set_option linter.unusedVariables false
namespace Go.Abs.Roadsz
noncomputable section
open Go Go.Abs Go.Proofs Tryz
attribute [local irreducible] J6 Lx Ea
def M4 [Lp](p2:Int)(x1:((List Clash)×Int))(v1:Zone)(v3:Int)(v4:List Int)(x3:((List Clash)×Int)):Option (Stp ((List Clash)×Int) (List Clash)):=
  cond (decide (x3.2< (v4.length:Int))) ((F6 v4 x3.2).bind fun v5=>(Ds v1 v3 v5).bind fun v6=>cond v6 ((Bx x3.1 [(Clash.mk p2 x1.2 v3 v5)]).bind fun v7=>some (.go (v7,(I4 (x3.2+1))))) (some (.go (x3.1,(I4 (x3.2+1)))))) (some (.out x3.1))
def M5 [Lp](p2:Int)(x1:((List Clash)×Int))(v1:Zone)(v2:(List Int))(x2:((List Clash)×Int)):Option (Stp ((List Clash)×Int) (List Clash)):=
  cond (decide (x2.2< (v2.length:Int))) ((F6 v2 x2.2).bind fun v3=>(CX v2 (I4 (x2.2+1)) (v2.length:Int)).bind fun v4=>(loop (M4 p2 x1 v1 v3 v4) (x2.1,0)).bind fun y3=>some (.go (y3,(I4 (x2.2+1))))) (some (.out x2.1))
def M6 [Lp](p1:Map)(p2:Int)(x1:((List Clash)×Int)):Option (Stp ((List Clash)×Int) (List Clash)):=
  cond (decide (x1.2< (p1.Zones.length:Int))) ((F6 p1.Zones x1.2).bind fun v1=>(Aq p1 v1).bind fun v2=>(loop (M5 p2 x1 v1 v2) (x1.1,0)).bind fun y2=>some (.go (y2,(I4 (x1.2+1))))) (some (.out x1.1))
def P8 [Lp](p1:Map)(p2:Int):Option (List Clash):=
  (loop (M6 p1 p2) ([],0)).bind fun y1=>some y1
theorem Jm(p1 p2 r)(h:P8 p1 p2=some r):PCall prog 185 [(.agg (Q2 p1)),(i64 p2),(.fn (.func 186) [] [])] (.list (List.map J8 r)):=by
 refine E3 (fk func185 ntmps185 (fun r=>if r==12 then [1006]else []) (by with_unfolding_all rfl)) (nl Z) ?_
 unfold P8 at h
 refine A8 (s0:=⟨T [(0,(.d _)),(1,(.d _)),(2,(.d _))],G []⟩) (F5 Z Z) ?_
 refine lr<|fun u1 _=>sm Z<|sv Z<|A1<|A4<|C0<|sq Z<|sl Z G_hit Z<|sd Z (D2 Z)<|sv Z<|A1<|bs h fun y1 hy1 h=>D3 (fun s=> ∃g1:Nat,Sb ⟨T [(6,(oS y1 (53,g1)))],G [((53,g1),oB 93 4 J8 y1)]⟩ s) ?_ ?_
 refine A5<|D6 (M6 p1 p2) (fun (x1:((List Clash)×Int)) (g2:Nat)=>⟨T [(1,(di p2)),(2,(.d (.fn (.func 186) [] []))),(3,(.ptr (3,u1) 0)),(6,(oS x1.1 (53,g2))),(15,(dl K4 p1.Zones)),(16,(di (p1.Zones.length:Int))),(17,(di x1.2))],G [((3,u1),some<|.box 27 (F1 p1)),((53,g2),oB 93 4 J8 x1.1)]⟩) ([],0) 0 _ hy1 (B8 (K6 Z)<|A2 G_hit (.of Z)<|Q5 trivial) ?_
 intro x1 g2 z1 hz1 ez1
 unfold M6 at hz1
 refine C0<|sv Z<|A1<|A4<|cc Z hz1 (fun c1 hz1=> ?_)<|fun c1 hz1=> ?_
 refine B4<|A4<|A5<|lr<|fun u4 _=>sv Z<|bs hz1 fun v1 hv1 hz1=>sd Z (E7 Z Z hv1 Z)<|sd Z (E4 Z hv1 Z Z)<|sm Z<|sv Z<|X7 Z G_hit [(dl H5 v1.Parts),(di v1.Signal_)] Z (A1<|C0<|sd Z (C6 Z (gq Z) Z Z)<|sd Z (C6 Z G_hit Z Z)<|bs hz1 fun v2 hv2 hz1=>D1 Z Z A6 (Hb _ _ _ hv2) (.inl Z) (sv Z<|A1<|C0<|sv Z<|sd Z (D2 Z)<|sv Z<|A1<|bs hz1 fun y2 hy2 hz1=>D3 (fun s=> ∃g3:Nat,Sb ⟨T [(1,(di p2)),(2,(.d (.fn (.func 186) [] []))),(3,(.ptr (3,u1) 0)),(6,(oS y2 (53,g3))),(15,(dl K4 p1.Zones)),(16,(di (p1.Zones.length:Int))),(17,(di x1.2))],G [((3,u1),some<|.box 27 (F1 p1)),((53,g3),oB 93 4 J8 y2)]⟩ s) ?_ ?_))
 refine A5<|D6 (M5 p2 x1 v1 v2) (fun (x2:((List Clash)×Int)) (g4:Nat)=>⟨T [(1,(di p2)),(2,(.d (.fn (.func 186) [] []))),(3,(.ptr (3,u1) 0)),(6,(oS x2.1 (53,g4))),(7,(di x1.2)),(8,(.ptr (8,u4) 0)),(9,(dl A3 v2)),(15,(dl K4 p1.Zones)),(16,(di (p1.Zones.length:Int))),(17,(di x1.2)),(25,(dl A3 v2)),(26,(di (v2.length:Int))),(27,(di x2.2))],G [((3,u1),some<|.box 27 (F1 p1)),((8,u4),some<|.box 45 [(dl H5 v1.Parts),(di v1.Signal_)]),((53,g4),oB 93 4 J8 x2.1)]⟩) (x1.1,0) g2 _ hy2 (B8 (K6 Z)<|sg Z<|A2 G_hit (.of Z)<|B3 (gq Z) trivial) ?_
 intro x2 g4 z2 hz2 ez2
 unfold M5 at hz2
 refine C0<|sv Z<|A1<|A4<|cc Z hz2 (fun c2 hz2=> ?_)<|fun c2 hz2=> ?_
 refine B4<|A4<|A5<|C0<|sv Z<|bs hz2 fun v3 hv3 hz2=>sd Z (E7 Z Z hv3 Z)<|sd Z (G7 Z hv3 Z)<|sv Z<|sv Z<|A1<|C0<|sv Z<|sv Z<|sv Z<|bs hz2 fun v4 hv4 hz2=>sd Z (HK Z (fun _=>Z) (QV Z) AP hv4)<|sd Z (D2 Z)<|sv Z<|A1<|bs hz2 fun y3 hy3 hz2=>D3 (fun s=> ∃g5:Nat,Sb ⟨T [(1,(di p2)),(2,(.d (.fn (.func 186) [] []))),(3,(.ptr (3,u1) 0)),(6,(oS y3 (53,g5))),(7,(di x1.2)),(8,(.ptr (8,u4) 0)),(9,(dl A3 v2)),(15,(dl K4 p1.Zones)),(16,(di (p1.Zones.length:Int))),(17,(di x1.2)),(25,(dl A3 v2)),(26,(di (v2.length:Int))),(27,(di x2.2))],G [((3,u1),some<|.box 27 (F1 p1)),((8,u4),some<|.box 45 [(dl H5 v1.Parts),(di v1.Signal_)]),((53,g5),oB 93 4 J8 y3)]⟩ s) ?_ ?_
 refine A5<|D6 (M4 p2 x1 v1 v3 v4) (fun (x3:((List Clash)×Int)) (g6:Nat)=>⟨T [(1,(di p2)),(2,(.d (.fn (.func 186) [] []))),(3,(.ptr (3,u1) 0)),(6,(oS x3.1 (53,g6))),(7,(di x1.2)),(8,(.ptr (8,u4) 0)),(9,(dl A3 v2)),(11,(di v3)),(15,(dl K4 p1.Zones)),(16,(di (p1.Zones.length:Int))),(17,(di x1.2)),(25,(dl A3 v2)),(26,(di (v2.length:Int))),(27,(di x2.2)),(35,(dl A3 v4)),(36,(di (v4.length:Int))),(37,(di x3.2))],G [((3,u1),some<|.box 27 (F1 p1)),((8,u4),some<|.box 45 [(dl H5 v1.Parts),(di v1.Signal_)]),((53,g6),oB 93 4 J8 x3.1)]⟩) (x2.1,0) g4 _ hy3 (B8 (K6 Z)<|A2 G_hit (.of Z)<|sg Z<|B3 (gq Z) trivial) ?_
 intro x3 g6 z3 hz3 ez3
 unfold M4 at hz3
 refine C0<|sv Z<|A1<|A4<|cc Z hz3 (fun c3 hz3=> ?_)<|fun c3 hz3=> ?_
 refine B4<|A4<|A5<|C0<|bs hz3 fun v5 hv5 hz3=>sd Z (E7 Z Z hv5 Z)<|sd Z (G7 Z hv5 Z)<|sv Z<|A1<|C0<|sv Z<|sd Z (C6 Z (gq Z) Z Z)<|sv Z<|sv Z<|bs hz3 fun _ hv6 hz3=>D1 Z Z A6 (Tt _ _ _ _ hv6) (.inl Z) (A1<|cc Z hz3 (fun c4 hz3=> ?_)<|fun c4 hz3=> ?_)
 refine A8 (s0:=⟨T [(1,(di p2)),(2,(.d (.fn (.func 186) [] []))),(3,(.ptr (3,u1) 0)),(6,(oS x3.1 (53,g6))),(7,(di x1.2)),(8,(.ptr (8,u4) 0)),(9,(dl A3 v2)),(11,(di v3)),(13,(di v5)),(15,(dl K4 p1.Zones)),(16,(di (p1.Zones.length:Int))),(17,(di x1.2)),(25,(dl A3 v2)),(26,(di (v2.length:Int))),(27,(di x2.2)),(35,(dl A3 v4)),(36,(di (v4.length:Int))),(37,(di x3.2))],G [((3,u1),some<|.box 27 (F1 p1)),((53,g6),oB 93 4 J8 x3.1),((8,u4),some<|.box 45 [(dl H5 v1.Parts),(di v1.Signal_)])]⟩) (B8 (K6 Z)<|A2 G_hit (.of Z)<|B3 (gq Z)<|sg Z trivial) ?_
 refine T8 fun u13 _=>B6 (oS x3.1 (53,g6)) Z Z (sv Z<|sv Z<|sv Z<|sv Z<|sv Z<|B6 (dl J8 [(Clash.mk p2 x1.2 v3 v5)]) Z Z (bs hz3 fun _ hv7 hz3=>J3 J8 (53,g6) x3.1 (Clash.mk p2 x1.2 v3 v5) [] _ (I0<|fun _=>Z) Z (gq Z) hv7 (ss Z<|A1<|D8<|A8 (s0:=⟨T [(1,(.d _)),(2,(.d _)),(3,(.ptr _ _)),(6,(.sl _)),(7,(.d _)),(8,(.ptr _ _)),(9,(.d _)),(11,(.d _)),(15,(.d _)),(16,(.d _)),(17,(.d _)),(25,(.d _)),(26,(.d _)),(27,(.d _)),(35,(.d _)),(36,(.d _)),(37,(.d _))],G [((3,u1),some<|.box 27 _),((53,u13),some _),((8,u4),some<|.box 45 _)]⟩) (F5 Z Z) ?_)))
 refine B5<|sv Z<|sv Z<|A1<|D9 ?_
 cases hz3
 exact ⟨Z,u13,(B8 ⟨.of Z, .of Z, .of Z,(.of (Q3<|N5 hv7).symm), .of Z, .of Z, .of Z, .of Z, .of Z, .of Z, .of Z, .of Z, .of Z, .of Z, .of Z, .of Z, .of Z,trivial⟩<|A2 G_hit (.of Z)<|sg Z<|I7 (gq Z) trivial)⟩
 refine B4<|D8<|A8 (s0:=⟨T [(1,(di p2)),(2,(.d (.fn (.func 186) [] []))),(3,(.ptr (3,u1) 0)),(6,(oS x3.1 (53,g6))),(7,(di x1.2)),(8,(.ptr (8,u4) 0)),(9,(dl A3 v2)),(11,(di v3)),(15,(dl K4 p1.Zones)),(16,(di (p1.Zones.length:Int))),(17,(di x1.2)),(25,(dl A3 v2)),(26,(di (v2.length:Int))),(27,(di x2.2)),(35,(dl A3 v4)),(36,(di (v4.length:Int))),(37,(di x3.2))],G [((3,u1),some<|.box 27 (F1 p1)),((53,g6),oB 93 4 J8 x3.1),((8,u4),some<|.box 45 [(dl H5 v1.Parts),(di v1.Signal_)])]⟩) (B8 (K6 Z)<|A2 G_hit (.of Z)<|B3 (gq Z)<|sg Z trivial) ?_
 refine B5<|sv Z<|sv Z<|A1<|D9 ?_
 cases hz3
 exact ⟨Z,g6,(B8 (K6 Z)<|A2 G_hit (.of Z)<|sg Z<|B3 (gq Z) trivial)⟩
 refine C4 Z ?_
 cases hz3
 obtain rfl:=ez3 _ rfl
 refine ⟨nofun,C3 Z<|V2 ?_⟩
 exact ⟨g6,(B8 (K6 Z)<|A2 G_hit (.of Z)<|sg Z<|B3 (gq Z) trivial)⟩
 rintro _ ⟨g5,q1⟩
 refine D8<|A8 q1<|B5<|sv Z<|sv Z<|A1<|D9 ?_
 cases hz2
 exact ⟨Z,g5,(B8 (K6 Z)<|A2 G_hit (.of Z)<|sg Z<|B3 (gq Z) trivial)⟩
 refine C4 Z ?_
 cases hz2
 obtain rfl:=ez2 _ rfl
 refine ⟨nofun,C3 Z<|V2 ?_⟩
 exact ⟨g4,(B8 (K6 Z)<|A2 G_hit (.of Z)<|B3 (gq Z) trivial)⟩
 rintro _ ⟨g3,q2⟩
 refine D8<|A8 q2<|B5<|sv Z<|sv Z<|A1<|D9 ?_
 cases hz1
 exact ⟨Z,g3,(B8 (K6 Z)<|A2 G_hit (.of Z)<|B3 (gq Z) trivial)⟩
 refine C4 Z ?_
 cases hz1
 obtain rfl:=ez1 _ rfl
 refine ⟨nofun,C3 Z<|V2 ?_⟩
 exact ⟨g2,(B8 ⟨.of Z,trivial⟩<|B3 (gq Z) trivial)⟩
 rintro _ ⟨g1,q3⟩
 refine A8 q3<|C0<|B6 (oS y1 (53,g1)) Z Z (B6 (oS y1 (53,g1)) Z Z (A1<|C1 ?_))
 cases h
 exact B9 (.inr Z) (C5 (C2 Z)<|Ct G_hit) Cs
def Ga [Lp](p1:Map):Option (List Clash):=
  (P8 p1 3).bind fun v1=>some v1
theorem Xb(p1 r)(h:Ga p1=some r):PCall prog 79 [(.agg (Q2 p1))] (.list (List.map J8 r)):=by
 refine E3 (fk func79 ntmps79 m0 (by with_unfolding_all rfl)) (nl Z) ?_
 unfold Ga at h
 refine A8 (s0:=⟨T [(0,(.d _))],G []⟩) (F5 Z Z) ?_
 refine C0<|sm Z<|sv Z<|A1<|C0<|sd Z (C6 Z G_hit Z Z)<|bs h fun _ hv1 h=>D1 Z Z A6 (Jm _ _ _ hv1) (.inl Z) (sv Z<|A1<|C1 ?_)
 cases h
 exact B9 (.inr Z) (C5 (C2 Z) D7) (.refl _)
def U5 [Lp](p1:Phase)(p2:Int)(p3:Int):Option Bool:=
  (L3 p1.Green p2).bind fun v1=>((cond v1 (L3 p1.Green p3) (some default))).bind fun v2=>some (v1&&v2)
theorem Mv(p1 p2 p3 r)(h:U5 p1 p2 p3=some r):PCall prog 188 [(.agg [(i64 p1.Ticks),(.list (List.map A3 p1.Green))]),(.bp [(i64 p2)] 0),(.bp [(i64 p3)] 0)] (bo r):=by
 refine E3 (fk func188 ntmps188 m0 (by with_unfolding_all rfl)) (nl Z) ?_
 unfold U5 at h
 refine A8 (s0:=⟨T [(0,(.d _)),(1,(.d _)),(2,(.d _))],G []⟩) (F5 Z Z) ?_
 refine C0<|sm Z<|sv Z<|A1<|C0<|sq Z<|sl Z G_hit Z<|sv Z<|bs h fun v1 hv1 h=>D1 Z Z A6 (V6 _ _ _ hv1) (.inl Z) (sv Z<|gp Z (K0 Z) (fun _=>Z) (gt Z (vl Z G_hit Z)<|gt Z (fun _=>Z)<|bs h fun v2 hv2 h=> ?_))
 refine P4 v1 (bo v2) (K0 Z) (fun w4=>⟨_,[(dl A3 p1.Green),(di p3)],_,_,(by simp only [A9 w4];rfl),Z,A6,V6 _ _ _<|K2 w4 hv2,(.inl Z)⟩) ?_
 refine sa Z Z Z<|sv Z<|A1<|C1 ?_
 cases h
 exact B9 (.inr Z) (C5 (C2 Z) D7) (.refl _)
def F3 [Lp](p1:(List Phase))(p2:Int)(p3:Int)(x1:Int):Option (Stp Int (Sum Unit Int)):=
  cond (decide (x1< (p1.length:Int))) ((F6 p1 x1).bind fun v1=>(U5 v1 p2 p3).bind fun v2=>cond v2 (some (.out (.inr x1))) (some (.go (I4 (x1+1))))) (some (.out (.inl ())))
def F9 [Lp](p1:(List Phase))(p2:Int)(p3:Int):Option Int:=
  thenS (loop (F3 p1 p2 p3) 0) (fun _=>some (-1)) (fun r=>some r)
theorem Bd(p1 p2 p3 r)(h:F9 p1 p2 p3=some r):PCall prog 237 [(.list (List.map L4 p1)),(.fn (.func 188) [] [(.bp [(i64 p2)] 0),(.bp [(i64 p3)] 0)])] (i64 r):=by
 refine E3 (fk func237 ntmps237 m0 (by with_unfolding_all rfl)) (nl Z) ?_
 unfold F9 at h
 refine A8 (s0:=⟨T [(0,(.d _)),(1,(.d _))],G []⟩) (F5 Z Z) ?_
 refine C0<|sv Z<|A1<|A4<|C0<|sv Z<|sd Z (D2 Z)<|sv Z<|A1<|js h fun z1 hz1 h=>D3 (fun s=> ∃(y1:Unit) (g1:Unit),z1= .inl y1∧Sb ⟨T [],G []⟩ s) ?_ ?_
 refine A5<|D6 (F3 p1 p2 p3) (fun (x1:Int) (g2:Unit)=>⟨T [(0,(dl L4 p1)),(1,(.d (.fn (.func 188) [] [(.bp [(i64 p2)] 0),(.bp [(i64 p3)] 0)]))),(7,(di (p1.length:Int))),(8,(di x1))],G []⟩) 0 () _ hz1 (F5 Z Z) ?_
 intro x1 g2 z2 hz2 ez2
 unfold F3 at hz2
 refine C0<|sv Z<|A1<|A4<|cc Z hz2 (fun c1 hz2=> ?_)<|fun c1 hz2=> ?_
 refine B4<|A4<|A5<|C0<|sv Z<|sv Z<|A1<|C0<|sv Z<|sv Z<|sv Z<|bs hz2 fun _ hv1 hz2=>sd Z (E7 Z Z hv1 Z)<|sd Z (E4 Z hv1 Z Z)<|bs hz2 fun _ hv2 hz2=>D1 Z Z A6 (Mv _ _ _ _ hv2) (.inl Z) (A1<|cc Z hz2 (fun c2 hz2=> ?_)<|fun c2 hz2=> ?_)
 refine C0<|sv Z<|sv Z<|A1<|C1 ?_
 cases hz2
 obtain rfl:=ez2 _ rfl
 refine ⟨nofun,H7 ?_⟩
 rw [bP]at h
 cases h
 exact B9 (.inr Z) (C5 (C2 Z) D7) (.refl _)
 refine B4<|D8<|B5<|sv Z<|sv Z<|A1<|D9 ?_
 cases hz2
 exact ⟨Z,(),(F5 Z Z)⟩
 refine C4 Z ?_
 cases hz2
 obtain rfl:=ez2 _ rfl
 refine ⟨nofun,C3 Z<|V2 ?_⟩
 exact ⟨_,(),Z,(F5 Z Z)⟩
 rintro _ ⟨y1,g1,rfl,q1⟩
 rw [bO]at h
 refine A8 q1<|C0<|sv Z<|A1<|C1 ?_
 cases h
 exact B9 (.inr Z) (C5 (C2 Z) D7) (.refl _)
def F4 [Lp](p1:(List Phase))(p2:Int)(p3:Int):Option Bool:=
  (F9 p1 p2 p3).bind fun v1=>some (decide (v1≥0))
theorem Af(p1 p2 p3 r)(h:F4 p1 p2 p3=some r):PCall prog 172 [(.list (List.map L4 p1)),(.fn (.func 188) [] [(.bp [(i64 p2)] 0),(.bp [(i64 p3)] 0)])] (bo r):=by
 refine E3 (fk func172 ntmps172 m0 (by with_unfolding_all rfl)) (nl Z) ?_
 unfold F4 at h
 refine A8 (s0:=⟨T [(0,(.d _)),(1,(.d _))],G []⟩) (F5 Z Z) ?_
 refine C0<|sv Z<|A1<|C0<|sv Z<|sv Z<|bs h fun _ hv1 h=>D1 Z Z A6 (Bd _ _ _ _ hv1) (.inl Z) (sv Z<|sv Z<|A1<|C1 ?_)
 cases h
 exact B9 (.inr Z) (C5 (C2 Z) D7) (.refl _)
def X2 [Lp](p1:Zone)(p2:Int)(p3:Int)(p4:Map):Option Bool:=
  ((cond (decide (p1.Signal_>0)) (F6 p4.Signals (I4 (p1.Signal_ - 1))) (some default))).bind fun v1=>((cond (decide (p1.Signal_>0)) (F4 v1.Phases p2 p3) (some default))).bind fun v2=>some ((decide (p1.Signal_>0))&&v2)
theorem Jp(p1 p2 p3 p4 r)(h:X2 p1 p2 p3 p4=some r):PCall prog 187 [(.agg [(.list (List.map H5 p1.Parts)),(i64 p1.Signal_)]),(i64 p2),(i64 p3),(.bp (Q2 p4) 0)] (bo r):=by
 refine E3 (fk func187 ntmps187 m0 (by with_unfolding_all rfl)) (nl Z) ?_
 unfold X2 at h
 refine A8 (s0:=⟨T [(0,(.d _)),(1,(.d _)),(2,(.d _)),(3,(.d _))],G []⟩) (F5 Z Z) ?_
 refine lr<|fun u1 _=>sm Z<|sm Z<|sn Z Z<|sv Z<|A1<|C0<|sq Z<|sl Z (gq Z) Z (sv Z<|sv Z<|gt Z (fun _=>Z) ?_)
 refine gt Z (fun w2=>(by simp only [A9 w2];rfl)) ?_
 refine gp Z (K0 Z) (fun _=>Z) (gt Z (vl Z (gq Z) Z)<|gt Z (vb Z Z Z)<|bs h fun v1 hv1 h=>gt Z (fun w6=>(E7 (A9 w6) (A9 w6) (K2 w6 hv1) Z)) ?_)
 refine gt Z (fun w7=>(by simp only [A9 w7];rfl)) ?_
 refine gt Z (fun w8=>(G7 (A9 w8) (K2 w8 hv1) Z))<|R8 _ (.fn _ _ _) Z (K0 Z) (fun _=>Z) (bs h fun v2 hv2 h=> ?_)
 refine P4 _ (bo v2) (K0 Z) (fun w10=>⟨_,[(dl L4 v1.Phases),(.fn (.func 188) [] [(.ptr (5,u1) 0),(.ptr (6,u1) 0)])],_,_,(by simp only [A9 w10];rfl),(rD<|O7 (Zd N4<|O7 (Lz (gq Z)<|rD N4)<|O7 (Lz G_hit<|rD N4) N4) N4),A6,Af _ _ _ _<|K2 w10 hv2,(.inr Z)⟩) ?_
 refine sa Z Z Z<|sv Z<|A1<|C1 ?_
 cases h
 exact B9 (.inr Z) (C5 (C2 Z) D7) (.refl _)
def X3 [Lp](p2:Int)(p3:Map)(x1:((List Clash)×Int))(v1:Zone)(v3:Int)(v4:List Int)(x3:((List Clash)×Int)):Option (Stp ((List Clash)×Int) (List Clash)):=
  cond (decide (x3.2< (v4.length:Int))) ((F6 v4 x3.2).bind fun v5=>(X2 v1 v3 v5 p3).bind fun v6=>cond v6 ((Bx x3.1 [(Clash.mk p2 x1.2 v3 v5)]).bind fun v7=>some (.go (v7,(I4 (x3.2+1))))) (some (.go (x3.1,(I4 (x3.2+1)))))) (some (.out x3.1))
def X4 [Lp](p2:Int)(p3:Map)(x1:((List Clash)×Int))(v1:Zone)(v2:(List Int))(x2:((List Clash)×Int)):Option (Stp ((List Clash)×Int) (List Clash)):=
  cond (decide (x2.2< (v2.length:Int))) ((F6 v2 x2.2).bind fun v3=>(CX v2 (I4 (x2.2+1)) (v2.length:Int)).bind fun v4=>(loop (X3 p2 p3 x1 v1 v3 v4) (x2.1,0)).bind fun y3=>some (.go (y3,(I4 (x2.2+1))))) (some (.out x2.1))
def X5 [Lp](p1:Map)(p2:Int)(p3:Map)(x1:((List Clash)×Int)):Option (Stp ((List Clash)×Int) (List Clash)):=
  cond (decide (x1.2< (p1.Zones.length:Int))) ((F6 p1.Zones x1.2).bind fun v1=>(Aq p1 v1).bind fun v2=>(loop (X4 p2 p3 x1 v1 v2) (x1.1,0)).bind fun y2=>some (.go (y2,(I4 (x1.2+1))))) (some (.out x1.1))
def Dz [Lp](p1:Map)(p2:Int)(p3:Map):Option (List Clash):=
  (loop (X5 p1 p2 p3) ([],0)).bind fun y1=>some y1
theorem Tu(p1 p2 p3 r)(h:Dz p1 p2 p3=some r):PCall prog 185 [(.agg (Q2 p1)),(i64 p2),(.fn (.func 187) [] [(.bp (Q2 p3) 0)])] (.list (List.map J8 r)):=by
 refine E3 (fk func185 ntmps185 (fun r=>if r==12 then [1006]else []) (by with_unfolding_all rfl)) (nl Z) ?_
 unfold Dz at h
 refine A8 (s0:=⟨T [(0,(.d _)),(1,(.d _)),(2,(.d _))],G []⟩) (F5 Z Z) ?_
 refine lr<|fun u1 _=>sm Z<|sv Z<|A1<|A4<|C0<|sq Z<|sl Z G_hit Z<|sd Z (D2 Z)<|sv Z<|A1<|bs h fun y1 hy1 h=>D3 (fun s=> ∃g1:Nat,Sb ⟨T [(6,(oS y1 (53,g1)))],G [((53,g1),oB 93 4 J8 y1)]⟩ s) ?_ ?_
 refine A5<|D6 (X5 p1 p2 p3) (fun (x1:((List Clash)×Int)) (g2:Nat)=>⟨T [(1,(di p2)),(2,(.d (.fn (.func 187) [] [(.bp (Q2 p3) 0)]))),(3,(.ptr (3,u1) 0)),(6,(oS x1.1 (53,g2))),(15,(dl K4 p1.Zones)),(16,(di (p1.Zones.length:Int))),(17,(di x1.2))],G [((3,u1),some<|.box 27 (F1 p1)),((53,g2),oB 93 4 J8 x1.1)]⟩) ([],0) 0 _ hy1 (B8 (K6 Z)<|A2 G_hit (.of Z)<|Q5 trivial) ?_
 intro x1 g2 z1 hz1 ez1
 unfold X5 at hz1
 refine C0<|sv Z<|A1<|A4<|cc Z hz1 (fun c1 hz1=> ?_)<|fun c1 hz1=> ?_
 refine B4<|A4<|A5<|lr<|fun u4 _=>sv Z<|bs hz1 fun v1 hv1 hz1=>sd Z (E7 Z Z hv1 Z)<|sd Z (E4 Z hv1 Z Z)<|sm Z<|sv Z<|X7 Z G_hit [(dl H5 v1.Parts),(di v1.Signal_)] Z (A1<|C0<|sd Z (C6 Z (gq Z) Z Z)<|sd Z (C6 Z G_hit Z Z)<|bs hz1 fun v2 hv2 hz1=>D1 Z Z A6 (Hb _ _ _ hv2) (.inl Z) (sv Z<|A1<|C0<|sv Z<|sd Z (D2 Z)<|sv Z<|A1<|bs hz1 fun y2 hy2 hz1=>D3 (fun s=> ∃g3:Nat,Sb ⟨T [(1,(di p2)),(2,(.d (.fn (.func 187) [] [(.bp (Q2 p3) 0)]))),(3,(.ptr (3,u1) 0)),(6,(oS y2 (53,g3))),(15,(dl K4 p1.Zones)),(16,(di (p1.Zones.length:Int))),(17,(di x1.2))],G [((3,u1),some<|.box 27 (F1 p1)),((53,g3),oB 93 4 J8 y2)]⟩ s) ?_ ?_))
 refine A5<|D6 (X4 p2 p3 x1 v1 v2) (fun (x2:((List Clash)×Int)) (g4:Nat)=>⟨T [(1,(di p2)),(2,(.d (.fn (.func 187) [] [(.bp (Q2 p3) 0)]))),(3,(.ptr (3,u1) 0)),(6,(oS x2.1 (53,g4))),(7,(di x1.2)),(8,(.ptr (8,u4) 0)),(9,(dl A3 v2)),(15,(dl K4 p1.Zones)),(16,(di (p1.Zones.length:Int))),(17,(di x1.2)),(25,(dl A3 v2)),(26,(di (v2.length:Int))),(27,(di x2.2))],G [((3,u1),some<|.box 27 (F1 p1)),((8,u4),some<|.box 45 [(dl H5 v1.Parts),(di v1.Signal_)]),((53,g4),oB 93 4 J8 x2.1)]⟩) (x1.1,0) g2 _ hy2 (B8 (K6 Z)<|sg Z<|A2 G_hit (.of Z)<|B3 (gq Z) trivial) ?_
 intro x2 g4 z2 hz2 ez2
 unfold X4 at hz2
 refine C0<|sv Z<|A1<|A4<|cc Z hz2 (fun c2 hz2=> ?_)<|fun c2 hz2=> ?_
 refine B4<|A4<|A5<|C0<|sv Z<|bs hz2 fun v3 hv3 hz2=>sd Z (E7 Z Z hv3 Z)<|sd Z (G7 Z hv3 Z)<|sv Z<|sv Z<|A1<|C0<|sv Z<|sv Z<|sv Z<|bs hz2 fun v4 hv4 hz2=>sd Z (HK Z (fun _=>Z) (QV Z) AP hv4)<|sd Z (D2 Z)<|sv Z<|A1<|bs hz2 fun y3 hy3 hz2=>D3 (fun s=> ∃g5:Nat,Sb ⟨T [(1,(di p2)),(2,(.d (.fn (.func 187) [] [(.bp (Q2 p3) 0)]))),(3,(.ptr (3,u1) 0)),(6,(oS y3 (53,g5))),(7,(di x1.2)),(8,(.ptr (8,u4) 0)),(9,(dl A3 v2)),(15,(dl K4 p1.Zones)),(16,(di (p1.Zones.length:Int))),(17,(di x1.2)),(25,(dl A3 v2)),(26,(di (v2.length:Int))),(27,(di x2.2))],G [((3,u1),some<|.box 27 (F1 p1)),((8,u4),some<|.box 45 [(dl H5 v1.Parts),(di v1.Signal_)]),((53,g5),oB 93 4 J8 y3)]⟩ s) ?_ ?_
 refine A5<|D6 (X3 p2 p3 x1 v1 v3 v4) (fun (x3:((List Clash)×Int)) (g6:Nat)=>⟨T [(1,(di p2)),(2,(.d (.fn (.func 187) [] [(.bp (Q2 p3) 0)]))),(3,(.ptr (3,u1) 0)),(6,(oS x3.1 (53,g6))),(7,(di x1.2)),(8,(.ptr (8,u4) 0)),(9,(dl A3 v2)),(11,(di v3)),(15,(dl K4 p1.Zones)),(16,(di (p1.Zones.length:Int))),(17,(di x1.2)),(25,(dl A3 v2)),(26,(di (v2.length:Int))),(27,(di x2.2)),(35,(dl A3 v4)),(36,(di (v4.length:Int))),(37,(di x3.2))],G [((3,u1),some<|.box 27 (F1 p1)),((8,u4),some<|.box 45 [(dl H5 v1.Parts),(di v1.Signal_)]),((53,g6),oB 93 4 J8 x3.1)]⟩) (x2.1,0) g4 _ hy3 (B8 (K6 Z)<|A2 G_hit (.of Z)<|sg Z<|B3 (gq Z) trivial) ?_
 intro x3 g6 z3 hz3 ez3
 unfold X3 at hz3
 refine C0<|sv Z<|A1<|A4<|cc Z hz3 (fun c3 hz3=> ?_)<|fun c3 hz3=> ?_
 refine B4<|A4<|A5<|C0<|bs hz3 fun v5 hv5 hz3=>sd Z (E7 Z Z hv5 Z)<|sd Z (G7 Z hv5 Z)<|sv Z<|A1<|C0<|sv Z<|sd Z (C6 Z (gq Z) Z Z)<|sv Z<|sv Z<|bs hz3 fun _ hv6 hz3=>D1 Z Z A6 (Jp _ _ _ _ _ hv6) (.inl Z) (A1<|cc Z hz3 (fun c4 hz3=> ?_)<|fun c4 hz3=> ?_)
 refine A8 (s0:=⟨T [(1,(di p2)),(2,(.d (.fn (.func 187) [] [(.bp (Q2 p3) 0)]))),(3,(.ptr (3,u1) 0)),(6,(oS x3.1 (53,g6))),(7,(di x1.2)),(8,(.ptr (8,u4) 0)),(9,(dl A3 v2)),(11,(di v3)),(13,(di v5)),(15,(dl K4 p1.Zones)),(16,(di (p1.Zones.length:Int))),(17,(di x1.2)),(25,(dl A3 v2)),(26,(di (v2.length:Int))),(27,(di x2.2)),(35,(dl A3 v4)),(36,(di (v4.length:Int))),(37,(di x3.2))],G [((3,u1),some<|.box 27 (F1 p1)),((53,g6),oB 93 4 J8 x3.1),((8,u4),some<|.box 45 [(dl H5 v1.Parts),(di v1.Signal_)])]⟩) (B8 (K6 Z)<|A2 G_hit (.of Z)<|B3 (gq Z)<|sg Z trivial) ?_
 refine T8 fun u13 _=>B6 (oS x3.1 (53,g6)) Z Z (sv Z<|sv Z<|sv Z<|sv Z<|sv Z<|B6 (dl J8 [(Clash.mk p2 x1.2 v3 v5)]) Z Z (bs hz3 fun _ hv7 hz3=>J3 J8 (53,g6) x3.1 (Clash.mk p2 x1.2 v3 v5) [] _ (I0<|fun _=>Z) Z (gq Z) hv7 (ss Z<|A1<|D8<|A8 (s0:=⟨T [(1,(.d _)),(2,(.d _)),(3,(.ptr _ _)),(6,(.sl _)),(7,(.d _)),(8,(.ptr _ _)),(9,(.d _)),(11,(.d _)),(15,(.d _)),(16,(.d _)),(17,(.d _)),(25,(.d _)),(26,(.d _)),(27,(.d _)),(35,(.d _)),(36,(.d _)),(37,(.d _))],G [((3,u1),some<|.box 27 _),((53,u13),some _),((8,u4),some<|.box 45 _)]⟩) (F5 Z Z) ?_)))
 refine B5<|sv Z<|sv Z<|A1<|D9 ?_
 cases hz3
 exact ⟨Z,u13,(B8 ⟨.of Z, .of Z, .of Z,(.of (Q3<|N5 hv7).symm), .of Z, .of Z, .of Z, .of Z, .of Z, .of Z, .of Z, .of Z, .of Z, .of Z, .of Z, .of Z, .of Z,trivial⟩<|A2 G_hit (.of Z)<|sg Z<|I7 (gq Z) trivial)⟩
 refine B4<|D8<|A8 (s0:=⟨T [(1,(di p2)),(2,(.d (.fn (.func 187) [] [(.bp (Q2 p3) 0)]))),(3,(.ptr (3,u1) 0)),(6,(oS x3.1 (53,g6))),(7,(di x1.2)),(8,(.ptr (8,u4) 0)),(9,(dl A3 v2)),(11,(di v3)),(15,(dl K4 p1.Zones)),(16,(di (p1.Zones.length:Int))),(17,(di x1.2)),(25,(dl A3 v2)),(26,(di (v2.length:Int))),(27,(di x2.2)),(35,(dl A3 v4)),(36,(di (v4.length:Int))),(37,(di x3.2))],G [((3,u1),some<|.box 27 (F1 p1)),((53,g6),oB 93 4 J8 x3.1),((8,u4),some<|.box 45 [(dl H5 v1.Parts),(di v1.Signal_)])]⟩) (B8 (K6 Z)<|A2 G_hit (.of Z)<|B3 (gq Z)<|sg Z trivial) ?_
 refine B5<|sv Z<|sv Z<|A1<|D9 ?_
 cases hz3
 exact ⟨Z,g6,(B8 (K6 Z)<|A2 G_hit (.of Z)<|sg Z<|B3 (gq Z) trivial)⟩
 refine C4 Z ?_
 cases hz3
 obtain rfl:=ez3 _ rfl
 refine ⟨nofun,C3 Z<|V2 ?_⟩
 exact ⟨g6,(B8 (K6 Z)<|A2 G_hit (.of Z)<|sg Z<|B3 (gq Z) trivial)⟩
 rintro _ ⟨g5,q1⟩
 refine D8<|A8 q1<|B5<|sv Z<|sv Z<|A1<|D9 ?_
 cases hz2
 exact ⟨Z,g5,(B8 (K6 Z)<|A2 G_hit (.of Z)<|sg Z<|B3 (gq Z) trivial)⟩
 refine C4 Z ?_
 cases hz2
 obtain rfl:=ez2 _ rfl
 refine ⟨nofun,C3 Z<|V2 ?_⟩
 exact ⟨g4,(B8 (K6 Z)<|A2 G_hit (.of Z)<|B3 (gq Z) trivial)⟩
 rintro _ ⟨g3,q2⟩
 refine D8<|A8 q2<|B5<|sv Z<|sv Z<|A1<|D9 ?_
 cases hz1
 exact ⟨Z,g3,(B8 (K6 Z)<|A2 G_hit (.of Z)<|B3 (gq Z) trivial)⟩
 refine C4 Z ?_
 cases hz1
 obtain rfl:=ez1 _ rfl
 refine ⟨nofun,C3 Z<|V2 ?_⟩
 exact ⟨g2,(B8 ⟨.of Z,trivial⟩<|B3 (gq Z) trivial)⟩
 rintro _ ⟨g1,q3⟩
 refine A8 q3<|C0<|B6 (oS y1 (53,g1)) Z Z (B6 (oS y1 (53,g1)) Z Z (A1<|C1 ?_))
 cases h
 exact B9 (.inr Z) (C5 (C2 Z)<|Ct G_hit) Cs
def L8 [Lp](p2:Int)(p3:Map)(x1:((List Clash)×Int))(v1:Zone)(v3:Int)(v4:List Int)(x3:((List Clash)×Int)):Option (Stp ((List Clash)×Int) (List Clash)):=
  cond (decide (x3.2< (v4.length:Int))) ((F6 v4 x3.2).bind fun v5=>(X2 v1 v3 v5 p3).bind fun v6=>cond v6 ((Bx x3.1 [(Clash.mk p2 x1.2 v3 v5)]).bind fun v7=>some (.go (v7,(I4 (x3.2+1))))) (some (.go (x3.1,(I4 (x3.2+1)))))) (some (.out x3.1))
def L9 [Lp](p2:Int)(p3:Map)(x1:((List Clash)×Int))(v1:Zone)(v2:(List Int))(x2:((List Clash)×Int)):Option (Stp ((List Clash)×Int) (List Clash)):=
  cond (decide (x2.2< (v2.length:Int))) ((F6 v2 x2.2).bind fun v3=>(CX v2 (I4 (x2.2+1)) (v2.length:Int)).bind fun v4=>(loop (L8 p2 p3 x1 v1 v3 v4) (x2.1,0)).bind fun y3=>some (.go (y3,(I4 (x2.2+1))))) (some (.out x2.1))
def M0 [Lp](p1:Map)(p2:Int)(p3:Map)(x1:((List Clash)×Int)):Option (Stp ((List Clash)×Int) (List Clash)):=
  cond (decide (x1.2< (p1.Zones.length:Int))) ((F6 p1.Zones x1.2).bind fun v1=>(Aq p1 v1).bind fun v2=>(loop (L9 p2 p3 x1 v1 v2) (x1.1,0)).bind fun y2=>some (.go (y2,(I4 (x1.2+1))))) (some (.out x1.1))
def N8 [Lp](p1:Map)(p2:Int)(p3:Map):Option (List Clash):=
  (loop (M0 p1 p2 p3) ([],0)).bind fun y1=>some y1
theorem Hc(p1 p2 p3 r)(h:N8 p1 p2 p3=some r):MCall prog 185 [(.d (.agg (Q2 p1))),(di p2),(.fn (.func 187) [] [(.ptr (900000,0) 0)])] [(.box 27 (F1 p3))] (dl J8 r) [some (.box 27 (F1 p3))] []:=by
 refine X8 (fk func185 ntmps185 (fun r=>if r==12 then [1006]else []) (by with_unfolding_all rfl)) Z (nl Z) ?_
 unfold N8 at h
 refine A8 (s0:=⟨T [(0,(.d _)),(1,(.d _)),(2,(.fn _ _ _))],G [((900000,0),some<|.box 27 _)]⟩) (F5 Z Z) ?_
 refine lr<|fun u1 _=>sm Z<|sv Z<|A1<|A4<|C0<|sq Z<|sl Z G_hit Z<|sd Z (D2 Z)<|sv Z<|A1<|bs h fun y1 hy1 h=>D3 (fun s=> ∃g1:Nat,Sb ⟨T [(2,(.fn (.func 187) [] [(.ptr (900000,0) 0)])),(6,(oS y1 (53,g1)))],G [((900000,0),some<|.box 27 (F1 p3)),((53,g1),oB 93 4 J8 y1)]⟩ s) ?_ ?_
 refine A5<|D6 (M0 p1 p2 p3) (fun (x1:((List Clash)×Int)) (g2:Nat)=>⟨T [(1,(di p2)),(2,(.fn (.func 187) [] [(.ptr (900000,0) 0)])),(3,(.ptr (3,u1) 0)),(6,(oS x1.1 (53,g2))),(15,(dl K4 p1.Zones)),(16,(di (p1.Zones.length:Int))),(17,(di x1.2))],G [((900000,0),some<|.box 27 (F1 p3)),((3,u1),some<|.box 27 (F1 p1)),((53,g2),oB 93 4 J8 x1.1)]⟩) ([],0) 0 _ hy1 (B8 (K6 Z)<|sg Z<|A2 G_hit (.of Z)<|Q5 trivial) ?_
 intro x1 g2 z1 hz1 ez1
 unfold M0 at hz1
 refine C0<|sv Z<|A1<|A4<|cc Z hz1 (fun c1 hz1=> ?_)<|fun c1 hz1=> ?_
 refine B4<|A4<|A5<|lr<|fun u4 _=>sv Z<|bs hz1 fun v1 hv1 hz1=>sd Z (E7 Z Z hv1 Z)<|sd Z (E4 Z hv1 Z Z)<|sm Z<|sv Z<|X7 Z G_hit [(dl H5 v1.Parts),(di v1.Signal_)] Z (A1<|C0<|sd Z (C6 Z (gq Z) Z Z)<|sd Z (C6 Z G_hit Z Z)<|bs hz1 fun v2 hv2 hz1=>D1 Z Z A6 (Hb _ _ _ hv2) (.inl Z) (sv Z<|A1<|C0<|sv Z<|sd Z (D2 Z)<|sv Z<|A1<|bs hz1 fun y2 hy2 hz1=>D3 (fun s=> ∃g3:Nat,Sb ⟨T [(1,(di p2)),(2,(.fn (.func 187) [] [(.ptr (900000,0) 0)])),(3,(.ptr (3,u1) 0)),(6,(oS y2 (53,g3))),(15,(dl K4 p1.Zones)),(16,(di (p1.Zones.length:Int))),(17,(di x1.2))],G [((900000,0),some<|.box 27 (F1 p3)),((3,u1),some<|.box 27 (F1 p1)),((53,g3),oB 93 4 J8 y2)]⟩ s) ?_ ?_))
 refine A5<|D6 (L9 p2 p3 x1 v1 v2) (fun (x2:((List Clash)×Int)) (g4:Nat)=>⟨T [(1,(di p2)),(2,(.fn (.func 187) [] [(.ptr (900000,0) 0)])),(3,(.ptr (3,u1) 0)),(6,(oS x2.1 (53,g4))),(7,(di x1.2)),(8,(.ptr (8,u4) 0)),(9,(dl A3 v2)),(15,(dl K4 p1.Zones)),(16,(di (p1.Zones.length:Int))),(17,(di x1.2)),(25,(dl A3 v2)),(26,(di (v2.length:Int))),(27,(di x2.2))],G [((900000,0),some<|.box 27 (F1 p3)),((3,u1),some<|.box 27 (F1 p1)),((8,u4),some<|.box 45 [(dl H5 v1.Parts),(di v1.Signal_)]),((53,g4),oB 93 4 J8 x2.1)]⟩) (x1.1,0) g2 _ hy2 (B8 (K6 Z)<|sg Z<|sg Z<|A2 G_hit (.of Z)<|B3 (gq Z) trivial) ?_
 intro x2 g4 z2 hz2 ez2
 unfold L9 at hz2
 refine C0<|sv Z<|A1<|A4<|cc Z hz2 (fun c2 hz2=> ?_)<|fun c2 hz2=> ?_
 refine B4<|A4<|A5<|C0<|sv Z<|bs hz2 fun v3 hv3 hz2=>sd Z (E7 Z Z hv3 Z)<|sd Z (G7 Z hv3 Z)<|sv Z<|sv Z<|A1<|C0<|sv Z<|sv Z<|sv Z<|bs hz2 fun v4 hv4 hz2=>sd Z (HK Z (fun _=>Z) (QV Z) AP hv4)<|sd Z (D2 Z)<|sv Z<|A1<|bs hz2 fun y3 hy3 hz2=>D3 (fun s=> ∃g5:Nat,Sb ⟨T [(1,(di p2)),(2,(.fn (.func 187) [] [(.ptr (900000,0) 0)])),(3,(.ptr (3,u1) 0)),(6,(oS y3 (53,g5))),(7,(di x1.2)),(8,(.ptr (8,u4) 0)),(9,(dl A3 v2)),(15,(dl K4 p1.Zones)),(16,(di (p1.Zones.length:Int))),(17,(di x1.2)),(25,(dl A3 v2)),(26,(di (v2.length:Int))),(27,(di x2.2))],G [((900000,0),some<|.box 27 (F1 p3)),((3,u1),some<|.box 27 (F1 p1)),((8,u4),some<|.box 45 [(dl H5 v1.Parts),(di v1.Signal_)]),((53,g5),oB 93 4 J8 y3)]⟩ s) ?_ ?_
 refine A5<|D6 (L8 p2 p3 x1 v1 v3 v4) (fun (x3:((List Clash)×Int)) (g6:Nat)=>⟨T [(1,(di p2)),(2,(.fn (.func 187) [] [(.ptr (900000,0) 0)])),(3,(.ptr (3,u1) 0)),(6,(oS x3.1 (53,g6))),(7,(di x1.2)),(8,(.ptr (8,u4) 0)),(9,(dl A3 v2)),(11,(di v3)),(15,(dl K4 p1.Zones)),(16,(di (p1.Zones.length:Int))),(17,(di x1.2)),(25,(dl A3 v2)),(26,(di (v2.length:Int))),(27,(di x2.2)),(35,(dl A3 v4)),(36,(di (v4.length:Int))),(37,(di x3.2))],G [((900000,0),some<|.box 27 (F1 p3)),((3,u1),some<|.box 27 (F1 p1)),((8,u4),some<|.box 45 [(dl H5 v1.Parts),(di v1.Signal_)]),((53,g6),oB 93 4 J8 x3.1)]⟩) (x2.1,0) g4 _ hy3 (B8 (K6 Z)<|A2 G_hit (.of Z)<|sg Z<|sg Z<|B3 (gq Z) trivial) ?_
 intro x3 g6 z3 hz3 ez3
 unfold L8 at hz3
 refine C0<|sv Z<|A1<|A4<|cc Z hz3 (fun c3 hz3=> ?_)<|fun c3 hz3=> ?_
 refine B4<|A4<|A5<|C0<|bs hz3 fun v5 hv5 hz3=>sd Z (E7 Z Z hv5 Z)<|sd Z (G7 Z hv5 Z)<|sv Z<|A1<|C0<|B6 (.fn _ _ _) Z Z (sd Z (C6 Z (gq Z) Z Z)<|sv Z<|sv Z<|bs hz3 fun _ hv6 hz3=>D1 Z (rD<|rD<|rD<|O7 (Lz G_hit<|rD<|rD<|rD<|rD<|rD N4) N4) A6 (Jp _ _ _ _ _ hv6) (.inr Z) (A1<|cc Z hz3 (fun c4 hz3=> ?_)<|fun c4 hz3=> ?_))
 refine A8 (s0:=⟨T [(1,(di p2)),(2,(.fn (.func 187) [] [(.ptr (900000,0) 0)])),(3,(.ptr (3,u1) 0)),(6,(oS x3.1 (53,g6))),(7,(di x1.2)),(8,(.ptr (8,u4) 0)),(9,(dl A3 v2)),(11,(di v3)),(13,(di v5)),(15,(dl K4 p1.Zones)),(16,(di (p1.Zones.length:Int))),(17,(di x1.2)),(25,(dl A3 v2)),(26,(di (v2.length:Int))),(27,(di x2.2)),(35,(dl A3 v4)),(36,(di (v4.length:Int))),(37,(di x3.2))],G [((900000,0),some<|.box 27 (F1 p3)),((3,u1),some<|.box 27 (F1 p1)),((53,g6),oB 93 4 J8 x3.1),((8,u4),some<|.box 45 [(dl H5 v1.Parts),(di v1.Signal_)])]⟩) (B8 (K6 Z)<|A2 G_hit (.of Z)<|sg Z<|B3 (gq Z)<|sg Z trivial) ?_
 refine T8 fun u13 _=>B6 (oS x3.1 (53,g6)) Z Z (sv Z<|sv Z<|sv Z<|sv Z<|sv Z<|B6 (dl J8 [(Clash.mk p2 x1.2 v3 v5)]) Z Z (bs hz3 fun _ hv7 hz3=>J3 J8 (53,g6) x3.1 (Clash.mk p2 x1.2 v3 v5) [] _ (I0<|fun _=>Z) Z (gq Z) hv7 (ss Z<|A1<|D8<|A8 (s0:=⟨T [(1,(.d _)),(2,(.fn _ _ _)),(3,(.ptr _ _)),(6,(.sl _)),(7,(.d _)),(8,(.ptr _ _)),(9,(.d _)),(11,(.d _)),(15,(.d _)),(16,(.d _)),(17,(.d _)),(25,(.d _)),(26,(.d _)),(27,(.d _)),(35,(.d _)),(36,(.d _)),(37,(.d _))],G [((900000,0),some<|.box 27 _),((3,u1),some<|.box 27 _),((53,u13),some _),((8,u4),some<|.box 45 _)]⟩) (F5 Z Z) ?_)))
 refine B5<|sv Z<|sv Z<|A1<|D9 ?_
 cases hz3
 exact ⟨Z,u13,(B8 ⟨.of Z, .of Z, .of Z,(.of (Q3<|N5 hv7).symm), .of Z, .of Z, .of Z, .of Z, .of Z, .of Z, .of Z, .of Z, .of Z, .of Z, .of Z, .of Z, .of Z,trivial⟩<|A2 G_hit (.of Z)<|sg Z<|sg Z<|I7 (gq Z) trivial)⟩
 refine B4<|D8<|A8 (s0:=⟨T [(1,(di p2)),(2,(.fn (.func 187) [] [(.ptr (900000,0) 0)])),(3,(.ptr (3,u1) 0)),(6,(oS x3.1 (53,g6))),(7,(di x1.2)),(8,(.ptr (8,u4) 0)),(9,(dl A3 v2)),(11,(di v3)),(15,(dl K4 p1.Zones)),(16,(di (p1.Zones.length:Int))),(17,(di x1.2)),(25,(dl A3 v2)),(26,(di (v2.length:Int))),(27,(di x2.2)),(35,(dl A3 v4)),(36,(di (v4.length:Int))),(37,(di x3.2))],G [((900000,0),some<|.box 27 (F1 p3)),((3,u1),some<|.box 27 (F1 p1)),((53,g6),oB 93 4 J8 x3.1),((8,u4),some<|.box 45 [(dl H5 v1.Parts),(di v1.Signal_)])]⟩) (B8 (K6 Z)<|A2 G_hit (.of Z)<|sg Z<|B3 (gq Z)<|sg Z trivial) ?_
 refine B5<|sv Z<|sv Z<|A1<|D9 ?_
 cases hz3
 exact ⟨Z,g6,(B8 (K6 Z)<|A2 G_hit (.of Z)<|sg Z<|sg Z<|B3 (gq Z) trivial)⟩
 refine C4 Z ?_
 cases hz3
 obtain rfl:=ez3 _ rfl
 refine ⟨nofun,C3 Z<|V2 ?_⟩
 exact ⟨g6,(B8 (K6 Z)<|A2 G_hit (.of Z)<|sg Z<|sg Z<|B3 (gq Z) trivial)⟩
 rintro _ ⟨g5,q1⟩
 refine D8<|A8 q1<|B5<|sv Z<|sv Z<|A1<|D9 ?_
 cases hz2
 exact ⟨Z,g5,(B8 (K6 Z)<|A2 G_hit (.of Z)<|sg Z<|sg Z<|B3 (gq Z) trivial)⟩
 refine C4 Z ?_
 cases hz2
 obtain rfl:=ez2 _ rfl
 refine ⟨nofun,C3 Z<|V2 ?_⟩
 exact ⟨g4,(B8 (K6 Z)<|A2 G_hit (.of Z)<|sg Z<|B3 (gq Z) trivial)⟩
 rintro _ ⟨g3,q2⟩
 refine D8<|A8 q2<|B5<|sv Z<|sv Z<|A1<|D9 ?_
 cases hz1
 exact ⟨Z,g3,(B8 (K6 Z)<|A2 G_hit (.of Z)<|sg Z<|B3 (gq Z) trivial)⟩
 refine C4 Z ?_
 cases hz1
 obtain rfl:=ez1 _ rfl
 refine ⟨nofun,C3 Z<|V2 ?_⟩
 exact ⟨g2,(B8 (K6 Z)<|A2 G_hit (.of Z)<|B3 (gq Z) trivial)⟩
 rintro _ ⟨g1,q3⟩
 refine A8 q3<|C0<|B6 (oS y1 (53,g1)) Z Z (B6 (oS y1 (53,g1)) Z Z (A1<|C1 ?_))
 obtain rfl:=(lC h)
 exact Av (.inr Z) [(53,g1)] (Aw (C2 Z)<|Ct<|Ql (.head _)<|gq Z) Cs ⟨⟨_,_,_,G_hit,(Es Z G2),Z,X0,Z⟩,trivial⟩
def Fb [Lp](p1:Map):Option (List Clash):=
  (N8 p1 4 p1).bind fun v1=>some v1
theorem Vc(p1 r)(h:Fb p1=some r):PCall prog 80 [(.agg (Q2 p1))] (.list (List.map J8 r)):=by
 refine E3 (fk func80 ntmps80 (fun r=>if r==1 then [1001002]else []) (by with_unfolding_all rfl)) (nl Z) ?_
 unfold Fb at h
 refine A8 (s0:=⟨T [(0,(.d _))],G []⟩) (F5 Z Z) ?_
 refine lr<|fun u1 _=>sm Z<|sv Z<|A1<|C0<|sd Z (C6 Z G_hit Z Z)<|B6 (.fn _ _ _) Z Z (bs h fun v1 hv1 h=>Aj (v:= .d (.list (List.map J8 v1))) (us:= [(1,u1)]) (Ai (Hc _ _ _ _ hv1) [(1,u1)] [(1,u1)] _ (((1,u1),some<|.box 27 (F1 p1))::_) Z J0 (E0 NE<|E0 NE<|E0 (Nx Z<|E0 (J1 G_hit Z) J2) J2) (D5 G_hit G9) ⟨⟨_,G_hit, .of Z⟩,trivial⟩ (fun _ h=>h) nd1 Z Z Z) (sv Z<|A1<|C1 ?_))
 cases h
 exact B9 (.inr Z) (C5 (C2 Z) D7) (.refl _)
def Jy [Lp](p1:Map):Option Bool:=
  (R6 p1).bind fun v1=>((cond (v1==0) (Ez p1) (some default))).bind fun v2=>((cond (v1==0) (Fa p1) (some default))).bind fun v3=>((cond (v1==0) (Ga p1) (some default))).bind fun v4=>((cond (v1==0) (Fb p1) (some default))).bind fun v5=>some ((v1==0)&& ((I4 ((I4 ((I4 ((v2.length:Int)+ (v3.length:Int)))+ (v4.length:Int)))+ (v5.length:Int)))==0))
theorem BA(p1 r)(h:Jy p1=some r):PCall prog 18 [(.agg (Q2 p1))] (bo r):=by
 refine E3 (fk func18 ntmps18 m0 (by with_unfolding_all rfl)) (nl Z) ?_
 unfold Jy at h
 refine A8 (s0:=⟨T [(0,(.d _))],G []⟩) (F5 Z Z) ?_
 refine C0<|sm Z<|sv Z<|A1<|A4<|T7 Z<|sd Z (C6 Z G_hit Z Z)<|bs h fun _ hv1 h=>D1 Z Z A6 (Cv _ _ hv1) (.inl Z) (sv Z<|sv Z<|gt Z (fun _=>(C6 Z G_hit Z Z))<|bs h fun v2 hv2 h=> ?_)
 refine P4 _ (.list (List.map J8 v2)) (K0 Z) (fun w2=>⟨_,[(.d (.agg (Q2 p1)))],_,_,(by simp only [A9 w2];rfl),Z,A6,Va _ _<|K2 w2 hv2,(.inl Z)⟩) ?_
 refine gt Z (fun w3=>(D2<|A9 w3))<|gt Z (fun _=>(C6 Z G_hit Z Z))<|bs h fun v3 hv3 h=> ?_
 refine P4 _ (.list (List.map J8 v3)) (K0 Z) (fun w5=>⟨_,[(.d (.agg (Q2 p1)))],_,_,(by simp only [A9 w5];rfl),Z,A6,Vb _ _<|K2 w5 hv3,(.inl Z)⟩) ?_
 refine gt Z (fun w6=>(D2<|A9 w6))<|gt Z (fun w7=>(Cu (A9 w7) (A9 w7) Z))<|gt Z (fun _=>(C6 Z G_hit Z Z))<|bs h fun v4 hv4 h=> ?_
 refine P4 _ (.list (List.map J8 v4)) (K0 Z) (fun w9=>⟨_,[(.d (.agg (Q2 p1)))],_,_,(by simp only [A9 w9];rfl),Z,A6,Xb _ _<|K2 w9 hv4,(.inl Z)⟩) ?_
 refine gt Z (fun w10=>(D2<|A9 w10))<|gt Z (fun w11=>(Cu (A9 w11) (A9 w11) Z))<|gt Z (fun _=>(C6 Z G_hit Z Z))<|bs h fun v5 hv5 h=> ?_
 refine P4 _ (.list (List.map J8 v5)) (K0 Z) (fun w13=>⟨_,[(.d (.agg (Q2 p1)))],_,_,(by simp only [A9 w13];rfl),Z,A6,Vc _ _<|K2 w13 hv5,(.inl Z)⟩) ?_
 refine gt Z (fun w14=>(D2<|A9 w14))<|gt Z (fun w15=>(Cu (A9 w15) (A9 w15) Z))<|gt Z (vb Z Z Z)<|sa Z Z Z<|sv Z<|A1<|C1 ?_
 cases h
 exact B9 (.inr Z) (C5 (C2 Z) D7) (.refl _)
def Kw [Lp](p1:Map)(p2:Int):Option Bool:=
  ((cond ((decide (p2≥0))&& (decide (p2< (p1.Lanes.length:Int)))) (R6 p1) (some default))).bind fun v1=>some (((decide (p2≥0))&& (decide (p2< (p1.Lanes.length:Int))))&& (v1==0))
theorem Uj(p1 p2 r)(h:Kw p1 p2=some r):PCall prog 159 [(.agg (Q2 p1)),(i64 p2)] (bo r):=by
 refine E3 (fk func159 ntmps159 m0 (by with_unfolding_all rfl)) (nl Z) ?_
 unfold Kw at h
 refine A8 (s0:=⟨T [(0,(.d _)),(1,(.d _))],G []⟩) (F5 Z Z) ?_
 refine C0<|sm Z<|sv Z<|A1<|C0<|sv Z<|sv Z<|sv Z<|gt Z (fun _=>Z)<|gp Z (K0 Z) (fun _=>Z) (gt Z (vl Z G_hit Z)<|gt Z (fun w4=>(D2<|A9 w4))<|gt Z (fun w5=>(Cu (A9 w5) (A9 w5) Z))<|sa Z Z Z<|sv Z<|gt Z (fun _=>(C6 Z G_hit Z Z))<|bs h fun v1 hv1 h=> ?_)
 refine P4 _ (i64 v1) (K0 Z) (fun w7=>⟨_,[(.d (.agg (Q2 p1)))],_,_,(by simp only [A9 w7];rfl),Z,A6,Cv _ _<|K2 w7 hv1,(.inl Z)⟩) ?_
 refine gt Z (vb Z Z Z)<|sa Z Z Z<|sv Z<|A1<|C1 ?_
 cases h
 exact B9 (.inr Z) (C5 (C2 Z) D7) (.refl _)
def Fc [Lp](p1:Map)(p2:Int):Option Int:=
  (Kw p1 p2).bind fun v1=>cond (!v1) (some 0) ((V3 p1 p2).bind fun v2=>some v2)
theorem Vd(p1 p2 r)(h:Fc p1 p2=some r):PCall prog 61 [(.agg (Q2 p1)),(i64 p2)] (i64 r):=by
 refine E3 (fk func61 ntmps61 m0 (by with_unfolding_all rfl)) (nl Z) ?_
 unfold Fc at h
 refine A8 (s0:=⟨T [(0,(.d _)),(1,(.d _))],G []⟩) (F5 Z Z) ?_
 refine C0<|sm Z<|sv Z<|A1<|A4<|C0<|sd Z (C6 Z G_hit Z Z)<|sv Z<|bs h fun v1 hv1 h=>D1 Z Z A6 (Uj _ _ _ hv1) (.inl Z) (B6 (.d (bo (!v1))) Z Z (A1<|cc Z h (fun c1 h=> ?_)<|fun c1 h=> ?_))
 refine C0<|sv Z<|A1<|C1 ?_
 cases h
 exact B9 (.inr Z) (C5 (C2 Z) D7) (.refl _)
 refine B4<|C0<|sd Z (C6 Z G_hit Z Z)<|sv Z<|bs h fun _ hv2 h=>D1 Z Z A6 (Dr _ _ _ hv2) (.inl Z) (sv Z<|A1<|C1 ?_)
 cases h
 exact B9 (.inr Z) (C5 (C2 Z) D7) (.refl _)
def Kx (p1:Map)(p2:Int)(p3:Int)(p4:Int)(x1:(Int×Int)):Option (Stp (Int×Int) Int):=
  cond (decide (x1.2< (p1.Works.length:Int))) ((F6 p1.Works x1.2).bind fun v5=>((cond (v5.Lane_==p2) (S3 p3 v5.From v5.To) (some default))).bind fun v6=>((cond ((v5.Lane_==p2)&&v6) (S3 p4 v5.Begin (I4 (v5.End - 1))) (some default))).bind fun v7=>cond (((v5.Lane_==p2)&&v6)&&v7) (some (.go ((IP false x1.1 v5.Limit),(I4 (x1.2+1))))) (some (.go (x1.1,(I4 (x1.2+1)))))) (some (.out x1.1))
def Gb [Lp](p1:Map)(p2:Int)(p3:Int)(p4:Int):Option Int:=
  (Kw p1 p2).bind fun v1=>((cond (!(!v1)) (V3 p1 p2) (some default))).bind fun v2=>((cond (!(!v1)) (S3 p3 0 v2) (some default))).bind fun v3=>cond ((!v1)||(!v3)) (some 0) ((F6 p1.Lanes p2).bind fun v4=>(loop (Kx p1 p2 p3 p4) (v4.Limit,0)).bind fun y1=>some y1)
theorem Xc(p1 p2 p3 p4 r)(h:Gb p1 p2 p3 p4=some r):PCall prog 56 [(.agg (Q2 p1)),(i64 p2),(i64 p3),(i64 p4)] (i64 r):=by
 refine E3 (fk func56 ntmps56 m0 (by with_unfolding_all rfl)) (nl Z) ?_
 unfold Gb at h
 refine A8 (s0:=⟨T [(0,(.d _)),(1,(.d _)),(2,(.d _)),(3,(.d _))],G []⟩) (F5 Z Z) ?_
 refine lr<|fun u1 _=>sm Z<|sv Z<|A1<|A4<|C0<|sd Z (C6 Z G_hit Z Z)<|sv Z<|bs h fun v1 hv1 h=>D1 Z Z A6 (Uj _ _ _ hv1) (.inl Z) (B6 (.d (bo (!v1))) Z Z (sv Z<|gf Z (fun _=>Z)<|gf Z (fun _=>(C6 Z G_hit Z Z))<|gf Z (fun _=>Z)<|bs h fun v2 hv2 h=> ?_))
 refine P4 _ (i64 v2) (T9 Z) (fun w4=>⟨_,[(.d (.agg (Q2 p1))),(di p2)],_,_,(by simp only [A9 w4];rfl),Z,A6,Dr _ _ _<|K2 w4 hv2,(.inl Z)⟩) ?_
 refine bs h fun v3 hv3 h=> ?_
 refine P4 _ (bo v3) (T9 Z) (fun w5=>⟨_,[(di p3),(di 0),(di v2)],_,_,(by simp only [A9 w5];rfl),Z,A6,R7 _ _ _ _<|K2 w5 hv3,(.inl Z)⟩) ?_
 refine R8 _ (.d (bo (!v3))) Z (T9 Z) (fun w6=>(by simp only [A9 w6];rfl)) ?_
 refine sd Z (Ed Z Z<|fun hc=>A9<|Y1 hc)<|A1<|cc Z h (fun c1 h=> ?_)<|fun c1 h=> ?_
 refine C0<|sv Z<|A1<|C1 ?_
 cases h
 exact B9 (.inr Z) (C5 (C2 Z) D7) (.refl _)
 refine B4<|C0<|sq Z<|sl Z G_hit Z<|sv Z<|bs h fun v4 hv4 h=>sd Z (E7 Z Z hv4 Z)<|sv Z<|sd Z (G7 Z hv4 Z)<|sv Z<|A1<|A4<|A4<|A8 (s0:=⟨T [(1,(.d _)),(2,(.d _)),(3,(.d _)),(4,(.ptr _ _)),(9,(.d _))],G [((4,u1),some<|.box 27 _)]⟩) (F5 Z Z) ?_
 refine B5<|sq Z<|sl Z G_hit Z<|sd Z (D2 Z)<|sv Z<|A1<|bs h fun y1 hy1 h=>D3 (fun s=> ∃g1:Unit,Sb ⟨T [(9,(di y1))],G []⟩ s) ?_ ?_
 refine A5<|D6 (Kx p1 p2 p3 p4) (fun (x1:(Int×Int)) (g2:Unit)=>⟨T [(1,(di p2)),(2,(di p3)),(3,(di p4)),(9,(di x1.1)),(31,(dl Ax p1.Works)),(32,(di (p1.Works.length:Int))),(33,(di x1.2))],G []⟩) (v4.Limit,0) () _ hy1 (F5 Z Z) ?_
 intro x1 g2 z1 hz1 ez1
 unfold Kx at hz1
 refine C0<|sv Z<|A1<|A4<|cc Z hz1 (fun c2 hz1=> ?_)<|fun c2 hz1=> ?_
 refine B4<|A4<|A5<|lr<|fun u7 _=>bs hz1 fun v5 hv5 hz1=>sd Z (E7 Z Z hv5 Z)<|sd Z (E4 Z hv5 Z Z)<|sm Z<|X7 Z G_hit (NR v5) Z (A1<|C0<|sq Z<|sl Z G_hit Z<|sv Z<|sv Z<|sv Z<|gt Z (fun _=>Z)<|gp Z (K0 Z) (fun _=>Z) (gt Z (vl Z G_hit Z)<|gp Z (K0 Z) (fun _=>Z) (gt Z (vl Z G_hit Z)<|bs hz1 fun v6 hv6 hz1=> ?_)))
 refine P4 _ (bo v6) (K0 Z) (fun w12=>⟨_,[(di p3),(di v5.From),(di v5.To)],_,_,(by simp only [A9 w12];rfl),Z,A6,R7 _ _ _ _<|K2 w12 hv6,(.inl Z)⟩) ?_
 refine sa Z Z Z<|sv Z<|gt Z (fun _=>Z)<|gp Z (K0 Z) (fun _=>Z) (gt Z (vl Z G_hit Z)<|gp Z (K0 Z) (fun _=>Z) (gt Z (vl Z G_hit Z)<|gt Z (vb Z Z Z)<|bs hz1 fun v7 hv7 hz1=> ?_))
 refine P4 _ (bo v7) (K0 Z) (fun w19=>⟨_,[(di p4),(di v5.Begin),(di<|I4 (v5.End - 1))],_,_,(by simp only [A9 w19];rfl),Z,A6,R7 _ _ _ _<|K2 w19 hv7,(.inl Z)⟩) ?_
 refine sa Z Z Z<|A1<|cc Z hz1 (fun c3 hz1=> ?_)<|fun c3 hz1=> ?_
 refine A8 (s0:=⟨T [(1,(.d _)),(2,(.d _)),(3,(.d _)),(9,(.d _)),(11,(.ptr _ _)),(31,(.d _)),(32,(.d _)),(33,(.d _))],G [((11,u7),some<|.box 50 _)]⟩) (F5 Z Z) ?_
 refine B5<|sv Z<|sq Z<|sl Z G_hit Z<|sv Z<|sv Z<|A1<|D8<|B5<|sv Z<|sv Z<|A1<|D9 ?_
 cases hz1
 exact ⟨Z,(),(F5 Z Z)⟩
 refine B4<|D8<|A8 (s0:=⟨T [(1,(.d _)),(2,(.d _)),(3,(.d _)),(9,(.d _)),(31,(.d _)),(32,(.d _)),(33,(.d _))],G []⟩) (F5 Z Z) ?_
 refine B5<|sv Z<|sv Z<|A1<|D9 ?_
 cases hz1
 exact ⟨Z,(),(F5 Z Z)⟩
 refine C4 Z ?_
 cases hz1
 obtain rfl:=ez1 _ rfl
 refine ⟨nofun,C3 Z<|V2 ?_⟩
 exact ⟨(),(F5 Z Z)⟩
 rintro _ ⟨g1,q1⟩
 refine A8 q1<|C0<|sv Z<|sv Z<|A1<|C1 ?_
 cases h
 exact B9 (.inr Z) (C5 (C2 Z) D7) (.refl _)
def Ek [Lp]:Option Bool:=
  (Jx).bind fun v1=>(Fy v1 [0] 60000).bind fun v2=>(R6 v1).bind fun v3=>((cond (v3==0) (Jy v1) (some default))).bind fun v4=>((cond (((((v3==0)&&v4)&& (v2.1==0))&& (v2.2.1==60000))&&v2.2.2) (Fc v1 1) (some default))).bind fun v5=>((cond ((((((v3==0)&&v4)&& (v2.1==0))&& (v2.2.1==60000))&&v2.2.2)&& (v5==100000)) (Gb v1 0 10 5) (some default))).bind fun v6=>some (((((((v3==0)&&v4)&& (v2.1==0))&& (v2.2.1==60000))&&v2.2.2)&& (v5==100000))&& (v6==1500))
theorem Xd(r)(h:Ek=some r):PCall prog 14 [] (bo r):=by
 refine E3 (fk func14 ntmps14 (fun r=>if r==2 then [1001]else []) (by with_unfolding_all rfl)) (nl Z) ?_
 unfold Ek at h
 refine A8 (s0:=⟨T [],G []⟩) (F5 Z Z) ?_
 refine C0<|sv Z<|A1<|C0<|bs h fun v1 hv1 h=>D1 Z Z A6 (AZ _ hv1) (.inl Z) (sm Z<|X7 Z G_hit (F1 v1) Z (A1<|C0<|sd Z (C6 Z G_hit Z Z)<|B6 (dl A3 [0]) Z Z (bs h fun _ hv2 h=>D1 Z Z A6 (Wz _ _ _ _ hv2) (.inl Z) (sv Z<|sv Z<|sv Z<|sv Z<|sv Z<|sv Z<|sv Z<|A1<|C0<|sd Z (C6 Z G_hit Z Z)<|bs h fun _ hv3 h=>D1 Z Z A6 (Cv _ _ hv3) (.inl Z) (sv Z<|sv Z<|gt Z (fun _=>(C6 Z G_hit Z Z))<|bs h fun v4 hv4 h=> ?_)))))
 refine P4 _ (bo v4) (K0 Z) (fun w2=>⟨_,[(.d (.agg (Q2 v1)))],_,_,(by simp only [A9 w2];rfl),Z,A6,BA _ _<|K2 w2 hv4,(.inl Z)⟩) ?_
 refine sa Z Z Z<|sv Z<|gt Z (fun _=>Z)<|gt Z (vb Z Z Z)<|sa Z Z Z<|sv Z<|gt Z (fun _=>Z)<|gt Z (vb Z Z Z)<|sa Z Z Z<|sv Z<|gt Z (fun _=>Z)<|sa Z Z Z<|sv Z<|gt Z (fun _=>(C6 Z G_hit Z Z))<|bs h fun v5 hv5 h=> ?_
 refine P4 _ (i64 v5) (K0 Z) (fun w9=>⟨_,[(.d (.agg (Q2 v1))),(di 1)],_,_,(by simp only [A9 w9];rfl),Z,A6,Vd _ _ _<|K2 w9 hv5,(.inl Z)⟩) ?_
 refine gt Z (vb Z Z Z)<|sa Z Z Z<|sv Z<|gt Z (fun _=>(C6 Z G_hit Z Z))<|bs h fun v6 hv6 h=> ?_
 refine P4 _ (i64 v6) (K0 Z) (fun w12=>⟨_,[(.d (.agg (Q2 v1))),(di 0),(di 10),(di 5)],_,_,(by simp only [A9 w12];rfl),Z,A6,Xc _ _ _ _ _<|K2 w12 hv6,(.inl Z)⟩) ?_
 refine gt Z (vb Z Z Z)<|sa Z Z Z<|sv Z<|A1<|C1 ?_
 cases h
 exact B9 (.inr Z) (C5 (C2 Z) D7) (.refl _)
def Fm [Lp](p1:Int)(p2:Int)(p3:Int):Option Bool:=
  (Sl p1).bind fun v1=>(Cd v1).bind fun v2=>(Ba v2.1).bind fun v3=>((cond (!(((v2.2 !=0)||(v3.2 !=0))||(decide ((v2.1.size:Int)<4)))) (Kq v1 v3.1) (some default))).bind fun v4=>((cond (!((((v2.2 !=0)||(v3.2 !=0))||(decide ((v2.1.size:Int)<4)))||(!v4))) (Kr v1 v3.1) (some default))).bind fun v5=>cond (((((v2.2 !=0)||(v3.2 !=0))||(decide ((v2.1.size:Int)<4)))||(!v4))||(!v5)) (some false) ((NN v2.1 (K5 [p3])).bind fun v6=>(Ba v6).bind fun v7=>(Pv p2 (v2.1.size:Int)).bind fun v8=>(Ww v2.1 0 v8).bind fun v9=>(Ba v9).bind fun v10=>((cond ((v7.2==3)&& (v10.2==3)) (Ek) (some default))).bind fun v11=>some (((v7.2==3)&& (v10.2==3))&&v11))
theorem Rj(p1 p2 p3 r)(h:Fm p1 p2 p3=some r):PCall prog 7 [(i64 p1),(i64 p2),(.v (.int .u8 p3))] (bo r):=by
 refine E3 (fk func7 ntmps7 (fun r=>if r==6 then [1002]else []) (by with_unfolding_all rfl)) (nl Z) ?_
 unfold Fm at h
 refine A8 (s0:=⟨T [(0,(.d _)),(1,(.d _)),(2,(.d _))],G []⟩) (F5 Z Z) ?_
 refine C0<|sv Z<|A1<|lr<|fun u2 _=>sv Z<|bs h fun v1 hv1 h=>D1 Z Z A6 (GC _ _ hv1) (.inl Z) (sm Z<|X7 Z G_hit (F1 v1) Z (A1<|C0<|sd Z (C6 Z G_hit Z Z)<|bs h fun _ hv2 h=>D1 Z Z A6 (Ph _ _ hv2) (.inl Z) (sv Z<|sv Z<|sv Z<|sv Z<|sv Z<|A1<|lr<|fun u4 _=>sv Z<|bs h fun v3 hv3 h=>D1 Z Z A6 (Me _ _ hv3) (.inl Z) (sv Z<|sv Z<|sv Z<|sm Z<|X7 Z G_hit (F1 v3.1) Z (sv Z<|A1<|A4<|A4<|A8 (s0:=⟨T [(1,(.d _)),(2,(.d _)),(7,(.ptr _ _)),(8,(.d _)),(9,(.d _)),(10,(.ptr _ _)),(11,(.d _))],G [((7,u2),some<|.box 27 _),((10,u4),some<|.box 27 _)]⟩) (F5 Z Z) ?_)))))
 refine B5<|sv Z<|sv Z<|sv Z<|gf Z (fun _=>Z)<|gf Z (vb Z Z Z)<|sd Z (Ed Z Z<|fun hc=>A9<|Y1 hc)<|sv Z<|gf Z (fun _=>Z)<|gf Z (fun w4=>(Ri<|A9 w4))<|gf Z (vb Z Z Z)<|sd Z (Ed Z Z<|fun hc=>A9<|Y1 hc)<|sv Z<|gf Z (fun _=>(C6 Z G_hit Z Z))<|gf Z (fun _=>(C6 Z (gq Z) Z Z))<|bs h fun v4 hv4 h=> ?_
 refine P4 _ (bo v4) (T9 Z) (fun w8=>⟨_,[(.d (.agg (Q2 v1))),(.d (.agg (Q2 v3.1)))],_,_,(by simp only [A9 w8];rfl),Z,A6,Yi _ _ _<|K2 w8 hv4,(.inl Z)⟩) ?_
 refine R8 _ (.d (bo (!v4))) Z (T9 Z) (fun w9=>(by simp only [A9 w9];rfl)) ?_
 refine sd Z (Ed Z Z<|fun hc=>A9<|Y1 hc)<|sv Z<|gf Z (fun _=>(C6 Z G_hit Z Z))<|gf Z (fun _=>(C6 Z (gq Z) Z Z))<|bs h fun v5 hv5 h=> ?_
 refine P4 _ (bo v5) (T9 Z) (fun w12=>⟨_,[(.d (.agg (Q2 v1))),(.d (.agg (Q2 v3.1)))],_,_,(by simp only [A9 w12];rfl),Z,A6,Yk _ _ _<|K2 w12 hv5,(.inl Z)⟩) ?_
 refine R8 _ (.d (bo (!v5))) Z (T9 Z) (fun w13=>(by simp only [A9 w13];rfl)) ?_
 refine sd Z (Ed Z Z<|fun hc=>A9<|Y1 hc)<|A1<|cc Z h (fun c1 h=> ?_)<|fun c1 h=> ?_
 refine A4<|A8 (s0:=⟨T [],G []⟩) (F5 Z Z) ?_
 refine B5<|sv Z<|A1<|C1 ?_
 cases h
 exact B9 (.inr Z) (C5 (C2 Z) D7) (.refl _)
 refine B4<|A4<|A8 (s0:=⟨T [(1,(.d _)),(2,(.d _)),(8,(.d _))],G []⟩) (F5 Z Z) ?_
 refine B5<|sv Z<|sv Z<|B6 (dl B7 [p3]) Z Z (sd Z (NO (xs:= [p3]) Z)<|bs h fun _ hv6 h=>sd Z (VA Z Z hv6)<|bs h fun _ hv7 h=>D1 Z Z A6 (Me _ _ hv7) (.inl Z) (sv Z<|sv Z<|sv Z<|sv Z<|A1<|lr<|fun u8 _=>sv Z<|sv Z<|sv Z<|sd Z (Ri Z)<|bs h fun _ hv8 h=>D1 Z Z A6 (Wy _ _ _ hv8) (.inl Z) (bs h fun _ hv9 h=>sd Z (AX Z Z hv9)<|bs h fun _ hv10 h=>D1 Z Z A6 (Me _ _ hv10) (.inl Z) (sv Z<|sv Z<|sv Z<|sv Z<|A1<|A4<|A8 (s0:=⟨T [(9,(.d _)),(11,(.d _))],G []⟩) (F5 Z Z) ?_))))
 refine B5<|sv Z<|sv Z<|sv Z<|gt Z (fun _=>Z)<|gt Z (vb Z Z Z)<|sa Z Z Z<|sv Z<|bs h fun v11 hv11 h=>P4 _ (bo v11) (K0 Z) (fun w16=>⟨_,_,_,_,Z,Z,A6,Xd _<|K2 w16 hv11,(.inl Z)⟩) (sa Z Z Z<|sv Z<|A1<|C1 ?_)
 cases h
 exact B9 (.inr Z) (C5 (C2 Z) D7) (.refl _)
end
end Go.Abs.Roadsz
