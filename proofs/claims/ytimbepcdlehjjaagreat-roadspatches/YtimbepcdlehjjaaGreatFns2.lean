/-
  The functions, part 2.
-/
import Derived.Test.YtimbepcdlehjjaaGreatFns1
set_option maxRecDepth 20000
set_option maxHeartbeats 4000000
set_option linter.unusedVariables false
namespace Go.Abs.Roadsz
noncomputable section
open Go Go.Abs Go.Proofs Tryz
attribute [local irreducible] J0 Ij Di
def O2 (p1:Int)(p3:(List Zone))(x3:((List Edit)×Int)):Option (Stp ((List Edit)×Int) (List Edit)):=
  cond (decide (x3.2< (p3.length:Int))) ((E8 p3 x3.2).bind fun v8=>(Fq (Edit.mk 1 p1 x3.2 (Lane.mk 0 (Curve.mk []) 0 0 []) (Zone.mk [] 0) (Signal.mk 0 []) (Work.mk 0 0 0 0 0 0)) v8).bind fun v9=>(X6 x3.1 [v9]).bind fun v10=>some (.go (v10,(H6 (x3.2+1))))) (some (.out x3.1))
def O3 (p1:Int)(p2:(List Zone))(p3:(List Zone))(x2:((List Edit)×Int)):Option (Stp ((List Edit)×Int) (List Edit)):=
  cond (decide (x2.2≥(Fi false (p2.length:Int) (p3.length:Int)))) ((X6 x2.1 [(Edit.mk 2 p1 x2.2 (Lane.mk 0 (Curve.mk []) 0 0 []) (Zone.mk [] 0) (Signal.mk 0 []) (Work.mk 0 0 0 0 0 0))]).bind fun v7=>some (.go (v7,(H6 (x2.2 - 1))))) (some (.out x2.1))
def O4 [Lp](p1:Int)(p2:(List Zone))(p3:(List Zone))(x1:((List Edit)×Int)):Option (Stp ((List Edit)×Int) (List Edit)):=
  cond (decide (x1.2< (Fi false (p2.length:Int) (p3.length:Int)))) ((E8 p2 x1.2).bind fun v1=>(E8 p3 x1.2).bind fun v2=>(Da v1 v2).bind fun v3=>cond (!v3) ((E8 p3 x1.2).bind fun v4=>(Fq (Edit.mk 3 p1 x1.2 (Lane.mk 0 (Curve.mk []) 0 0 []) (Zone.mk [] 0) (Signal.mk 0 []) (Work.mk 0 0 0 0 0 0)) v4).bind fun v5=>(X6 x1.1 [v5]).bind fun v6=>some (.go (v6,(H6 (x1.2+1))))) (some (.go (x1.1,(H6 (x1.2+1)))))) (some (.out x1.1))
def K2 [Lp](p1:Int)(p2:(List Zone))(p3:(List Zone)):Option (List Edit):=
  (loop (O4 p1 p2 p3) ([],0)).bind fun y1=>(loop (O3 p1 p2 p3) (y1,(H6 ((p2.length:Int) - 1)))).bind fun y2=>(loop (O2 p1 p3) (y2,(Fi false (p2.length:Int) (p3.length:Int)))).bind fun y3=>some y3
theorem Ce(p1 p2 p3 r)(h:K2 p1 p2 p3=some r):PCall prog 98 [(i64 p1),(.list (List.map F4 p2)),(.list (List.map F4 p3)),(.fn (.func 99) [] []),(.fn (.func 100) [] [])] (.list (List.map G2 r)):=by
 refine C4 (fk func98 ntmps98 (fun r=>if r==7 then [1010]else if r==12 then [1004]else if r==16 then [1010]else []) (by with_unfolding_all rfl)) (nl Z) ?_
 unfold K2 at h
 refine A7 (s0:=⟨T [(0,(.d _)),(1,(.d _)),(2,(.d _)),(3,(.d _)),(4,(.d _))],G []⟩) (G1 Z Z) ?_
 refine B6<|sv Z<|A1<|B6<|sv Z<|A1<|B6<|sv Z<|sd Z (D6 Z)<|sv Z<|sd Z (D6 Z)<|sv Z<|sv Z<|A1<|A3<|B6<|sv Z<|sv Z<|A1<|bs h fun y1 hy1 h=>F6 (fun s=> ∃g1:Nat,Sb ⟨T [(0,(di p1)),(1,(dl F4 p2)),(2,(dl F4 p3)),(4,(.d (.fn (.func 100) [] []))),(11,(oS y1 (47,g1))),(12,(di<|Fi false (p2.length:Int) (p3.length:Int)))],G [((47,g1),oB 52 18 G2 y1)]⟩ s) ?_ ?_
 refine A8<|G0 (O4 p1 p2 p3) (fun (x1:((List Edit)×Int)) (g2:Nat)=>⟨T [(0,(di p1)),(1,(dl F4 p2)),(2,(dl F4 p3)),(3,(.d (.fn (.func 99) [] []))),(4,(.d (.fn (.func 100) [] []))),(11,(oS x1.1 (47,g2))),(12,(di<|Fi false (p2.length:Int) (p3.length:Int))),(21,(di<|Fi false (p2.length:Int) (p3.length:Int))),(22,(di x1.2))],G [((47,g2),oB 52 18 G2 x1.1)]⟩) ([],0) 0 _ hy1 (C0 (V4 Z)<|M4 trivial) ?_
 intro x1 g2 z1 hz1 ez1
 unfold O4 at hz1
 refine B6<|sv Z<|A1<|A3<|cc Z hz1 (fun c1 hz1=> ?_)<|fun c1 hz1=> ?_
 refine B2<|A3<|A8<|B6<|sv Z<|sv Z<|A1<|A3<|Q1 Z<|sv Z<|sv Z<|sv Z<|bs hz1 fun _ hv1 hz1=>sd Z (F0 Z Z hv1 Z)<|sd Z (C8 Z hv1 Z Z)<|sv Z<|sv Z<|bs hz1 fun _ hv2 hz1=>sd Z (F0 Z Z hv2 Z)<|sd Z (C8 Z hv2 Z Z)<|bs hz1 fun v3 hv3 hz1=>B8 Z Z A2 (Sd _ _ _ hv3) (.inl Z) (A9 (.d (bo (!v3))) Z Z (A1<|cc Z hz1 (fun c2 hz1=> ?_)<|fun c2 hz1=> ?_))
 refine A7 (s0:=⟨T [(0,(di p1)),(1,(dl F4 p2)),(2,(dl F4 p3)),(3,(.d (.fn (.func 99) [] []))),(4,(.d (.fn (.func 100) [] []))),(11,(oS x1.1 (47,g2))),(12,(di<|Fi false (p2.length:Int) (p3.length:Int))),(13,(di x1.2)),(21,(di<|Fi false (p2.length:Int) (p3.length:Int))),(22,(di x1.2))],G [((47,g2),oB 52 18 G2 x1.1)]⟩) (C0 (V4 Z)<|C7 G_hit trivial) ?_
 refine K8 fun u8 _=>A9 (oS x1.1 (47,g2)) Z Z (sv Z<|sv Z<|sv Z<|sv Z<|sv Z<|sv Z<|bs hz1 fun _ hv4 hz1=>sd Z (F0 Z Z hv4 Z)<|sd Z (C8 Z hv4 Z Z)<|bs hz1 fun v5 hv5 hz1=>B8 Z Z (.cons (.agg (ca Z<|ca Z<|ca Z<|ca Z<|.cons ⟨DLe.nil,Z⟩ (ca Z<|ca Z<|.cons ⟨DLe.nil,Z⟩ (.cons ⟨DLe.nil,Z⟩ (ca Z<|ca Z<|.cons ⟨DLe.nil,Z⟩ (cz Z)))))) A2) (Mv _ _ _ hv5) (.inl Z) (A9 (dl G2 [v5]) Z (Ef G2 ([v5]:List Edit) (fun _=>Z) Z Z ⟨Z,Z,Z,trivial⟩ (fun _=>Z)) (bs hz1 fun _ hv6 hz1=>H9 G2 (47,g2) x1.1 v5 [] _ (E4<|fun _=>Z) Z G_hit hv6 (ss Z<|A1<|E3<|A7 (s0:=⟨T [(0,(.d _)),(1,(.d _)),(2,(.d _)),(3,(.d _)),(4,(.d _)),(11,(.sl _)),(12,(.d _)),(21,(.d _)),(22,(.d _))],G [((47,u8),some _)]⟩) (G1 Z Z) ?_))))
 refine B9<|sv Z<|sv Z<|A1<|G9 ?_
 cases hz1
 exact ⟨Z,u8,(C0 ⟨.of Z, .of Z, .of Z, .of Z, .of Z,(.of (Q7<|L4 hv6).symm), .of Z, .of Z, .of Z,trivial⟩<|H7 G_hit trivial)⟩
 refine B2<|E3<|A7 (s0:=⟨T [(0,(di p1)),(1,(dl F4 p2)),(2,(dl F4 p3)),(3,(.d (.fn (.func 99) [] []))),(4,(.d (.fn (.func 100) [] []))),(11,(oS x1.1 (47,g2))),(12,(di<|Fi false (p2.length:Int) (p3.length:Int))),(21,(di<|Fi false (p2.length:Int) (p3.length:Int))),(22,(di x1.2))],G [((47,g2),oB 52 18 G2 x1.1)]⟩) (C0 (V4 Z)<|C7 G_hit trivial) ?_
 refine B9<|sv Z<|sv Z<|A1<|G9 ?_
 cases hz1
 exact ⟨Z,g2,(C0 (V4 Z)<|C7 G_hit trivial)⟩
 refine D8 Z ?_
 cases hz1
 obtain rfl:=ez1 _ rfl
 refine ⟨nofun,D1 Z<|Az ?_⟩
 exact ⟨g2,(C0 (V4 Z)<|C7 G_hit trivial)⟩
 rintro _ ⟨g1,q1⟩
 refine A7 q1<|A3<|B6<|sv Z<|sd Z (D6 Z)<|sv Z<|sv Z<|A1<|bs h fun y2 hy2 h=>F6 (fun s=> ∃g3:({d:Nat // d∈ [47,62]}×Nat),Sb ⟨T [(0,(di p1)),(2,(dl F4 p3)),(4,(.d (.fn (.func 100) [] []))),(11,(oS y2 (g3.1.val,g3.2))),(12,(di<|Fi false (p2.length:Int) (p3.length:Int)))],G [((g3.1.val,g3.2),oB 52 18 G2 y2)]⟩ s) ?_ ?_
 refine A8<|G0 (O3 p1 p2 p3) (fun (x2:((List Edit)×Int)) (g4:({d:Nat // d∈ [47,62]}×Nat))=>⟨T [(0,(di p1)),(2,(dl F4 p3)),(4,(.d (.fn (.func 100) [] []))),(11,(oS x2.1 (g4.1.val,g4.2))),(12,(di<|Fi false (p2.length:Int) (p3.length:Int))),(14,(di x2.2))],G [((g4.1.val,g4.2),oB 52 18 G2 x2.1)]⟩) (y1,(H6 ((p2.length:Int) - 1))) (⟨47, .head _⟩,g1) _ hy2 (C0 (V4 Z)<|C7 G_hit trivial) ?_
 intro x2 g4 z2 hz2 ez2
 unfold O3 at hz2
 refine A3<|B6<|sv Z<|sv Z<|sv Z<|A1<|cc Z hz2 (fun c3 hz2=> ?_)<|fun c3 hz2=> ?_
 refine B2<|A3<|A8<|K8 fun u13 _=>A9 (oS x2.1 (g4.1.val,g4.2)) Z Z (sv Z<|sv Z<|sv Z<|A9 (dl G2 [(Edit.mk 2 p1 x2.2 (Lane.mk 0 (Curve.mk []) 0 0 []) (Zone.mk [] 0) (Signal.mk 0 []) (Work.mk 0 0 0 0 0 0))]) Z Z (bs hz2 fun _ hv7 hz2=>H9 G2 (g4.1.val,g4.2) x2.1 (Edit.mk 2 p1 x2.2 (Lane.mk 0 (Curve.mk []) 0 0 []) (Zone.mk [] 0) (Signal.mk 0 []) (Work.mk 0 0 0 0 0 0)) [] _ (E4<|fun _=>Z) Z G_hit hv7 (ss Z<|A1<|E3<|B9<|sv Z<|sv Z<|sv Z<|A1<|G9 ?_)))
 cases hz2
 exact ⟨Z,(⟨62, .tail _ (.head _)⟩,u13),(C0 ⟨.of Z, .of Z, .of Z,(.of (Q7<|L4 hv7).symm), .of Z, .of Z,trivial⟩<|H7 G_hit trivial)⟩
 refine D8 Z ?_
 cases hz2
 obtain rfl:=ez2 _ rfl
 refine ⟨nofun,D1 Z<|Az ?_⟩
 exact ⟨(g4.1,g4.2),(C0 (V4 Z)<|C7 G_hit trivial)⟩
 rintro _ ⟨g3,q2⟩
 refine A7 q2<|A3<|B6<|sv Z<|sv Z<|A1<|bs h fun y3 hy3 h=>F6 (fun s=> ∃g5:({d:Nat // d∈ [47,62,81]}×Nat),Sb ⟨T [(11,(oS y3 (g5.1.val,g5.2)))],G [((g5.1.val,g5.2),oB 52 18 G2 y3)]⟩ s) ?_ ?_
 refine A8<|G0 (O2 p1 p3) (fun (x3:((List Edit)×Int)) (g6:({d:Nat // d∈ [47,62,81]}×Nat))=>⟨T [(0,(di p1)),(2,(dl F4 p3)),(4,(.d (.fn (.func 100) [] []))),(11,(oS x3.1 (g6.1.val,g6.2))),(15,(di x3.2))],G [((g6.1.val,g6.2),oB 52 18 G2 x3.1)]⟩) (y2,(Fi false (p2.length:Int) (p3.length:Int))) (⟨g3.1.val,RC g3.1.property Z⟩,g3.2) _ hy3 (C0 (V4 Z)<|C7 G_hit trivial) ?_
 intro x3 g6 z3 hz3 ez3
 unfold O2 at hz3
 refine A3<|B6<|sv Z<|sv Z<|sd Z (D6 Z)<|sv Z<|A1<|cc Z hz3 (fun c4 hz3=> ?_)<|fun c4 hz3=> ?_
 refine B2<|A3<|A8<|K8 fun u17 _=>A9 (oS x3.1 (g6.1.val,g6.2)) Z Z (sv Z<|sv Z<|sv Z<|sv Z<|sv Z<|sv Z<|bs hz3 fun _ hv8 hz3=>sd Z (F0 Z Z hv8 Z)<|sd Z (C8 Z hv8 Z Z)<|bs hz3 fun v9 hv9 hz3=>B8 Z Z (.cons (.agg (ca Z<|ca Z<|ca Z<|ca Z<|.cons ⟨DLe.nil,Z⟩ (ca Z<|ca Z<|.cons ⟨DLe.nil,Z⟩ (.cons ⟨DLe.nil,Z⟩ (ca Z<|ca Z<|.cons ⟨DLe.nil,Z⟩ (cz Z)))))) A2) (Mv _ _ _ hv9) (.inl Z) (A9 (dl G2 [v9]) Z (Ef G2 ([v9]:List Edit) (fun _=>Z) Z Z ⟨Z,Z,Z,trivial⟩ (fun _=>Z)) (bs hz3 fun _ hv10 hz3=>H9 G2 (g6.1.val,g6.2) x3.1 v9 [] _ (E4<|fun _=>Z) Z G_hit hv10 (ss Z<|A1<|E3<|A7 (s0:=⟨T [(0,(.d _)),(2,(.d _)),(4,(.d _)),(11,(.sl _)),(15,(.d _))],G [((81,u17),some _)]⟩) (G1 Z Z) ?_))))
 refine B9<|sv Z<|sv Z<|sv Z<|A1<|G9 ?_
 cases hz3
 exact ⟨Z,(⟨81, .tail _ (.tail _ (.head _))⟩,u17),(C0 ⟨.of Z, .of Z, .of Z,(.of (Q7<|L4 hv10).symm), .of Z,trivial⟩<|H7 G_hit trivial)⟩
 refine D8 Z ?_
 cases hz3
 obtain rfl:=ez3 _ rfl
 refine ⟨nofun,D1 Z<|Az ?_⟩
 exact ⟨(g6.1,g6.2),(C0 ⟨.of Z,trivial⟩<|C7 G_hit trivial)⟩
 rintro _ ⟨g5,q3⟩
 refine A7 q3<|B6<|A9 (oS y3 (g5.1.val,g5.2)) Z Z (A9 (oS y3 (g5.1.val,g5.2)) Z Z (A1<|B4 ?_))
 cases h
 exact B0 (.inr Z) (C1 (B1 Z)<|Cx G_hit) Cw
def Be [Lp](p1:Phase)(p2:Phase):Option Bool:=
  ((cond (p1.Ticks==p2.Ticks) (Z3 p1.Green p2.Green) (some default))).bind fun v1=>some ((p1.Ticks==p2.Ticks)&&v1)
theorem Nh(p1 p2 r)(h:Be p1 p2=some r):PCall prog 202 [(.agg [(i64 p1.Ticks),(.list (List.map A6 p1.Green))]),(.agg [(i64 p2.Ticks),(.list (List.map A6 p2.Green))])] (bo r):=by
 refine C4 (fk func202 ntmps202 m0 (by with_unfolding_all rfl)) (nl Z) ?_
 unfold Be at h
 refine A7 (s0:=⟨T [(0,(.d _)),(1,(.d _))],G []⟩) (G1 Z Z) ?_
 refine B6<|sm Z<|sn Z Z<|sv Z<|A1<|B6<|sq Z<|sl Z (gq Z) Z (sq Z<|sl Z G_hit Z<|sv Z<|sv Z<|gp Z (J1 Z) (fun _=>Z) (gt Z (vl Z (gq Z) Z)<|gp Z (J1 Z) (fun _=>Z) (gt Z (vl Z G_hit Z)<|bs h fun v1 hv1 h=> ?_)))
 refine S4 _ (bo v1) (J1 Z) (fun w5=>⟨_,[(dl A6 p1.Green),(dl A6 p2.Green)],_,_,(by simp only [A5 w5];rfl),Z,A2,Gs _ _ _<|L8 w5 hv1,(.inl Z)⟩) ?_
 refine sa Z Z Z<|sv Z<|A1<|B4 ?_
 cases h
 exact B0 (.inr Z) (C1 (B1 Z) D4) (.refl _)
def E6 [Lp](p1:(List Phase))(p2:(List Phase))(x1:Int):Option (Stp Int (Sum Unit Bool)):=
  cond (decide (x1< (p1.length:Int))) ((E8 p1 x1).bind fun v1=>(E8 p2 x1).bind fun v2=>(Be v1 v2).bind fun v3=>cond (!v3) (some (.out (.inr false))) (some (.go (H6 (x1+1))))) (some (.out (.inl ())))
def G7 [Lp](p1:(List Phase))(p2:(List Phase)):Option Bool:=
  cond ((p1.length:Int) !=(p2.length:Int)) (some false) (thenS (loop (E6 p1 p2) 0) (fun _=>some true) (fun r=>some r))
theorem V7(p1 p2 r)(h:G7 p1 p2=some r):PCall prog 201 [(.list (List.map J2 p1)),(.list (List.map J2 p2)),(.fn (.func 202) [] [])] (bo r):=by
 refine C4 (fk func201 ntmps201 m0 (by with_unfolding_all rfl)) (nl Z) ?_
 unfold G7 at h
 refine A7 (s0:=⟨T [(0,(.d _)),(1,(.d _)),(2,(.d _))],G []⟩) (G1 Z Z) ?_
 refine B6<|sv Z<|A1<|A3<|B6<|sv Z<|sd Z (D6 Z)<|sv Z<|sd Z (D6 Z)<|sv Z<|A1<|cc Z h (fun c1 h=> ?_)<|fun c1 h=> ?_
 refine B6<|sv Z<|A1<|B4 ?_
 cases h
 exact B0 (.inr Z) (C1 (B1 Z) D4) (.refl _)
 refine B2<|A3<|B6<|sv Z<|sd Z (D6 Z)<|sv Z<|A1<|js h fun z1 hz1 h=>F6 (fun s=> ∃(y1:Unit) (g1:Unit),z1= .inl y1∧Sb ⟨T [],G []⟩ s) ?_ ?_
 refine A8<|G0 (E6 p1 p2) (fun (x1:Int) (g2:Unit)=>⟨T [(1,(dl J2 p2)),(2,(.d (.fn (.func 202) [] []))),(15,(dl J2 p1)),(16,(di (p1.length:Int))),(17,(di x1))],G []⟩) 0 () _ hz1 (G1 Z Z) ?_
 intro x1 g2 z2 hz2 ez2
 unfold E6 at hz2
 refine B6<|sv Z<|A1<|A3<|cc Z hz2 (fun c2 hz2=> ?_)<|fun c2 hz2=> ?_
 refine B2<|A3<|A8<|B6<|sv Z<|bs hz2 fun v1 hv1 hz2=>sd Z (F0 Z Z hv1 Z)<|sd Z (C8 Z hv1 Z Z)<|sm Z<|sv Z<|Aa Z G_hit [(di v1.Ticks),(dl A6 v1.Green)] Z (A1<|B6<|sv Z<|sv Z<|bs hz2 fun v2 hv2 hz2=>sd Z (F0 Z Z hv2 Z)<|sd Z (C8 Z hv2 Z Z)<|sm Z<|Aa Z G_hit [(di v2.Ticks),(dl A6 v2.Green)] Z (A1<|B6<|sv Z<|sd Z (B5 Z (gq Z) Z Z)<|sd Z (B5 Z G_hit Z Z)<|bs hz2 fun v3 hv3 hz2=>B8 Z Z A2 (Nh _ _ _ hv3) (.inl Z) (A9 (.d (bo (!v3))) Z Z (A1<|cc Z hz2 (fun c3 hz2=> ?_)<|fun c3 hz2=> ?_))))
 refine A3<|A7 (s0:=⟨T [],G []⟩) (G1 Z Z) ?_
 refine B9<|sv Z<|A1<|B4 ?_
 cases hz2
 obtain rfl:=ez2 _ rfl
 refine ⟨nofun,G6 ?_⟩
 rw [bM]at h
 cases h
 exact B0 (.inr Z) (C1 (B1 Z) D4) (.refl _)
 refine B2<|E3<|A7 (s0:=⟨T [(1,(.d _)),(2,(.d _)),(15,(.d _)),(16,(.d _)),(17,(.d _))],G []⟩) (G1 Z Z) ?_
 refine B9<|sv Z<|sv Z<|A1<|G9 ?_
 cases hz2
 exact ⟨Z,(),(G1 Z Z)⟩
 refine D8 Z ?_
 cases hz2
 obtain rfl:=ez2 _ rfl
 refine ⟨nofun,D1 Z<|Az ?_⟩
 exact ⟨_,(),Z,(G1 Z Z)⟩
 rintro _ ⟨y1,g1,rfl,q1⟩
 rw [bL]at h
 refine A7 q1<|B6<|sv Z<|A1<|B4 ?_
 cases h
 exact B0 (.inr Z) (C1 (B1 Z) D4) (.refl _)
def Aw [Lp](p1:Signal)(p2:Signal):Option Bool:=
  ((cond (p1.Offset==p2.Offset) (G7 p1.Phases p2.Phases) (some default))).bind fun v1=>some ((p1.Offset==p2.Offset)&&v1)
theorem Pl(p1 p2 r)(h:Aw p1 p2=some r):PCall prog 102 [(.agg [(i64 p1.Offset),(.list (List.map J2 p1.Phases))]),(.agg [(i64 p2.Offset),(.list (List.map J2 p2.Phases))])] (bo r):=by
 refine C4 (fk func102 ntmps102 m0 (by with_unfolding_all rfl)) (nl Z) ?_
 unfold Aw at h
 refine A7 (s0:=⟨T [(0,(.d _)),(1,(.d _))],G []⟩) (G1 Z Z) ?_
 refine B6<|sm Z<|sn Z Z<|sv Z<|A1<|B6<|sq Z<|sl Z (gq Z) Z (sq Z<|sl Z G_hit Z<|sv Z<|sv Z<|gp Z (J1 Z) (fun _=>Z) (gt Z (vl Z (gq Z) Z)<|gp Z (J1 Z) (fun _=>Z) (gt Z (vl Z G_hit Z)<|bs h fun v1 hv1 h=> ?_)))
 refine S4 _ (bo v1) (J1 Z) (fun w5=>⟨_,[(dl J2 p1.Phases),(dl J2 p2.Phases),(.d (.fn (.func 202) [] []))],_,_,(by simp only [A5 w5];rfl),Z,A2,V7 _ _ _<|L8 w5 hv1,(.inl Z)⟩) ?_
 refine sa Z Z Z<|sv Z<|A1<|B4 ?_
 cases h
 exact B0 (.inr Z) (C1 (B1 Z) D4) (.refl _)
def Y7 (p1:List Phase):Option (List Phase):=X6 [] p1
theorem Dj (p1:List Phase)(a0:D)(hl:X6 ([]:List Phase) p1=some p1)(hn: ∀h,H4 (T [(3, .d a0),(2, .d .nilS),(0, .d a0)]) h (.isnil false (.t 3))=some (.d (bo false)))(he: ∀h,X4 h 2 (.d a0)=some (List.map J2 p1)):
    PCall prog 197 [a0] (.list (List.map J2 p1)):=by
  refine C4 (fk func197 ntmps197 m0 (by with_unfolding_all rfl)) (Nat.le_of_ble_eq_true Z) ?_
  refine (A7 (s0:=⟨T [(0, .d a0)],G []⟩) (C0 ⟨.of Z,trivial⟩ trivial) ?_)
  refine A3 ?_
  refine K8 fun _ _=> ?_
  refine A9 (.d .nilS) Z Z ?_
  refine A1 ?_
  refine A3 ?_
  refine A3 ?_
  refine K8 fun _ _=> ?_
  refine A9 (.d a0) Z Z ?_
  refine A9 (.d (bo false)) Z (hn _) ?_
  refine A1 ?_
  refine Ox Z ?_
  refine B2 ?_
  refine A3 ?_
  refine K8 fun _ _=> ?_
  refine Hf (.sl _) (.arr 97 2 (List.map J2 ([]:List Phase))) Z Z ?_
  refine A9 (.d a0) Z Z ?_
  refine Dz J2 _ [] p1 _ (he _) Z G_hit hl ?_
  refine A9 (.sl _) Z Z ?_
  refine A1 ?_
  refine B4 ?_
  exact B0 (.inr Z) (C1 (B1 Z)<|Wr G_hit) (.refl _)
theorem Je(p1 r)(h:Y7 p1=some r):PCall prog 197 [.list (List.map J2 p1)] (.list (List.map J2 r)):=by
  have hr:r=p1:=by obtain ⟨_,rfl⟩:=Ee h;rfl
  subst hr
  cases r with
  |cons x xs=>exact Dj (x::xs) _ h (fun _=>rfl) fun _=>E4 (fun _=>rfl)
  |nil=>
   refine PCall.nil fun A cap=> ?_
   cases A with
   |some A=>exact Dj [] (.v (.slice (some A) 0 cap)) h (fun _=>rfl) fun _=>rfl
   |none=>
    refine C4 (fk func197 ntmps197 m0 (by with_unfolding_all rfl)) (Nat.le_of_ble_eq_true Z) ?_
    refine (A7 (s0:=⟨T [(0, .d (.v (.slice none 0 cap)))],G []⟩) (C0 ⟨.of Z,trivial⟩ trivial) ?_)
    refine A3 ?_
    refine K8 fun _ _=> ?_
    refine A9 (.d .nilS) Z Z ?_
    refine A1 ?_
    refine A3 ?_
    refine A3 ?_
    refine K8 fun _ _=> ?_
    refine A9 (.d _) Z Z ?_
    refine A9 (.d (bo true)) Z Z ?_
    refine A1 ?_
    refine Ow Z ?_
    refine A3 ?_
    refine K8 fun _ _=> ?_
    refine A9 (.d .nilS) Z Z ?_
    refine A1 ?_
    refine B4 ?_
    exact B0 (.inr Z) (C1 (B1 Z) D4) .nil
theorem Iv(p1 r)(h:Y7 p1=some r):MCall prog 197 [.d (.list (List.map J2 p1))] [] (oE r (800000,0)) [] [oB 97 2 J2 r]:=by
  cases p1 with
  |nil=>
   have hr:r= []:=by obtain ⟨_,rfl⟩:=Ee h;rfl
   subst hr
   exact MCall.ofP<|Je [] [] h
  |cons x xs=>
  have hr:X6 ([]:List Phase) (x::xs)=some r:=h
  have e:=(Ee hr).2
  rw [lN]at e
  rw [HX (L4 hr),MV (L4 hr)]
  refine Er (fk func197 ntmps197 m0 (by with_unfolding_all rfl)) Z (Nat.le_of_ble_eq_true Z) ?_
  refine (A7 (s0:=⟨T [(0, .d (.list (List.map J2 (x::xs))))],G []⟩) (C0 ⟨.of Z,trivial⟩ trivial) ?_)
  refine A3 ?_
  refine K8 fun _ _=> ?_
  refine A9 (.d .nilS) Z Z ?_
  refine A1 ?_
  refine A3 ?_
  refine A3 ?_
  refine K8 fun _ _=> ?_
  refine A9 (.d (.list (List.map J2 (x::xs)))) Z Z ?_
  refine A9 (.d (bo false)) Z Z ?_
  refine A1 ?_
  refine Ox Z ?_
  refine B2 ?_
  refine A3 ?_
  refine K8 fun u3 _=> ?_
  refine Hf (.sl _) (.arr 97 2 (List.map J2 ([]:List Phase))) Z Z ?_
  refine A9 (.d (.list (List.map J2 (x::xs)))) Z Z ?_
  refine Dz J2 _ [] (x::xs) _ (E4<|fun _=>Z) Z G_hit hr ?_
  refine A9 (.sl _) Z Z ?_
  refine A1 ?_
  refine B4 ?_
  exact Bn (v1:= .sl (7,u3)) (.inr Z) (Zl<|B1 Z) (.of Z) [((7,u3),some<|.arr 97 2 (List.map J2 r))] (B7 G_hit (.of Z) trivial) (NE [(7,u3)] Z trivial ⟨G_hit,trivial⟩ Z (by simp only [lR,List.not_mem_nil,or_false,forall_eq];exact fun i=>ND rfl i) nd1)
def Y0 (v1:(List Phase))(x1:(Int×Signal)):Option (Stp (Int×Signal) Signal):=
  cond (decide (x1.1< (v1.length:Int))) ((E8 x1.2.Phases x1.1).bind fun v2=>(Z4 v2.Green).bind fun v3=>(E8 x1.2.Phases x1.1).bind fun v4=>some (.go ((H6 (x1.1+1)),(Signal.mk x1.2.Offset (Lj x1.2.Phases x1.1 (Phase.mk v4.Ticks v3)))))) (some (.out x1.2))
def W7 [Lp](p1:Signal):Option Signal:=
  (Y7 p1.Phases).bind fun v1=>(loop (Y0 v1) (0,(Signal.mk p1.Offset v1))).bind fun y1=>some y1
theorem Dt(p1 r)(h:W7 p1=some r):PCall prog 91 [(.agg [(i64 p1.Offset),(.list (List.map J2 p1.Phases))])] (.agg [(i64 r.Offset),(.list (List.map J2 r.Phases))]):=by
 refine C4 (fk func91 ntmps91 (fun r=>if r==1 then [1001002]else []) (by with_unfolding_all rfl)) (nl Z) ?_
 unfold W7 at h
 refine A7 (s0:=⟨T [(0,(.d _))],G []⟩) (G1 Z Z) ?_
 refine lr<|fun u1 _=>sm Z<|sm Z<|A1<|lr<|fun u2 _=>sq Z<|sl Z (gq Z) Z (bs h fun v1 hv1 h=> ?_)
 refine DL (v:=oE v1 (10010020,u2)) (us:= [(10010020,u2)]) (Zo (Iv _ _ hv1) [] [] _ (((10010020,u2),oB 97 2 J2 v1)::_) Z Es Z Bz trivial (fun _ h=>h) List.nodup_nil (by generalize v1=x1;cases x1<;>rfl) Z (Mg (Z)) Z) ?_
 refine sp Z Z<|Dp _ _ _ _ _ (JI _ _) Z Z (gq Z) (nl Z) [(di p1.Offset),(oE v1 (10010020,u2))] Z (A1<|A3<|B6<|sq Z<|A9 (oE v1 (10010020,u2)) Z (Bp Z G_hit Z) (sd Z (UB (f:=J2) Z (gq Z))<|sv Z<|A1<|bs h fun y1 hy1 h=>F6 (fun s=> ∃g1:Nat,Sb ⟨T [(1,(.ptr (1,u1) 0)),(2,(.ptr (2,u1) 0))],G [((1,u1),some<|.box 48 [(di y1.Offset),(oE y1.Phases (10010020,g1))]),((2,u1),some<|.box 48 [(di 0),(.d .nilS)]),((10010020,g1),oB 97 2 J2 y1.Phases)]⟩ s) ?_ ?_))
 refine A8<|G0 (Y0 v1) (fun (x1:(Int×Signal)) (g2:Nat)=>⟨T [(1,(.ptr (1,u1) 0)),(2,(.ptr (2,u1) 0)),(10,(di (v1.length:Int))),(11,(di x1.1))],G [((1,u1),some<|.box 48 [(di x1.2.Offset),(oE x1.2.Phases (10010020,g2))]),((2,u1),some<|.box 48 [(di 0),(.d .nilS)]),((10010020,g2),oB 97 2 J2 x1.2.Phases)]⟩) (0,(Signal.mk p1.Offset v1)) u2 _ hy1 (C0 (V4 Z)<|B7 G_hit (.of Z)<|sg Z<|C7 (gq Z) trivial) ?_
 intro x1 g2 z1 hz1 ez1
 unfold Y0 at hz1
 refine B6<|sv Z<|A1<|A3<|cc Z hz1 (fun c1 hz1=> ?_)<|fun c1 hz1=> ?_
 refine B2<|A3<|A8<|B6<|sv Z<|sv Z<|A1<|Q1 Z<|sq Z<|A9 (oE x1.2.Phases (10010020,g2)) Z (Bp Z G_hit Z) (sv Z<|sq Z<|A9 (oE x1.2.Phases (10010020,g2)) Z (Bp Z G_hit Z) (sv Z<|bs hz1 fun _ hv2 hz1=>A9 (.aptr _ _ _ _) Z (NJ Z Z (gq Z) hv2) (A9 (.aptr _ _ _ _) Z Z (sd Z (QS Z (BD (gq Z)<|Ie hv2) hv2 Z)<|bs hz1 fun v3 hv3 hz1=>B8 Z Z A2 (Gu _ _ hv3) (.inl Z) (bs hz1 fun v4 hv4 hz1=>A9 (.aptr _ _ _ _) Z (NJ Z Z (gq Z) hv4) (A9 (.aptr _ _ _ _) Z Z ?_))))))
 rw [HX (Ie hv4)]
 refine Lk J2 _ _ _ (x1.1) _ (Phase.mk v4.Ticks v3) [(.list (List.map A6 v3))] Z Z Z (BD (gq Z)<|Ie hv4) hv4 (nl Z) Z (A1<|E3<|A7 (s0:=⟨T [(1,(.ptr _ _)),(2,(.ptr _ _)),(10,(.d _)),(11,(.d _))],G [((1,u1),some<|.box 48 _),((10010020,g2),some _),((2,u1),some<|.box 48 _)]⟩) (G1 Z Z) ?_)
 refine B9<|sv Z<|sv Z<|A1<|G9 ?_
 cases hz1
 exact ⟨Z,g2,(C0 (V4 Z)<|B7 G_hit (.box (cv<|.cons (.of (HX<|Vj<|Ie hv4).symm) .nil))<|sg Z<|H7 (gq Z) trivial)⟩
 refine D8 Z ?_
 cases hz1
 obtain rfl:=ez1 _ rfl
 refine ⟨nofun,D1 Z<|Az ?_⟩
 exact ⟨g2,(C0 (V4 Z)<|B7 G_hit (.of Z)<|sg Z<|C7 (gq Z) trivial)⟩
 rintro _ ⟨g1,q1⟩
 refine A7 q1<|B6<|A9 (Ao [(di y1.Offset),(oE y1.Phases (10010020,g1))]) Z (B5 Z G_hit Z Z) (Dp _ _ _ _ _ (Aj _) Z Z (gq Z) (nl Z) [(di y1.Offset),(oE y1.Phases (10010020,g1))] Z (A1<|B4 ?_))
 cases h
 exact B0 (.inr Z) (C1 (I3 Z G_hit (nl Z) Z)<|Im<|rD<|J5 (VQ<|gq Z) M3) (.refl _)
def Fr [Lp](p1:Edit)(p2:Signal):Option Edit:=
  (W7 p2).bind fun v1=>some (Edit.mk p1.Kind p1.Table p1.At p1.Lane_ p1.Zone_ v1 p1.Work_)
theorem Mw(p1 p2 r)(h:Fr p1 p2=some r):PCall prog 103 [(.agg (G2 p1)),(.agg [(i64 p2.Offset),(.list (List.map J2 p2.Phases))])] (.agg (G2 r)):=by
 refine C4 (fk func103 ntmps103 m0 (by with_unfolding_all rfl)) (nl Z) ?_
 unfold Fr at h
 refine A7 (s0:=⟨T [(0,(.d _)),(1,(.d _))],G []⟩) (G1 Z Z) ?_
 refine B6<|sm Z<|sn Z Z<|sm Z<|A1<|B6<|sd Z (B5 Z (gq Z) Z Z)<|bs h fun v1 hv1 h=>B8 Z Z A2 (Dt _ _ hv1) (.inl Z) (sq Z<|Aa Z (gq Z) (((Od p1).set 10 (di v1.Offset)).set 11 (dl J2 v1.Phases)) Z (A1<|B6<|sd Z (B5 Z G_hit Z Z)<|Aa Z (gq Z) (((Od p1).set 10 (di v1.Offset)).set 11 (dl J2 v1.Phases)) Z (A1<|B4 ?_)))
 cases h
 exact B0 (.inr Z) (C1 (I3 Z G_hit (nl Z) Z) D4) (.refl _)
def L9 [Lp](p1:Int)(p3:(List Signal))(x3:((List Edit)×Int)):Option (Stp ((List Edit)×Int) (List Edit)):=
  cond (decide (x3.2< (p3.length:Int))) ((E8 p3 x3.2).bind fun v8=>(Fr (Edit.mk 1 p1 x3.2 (Lane.mk 0 (Curve.mk []) 0 0 []) (Zone.mk [] 0) (Signal.mk 0 []) (Work.mk 0 0 0 0 0 0)) v8).bind fun v9=>(X6 x3.1 [v9]).bind fun v10=>some (.go (v10,(H6 (x3.2+1))))) (some (.out x3.1))
def M0 (p1:Int)(p2:(List Signal))(p3:(List Signal))(x2:((List Edit)×Int)):Option (Stp ((List Edit)×Int) (List Edit)):=
  cond (decide (x2.2≥(Fi false (p2.length:Int) (p3.length:Int)))) ((X6 x2.1 [(Edit.mk 2 p1 x2.2 (Lane.mk 0 (Curve.mk []) 0 0 []) (Zone.mk [] 0) (Signal.mk 0 []) (Work.mk 0 0 0 0 0 0))]).bind fun v7=>some (.go (v7,(H6 (x2.2 - 1))))) (some (.out x2.1))
def M1 [Lp](p1:Int)(p2:(List Signal))(p3:(List Signal))(x1:((List Edit)×Int)):Option (Stp ((List Edit)×Int) (List Edit)):=
  cond (decide (x1.2< (Fi false (p2.length:Int) (p3.length:Int)))) ((E8 p2 x1.2).bind fun v1=>(E8 p3 x1.2).bind fun v2=>(Aw v1 v2).bind fun v3=>cond (!v3) ((E8 p3 x1.2).bind fun v4=>(Fr (Edit.mk 3 p1 x1.2 (Lane.mk 0 (Curve.mk []) 0 0 []) (Zone.mk [] 0) (Signal.mk 0 []) (Work.mk 0 0 0 0 0 0)) v4).bind fun v5=>(X6 x1.1 [v5]).bind fun v6=>some (.go (v6,(H6 (x1.2+1))))) (some (.go (x1.1,(H6 (x1.2+1)))))) (some (.out x1.1))
def J4 [Lp](p1:Int)(p2:(List Signal))(p3:(List Signal)):Option (List Edit):=
  (loop (M1 p1 p2 p3) ([],0)).bind fun y1=>(loop (M0 p1 p2 p3) (y1,(H6 ((p2.length:Int) - 1)))).bind fun y2=>(loop (L9 p1 p3) (y2,(Fi false (p2.length:Int) (p3.length:Int)))).bind fun y3=>some y3
theorem Ax(p1 p2 p3 r)(h:J4 p1 p2 p3=some r):PCall prog 101 [(i64 p1),(.list (List.map E2 p2)),(.list (List.map E2 p3)),(.fn (.func 102) [] []),(.fn (.func 103) [] [])] (.list (List.map G2 r)):=by
 refine C4 (fk func101 ntmps101 (fun r=>if r==7 then [1010]else if r==12 then [1004]else if r==16 then [1010]else []) (by with_unfolding_all rfl)) (nl Z) ?_
 unfold J4 at h
 refine A7 (s0:=⟨T [(0,(.d _)),(1,(.d _)),(2,(.d _)),(3,(.d _)),(4,(.d _))],G []⟩) (G1 Z Z) ?_
 refine B6<|sv Z<|A1<|B6<|sv Z<|A1<|B6<|sv Z<|sd Z (D6 Z)<|sv Z<|sd Z (D6 Z)<|sv Z<|sv Z<|A1<|A3<|B6<|sv Z<|sv Z<|A1<|bs h fun y1 hy1 h=>F6 (fun s=> ∃g1:Nat,Sb ⟨T [(0,(di p1)),(1,(dl E2 p2)),(2,(dl E2 p3)),(4,(.d (.fn (.func 103) [] []))),(11,(oS y1 (47,g1))),(12,(di<|Fi false (p2.length:Int) (p3.length:Int)))],G [((47,g1),oB 52 18 G2 y1)]⟩ s) ?_ ?_
 refine A8<|G0 (M1 p1 p2 p3) (fun (x1:((List Edit)×Int)) (g2:Nat)=>⟨T [(0,(di p1)),(1,(dl E2 p2)),(2,(dl E2 p3)),(3,(.d (.fn (.func 102) [] []))),(4,(.d (.fn (.func 103) [] []))),(11,(oS x1.1 (47,g2))),(12,(di<|Fi false (p2.length:Int) (p3.length:Int))),(21,(di<|Fi false (p2.length:Int) (p3.length:Int))),(22,(di x1.2))],G [((47,g2),oB 52 18 G2 x1.1)]⟩) ([],0) 0 _ hy1 (C0 (V4 Z)<|M4 trivial) ?_
 intro x1 g2 z1 hz1 ez1
 unfold M1 at hz1
 refine B6<|sv Z<|A1<|A3<|cc Z hz1 (fun c1 hz1=> ?_)<|fun c1 hz1=> ?_
 refine B2<|A3<|A8<|B6<|sv Z<|sv Z<|A1<|A3<|Q1 Z<|sv Z<|sv Z<|sv Z<|bs hz1 fun _ hv1 hz1=>sd Z (F0 Z Z hv1 Z)<|sd Z (C8 Z hv1 Z Z)<|sv Z<|sv Z<|bs hz1 fun _ hv2 hz1=>sd Z (F0 Z Z hv2 Z)<|sd Z (C8 Z hv2 Z Z)<|bs hz1 fun v3 hv3 hz1=>B8 Z Z A2 (Pl _ _ _ hv3) (.inl Z) (A9 (.d (bo (!v3))) Z Z (A1<|cc Z hz1 (fun c2 hz1=> ?_)<|fun c2 hz1=> ?_))
 refine A7 (s0:=⟨T [(0,(di p1)),(1,(dl E2 p2)),(2,(dl E2 p3)),(3,(.d (.fn (.func 102) [] []))),(4,(.d (.fn (.func 103) [] []))),(11,(oS x1.1 (47,g2))),(12,(di<|Fi false (p2.length:Int) (p3.length:Int))),(13,(di x1.2)),(21,(di<|Fi false (p2.length:Int) (p3.length:Int))),(22,(di x1.2))],G [((47,g2),oB 52 18 G2 x1.1)]⟩) (C0 (V4 Z)<|C7 G_hit trivial) ?_
 refine K8 fun u8 _=>A9 (oS x1.1 (47,g2)) Z Z (sv Z<|sv Z<|sv Z<|sv Z<|sv Z<|sv Z<|bs hz1 fun _ hv4 hz1=>sd Z (F0 Z Z hv4 Z)<|sd Z (C8 Z hv4 Z Z)<|bs hz1 fun v5 hv5 hz1=>B8 Z Z (.cons (.agg (ca Z<|ca Z<|ca Z<|ca Z<|.cons ⟨DLe.nil,Z⟩ (ca Z<|ca Z<|.cons ⟨DLe.nil,Z⟩ (.cons ⟨DLe.nil,Z⟩ (ca Z<|ca Z<|.cons ⟨DLe.nil,Z⟩ (cz Z)))))) A2) (Mw _ _ _ hv5) (.inl Z) (A9 (dl G2 [v5]) Z (Ef G2 ([v5]:List Edit) (fun _=>Z) Z Z ⟨Z,Z,Z,trivial⟩ (fun _=>Z)) (bs hz1 fun _ hv6 hz1=>H9 G2 (47,g2) x1.1 v5 [] _ (E4<|fun _=>Z) Z G_hit hv6 (ss Z<|A1<|E3<|A7 (s0:=⟨T [(0,(.d _)),(1,(.d _)),(2,(.d _)),(3,(.d _)),(4,(.d _)),(11,(.sl _)),(12,(.d _)),(21,(.d _)),(22,(.d _))],G [((47,u8),some _)]⟩) (G1 Z Z) ?_))))
 refine B9<|sv Z<|sv Z<|A1<|G9 ?_
 cases hz1
 exact ⟨Z,u8,(C0 ⟨.of Z, .of Z, .of Z, .of Z, .of Z,(.of (Q7<|L4 hv6).symm), .of Z, .of Z, .of Z,trivial⟩<|H7 G_hit trivial)⟩
 refine B2<|E3<|A7 (s0:=⟨T [(0,(di p1)),(1,(dl E2 p2)),(2,(dl E2 p3)),(3,(.d (.fn (.func 102) [] []))),(4,(.d (.fn (.func 103) [] []))),(11,(oS x1.1 (47,g2))),(12,(di<|Fi false (p2.length:Int) (p3.length:Int))),(21,(di<|Fi false (p2.length:Int) (p3.length:Int))),(22,(di x1.2))],G [((47,g2),oB 52 18 G2 x1.1)]⟩) (C0 (V4 Z)<|C7 G_hit trivial) ?_
 refine B9<|sv Z<|sv Z<|A1<|G9 ?_
 cases hz1
 exact ⟨Z,g2,(C0 (V4 Z)<|C7 G_hit trivial)⟩
 refine D8 Z ?_
 cases hz1
 obtain rfl:=ez1 _ rfl
 refine ⟨nofun,D1 Z<|Az ?_⟩
 exact ⟨g2,(C0 (V4 Z)<|C7 G_hit trivial)⟩
 rintro _ ⟨g1,q1⟩
 refine A7 q1<|A3<|B6<|sv Z<|sd Z (D6 Z)<|sv Z<|sv Z<|A1<|bs h fun y2 hy2 h=>F6 (fun s=> ∃g3:({d:Nat // d∈ [47,62]}×Nat),Sb ⟨T [(0,(di p1)),(2,(dl E2 p3)),(4,(.d (.fn (.func 103) [] []))),(11,(oS y2 (g3.1.val,g3.2))),(12,(di<|Fi false (p2.length:Int) (p3.length:Int)))],G [((g3.1.val,g3.2),oB 52 18 G2 y2)]⟩ s) ?_ ?_
 refine A8<|G0 (M0 p1 p2 p3) (fun (x2:((List Edit)×Int)) (g4:({d:Nat // d∈ [47,62]}×Nat))=>⟨T [(0,(di p1)),(2,(dl E2 p3)),(4,(.d (.fn (.func 103) [] []))),(11,(oS x2.1 (g4.1.val,g4.2))),(12,(di<|Fi false (p2.length:Int) (p3.length:Int))),(14,(di x2.2))],G [((g4.1.val,g4.2),oB 52 18 G2 x2.1)]⟩) (y1,(H6 ((p2.length:Int) - 1))) (⟨47, .head _⟩,g1) _ hy2 (C0 (V4 Z)<|C7 G_hit trivial) ?_
 intro x2 g4 z2 hz2 ez2
 unfold M0 at hz2
 refine A3<|B6<|sv Z<|sv Z<|sv Z<|A1<|cc Z hz2 (fun c3 hz2=> ?_)<|fun c3 hz2=> ?_
 refine B2<|A3<|A8<|K8 fun u13 _=>A9 (oS x2.1 (g4.1.val,g4.2)) Z Z (sv Z<|sv Z<|sv Z<|A9 (dl G2 [(Edit.mk 2 p1 x2.2 (Lane.mk 0 (Curve.mk []) 0 0 []) (Zone.mk [] 0) (Signal.mk 0 []) (Work.mk 0 0 0 0 0 0))]) Z Z (bs hz2 fun _ hv7 hz2=>H9 G2 (g4.1.val,g4.2) x2.1 (Edit.mk 2 p1 x2.2 (Lane.mk 0 (Curve.mk []) 0 0 []) (Zone.mk [] 0) (Signal.mk 0 []) (Work.mk 0 0 0 0 0 0)) [] _ (E4<|fun _=>Z) Z G_hit hv7 (ss Z<|A1<|E3<|B9<|sv Z<|sv Z<|sv Z<|A1<|G9 ?_)))
 cases hz2
 exact ⟨Z,(⟨62, .tail _ (.head _)⟩,u13),(C0 ⟨.of Z, .of Z, .of Z,(.of (Q7<|L4 hv7).symm), .of Z, .of Z,trivial⟩<|H7 G_hit trivial)⟩
 refine D8 Z ?_
 cases hz2
 obtain rfl:=ez2 _ rfl
 refine ⟨nofun,D1 Z<|Az ?_⟩
 exact ⟨(g4.1,g4.2),(C0 (V4 Z)<|C7 G_hit trivial)⟩
 rintro _ ⟨g3,q2⟩
 refine A7 q2<|A3<|B6<|sv Z<|sv Z<|A1<|bs h fun y3 hy3 h=>F6 (fun s=> ∃g5:({d:Nat // d∈ [47,62,81]}×Nat),Sb ⟨T [(11,(oS y3 (g5.1.val,g5.2)))],G [((g5.1.val,g5.2),oB 52 18 G2 y3)]⟩ s) ?_ ?_
 refine A8<|G0 (L9 p1 p3) (fun (x3:((List Edit)×Int)) (g6:({d:Nat // d∈ [47,62,81]}×Nat))=>⟨T [(0,(di p1)),(2,(dl E2 p3)),(4,(.d (.fn (.func 103) [] []))),(11,(oS x3.1 (g6.1.val,g6.2))),(15,(di x3.2))],G [((g6.1.val,g6.2),oB 52 18 G2 x3.1)]⟩) (y2,(Fi false (p2.length:Int) (p3.length:Int))) (⟨g3.1.val,RC g3.1.property Z⟩,g3.2) _ hy3 (C0 (V4 Z)<|C7 G_hit trivial) ?_
 intro x3 g6 z3 hz3 ez3
 unfold L9 at hz3
 refine A3<|B6<|sv Z<|sv Z<|sd Z (D6 Z)<|sv Z<|A1<|cc Z hz3 (fun c4 hz3=> ?_)<|fun c4 hz3=> ?_
 refine B2<|A3<|A8<|K8 fun u17 _=>A9 (oS x3.1 (g6.1.val,g6.2)) Z Z (sv Z<|sv Z<|sv Z<|sv Z<|sv Z<|sv Z<|bs hz3 fun _ hv8 hz3=>sd Z (F0 Z Z hv8 Z)<|sd Z (C8 Z hv8 Z Z)<|bs hz3 fun v9 hv9 hz3=>B8 Z Z (.cons (.agg (ca Z<|ca Z<|ca Z<|ca Z<|.cons ⟨DLe.nil,Z⟩ (ca Z<|ca Z<|.cons ⟨DLe.nil,Z⟩ (.cons ⟨DLe.nil,Z⟩ (ca Z<|ca Z<|.cons ⟨DLe.nil,Z⟩ (cz Z)))))) A2) (Mw _ _ _ hv9) (.inl Z) (A9 (dl G2 [v9]) Z (Ef G2 ([v9]:List Edit) (fun _=>Z) Z Z ⟨Z,Z,Z,trivial⟩ (fun _=>Z)) (bs hz3 fun _ hv10 hz3=>H9 G2 (g6.1.val,g6.2) x3.1 v9 [] _ (E4<|fun _=>Z) Z G_hit hv10 (ss Z<|A1<|E3<|A7 (s0:=⟨T [(0,(.d _)),(2,(.d _)),(4,(.d _)),(11,(.sl _)),(15,(.d _))],G [((81,u17),some _)]⟩) (G1 Z Z) ?_))))
 refine B9<|sv Z<|sv Z<|sv Z<|A1<|G9 ?_
 cases hz3
 exact ⟨Z,(⟨81, .tail _ (.tail _ (.head _))⟩,u17),(C0 ⟨.of Z, .of Z, .of Z,(.of (Q7<|L4 hv10).symm), .of Z,trivial⟩<|H7 G_hit trivial)⟩
 refine D8 Z ?_
 cases hz3
 obtain rfl:=ez3 _ rfl
 refine ⟨nofun,D1 Z<|Az ?_⟩
 exact ⟨(g6.1,g6.2),(C0 ⟨.of Z,trivial⟩<|C7 G_hit trivial)⟩
 rintro _ ⟨g5,q3⟩
 refine A7 q3<|B6<|A9 (oS y3 (g5.1.val,g5.2)) Z Z (A9 (oS y3 (g5.1.val,g5.2)) Z Z (A1<|B4 ?_))
 cases h
 exact B0 (.inr Z) (C1 (B1 Z)<|Cx G_hit) Cw
def Db (p1:Work)(p2:Work):Option Bool:=
  some (p1.Lane_==p2.Lane_&& (p1.From==p2.From&& (p1.To==p2.To&& (p1.Begin==p2.Begin&& (p1.End==p2.End&& (p1.Limit==p2.Limit&&true))))))
theorem Se(p1 p2 r)(h:Db p1 p2=some r):PCall prog 105 [(.agg (I6 p1)),(.agg (I6 p2))] (bo r):=by
 refine C4 (fk func105 ntmps105 m0 (by with_unfolding_all rfl)) (nl Z) ?_
 unfold Db at h
 refine A7 (s0:=⟨T [(0,(.d _)),(1,(.d _))],G []⟩) (G1 Z Z) ?_
 refine B6<|sm Z<|sn Z Z<|sv Z<|A1<|B6<|sd Z (B5 Z (gq Z) Z Z)<|sd Z (B5 Z G_hit Z Z)<|A9 (.d (bo (p1.Lane_==p2.Lane_&& (p1.From==p2.From&& (p1.To==p2.To&& (p1.Begin==p2.Begin&& (p1.End==p2.End&& (p1.Limit==p2.Limit&&true)))))))) Z Z (sv Z<|A1<|B4 ?_)
 cases h
 exact B0 (.inr Z) (C1 (B1 Z) D4) (.refl _)
def Hj (p1:Edit)(p2:Work):Option Edit:=
  some (Edit.mk p1.Kind p1.Table p1.At p1.Lane_ p1.Zone_ p1.Signal_ p2)
theorem Mx(p1 p2 r)(h:Hj p1 p2=some r):PCall prog 106 [(.agg (G2 p1)),(.agg (I6 p2))] (.agg (G2 r)):=by
 refine C4 (fk func106 ntmps106 m0 (by with_unfolding_all rfl)) (nl Z) ?_
 unfold Hj at h
 refine A7 (s0:=⟨T [(0,(.d _)),(1,(.d _))],G []⟩) (G1 Z Z) ?_
 refine B6<|sm Z<|sn Z Z<|sm Z<|A1<|B6<|sd Z (B5 Z (gq Z) Z Z)<|sq Z<|Aa Z (gq Z) (((((((Od p1).set 12 (di p2.Lane_)).set 13 (di p2.From)).set 14 (di p2.To)).set 15 (di p2.Begin)).set 16 (di p2.End)).set 17 (di p2.Limit)) Z (A1<|B6<|sd Z (B5 Z G_hit Z Z)<|Aa Z (gq Z) (((((((Od p1).set 12 (di p2.Lane_)).set 13 (di p2.From)).set 14 (di p2.To)).set 15 (di p2.Begin)).set 16 (di p2.End)).set 17 (di p2.Limit)) Z (A1<|B4 ?_))
 cases h
 exact B0 (.inr Z) (C1 (I3 Z G_hit (nl Z) Z) D4) (.refl _)
def O5 (p1:Int)(p3:(List Work))(x3:((List Edit)×Int)):Option (Stp ((List Edit)×Int) (List Edit)):=
  cond (decide (x3.2< (p3.length:Int))) ((E8 p3 x3.2).bind fun v8=>(Hj (Edit.mk 1 p1 x3.2 (Lane.mk 0 (Curve.mk []) 0 0 []) (Zone.mk [] 0) (Signal.mk 0 []) (Work.mk 0 0 0 0 0 0)) v8).bind fun v9=>(X6 x3.1 [v9]).bind fun v10=>some (.go (v10,(H6 (x3.2+1))))) (some (.out x3.1))
def O6 (p1:Int)(p2:(List Work))(p3:(List Work))(x2:((List Edit)×Int)):Option (Stp ((List Edit)×Int) (List Edit)):=
  cond (decide (x2.2≥(Fi false (p2.length:Int) (p3.length:Int)))) ((X6 x2.1 [(Edit.mk 2 p1 x2.2 (Lane.mk 0 (Curve.mk []) 0 0 []) (Zone.mk [] 0) (Signal.mk 0 []) (Work.mk 0 0 0 0 0 0))]).bind fun v7=>some (.go (v7,(H6 (x2.2 - 1))))) (some (.out x2.1))
def O7 (p1:Int)(p2:(List Work))(p3:(List Work))(x1:((List Edit)×Int)):Option (Stp ((List Edit)×Int) (List Edit)):=
  cond (decide (x1.2< (Fi false (p2.length:Int) (p3.length:Int)))) ((E8 p2 x1.2).bind fun v1=>(E8 p3 x1.2).bind fun v2=>(Db v1 v2).bind fun v3=>cond (!v3) ((E8 p3 x1.2).bind fun v4=>(Hj (Edit.mk 3 p1 x1.2 (Lane.mk 0 (Curve.mk []) 0 0 []) (Zone.mk [] 0) (Signal.mk 0 []) (Work.mk 0 0 0 0 0 0)) v4).bind fun v5=>(X6 x1.1 [v5]).bind fun v6=>some (.go (v6,(H6 (x1.2+1))))) (some (.go (x1.1,(H6 (x1.2+1)))))) (some (.out x1.1))
def K3 [Lp](p1:Int)(p2:(List Work))(p3:(List Work)):Option (List Edit):=
  (loop (O7 p1 p2 p3) ([],0)).bind fun y1=>(loop (O6 p1 p2 p3) (y1,(H6 ((p2.length:Int) - 1)))).bind fun y2=>(loop (O5 p1 p3) (y2,(Fi false (p2.length:Int) (p3.length:Int)))).bind fun y3=>some y3
theorem Cf(p1 p2 p3 r)(h:K3 p1 p2 p3=some r):PCall prog 104 [(i64 p1),(.list (List.map I6 p2)),(.list (List.map I6 p3)),(.fn (.func 105) [] []),(.fn (.func 106) [] [])] (.list (List.map G2 r)):=by
 refine C4 (fk func104 ntmps104 (fun r=>if r==7 then [1010]else if r==12 then [1004]else if r==16 then [1010]else []) (by with_unfolding_all rfl)) (nl Z) ?_
 unfold K3 at h
 refine A7 (s0:=⟨T [(0,(.d _)),(1,(.d _)),(2,(.d _)),(3,(.d _)),(4,(.d _))],G []⟩) (G1 Z Z) ?_
 refine B6<|sv Z<|A1<|B6<|sv Z<|A1<|B6<|sv Z<|sd Z (D6 Z)<|sv Z<|sd Z (D6 Z)<|sv Z<|sv Z<|A1<|A3<|B6<|sv Z<|sv Z<|A1<|bs h fun y1 hy1 h=>F6 (fun s=> ∃g1:Nat,Sb ⟨T [(0,(di p1)),(1,(dl I6 p2)),(2,(dl I6 p3)),(4,(.d (.fn (.func 106) [] []))),(11,(oS y1 (47,g1))),(12,(di<|Fi false (p2.length:Int) (p3.length:Int)))],G [((47,g1),oB 52 18 G2 y1)]⟩ s) ?_ ?_
 refine A8<|G0 (O7 p1 p2 p3) (fun (x1:((List Edit)×Int)) (g2:Nat)=>⟨T [(0,(di p1)),(1,(dl I6 p2)),(2,(dl I6 p3)),(3,(.d (.fn (.func 105) [] []))),(4,(.d (.fn (.func 106) [] []))),(11,(oS x1.1 (47,g2))),(12,(di<|Fi false (p2.length:Int) (p3.length:Int))),(21,(di<|Fi false (p2.length:Int) (p3.length:Int))),(22,(di x1.2))],G [((47,g2),oB 52 18 G2 x1.1)]⟩) ([],0) 0 _ hy1 (C0 (V4 Z)<|M4 trivial) ?_
 intro x1 g2 z1 hz1 ez1
 unfold O7 at hz1
 refine B6<|sv Z<|A1<|A3<|cc Z hz1 (fun c1 hz1=> ?_)<|fun c1 hz1=> ?_
 refine B2<|A3<|A8<|B6<|sv Z<|sv Z<|A1<|A3<|Q1 Z<|sv Z<|sv Z<|sv Z<|bs hz1 fun _ hv1 hz1=>sd Z (F0 Z Z hv1 Z)<|sd Z (C8 Z hv1 Z Z)<|sv Z<|sv Z<|bs hz1 fun _ hv2 hz1=>sd Z (F0 Z Z hv2 Z)<|sd Z (C8 Z hv2 Z Z)<|bs hz1 fun v3 hv3 hz1=>B8 Z Z A2 (Se _ _ _ hv3) (.inl Z) (A9 (.d (bo (!v3))) Z Z (A1<|cc Z hz1 (fun c2 hz1=> ?_)<|fun c2 hz1=> ?_))
 refine A7 (s0:=⟨T [(0,(di p1)),(1,(dl I6 p2)),(2,(dl I6 p3)),(3,(.d (.fn (.func 105) [] []))),(4,(.d (.fn (.func 106) [] []))),(11,(oS x1.1 (47,g2))),(12,(di<|Fi false (p2.length:Int) (p3.length:Int))),(13,(di x1.2)),(21,(di<|Fi false (p2.length:Int) (p3.length:Int))),(22,(di x1.2))],G [((47,g2),oB 52 18 G2 x1.1)]⟩) (C0 (V4 Z)<|C7 G_hit trivial) ?_
 refine K8 fun u8 _=>A9 (oS x1.1 (47,g2)) Z Z (sv Z<|sv Z<|sv Z<|sv Z<|sv Z<|sv Z<|bs hz1 fun _ hv4 hz1=>sd Z (F0 Z Z hv4 Z)<|sd Z (C8 Z hv4 Z Z)<|bs hz1 fun v5 hv5 hz1=>B8 Z Z (.cons (.agg (ca Z<|ca Z<|ca Z<|ca Z<|.cons ⟨DLe.nil,Z⟩ (ca Z<|ca Z<|.cons ⟨DLe.nil,Z⟩ (.cons ⟨DLe.nil,Z⟩ (ca Z<|ca Z<|.cons ⟨DLe.nil,Z⟩ (cz Z)))))) A2) (Mx _ _ _ hv5) (.inl Z) (A9 (dl G2 [v5]) Z (Ef G2 ([v5]:List Edit) (fun _=>Z) Z Z ⟨Z,Z,Z,trivial⟩ (fun _=>Z)) (bs hz1 fun _ hv6 hz1=>H9 G2 (47,g2) x1.1 v5 [] _ (E4<|fun _=>Z) Z G_hit hv6 (ss Z<|A1<|E3<|A7 (s0:=⟨T [(0,(.d _)),(1,(.d _)),(2,(.d _)),(3,(.d _)),(4,(.d _)),(11,(.sl _)),(12,(.d _)),(21,(.d _)),(22,(.d _))],G [((47,u8),some _)]⟩) (G1 Z Z) ?_))))
 refine B9<|sv Z<|sv Z<|A1<|G9 ?_
 cases hz1
 exact ⟨Z,u8,(C0 ⟨.of Z, .of Z, .of Z, .of Z, .of Z,(.of (Q7<|L4 hv6).symm), .of Z, .of Z, .of Z,trivial⟩<|H7 G_hit trivial)⟩
 refine B2<|E3<|A7 (s0:=⟨T [(0,(di p1)),(1,(dl I6 p2)),(2,(dl I6 p3)),(3,(.d (.fn (.func 105) [] []))),(4,(.d (.fn (.func 106) [] []))),(11,(oS x1.1 (47,g2))),(12,(di<|Fi false (p2.length:Int) (p3.length:Int))),(21,(di<|Fi false (p2.length:Int) (p3.length:Int))),(22,(di x1.2))],G [((47,g2),oB 52 18 G2 x1.1)]⟩) (C0 (V4 Z)<|C7 G_hit trivial) ?_
 refine B9<|sv Z<|sv Z<|A1<|G9 ?_
 cases hz1
 exact ⟨Z,g2,(C0 (V4 Z)<|C7 G_hit trivial)⟩
 refine D8 Z ?_
 cases hz1
 obtain rfl:=ez1 _ rfl
 refine ⟨nofun,D1 Z<|Az ?_⟩
 exact ⟨g2,(C0 (V4 Z)<|C7 G_hit trivial)⟩
 rintro _ ⟨g1,q1⟩
 refine A7 q1<|A3<|B6<|sv Z<|sd Z (D6 Z)<|sv Z<|sv Z<|A1<|bs h fun y2 hy2 h=>F6 (fun s=> ∃g3:({d:Nat // d∈ [47,62]}×Nat),Sb ⟨T [(0,(di p1)),(2,(dl I6 p3)),(4,(.d (.fn (.func 106) [] []))),(11,(oS y2 (g3.1.val,g3.2))),(12,(di<|Fi false (p2.length:Int) (p3.length:Int)))],G [((g3.1.val,g3.2),oB 52 18 G2 y2)]⟩ s) ?_ ?_
 refine A8<|G0 (O6 p1 p2 p3) (fun (x2:((List Edit)×Int)) (g4:({d:Nat // d∈ [47,62]}×Nat))=>⟨T [(0,(di p1)),(2,(dl I6 p3)),(4,(.d (.fn (.func 106) [] []))),(11,(oS x2.1 (g4.1.val,g4.2))),(12,(di<|Fi false (p2.length:Int) (p3.length:Int))),(14,(di x2.2))],G [((g4.1.val,g4.2),oB 52 18 G2 x2.1)]⟩) (y1,(H6 ((p2.length:Int) - 1))) (⟨47, .head _⟩,g1) _ hy2 (C0 (V4 Z)<|C7 G_hit trivial) ?_
 intro x2 g4 z2 hz2 ez2
 unfold O6 at hz2
 refine A3<|B6<|sv Z<|sv Z<|sv Z<|A1<|cc Z hz2 (fun c3 hz2=> ?_)<|fun c3 hz2=> ?_
 refine B2<|A3<|A8<|K8 fun u13 _=>A9 (oS x2.1 (g4.1.val,g4.2)) Z Z (sv Z<|sv Z<|sv Z<|A9 (dl G2 [(Edit.mk 2 p1 x2.2 (Lane.mk 0 (Curve.mk []) 0 0 []) (Zone.mk [] 0) (Signal.mk 0 []) (Work.mk 0 0 0 0 0 0))]) Z Z (bs hz2 fun _ hv7 hz2=>H9 G2 (g4.1.val,g4.2) x2.1 (Edit.mk 2 p1 x2.2 (Lane.mk 0 (Curve.mk []) 0 0 []) (Zone.mk [] 0) (Signal.mk 0 []) (Work.mk 0 0 0 0 0 0)) [] _ (E4<|fun _=>Z) Z G_hit hv7 (ss Z<|A1<|E3<|B9<|sv Z<|sv Z<|sv Z<|A1<|G9 ?_)))
 cases hz2
 exact ⟨Z,(⟨62, .tail _ (.head _)⟩,u13),(C0 ⟨.of Z, .of Z, .of Z,(.of (Q7<|L4 hv7).symm), .of Z, .of Z,trivial⟩<|H7 G_hit trivial)⟩
 refine D8 Z ?_
 cases hz2
 obtain rfl:=ez2 _ rfl
 refine ⟨nofun,D1 Z<|Az ?_⟩
 exact ⟨(g4.1,g4.2),(C0 (V4 Z)<|C7 G_hit trivial)⟩
 rintro _ ⟨g3,q2⟩
 refine A7 q2<|A3<|B6<|sv Z<|sv Z<|A1<|bs h fun y3 hy3 h=>F6 (fun s=> ∃g5:({d:Nat // d∈ [47,62,81]}×Nat),Sb ⟨T [(11,(oS y3 (g5.1.val,g5.2)))],G [((g5.1.val,g5.2),oB 52 18 G2 y3)]⟩ s) ?_ ?_
 refine A8<|G0 (O5 p1 p3) (fun (x3:((List Edit)×Int)) (g6:({d:Nat // d∈ [47,62,81]}×Nat))=>⟨T [(0,(di p1)),(2,(dl I6 p3)),(4,(.d (.fn (.func 106) [] []))),(11,(oS x3.1 (g6.1.val,g6.2))),(15,(di x3.2))],G [((g6.1.val,g6.2),oB 52 18 G2 x3.1)]⟩) (y2,(Fi false (p2.length:Int) (p3.length:Int))) (⟨g3.1.val,RC g3.1.property Z⟩,g3.2) _ hy3 (C0 (V4 Z)<|C7 G_hit trivial) ?_
 intro x3 g6 z3 hz3 ez3
 unfold O5 at hz3
 refine A3<|B6<|sv Z<|sv Z<|sd Z (D6 Z)<|sv Z<|A1<|cc Z hz3 (fun c4 hz3=> ?_)<|fun c4 hz3=> ?_
 refine B2<|A3<|A8<|K8 fun u17 _=>A9 (oS x3.1 (g6.1.val,g6.2)) Z Z (sv Z<|sv Z<|sv Z<|sv Z<|sv Z<|sv Z<|bs hz3 fun _ hv8 hz3=>sd Z (F0 Z Z hv8 Z)<|sd Z (C8 Z hv8 Z Z)<|bs hz3 fun v9 hv9 hz3=>B8 Z Z (.cons (.agg (ca Z<|ca Z<|ca Z<|ca Z<|.cons ⟨DLe.nil,Z⟩ (ca Z<|ca Z<|.cons ⟨DLe.nil,Z⟩ (.cons ⟨DLe.nil,Z⟩ (ca Z<|ca Z<|.cons ⟨DLe.nil,Z⟩ (cz Z)))))) A2) (Mx _ _ _ hv9) (.inl Z) (A9 (dl G2 [v9]) Z (Ef G2 ([v9]:List Edit) (fun _=>Z) Z Z ⟨Z,Z,Z,trivial⟩ (fun _=>Z)) (bs hz3 fun _ hv10 hz3=>H9 G2 (g6.1.val,g6.2) x3.1 v9 [] _ (E4<|fun _=>Z) Z G_hit hv10 (ss Z<|A1<|E3<|A7 (s0:=⟨T [(0,(.d _)),(2,(.d _)),(4,(.d _)),(11,(.sl _)),(15,(.d _))],G [((81,u17),some _)]⟩) (G1 Z Z) ?_))))
 refine B9<|sv Z<|sv Z<|sv Z<|A1<|G9 ?_
 cases hz3
 exact ⟨Z,(⟨81, .tail _ (.tail _ (.head _))⟩,u17),(C0 ⟨.of Z, .of Z, .of Z,(.of (Q7<|L4 hv10).symm), .of Z,trivial⟩<|H7 G_hit trivial)⟩
 refine D8 Z ?_
 cases hz3
 obtain rfl:=ez3 _ rfl
 refine ⟨nofun,D1 Z<|Az ?_⟩
 exact ⟨(g6.1,g6.2),(C0 ⟨.of Z,trivial⟩<|C7 G_hit trivial)⟩
 rintro _ ⟨g5,q3⟩
 refine A7 q3<|B6<|A9 (oS y3 (g5.1.val,g5.2)) Z Z (A9 (oS y3 (g5.1.val,g5.2)) Z Z (A1<|B4 ?_))
 cases h
 exact B0 (.inr Z) (C1 (B1 Z)<|Cx G_hit) Cw
section
open Go.RowKit Go.Lib
def NQ:Go.Shelf.Ren:=⟨fun n=>if n=4 then 203 else 0,fun t=>if t=22 then 34 else if t=25 then 52 else t,fun x=>x⟩
theorem Uh:Lays8.n4 prog NQ where
  mixed:=by kernel_rfl
  f4:=⟨Tryz.f203.name,by decide,by kernel_rfl⟩
  t0:=Tryz.underlying0
  a0:=Tryz.isAgg0
  z0:=Tryz.sizeOf0
  v0:=Tryz.zeroValue0
  t3:=Tryz.underlying3
  a3:=Tryz.isAgg3
  z3:=Tryz.sizeOf3
  v3:=Tryz.zeroValue3
  t4:=Tryz.underlying4
  a4:=Tryz.isAgg4
  z4:=Tryz.sizeOf4
  v4:=Tryz.zeroValue4
  t9:=Tryz.underlying9
  a9:=Tryz.isAgg9
  z9:=Tryz.sizeOf9
  v9:=Tryz.zeroValue9
  t20:=Tryz.underlying20
  a20:=Tryz.isAgg20
  z20:=Tryz.sizeOf20
  v20:=Tryz.zeroValue20
  t22:=Tryz.underlying34
  a22:=Tryz.isAgg34
  z22:=Tryz.sizeOf34
  v22:=Tryz.zeroValue34
theorem BL: ∃(i:TypeInfo) (z:Value),prog.info? 52=some i∧i.zero=some z∧i.size=18∧i.bytes=208∧z.cells.size=18:=by
  have e:((prog.info? 52).bind fun i=>i.zero.map fun z=>(i.size,i.bytes,z.cells.size))=some (18,208,18):=by kernel_rfl
  cases hi:prog.info? 52 with
  |none=>rw [hi]at e;cases e
  |some i=>
   rw [hi]at e
   cases hz:i.zero with
   |none=>simp [hz]at e
   |some z=>
    simp only [lA,hz,lE,Option.some.injEq,Prod.mk.injEq]at e
    exact ⟨i,z,Z,hz,e.1,e.2.1,e.2.2⟩
theorem JM (n:Int)(h1:0<n)(h2:n≤1000000):MCall prog 203 [.d .nilS, .d (i64 n)] [] (.sl (800000,0)) [] [some (.arr 52 18 [])]:=by
  refine ⟨Z,fun vs w=> ?_,fun w I ρ vs H hlen hrep=> ?_⟩
  ·have hn': ¬Tryz.f203.name= "runtime.NumGoroutine" :=by decide
   have hb: ∃c,Tryz.f203.body=some c:=⟨_,rfl⟩
   obtain ⟨c,hb⟩:=hb
   simp [callFunc,func203,hb,hn']
  obtain ⟨a,b,rfl⟩: ∃a b,vs= [a,b]:=by
    match vs,hlen with
    | [a,b],_=>exact ⟨a,b,rfl⟩
  have r0:=hrep 0 _ rfl
  have r1:=hrep 1 _ rfl
  simp only [List.getD_cons_zero,List.getD_cons_succ]at r0 r1
  cases r0 with|d _ _ r0=> ?_
  cases r0 with|nilS A=> ?_
  cases r1 with|d _ _ r1=> ?_
  cases r1
  obtain ⟨i,z,hi,hz,hs,hb,hzs⟩:=BL
  obtain ⟨m,hm⟩: ∃m:Nat,n=m:=⟨n.toNat,by omega⟩
  subst hm
  have hc:=Any8.slices_Grow_grow Uh i z hi hz (by omega) A 0 0 m [] w (bO _) (by omega) (by rw [hb];omega) (by omega) (by simp) (fun _=>rfl) (fun _ _ j _ h=>by simp at h)
  refine hc.mono ?_
  rintro e w' ⟨he,hw'⟩
  obtain ⟨u0,hu0⟩:=H.fresh
  have hk0:ρ (7,u0)=none:=hu0 7 u0 (bO _)
  have hge:=grownCap_ge w (0+m) 0 52
  have hle:=grownCap_le_maxLen w (0+m) 0 52 (by unfold maxLen;omega)
  obtain ⟨cap,hcap⟩: ∃c,c=grownCap w (0+m) 0 52:=⟨_,rfl⟩
  rw [← hcap]at hge hle
  obtain ⟨cur,hcur⟩: ∃c,c=([]:List Value).toArray++Builtin.zeroCells z.cells (0+m - 0)++Builtin.zeroCells z.cells (cap - (0+m)):=⟨_,rfl⟩
  have he:e= .returned (.slice (some ⟨w.heap.size,0,none⟩) 0 cap):=by rw [hcap];exact he
  have hw':w'=w.drew.alloc (.cells cur 52):=by rw [hcur,hcap];exact hw'
  subst he
  have hsz:cur.size=cap*18:=by
    rw [hcur]
    simp only [Array.size_append,List.size_toArray,lL,size_zeroCells,hzs]
    omega
  have how:w'.ownsRow 0 52 18 (.slice (some ⟨w.heap.size,0,none⟩) 0 cap) 0 []:=by rw [hw'];exact World.ownsRow_made w.drew cur cap (bP _) hle hsz
  have hold: ∀k,k<w.heap.size→w'.heap[k]? =w.heap[k]?:=fun k hk=>by rw [hw'];exact heap_alloc_old w.drew _ hk
  have hsize:w'.heap.size=w.heap.size+1:=by rw [hw'];show (w.heap.push _).size=_;simp
  clear hcur hcap hge hle hsz hc
  have hos:w'.os=w.os∧w'.tape=w.tape∧w'.output=w.output:=by rw [hw'];exact ⟨rfl,rfl,rfl⟩
  have H0:HeapOK w' I ρ (fun _=>none):=⟨fun k b hb=>(by cases hb),fun k k' b b' g h1=>(by cases h1),fun k b g h1=>(by cases h1),fun k b g h1=>(by cases h1),fun b hb=>by have:=H.ilt b hb;omega,⟨u0,hu0⟩,H.rone⟩
  have hloc: ∀k,K1 (U4 ρ (7,u0) (some (Value.slice (some ⟨w.heap.size,0,none⟩) 0 cap))) (7,u0) (.arr 52 18 [])=some k→k=w.heap.size:=by
    intro k hk
    have:some w.heap.size=some k:=by simpa [K1,E0,Value.ownBlock] using hk
    exact (lC this).symm
  have Hn:=CK H0 (7,u0) (Value.slice (some ⟨w.heap.size,0,none⟩) 0 cap) (.arr 52 18 []) hk0 rfl (fun k hk=>by
    rw [hloc k hk]
    exact ⟨fun ⟨k,b,h,_⟩=>(by cases h),fun hI=>by have:=H.ilt _ hI;omega,by omega⟩)
    ⟨_,[],E0 _ _ _,how,by simp,by intro i j d hd;simp [Ku]at hd⟩
  refine ⟨_, .sl (7,u0),I,_,_,Z, .sl _ _ (E0 _ _ _),Hn,⟨hos.1,hos.2.1,hos.2.2,by omega,fun b hb _=>hold b hb,fun _ hb=>hb,fun _ hb _=> .inl hb,?_,AJ hk0⟩,fun _=>(7,u0),Z,?_,?_,?_,?_⟩
  ·rintro k ⟨k',b',h1,h2⟩ hl
   by_cases ek:k'=(7,u0)
   ·subst ek
    rw [E0]at h1
    cases h1
    have:=hloc k h2;omega
   ·rw [H5 _ _ _ _ ek]at h1;cases h1
  ·intro j b hb
   simp at hb
  ·intro j b hb
   match j,hb with
   |0,hb=>cases hb;exact E0 _ _ _
   |j+1,hb=>simp at hb
  ·intro j _ i hi e;simp at hi
  ·intro j j' h1 h2 _
   simp only [lJ,lL]at h1 h2
   omega
theorem JN:PCall prog 203 [.nilS,i64 0] .nilS:=by
  refine ⟨fun vs w=> ?_,fun w I vs hI hlen hrep=> ?_⟩
  ·have hn': ¬Tryz.f203.name= "runtime.NumGoroutine" :=by decide
   have hb: ∃c,Tryz.f203.body=some c:=⟨_,rfl⟩
   obtain ⟨c,hb⟩:=hb
   simp [callFunc,func203,hb,hn']
  obtain ⟨a,b,rfl⟩: ∃a b,vs= [a,b]:=by
    match vs,hlen with
    | [a,b],_=>exact ⟨a,b,rfl⟩
  have r0:=hrep 0 _ rfl
  have r1:=hrep 1 _ rfl
  simp only [List.getD_cons_zero,List.getD_cons_succ]at r0 r1
  cases r0 with|nilS A=> ?_
  cases r1
  refine (Any8.slices_Grow_room Uh A 0 0 0 w (bO _) (by omega) (by omega) (by omega)).mono ?_
  rintro e w' ⟨rfl,rfl⟩
  exact ⟨_,I,Z, .nilS A,Z,Z,Z,bO _,fun _ _=>Z,fun _ hb=>hb,fun _ hb _=>hb,hI⟩
theorem JO {α:Type}{e:α→List D}{v:Unit}(n:Int)(h:DR n=some v):MCall prog 203 [.d .nilS, .d (i64 n)] [] (oW (decide (n>0)) ([]:List α) (800000,0)) [] [wB (decide (n>0)) 52 18 e ([]:List α)]:=by
  obtain ⟨h0,h1⟩:=NO h
  by_cases q:n>0
  ·rw [l9 q];exact JM n q h1
  ·obtain rfl:n=0:=by omega
   exact MCall.ofP (ds:= [.nilS,i64 0]) JN
end
def P6 (p1:(List (List Edit)))(x2:((List Edit)×Int)):Option (Stp ((List Edit)×Int) (List Edit)):=
  cond (decide (x2.2< (p1.length:Int))) ((E8 p1 x2.2).bind fun v3=>(X6 x2.1 v3).bind fun v4=>some (.go (v4,(H6 (x2.2+1))))) (some (.out x2.1))
def P7 (p1:(List (List Edit)))(x1:(Int×Int)):Option (Stp (Int×Int) Int):=
  cond (decide (x1.2< (p1.length:Int))) ((E8 p1 x1.2).bind fun v1=>cond (decide ((H6 (x1.1+ (v1.length:Int)))<0)) (none) (some (.go ((H6 (x1.1+ (v1.length:Int))),(H6 (x1.2+1)))))) (some (.out x1.1))
def U8 [Lp](p1:(List (List Edit))):Option (List Edit):=
  (loop (P7 p1) (0,0)).bind fun y1=>(DR y1).bind fun v2=>(loop (P6 p1) (([]:List Edit),0)).bind fun y2=>some y2
theorem Ju(p1 r)(h:U8 p1=some r):PCall prog 107 [(.list (List.map Pb p1))] (.list (List.map G2 r)):=by
 refine C4 (fk func107 ntmps107 (fun r=>if r==9 then [1009001]else []) (by with_unfolding_all rfl)) (nl Z) ?_
 unfold U8 at h
 refine A7 (s0:=⟨T [(0,(.d _))],G []⟩) (G1 Z Z) ?_
 refine B6<|sv Z<|A1<|B6<|sv Z<|A1<|A3<|B6<|sv Z<|sd Z (D6 Z)<|sv Z<|A1<|bs h fun y1 hy1 h=>F6 (fun s=> ∃g1:Unit,Sb ⟨T [(0,(dl Pb p1)),(3,(di y1))],G []⟩ s) ?_ ?_
 refine A8<|G0 (P7 p1) (fun (x1:(Int×Int)) (g2:Unit)=>⟨T [(0,(dl Pb p1)),(3,(di x1.1)),(9,(dl Pb p1)),(10,(di (p1.length:Int))),(11,(di x1.2))],G []⟩) (0,0) () _ hy1 (G1 Z Z) ?_
 intro x1 g2 z1 hz1 ez1
 unfold P7 at hz1
 refine B6<|sv Z<|A1<|A3<|cc Z hz1 (fun c1 hz1=> ?_)<|fun c1 hz1=> ?_
 refine B2<|A3<|A8<|B6<|bs hz1 fun _ hv1 hz1=>sd Z (F0 Z Z hv1 Z)<|sd Z (J8 Z hv1 Z)<|sv Z<|A1<|B6<|sv Z<|sv Z<|sd Z (D6 Z)<|sv Z<|sv Z<|A1<|B6<|sv Z<|sv Z<|A1<|cc Z hz1 (fun c2 hz1=> ?_)<|fun c2 hz1=> ?_
 refine B9<| ?_
 cases hz1
 refine B2<|E3<|B9<|sv Z<|sv Z<|A1<|G9 ?_
 cases hz1
 exact ⟨Z,(),(G1 Z Z)⟩
 refine D8 Z ?_
 cases hz1
 obtain rfl:=ez1 _ rfl
 refine ⟨nofun,D1 Z<|Az ?_⟩
 exact ⟨(),(G1 Z Z)⟩
 rintro _ ⟨g1,q1⟩
 refine A7 q1<|lr<|fun u10 _=>sv Z<|bs h fun _ hv2 h=>DL (RI (α:=Edit) (b:=(decide (y1>0))) (e:=G2) (JO _ hv2) Z)<|A9 (oW (decide (y1>0)) ([]:List Edit) (10090010,u10)) Z Z (A1<|A3<|B6<|sv Z<|sd Z (D6 Z)<|sv Z<|A1<|bs h fun y2 hy2 h=>F6 (fun s=> ∃g3:(({d:Nat // d∈ [33,10090010]}×Nat)×Bool),Sb ⟨T [(6,(oW g3.2 y2 (g3.1.1.val,g3.1.2)))],G [((g3.1.1.val,g3.1.2),wB g3.2 52 18 G2 y2)]⟩ s) ?_ ?_)
 refine A8<|G0 (P6 p1) (fun (x2:((List Edit)×Int)) (g4:(({d:Nat // d∈ [33,10090010]}×Nat)×Bool))=>⟨T [(6,(oW g4.2 x2.1 (g4.1.1.val,g4.1.2))),(25,(dl Pb p1)),(26,(di (p1.length:Int))),(27,(di x2.2))],G [((g4.1.1.val,g4.1.2),wB g4.2 52 18 G2 x2.1)]⟩) (([]:List Edit),0) ((⟨10090010, .tail _ (.head _)⟩,u10),(decide (y1>0))) _ hy2 (C0 (V4 Z)<|S5 G_hit trivial) ?_
 intro x2 g4 z2 hz2 ez2
 unfold P6 at hz2
 refine B6<|sv Z<|A1<|A3<|cc Z hz2 (fun c3 hz2=> ?_)<|fun c3 hz2=> ?_
 refine B2<|A3<|A8<|B6<|bs hz2 fun v3 hv3 hz2=>sd Z (F0 Z Z hv3 Z)<|sd Z (J8 Z hv3 Z)<|sv Z<|A1<|K8 fun u14 hu14=>A9 (oW g4.2 x2.1 (g4.1.1.val,g4.1.2)) Z Z (sv Z<|bs hz2 fun v4 hv4 hz2=>JK G2 g4.2 (g4.1.1.val,g4.1.2) x2.1 v3 _ (E4<|fun _=>Z) Z G_hit hv4 (GI hu14) (A9 (oW g4.2 v4 (33,u14)) Z Z (A1<|E3<|B9<|sv Z<|sv Z<|A1<|G9 ?_)))
 cases hz2
 exact ⟨Z,((⟨33, .head _⟩,u14),g4.2),(C0 (V4 Z)<|S5 G_hit trivial)⟩
 refine D8 Z ?_
 cases hz2
 obtain rfl:=ez2 _ rfl
 refine ⟨nofun,D1 Z<|Az ?_⟩
 exact ⟨((g4.1.1,g4.1.2),g4.2),(C0 ⟨.of Z,trivial⟩<|S5 G_hit trivial)⟩
 rintro _ ⟨g3,q2⟩
 refine A7 q2<|B6<|A9 (oW g3.2 y2 (g3.1.1.val,g3.1.2)) Z Z (A9 (oW g3.2 y2 (g3.1.1.val,g3.1.2)) Z Z (A1<|B4 ?_))
 cases h
 exact B0 (.inr Z) (C1 (B1 Z)<|Rx G_hit) Rw
def Hz [Lp](p1:Map)(p2:Map):Option (Patch×Int):=
  thenS ((Q5 p1).bind fun v1=>cond (v1 !=0) (some (.inr ((Patch.mk 0 []),v1))) ((Q5 p2).bind fun v2=>cond (v2 !=0) (some (.inr ((Patch.mk 0 []),v2))) (some (.inl ())))) (fun _=>(I4 1 p1.Lanes p2.Lanes).bind fun v3=>(K2 2 p1.Zones p2.Zones).bind fun v4=>(J4 3 p1.Signals p2.Signals).bind fun v5=>(K3 4 p1.Works p2.Works).bind fun v6=>(U8 [v3,v4,v5,v6]).bind fun v7=>some ((Patch.mk p1.Version v7),0)) (fun r=>some r)
theorem Pu(p1 p2 r)(h:Hz p1 p2=some r):PCall prog 23 [(.agg (Q8 p1)),(.agg (Q8 p2))] (.tup [(.agg [(i64 r.1.Base),(.list (List.map G2 r.1.Edits))]),(i64 r.2)]):=by
 refine C4 (fk func23 ntmps23 (fun r=>if r==12 then [1006]else []) (by with_unfolding_all rfl)) (nl Z) ?_
 unfold Hz at h
 refine A7 (s0:=⟨T [(0,(.d _)),(1,(.d _))],G []⟩) (G1 Z Z) ?_
 refine lr<|fun u1 _=>sm Z<|sm Z<|sn Z Z<|sv Z<|A1<|A3<|B6<|sd Z (B5 Z (gq Z) Z Z)<|sd Z (B5 Z (gq Z) Z Z)<|sv Z<|sv Z<|A1<|js h fun z1 hz1 h=>F6 (fun s=> ∃(y1:Unit) (g1:Unit),z1= .inl y1∧Sb ⟨T [(2,(.ptr (2,u1) 0)),(3,(.ptr (3,u1) 0)),(4,(.ptr (4,u1) 0))],G [((2,u1),some<|.box 27 (R3 p1)),((3,u1),some<|.box 27 (R3 p2)),((4,u1),some<|.box 36 [(di 0),(.d .nilS)])]⟩ s) ?_ ?_
 refine A8<|Ws<|B6<|sv Z<|A1<|A3<|Ow Z<|B2<|A3<|A8<|B6<|sv Z<|sm Z<|Aa Z G_hit (R3 p1) Z (A1<|B6<|sd Z (B5 Z G_hit Z Z)<|bs hz1 fun _ hv1 hz1=>B8 Z Z A2 (Z2 _ _ hv1) (.inl Z) (sv Z<|A1<|B6<|sv Z<|sv Z<|A1<|cc Z hz1 (fun c1 hz1=> ?_)<|fun c1 hz1=> ?_))
 refine A3<|A7 (s0:=⟨T [(4,(.ptr _ _)),(8,(.d _))],G [((4,u1),some<|.box 36 _)]⟩) (G1 Z Z) ?_
 refine B9<|sv Z<|sv Z<|Aa Z G_hit [(di 0),(.d .nilS)] Z (sv Z<|A1<|B4 ?_)
 cases hz1
 rw [bM]at h
 cases h
 exact B0 (.inr Z) (Kn (I3 Z G_hit (nl Z) Z) (B1 Z) D4 D4) (.tup (.cons (.agg (ca Z<|.cons ⟨DLe.nil,Z⟩ .nil)) A2))
 refine B2<|E3<|A7 (s0:=⟨T [(2,(.ptr _ _)),(3,(.ptr _ _)),(4,(.ptr _ _)),(15,(.d _)),(16,(.d _))],G [((2,u1),some<|.box 27 _),((3,u1),some<|.box 27 _),((4,u1),some<|.box 36 _)]⟩) (G1 Z Z) ?_
 refine B9<|sv Z<|sv Z<|A1<|Ws<|B6<|sv Z<|A1<|A3<|Ow Z<|B2<|A3<|A8<|B6<|sv Z<|sm Z<|Aa Z G_hit (R3 p2) Z (A1<|B6<|sd Z (B5 Z G_hit Z Z)<|bs hz1 fun _ hv2 hz1=>B8 Z Z A2 (Z2 _ _ hv2) (.inl Z) (sv Z<|A1<|B6<|sv Z<|sv Z<|A1<|cc Z hz1 (fun c2 hz1=> ?_)<|fun c2 hz1=> ?_))
 refine B6<|sv Z<|sv Z<|Aa Z (gq Z) [(di 0),(.d .nilS)] Z (sv Z<|A1<|B4 ?_)
 cases hz1
 rw [bM]at h
 cases h
 exact B0 (.inr Z) (Kn (I3 Z G_hit (nl Z) Z) (B1 Z) D4 D4) (.tup (.cons (.agg (ca Z<|.cons ⟨DLe.nil,Z⟩ .nil)) A2))
 refine B2<|E3<|B9<|sv Z<|sv Z<|A1<|Ws<|B6<|sv Z<|A1<|A3<|Ox Z<|TO Z ?_
 cases hz1
 exact Az ⟨_,(),Z,(G1 Z Z)⟩
 rintro _ ⟨y1,g1,rfl,q1⟩
 rw [bL]at h
 refine A7 q1<|B6<|sq Z<|sl Z G_hit Z<|sq Z<|sl Z (gq Z) Z (bs h fun v3 hv3 h=>B8 Z Z A2 (Cd _ _ _ _ hv3) (.inl Z) (sv Z<|A1<|B6<|sq Z<|sl Z G_hit Z<|sq Z<|sl Z (gq Z) Z (bs h fun v4 hv4 h=>B8 Z Z A2 (Ce _ _ _ _ hv4) (.inl Z) (sv Z<|A1<|B6<|sq Z<|sl Z G_hit Z<|sq Z<|sl Z (gq Z) Z (bs h fun v5 hv5 h=>B8 Z Z A2 (Ax _ _ _ _ hv5) (.inl Z) (sv Z<|A1<|A3<|A7 (s0:=⟨T [(2,(.ptr _ _)),(3,(.ptr _ _)),(4,(.ptr _ _)),(9,(.d _)),(10,(.d _)),(11,(.d _))],G [((2,u1),some<|.box 27 _),((3,u1),some<|.box 27 _),((4,u1),some<|.box 36 _)]⟩) (G1 Z Z) ?_))))))
 refine B9<|sq Z<|sl Z G_hit Z<|sq Z<|sl Z (gq Z) Z (bs h fun v6 hv6 h=>B8 Z Z A2 (Cf _ _ _ _ hv6) (.inl Z) (sv Z<|A1<|A3<|Q1 Z<|sq Z<|sl Z G_hit Z<|sv Z<|sv Z<|sv Z<|sv Z<|A9 (dl Pb [v3,v4,v5,v6]) Z Z (bs h fun v7 hv7 h=>B8 Z Z A2 (Ju _ _ hv7) (.inl Z) (sv Z<|Aa Z (gq Z) [(di p1.Version),(dl G2 v7)] Z (sv Z<|A1<|B4 ?_)))))
 cases h
 exact B0 (.inr Z) (Kn (I3 Z G_hit (nl Z) Z) (B1 Z) D4 D4) (.refl _)
def V8 (p1:(List Lane))(x1:((List Lane)×Int)):Option (Stp ((List Lane)×Int) (List Lane)):=
  cond (decide (x1.2< (p1.length:Int))) ((E8 p1 x1.2).bind fun v1=>(Ap v1).bind fun v2=>(X6 x1.1 [v2]).bind fun v3=>some (.go (v3,(H6 (x1.2+1))))) (some (.out x1.1))
def Z5 [Lp](p1:(List Lane)):Option (List Lane):=
  (loop (V8 p1) ([],0)).bind fun y1=>some y1
theorem Hl(p1 r)(h:Z5 p1=some r):PCall prog 154 [(.list (List.map G5 p1)),(.fn (.func 87) [] [])] (.list (List.map G5 r)):=by
 refine C4 (fk func154 ntmps154 (fun r=>if r==5 then [1004]else []) (by with_unfolding_all rfl)) (nl Z) ?_
 unfold Z5 at h
 refine A7 (s0:=⟨T [(0,(.d _)),(1,(.d _))],G []⟩) (G1 Z Z) ?_
 refine B6<|sv Z<|A1<|B6<|sv Z<|A1<|A3<|B6<|sv Z<|sd Z (D6 Z)<|sv Z<|A1<|bs h fun y1 hy1 h=>F6 (fun s=> ∃g1:Nat,Sb ⟨T [(5,(oS y1 (19,g1)))],G [((19,g1),oB 42 5 G5 y1)]⟩ s) ?_ ?_
 refine A8<|G0 (V8 p1) (fun (x1:((List Lane)×Int)) (g2:Nat)=>⟨T [(1,(.d (.fn (.func 87) [] []))),(5,(oS x1.1 (19,g2))),(8,(dl G5 p1)),(9,(di (p1.length:Int))),(10,(di x1.2))],G [((19,g2),oB 42 5 G5 x1.1)]⟩) ([],0) 0 _ hy1 (C0 (V4 Z)<|M4 trivial) ?_
 intro x1 g2 z1 hz1 ez1
 unfold V8 at hz1
 refine B6<|sv Z<|A1<|A3<|cc Z hz1 (fun c1 hz1=> ?_)<|fun c1 hz1=> ?_
 refine B2<|A3<|A8<|B6<|bs hz1 fun v1 hv1 hz1=>sd Z (F0 Z Z hv1 Z)<|sd Z (C8 Z hv1 Z Z)<|sm Z<|Aa Z G_hit (In v1) Z (A1<|K8 fun u6 _=>A9 (oS x1.1 (19,g2)) Z Z (sv Z<|sd Z (B5 Z G_hit Z Z)<|bs hz1 fun v2 hv2 hz1=>B8 Z Z A2 (Fm _ _ hv2) (.inl Z) (A9 (dl G5 [v2]) Z Z (bs hz1 fun _ hv3 hz1=>H9 G5 (19,g2) x1.1 v2 [] _ (E4<|fun _=>Z) Z (gq Z) hv3 (ss Z<|A1<|E3<|B9<|sv Z<|sv Z<|A1<|G9 ?_)))))
 cases hz1
 exact ⟨Z,u6,(C0 ⟨.of Z,(.of (Q7<|L4 hv3).symm), .of Z, .of Z, .of Z,trivial⟩<|H7 G_hit trivial)⟩
 refine D8 Z ?_
 cases hz1
 obtain rfl:=ez1 _ rfl
 refine ⟨nofun,D1 Z<|Az ?_⟩
 exact ⟨g2,(C0 ⟨.of Z,trivial⟩<|C7 G_hit trivial)⟩
 rintro _ ⟨g1,q1⟩
 refine A7 q1<|B6<|A9 (oS y1 (19,g1)) Z Z (A9 (oS y1 (19,g1)) Z Z (A1<|B4 ?_))
 cases h
 exact B0 (.inr Z) (C1 (B1 Z)<|Cx G_hit) Cw
def V9 (p1:(List Zone))(x1:((List Zone)×Int)):Option (Stp ((List Zone)×Int) (List Zone)):=
  cond (decide (x1.2< (p1.length:Int))) ((E8 p1 x1.2).bind fun v1=>(Aq v1).bind fun v2=>(X6 x1.1 [v2]).bind fun v3=>some (.go (v3,(H6 (x1.2+1))))) (some (.out x1.1))
def Z6 [Lp](p1:(List Zone)):Option (List Zone):=
  (loop (V9 p1) ([],0)).bind fun y1=>some y1
theorem Hm(p1 r)(h:Z6 p1=some r):PCall prog 155 [(.list (List.map F4 p1)),(.fn (.func 89) [] [])] (.list (List.map F4 r)):=by
 refine C4 (fk func155 ntmps155 (fun r=>if r==5 then [1004]else []) (by with_unfolding_all rfl)) (nl Z) ?_
 unfold Z6 at h
 refine A7 (s0:=⟨T [(0,(.d _)),(1,(.d _))],G []⟩) (G1 Z Z) ?_
 refine B6<|sv Z<|A1<|B6<|sv Z<|A1<|A3<|B6<|sv Z<|sd Z (D6 Z)<|sv Z<|A1<|bs h fun y1 hy1 h=>F6 (fun s=> ∃g1:Nat,Sb ⟨T [(5,(oS y1 (19,g1)))],G [((19,g1),oB 45 2 F4 y1)]⟩ s) ?_ ?_
 refine A8<|G0 (V9 p1) (fun (x1:((List Zone)×Int)) (g2:Nat)=>⟨T [(1,(.d (.fn (.func 89) [] []))),(5,(oS x1.1 (19,g2))),(8,(dl F4 p1)),(9,(di (p1.length:Int))),(10,(di x1.2))],G [((19,g2),oB 45 2 F4 x1.1)]⟩) ([],0) 0 _ hy1 (C0 (V4 Z)<|M4 trivial) ?_
 intro x1 g2 z1 hz1 ez1
 unfold V9 at hz1
 refine B6<|sv Z<|A1<|A3<|cc Z hz1 (fun c1 hz1=> ?_)<|fun c1 hz1=> ?_
 refine B2<|A3<|A8<|B6<|bs hz1 fun v1 hv1 hz1=>sd Z (F0 Z Z hv1 Z)<|sd Z (C8 Z hv1 Z Z)<|sm Z<|Aa Z G_hit [(dl H3 v1.Parts),(di v1.Signal_)] Z (A1<|K8 fun u6 _=>A9 (oS x1.1 (19,g2)) Z Z (sv Z<|sd Z (B5 Z G_hit Z Z)<|bs hz1 fun v2 hv2 hz1=>B8 Z Z A2 (Fp _ _ hv2) (.inl Z) (A9 (dl F4 [v2]) Z Z (bs hz1 fun _ hv3 hz1=>H9 F4 (19,g2) x1.1 v2 [] _ (E4<|fun _=>Z) Z (gq Z) hv3 (ss Z<|A1<|E3<|B9<|sv Z<|sv Z<|A1<|G9 ?_)))))
 cases hz1
 exact ⟨Z,u6,(C0 ⟨.of Z,(.of (Q7<|L4 hv3).symm), .of Z, .of Z, .of Z,trivial⟩<|H7 G_hit trivial)⟩
 refine D8 Z ?_
 cases hz1
 obtain rfl:=ez1 _ rfl
 refine ⟨nofun,D1 Z<|Az ?_⟩
 exact ⟨g2,(C0 ⟨.of Z,trivial⟩<|C7 G_hit trivial)⟩
 rintro _ ⟨g1,q1⟩
 refine A7 q1<|B6<|A9 (oS y1 (19,g1)) Z Z (A9 (oS y1 (19,g1)) Z Z (A1<|B4 ?_))
 cases h
 exact B0 (.inr Z) (C1 (B1 Z)<|Cx G_hit) Cw
def T8 [Lp](p1:(List Signal))(x1:((List Signal)×Int)):Option (Stp ((List Signal)×Int) (List Signal)):=
  cond (decide (x1.2< (p1.length:Int))) ((E8 p1 x1.2).bind fun v1=>(W7 v1).bind fun v2=>(X6 x1.1 [v2]).bind fun v3=>some (.go (v3,(H6 (x1.2+1))))) (some (.out x1.1))
def V2 [Lp](p1:(List Signal)):Option (List Signal):=
  (loop (T8 p1) ([],0)).bind fun y1=>some y1
theorem Ga(p1 r)(h:V2 p1=some r):PCall prog 156 [(.list (List.map E2 p1)),(.fn (.func 91) [] [])] (.list (List.map E2 r)):=by
 refine C4 (fk func156 ntmps156 (fun r=>if r==5 then [1004]else []) (by with_unfolding_all rfl)) (nl Z) ?_
 unfold V2 at h
 refine A7 (s0:=⟨T [(0,(.d _)),(1,(.d _))],G []⟩) (G1 Z Z) ?_
 refine B6<|sv Z<|A1<|B6<|sv Z<|A1<|A3<|B6<|sv Z<|sd Z (D6 Z)<|sv Z<|A1<|bs h fun y1 hy1 h=>F6 (fun s=> ∃g1:Nat,Sb ⟨T [(5,(oS y1 (19,g1)))],G [((19,g1),oB 48 2 E2 y1)]⟩ s) ?_ ?_
 refine A8<|G0 (T8 p1) (fun (x1:((List Signal)×Int)) (g2:Nat)=>⟨T [(1,(.d (.fn (.func 91) [] []))),(5,(oS x1.1 (19,g2))),(8,(dl E2 p1)),(9,(di (p1.length:Int))),(10,(di x1.2))],G [((19,g2),oB 48 2 E2 x1.1)]⟩) ([],0) 0 _ hy1 (C0 (V4 Z)<|M4 trivial) ?_
 intro x1 g2 z1 hz1 ez1
 unfold T8 at hz1
 refine B6<|sv Z<|A1<|A3<|cc Z hz1 (fun c1 hz1=> ?_)<|fun c1 hz1=> ?_
 refine B2<|A3<|A8<|B6<|bs hz1 fun v1 hv1 hz1=>sd Z (F0 Z Z hv1 Z)<|sd Z (C8 Z hv1 Z Z)<|sm Z<|Aa Z G_hit [(di v1.Offset),(dl J2 v1.Phases)] Z (A1<|K8 fun u6 _=>A9 (oS x1.1 (19,g2)) Z Z (sv Z<|sd Z (B5 Z G_hit Z Z)<|bs hz1 fun v2 hv2 hz1=>B8 Z Z A2 (Dt _ _ hv2) (.inl Z) (A9 (dl E2 [v2]) Z Z (bs hz1 fun _ hv3 hz1=>H9 E2 (19,g2) x1.1 v2 [] _ (E4<|fun _=>Z) Z (gq Z) hv3 (ss Z<|A1<|E3<|B9<|sv Z<|sv Z<|A1<|G9 ?_)))))
 cases hz1
 exact ⟨Z,u6,(C0 ⟨.of Z,(.of (Q7<|L4 hv3).symm), .of Z, .of Z, .of Z,trivial⟩<|H7 G_hit trivial)⟩
 refine D8 Z ?_
 cases hz1
 obtain rfl:=ez1 _ rfl
 refine ⟨nofun,D1 Z<|Az ?_⟩
 exact ⟨g2,(C0 ⟨.of Z,trivial⟩<|C7 G_hit trivial)⟩
 rintro _ ⟨g1,q1⟩
 refine A7 q1<|B6<|A9 (oS y1 (19,g1)) Z Z (A9 (oS y1 (19,g1)) Z Z (A1<|B4 ?_))
 cases h
 exact B0 (.inr Z) (C1 (B1 Z)<|Cx G_hit) Cw
def Gd (p1:Work):Option Work:=
  some p1
theorem Lm(p1 r)(h:Gd p1=some r):PCall prog 158 [(.agg (I6 p1))] (.agg (I6 r)):=by
 refine C4 (fk func158 ntmps158 m0 (by with_unfolding_all rfl)) (nl Z) ?_
 unfold Gd at h
 refine A7 (s0:=⟨T [(0,(.d _))],G []⟩) (G1 Z Z) ?_
 refine B6<|sm Z<|sn Z Z<|A1<|B6<|sd Z (B5 Z (gq Z) Z Z)<|Aa Z G_hit (DS p1) Z (A1<|B4 ?_)
 cases h
 exact B0 (.inr Z) (C1 (I3 Z G_hit (nl Z) Z) D4) (.refl _)
def W0 (p1:(List Work))(x1:((List Work)×Int)):Option (Stp ((List Work)×Int) (List Work)):=
  cond (decide (x1.2< (p1.length:Int))) ((E8 p1 x1.2).bind fun v1=>(Gd v1).bind fun v2=>(X6 x1.1 [v2]).bind fun v3=>some (.go (v3,(H6 (x1.2+1))))) (some (.out x1.1))
def Z7 [Lp](p1:(List Work)):Option (List Work):=
  (loop (W0 p1) ([],0)).bind fun y1=>some y1
theorem Ho(p1 r)(h:Z7 p1=some r):PCall prog 157 [(.list (List.map I6 p1)),(.fn (.func 158) [] [])] (.list (List.map I6 r)):=by
 refine C4 (fk func157 ntmps157 (fun r=>if r==5 then [1004]else []) (by with_unfolding_all rfl)) (nl Z) ?_
 unfold Z7 at h
 refine A7 (s0:=⟨T [(0,(.d _)),(1,(.d _))],G []⟩) (G1 Z Z) ?_
 refine B6<|sv Z<|A1<|B6<|sv Z<|A1<|A3<|B6<|sv Z<|sd Z (D6 Z)<|sv Z<|A1<|bs h fun y1 hy1 h=>F6 (fun s=> ∃g1:Nat,Sb ⟨T [(5,(oS y1 (19,g1)))],G [((19,g1),oB 50 6 I6 y1)]⟩ s) ?_ ?_
 refine A8<|G0 (W0 p1) (fun (x1:((List Work)×Int)) (g2:Nat)=>⟨T [(1,(.d (.fn (.func 158) [] []))),(5,(oS x1.1 (19,g2))),(8,(dl I6 p1)),(9,(di (p1.length:Int))),(10,(di x1.2))],G [((19,g2),oB 50 6 I6 x1.1)]⟩) ([],0) 0 _ hy1 (C0 (V4 Z)<|M4 trivial) ?_
 intro x1 g2 z1 hz1 ez1
 unfold W0 at hz1
 refine B6<|sv Z<|A1<|A3<|cc Z hz1 (fun c1 hz1=> ?_)<|fun c1 hz1=> ?_
 refine B2<|A3<|A8<|B6<|bs hz1 fun v1 hv1 hz1=>sd Z (F0 Z Z hv1 Z)<|sd Z (C8 Z hv1 Z Z)<|sm Z<|Aa Z G_hit (DS v1) Z (A1<|K8 fun u6 _=>A9 (oS x1.1 (19,g2)) Z Z (sv Z<|sd Z (B5 Z G_hit Z Z)<|bs hz1 fun v2 hv2 hz1=>B8 Z Z A2 (Lm _ _ hv2) (.inl Z) (A9 (dl I6 [v2]) Z Z (bs hz1 fun _ hv3 hz1=>H9 I6 (19,g2) x1.1 v2 [] _ (E4<|fun _=>Z) Z (gq Z) hv3 (ss Z<|A1<|E3<|B9<|sv Z<|sv Z<|A1<|G9 ?_)))))
 cases hz1
 exact ⟨Z,u6,(C0 ⟨.of Z,(.of (Q7<|L4 hv3).symm), .of Z, .of Z, .of Z,trivial⟩<|H7 G_hit trivial)⟩
 refine D8 Z ?_
 cases hz1
 obtain rfl:=ez1 _ rfl
 refine ⟨nofun,D1 Z<|Az ?_⟩
 exact ⟨g2,(C0 ⟨.of Z,trivial⟩<|C7 G_hit trivial)⟩
 rintro _ ⟨g1,q1⟩
 refine A7 q1<|B6<|A9 (oS y1 (19,g1)) Z Z (A9 (oS y1 (19,g1)) Z Z (A1<|B4 ?_))
 cases h
 exact B0 (.inr Z) (C1 (B1 Z)<|Cx G_hit) Cw
def Xc [Lp](p1:Map):Option Map:=
  (Z5 p1.Lanes).bind fun v1=>(Z6 p1.Zones).bind fun v2=>(V2 p1.Signals).bind fun v3=>(Z7 p1.Works).bind fun v4=>some (Map.mk p1.Version v1 v2 v3 v4)
theorem PJ(p1 r)(h:Xc p1=some r):PCall prog 51 [(.agg (Q8 p1))] (.agg (Q8 r)):=by
 refine C4 (fk func51 ntmps51 m0 (by with_unfolding_all rfl)) (nl Z) ?_
 unfold Xc at h
 refine A7 (s0:=⟨T [(0,(.d _))],G []⟩) (G1 Z Z) ?_
 refine B6<|sm Z<|sn Z Z<|A1<|A3<|Q1 Z<|sq Z<|sl Z (gq Z) Z (sq Z<|sl Z (gq Z) Z (bs h fun v1 hv1 h=>B8 Z Z A2 (Hl _ _ hv1) (.inl Z) (sq Z<|sl Z (gq Z) Z (bs h fun v2 hv2 h=>B8 Z Z A2 (Hm _ _ hv2) (.inl Z) (sq Z<|sl Z (gq Z) Z (bs h fun v3 hv3 h=>B8 Z Z A2 (Ga _ _ hv3) (.inl Z) (sq Z<|sl Z (gq Z) Z (bs h fun v4 hv4 h=>B8 Z Z A2 (Ho _ _ hv4) (.inl Z) (sv Z<|Aa Z G_hit [(di p1.Version),(dl G5 v1),(dl F4 v2),(dl E2 v3),(dl I6 v4)] Z (A1<|B4 ?_))))))))))
 cases h
 exact B0 (.inr Z) (C1 (I3 Z G_hit (nl Z) Z) D4) (.refl _)
def M8 (p1:(List Lane))(x1:((List Lane)×Int)):Option (Stp ((List Lane)×Int) (List Lane)):=
  cond (decide (x1.2< (p1.length:Int))) ((E8 p1 x1.2).bind fun v1=>(Ap v1).bind fun v2=>(X6 x1.1 [v2]).bind fun v3=>some (.go (v3,(H6 (x1.2+1))))) (some (.out x1.1))
def P8 [Lp](p1:(List Lane)):Option (List Lane):=
  (loop (M8 p1) ([],0)).bind fun y1=>some y1
theorem Ha(p1 r)(h:P8 p1=some r):MCall prog 154 [(dl G5 p1),(.d (.fn (.func 87) [] []))] [] (oS r (800000,0)) [] [oB 42 5 G5 r]:=by
 refine Er (fk func154 ntmps154 (fun r=>if r==5 then [1004]else []) (by with_unfolding_all rfl)) (by generalize r=x1;cases x1<;>rfl) (nl Z) ?_
 unfold P8 at h
 refine A7 (s0:=⟨T [(0,(.d _)),(1,(.d _))],G []⟩) (G1 Z Z) ?_
 refine B6<|sv Z<|A1<|B6<|sv Z<|A1<|A3<|B6<|sv Z<|sd Z (D6 Z)<|sv Z<|A1<|bs h fun y1 hy1 h=>F6 (fun s=> ∃g1:Nat,Sb ⟨T [(5,(oS y1 (19,g1)))],G [((19,g1),oB 42 5 G5 y1)]⟩ s) ?_ ?_
 refine A8<|G0 (M8 p1) (fun (x1:((List Lane)×Int)) (g2:Nat)=>⟨T [(1,(.d (.fn (.func 87) [] []))),(5,(oS x1.1 (19,g2))),(8,(dl G5 p1)),(9,(di (p1.length:Int))),(10,(di x1.2))],G [((19,g2),oB 42 5 G5 x1.1)]⟩) ([],0) 0 _ hy1 (C0 (V4 Z)<|M4 trivial) ?_
 intro x1 g2 z1 hz1 ez1
 unfold M8 at hz1
 refine B6<|sv Z<|A1<|A3<|cc Z hz1 (fun c1 hz1=> ?_)<|fun c1 hz1=> ?_
 refine B2<|A3<|A8<|B6<|bs hz1 fun v1 hv1 hz1=>sd Z (F0 Z Z hv1 Z)<|sd Z (C8 Z hv1 Z Z)<|sm Z<|Aa Z G_hit (In v1) Z (A1<|K8 fun u6 _=>A9 (oS x1.1 (19,g2)) Z Z (sv Z<|sd Z (B5 Z G_hit Z Z)<|bs hz1 fun v2 hv2 hz1=>B8 Z Z A2 (Fm _ _ hv2) (.inl Z) (A9 (dl G5 [v2]) Z Z (bs hz1 fun _ hv3 hz1=>H9 G5 (19,g2) x1.1 v2 [] _ (E4<|fun _=>Z) Z (gq Z) hv3 (ss Z<|A1<|E3<|B9<|sv Z<|sv Z<|A1<|G9 ?_)))))
 cases hz1
 exact ⟨Z,u6,(C0 ⟨.of Z,(.of (Q7<|L4 hv3).symm), .of Z, .of Z, .of Z,trivial⟩<|H7 G_hit trivial)⟩
 refine D8 Z ?_
 cases hz1
 obtain rfl:=ez1 _ rfl
 refine ⟨nofun,D1 Z<|Az ?_⟩
 exact ⟨g2,(C0 ⟨.of Z,trivial⟩<|C7 G_hit trivial)⟩
 rintro _ ⟨g1,q1⟩
 refine A7 q1<|B6<|A9 (oS y1 (19,g1)) Z Z (A9 (oS y1 (19,g1)) Z Z (A1<|B4 ?_))
 obtain rfl:=(lC h)
 exact Bn (v1:=(oS y1 (19,g1))) (.inr Z) (Zl<|B1 Z) (.of Z) [((19,g1),oB 42 5 G5 y1)] (C7 G_hit trivial) (R6 [(19,g1)] (by generalize y1=x1;cases x1<;>rfl) trivial ⟨(G_hit).trans oB_ren.symm,trivial⟩ Z (l7.2 ⟨fun _ hi=>Q2 Z hi,(fun _ h=>nomatch h)⟩) nd1)
def M9 (p1:(List Zone))(x1:((List Zone)×Int)):Option (Stp ((List Zone)×Int) (List Zone)):=
  cond (decide (x1.2< (p1.length:Int))) ((E8 p1 x1.2).bind fun v1=>(Aq v1).bind fun v2=>(X6 x1.1 [v2]).bind fun v3=>some (.go (v3,(H6 (x1.2+1))))) (some (.out x1.1))
def P9 [Lp](p1:(List Zone)):Option (List Zone):=
  (loop (M9 p1) ([],0)).bind fun y1=>some y1
theorem Hb(p1 r)(h:P9 p1=some r):MCall prog 155 [(dl F4 p1),(.d (.fn (.func 89) [] []))] [] (oS r (800000,0)) [] [oB 45 2 F4 r]:=by
 refine Er (fk func155 ntmps155 (fun r=>if r==5 then [1004]else []) (by with_unfolding_all rfl)) (by generalize r=x1;cases x1<;>rfl) (nl Z) ?_
 unfold P9 at h
 refine A7 (s0:=⟨T [(0,(.d _)),(1,(.d _))],G []⟩) (G1 Z Z) ?_
 refine B6<|sv Z<|A1<|B6<|sv Z<|A1<|A3<|B6<|sv Z<|sd Z (D6 Z)<|sv Z<|A1<|bs h fun y1 hy1 h=>F6 (fun s=> ∃g1:Nat,Sb ⟨T [(5,(oS y1 (19,g1)))],G [((19,g1),oB 45 2 F4 y1)]⟩ s) ?_ ?_
 refine A8<|G0 (M9 p1) (fun (x1:((List Zone)×Int)) (g2:Nat)=>⟨T [(1,(.d (.fn (.func 89) [] []))),(5,(oS x1.1 (19,g2))),(8,(dl F4 p1)),(9,(di (p1.length:Int))),(10,(di x1.2))],G [((19,g2),oB 45 2 F4 x1.1)]⟩) ([],0) 0 _ hy1 (C0 (V4 Z)<|M4 trivial) ?_
 intro x1 g2 z1 hz1 ez1
 unfold M9 at hz1
 refine B6<|sv Z<|A1<|A3<|cc Z hz1 (fun c1 hz1=> ?_)<|fun c1 hz1=> ?_
 refine B2<|A3<|A8<|B6<|bs hz1 fun v1 hv1 hz1=>sd Z (F0 Z Z hv1 Z)<|sd Z (C8 Z hv1 Z Z)<|sm Z<|Aa Z G_hit [(dl H3 v1.Parts),(di v1.Signal_)] Z (A1<|K8 fun u6 _=>A9 (oS x1.1 (19,g2)) Z Z (sv Z<|sd Z (B5 Z G_hit Z Z)<|bs hz1 fun v2 hv2 hz1=>B8 Z Z A2 (Fp _ _ hv2) (.inl Z) (A9 (dl F4 [v2]) Z Z (bs hz1 fun _ hv3 hz1=>H9 F4 (19,g2) x1.1 v2 [] _ (E4<|fun _=>Z) Z (gq Z) hv3 (ss Z<|A1<|E3<|B9<|sv Z<|sv Z<|A1<|G9 ?_)))))
 cases hz1
 exact ⟨Z,u6,(C0 ⟨.of Z,(.of (Q7<|L4 hv3).symm), .of Z, .of Z, .of Z,trivial⟩<|H7 G_hit trivial)⟩
 refine D8 Z ?_
 cases hz1
 obtain rfl:=ez1 _ rfl
 refine ⟨nofun,D1 Z<|Az ?_⟩
 exact ⟨g2,(C0 ⟨.of Z,trivial⟩<|C7 G_hit trivial)⟩
 rintro _ ⟨g1,q1⟩
 refine A7 q1<|B6<|A9 (oS y1 (19,g1)) Z Z (A9 (oS y1 (19,g1)) Z Z (A1<|B4 ?_))
 obtain rfl:=(lC h)
 exact Bn (v1:=(oS y1 (19,g1))) (.inr Z) (Zl<|B1 Z) (.of Z) [((19,g1),oB 45 2 F4 y1)] (C7 G_hit trivial) (R6 [(19,g1)] (by generalize y1=x1;cases x1<;>rfl) trivial ⟨(G_hit).trans oB_ren.symm,trivial⟩ Z (l7.2 ⟨fun _ hi=>Q2 Z hi,(fun _ h=>nomatch h)⟩) nd1)
def K4 [Lp](p1:(List Signal))(x1:((List Signal)×Int)):Option (Stp ((List Signal)×Int) (List Signal)):=
  cond (decide (x1.2< (p1.length:Int))) ((E8 p1 x1.2).bind fun v1=>(W7 v1).bind fun v2=>(X6 x1.1 [v2]).bind fun v3=>some (.go (v3,(H6 (x1.2+1))))) (some (.out x1.1))
def M6 [Lp](p1:(List Signal)):Option (List Signal):=
  (loop (K4 p1) ([],0)).bind fun y1=>some y1
theorem Fs(p1 r)(h:M6 p1=some r):MCall prog 156 [(dl E2 p1),(.d (.fn (.func 91) [] []))] [] (oS r (800000,0)) [] [oB 48 2 E2 r]:=by
 refine Er (fk func156 ntmps156 (fun r=>if r==5 then [1004]else []) (by with_unfolding_all rfl)) (by generalize r=x1;cases x1<;>rfl) (nl Z) ?_
 unfold M6 at h
 refine A7 (s0:=⟨T [(0,(.d _)),(1,(.d _))],G []⟩) (G1 Z Z) ?_
 refine B6<|sv Z<|A1<|B6<|sv Z<|A1<|A3<|B6<|sv Z<|sd Z (D6 Z)<|sv Z<|A1<|bs h fun y1 hy1 h=>F6 (fun s=> ∃g1:Nat,Sb ⟨T [(5,(oS y1 (19,g1)))],G [((19,g1),oB 48 2 E2 y1)]⟩ s) ?_ ?_
 refine A8<|G0 (K4 p1) (fun (x1:((List Signal)×Int)) (g2:Nat)=>⟨T [(1,(.d (.fn (.func 91) [] []))),(5,(oS x1.1 (19,g2))),(8,(dl E2 p1)),(9,(di (p1.length:Int))),(10,(di x1.2))],G [((19,g2),oB 48 2 E2 x1.1)]⟩) ([],0) 0 _ hy1 (C0 (V4 Z)<|M4 trivial) ?_
 intro x1 g2 z1 hz1 ez1
 unfold K4 at hz1
 refine B6<|sv Z<|A1<|A3<|cc Z hz1 (fun c1 hz1=> ?_)<|fun c1 hz1=> ?_
 refine B2<|A3<|A8<|B6<|bs hz1 fun v1 hv1 hz1=>sd Z (F0 Z Z hv1 Z)<|sd Z (C8 Z hv1 Z Z)<|sm Z<|Aa Z G_hit [(di v1.Offset),(dl J2 v1.Phases)] Z (A1<|K8 fun u6 _=>A9 (oS x1.1 (19,g2)) Z Z (sv Z<|sd Z (B5 Z G_hit Z Z)<|bs hz1 fun v2 hv2 hz1=>B8 Z Z A2 (Dt _ _ hv2) (.inl Z) (A9 (dl E2 [v2]) Z Z (bs hz1 fun _ hv3 hz1=>H9 E2 (19,g2) x1.1 v2 [] _ (E4<|fun _=>Z) Z (gq Z) hv3 (ss Z<|A1<|E3<|B9<|sv Z<|sv Z<|A1<|G9 ?_)))))
 cases hz1
 exact ⟨Z,u6,(C0 ⟨.of Z,(.of (Q7<|L4 hv3).symm), .of Z, .of Z, .of Z,trivial⟩<|H7 G_hit trivial)⟩
 refine D8 Z ?_
 cases hz1
 obtain rfl:=ez1 _ rfl
 refine ⟨nofun,D1 Z<|Az ?_⟩
 exact ⟨g2,(C0 ⟨.of Z,trivial⟩<|C7 G_hit trivial)⟩
 rintro _ ⟨g1,q1⟩
 refine A7 q1<|B6<|A9 (oS y1 (19,g1)) Z Z (A9 (oS y1 (19,g1)) Z Z (A1<|B4 ?_))
 obtain rfl:=(lC h)
 exact Bn (v1:=(oS y1 (19,g1))) (.inr Z) (Zl<|B1 Z) (.of Z) [((19,g1),oB 48 2 E2 y1)] (C7 G_hit trivial) (R6 [(19,g1)] (by generalize y1=x1;cases x1<;>rfl) trivial ⟨(G_hit).trans oB_ren.symm,trivial⟩ Z (l7.2 ⟨fun _ hi=>Q2 Z hi,(fun _ h=>nomatch h)⟩) nd1)
def N0 (p1:(List Work))(x1:((List Work)×Int)):Option (Stp ((List Work)×Int) (List Work)):=
  cond (decide (x1.2< (p1.length:Int))) ((E8 p1 x1.2).bind fun v1=>(Gd v1).bind fun v2=>(X6 x1.1 [v2]).bind fun v3=>some (.go (v3,(H6 (x1.2+1))))) (some (.out x1.1))
def Q0 [Lp](p1:(List Work)):Option (List Work):=
  (loop (N0 p1) ([],0)).bind fun y1=>some y1
theorem Hc(p1 r)(h:Q0 p1=some r):MCall prog 157 [(dl I6 p1),(.d (.fn (.func 158) [] []))] [] (oS r (800000,0)) [] [oB 50 6 I6 r]:=by
 refine Er (fk func157 ntmps157 (fun r=>if r==5 then [1004]else []) (by with_unfolding_all rfl)) (by generalize r=x1;cases x1<;>rfl) (nl Z) ?_
 unfold Q0 at h
 refine A7 (s0:=⟨T [(0,(.d _)),(1,(.d _))],G []⟩) (G1 Z Z) ?_
 refine B6<|sv Z<|A1<|B6<|sv Z<|A1<|A3<|B6<|sv Z<|sd Z (D6 Z)<|sv Z<|A1<|bs h fun y1 hy1 h=>F6 (fun s=> ∃g1:Nat,Sb ⟨T [(5,(oS y1 (19,g1)))],G [((19,g1),oB 50 6 I6 y1)]⟩ s) ?_ ?_
 refine A8<|G0 (N0 p1) (fun (x1:((List Work)×Int)) (g2:Nat)=>⟨T [(1,(.d (.fn (.func 158) [] []))),(5,(oS x1.1 (19,g2))),(8,(dl I6 p1)),(9,(di (p1.length:Int))),(10,(di x1.2))],G [((19,g2),oB 50 6 I6 x1.1)]⟩) ([],0) 0 _ hy1 (C0 (V4 Z)<|M4 trivial) ?_
 intro x1 g2 z1 hz1 ez1
 unfold N0 at hz1
 refine B6<|sv Z<|A1<|A3<|cc Z hz1 (fun c1 hz1=> ?_)<|fun c1 hz1=> ?_
 refine B2<|A3<|A8<|B6<|bs hz1 fun v1 hv1 hz1=>sd Z (F0 Z Z hv1 Z)<|sd Z (C8 Z hv1 Z Z)<|sm Z<|Aa Z G_hit (DS v1) Z (A1<|K8 fun u6 _=>A9 (oS x1.1 (19,g2)) Z Z (sv Z<|sd Z (B5 Z G_hit Z Z)<|bs hz1 fun v2 hv2 hz1=>B8 Z Z A2 (Lm _ _ hv2) (.inl Z) (A9 (dl I6 [v2]) Z Z (bs hz1 fun _ hv3 hz1=>H9 I6 (19,g2) x1.1 v2 [] _ (E4<|fun _=>Z) Z (gq Z) hv3 (ss Z<|A1<|E3<|B9<|sv Z<|sv Z<|A1<|G9 ?_)))))
 cases hz1
 exact ⟨Z,u6,(C0 ⟨.of Z,(.of (Q7<|L4 hv3).symm), .of Z, .of Z, .of Z,trivial⟩<|H7 G_hit trivial)⟩
 refine D8 Z ?_
 cases hz1
 obtain rfl:=ez1 _ rfl
 refine ⟨nofun,D1 Z<|Az ?_⟩
 exact ⟨g2,(C0 ⟨.of Z,trivial⟩<|C7 G_hit trivial)⟩
 rintro _ ⟨g1,q1⟩
 refine A7 q1<|B6<|A9 (oS y1 (19,g1)) Z Z (A9 (oS y1 (19,g1)) Z Z (A1<|B4 ?_))
 obtain rfl:=(lC h)
 exact Bn (v1:=(oS y1 (19,g1))) (.inr Z) (Zl<|B1 Z) (.of Z) [((19,g1),oB 50 6 I6 y1)] (C7 G_hit trivial) (R6 [(19,g1)] (by generalize y1=x1;cases x1<;>rfl) trivial ⟨(G_hit).trans oB_ren.symm,trivial⟩ Z (l7.2 ⟨fun _ hi=>Q2 Z hi,(fun _ h=>nomatch h)⟩) nd1)
def Gf [Lp](p1:Map):Option Map:=
  (P8 p1.Lanes).bind fun v1=>(P9 p1.Zones).bind fun v2=>(M6 p1.Signals).bind fun v3=>(Q0 p1.Works).bind fun v4=>some (Map.mk p1.Version v1 v2 v3 v4)
theorem Tk(p1 r)(h:Gf p1=some r):MCall prog 51 [(.d (.agg (Q8 p1)))] [] (Ao [(di r.Version),(oS r.Lanes (800000,0)),(oS r.Zones (800001,0)),(oS r.Signals (800002,0)),(oS r.Works (800003,0))]) [] [oB 42 5 G5 r.Lanes,oB 45 2 F4 r.Zones,oB 48 2 E2 r.Signals,oB 50 6 I6 r.Works]:=by
 refine Er (fk func51 ntmps51 (fun r=>if r==1 then [1001004,1001007,1001010,1001013]else []) (by with_unfolding_all rfl)) (by generalize r.Lanes=x1;generalize r.Zones=x2;generalize r.Signals=x3;generalize r.Works=x4;cases x1<;>cases x2<;>cases x3<;>cases x4<;>rfl) (nl Z) ?_
 unfold Gf at h
 refine A7 (s0:=⟨T [(0,(.d _))],G []⟩) (G1 Z Z) ?_
 refine B6<|sm Z<|sn Z Z<|A1<|A3<|HR fun u2 _=>Hg (.ptr _ _) Z Z (Hg (.d _) Z (Bp Z (gq Z) Z) (Hg (.ptr _ _) Z Z (Hg (.d _) Z (Bp Z (gq Z) Z) (bs h fun v1 hv1 h=> ?_))))
 refine RB (v:=oS v1 (10010040,u2)) (us:= [(10010040,u2)]) (Zo (Ha _ _ hv1) [] [] _ (((10010040,u2),oB 42 5 G5 v1)::_) Z Es Z Bz trivial (fun _ h=>h) List.nodup_nil (by generalize v1=x1;cases x1<;>rfl) Z (Mg (Z)) Z) ?_
 refine Hg (.ptr _ _) Z Z (Hg (.d _) Z (Bp Z (gq Z) Z) (bs h fun v2 hv2 h=> ?_))
 refine RB (v:=oS v2 (10010070,u2)) (us:= [(10010070,u2)]) (Zo (Hb _ _ hv2) [] [] _ (((10010070,u2),oB 45 2 F4 v2)::_) Z Es Z Bz trivial (fun _ h=>h) List.nodup_nil (by generalize v2=x1;cases x1<;>rfl) Z (Mg (Z)) Z) ?_
 refine Hg (.ptr _ _) Z Z (Hg (.d _) Z (Bp Z (gq Z) Z) (bs h fun v3 hv3 h=> ?_))
 refine RB (v:=oS v3 (10010100,u2)) (us:= [(10010100,u2)]) (Zo (Fs _ _ hv3) [] [] _ (((10010100,u2),oB 48 2 E2 v3)::_) Z Es Z Bz trivial (fun _ h=>h) List.nodup_nil (by generalize v3=x1;cases x1<;>rfl) Z (Mg (Z)) Z) ?_
 refine Hg (.ptr _ _) Z Z (Hg (.d _) Z (Bp Z (gq Z) Z) (bs h fun v4 hv4 h=> ?_))
 refine RB (v:=oS v4 (10010130,u2)) (us:= [(10010130,u2)]) (Zo (Hc _ _ hv4) [] [] _ (((10010130,u2),oB 50 6 I6 v4)::_) Z Es Z Bz trivial (fun _ h=>h) List.nodup_nil (by generalize v4=x1;cases x1<;>rfl) Z (Mg (Z)) Z) ?_
 refine Hg (Ao [(di p1.Version),(oS v1 (10010040,u2)),(oS v2 (10010070,u2)),(oS v3 (10010100,u2)),(oS v4 (10010130,u2))]) Z (by generalize v1=x1;generalize v2=x2;generalize v3=x3;generalize v4=x4;cases x1<;>cases x2<;>cases x3<;>cases x4<;>rfl) ?_
 refine QU _ _ _ _ _ (Aj _) Z Z (gq Z) (nl Z) [(di p1.Version),(oS v1 (10010040,u2)),(oS v2 (10010070,u2)),(oS v3 (10010100,u2)),(oS v4 (10010130,u2))] Z (SP ⟨Z,?_⟩)
 refine B4 ?_
 cases h
 exact Bn (v1:=(Ao [(di p1.Version),(oS v1 (10010040,u2)),(oS v2 (10010070,u2)),(oS v3 (10010100,u2)),(oS v4 (10010130,u2))])) (.inr Z) (Zl<|I3 Z G_hit (Nat.le_of_ble_eq_true Z) Z) (.of Z) [((10010040,u2),oB 42 5 G5 v1),((10010070,u2),oB 45 2 F4 v2),((10010100,u2),oB 48 2 E2 v3),((10010130,u2),oB 50 6 I6 v4)] (C7 (gq Z)<|C7 (gq Z)<|C7 (gq Z)<|C7 (gq Z) trivial) (R6 [(10010040,u2),(10010070,u2),(10010100,u2),(10010130,u2)] (by generalize v1=x1;generalize v2=x2;generalize v3=x3;generalize v4=x4;cases x1<;>cases x2<;>cases x3<;>cases x4<;>rfl) trivial ⟨(G_hit).trans oB_ren.symm,((gq Z)).trans oB_ren.symm,((gq Z)).trans oB_ren.symm,((gq Z)).trans oB_ren.symm,trivial⟩ Z (l7.2 ⟨fun i hi=>Q2 Z hi,(l7.2 ⟨fun i hi=>Q2 Z hi,(l7.2 ⟨fun i hi=>Q2 Z hi,(l7.2 ⟨fun i hi=>Q2 Z hi,(fun _ h=>nomatch h)⟩)⟩)⟩)⟩) (WN (Oz (Me Z)<|Oz (Me Z)<|Oz (Me Z) BI)<|WN (Oz (Me Z)<|Oz (Me Z) BI)<|WN (Oz (Me Z) BI)<|WN BI List.nodup_nil))
section
open Go.RowKit Go.Lib
theorem NR (xs zs:List Lane)(x:Edit)(v:Lane)(ok:Bool)(h:Eb x.Kind x.At xs v=some (zs,ok)):MCall prog 86 [.sl (900000,0), .d (.agg (G2 x)), .d (.agg (G5 v))] [.arr 42 5 (xs.map G5)] (.tup [.sl (800000,0), .d (bo ok)]) [none] [some (.arr 42 5 (zs.map G5))]:=by
 refine Er (fk func86 ntmps86 (fun r=>if r==2 then [1002]else if r==4 then [1003]else []) (by with_unfolding_all rfl)) Z (nl Z) ?_
 unfold Eb at h
 refine B6 ?_
 refine sm Z ?_
 refine sm Z ?_
 refine sv Z ?_
 refine sv Z<|A1 ?_
 refine A3<|A8<|B6 ?_
 refine sq Z ?_
 refine sl Z (gq Z) Z ?_
 refine sv Z<|sv Z ?_
 refine gp Z (J1 Z) (fun _=>Z) ?_
 refine gt Z (vl Z (gq Z) Z) ?_
 refine Ab _ (.sl (900000,0)) Z (J1 Z) (fun _=>Z) ?_
 refine gt Z (fun w=>Fa (f:=G5) (A5 w) (gq Z)) ?_
 refine gt Z (fun w=>J3 (A5 w) (A5 w) Z) ?_
 refine sa Z Z Z ?_
 refine sv Z<|A1 ?_
 refine cc Z h (fun c1 h=> ?_)<|fun c1 h=> ?_
 ·refine bs h fun y hy h=> ?_
  cases h
  refine lr fun u hu=> ?_
  refine ss Z ?_
  refine sd Z (B5 Z (gq Z) Z Z) ?_
  refine A9 (dl G5 [v]) Z Z ?_
  refine Dz G5 (900000,0) xs [v] _ (E4<|fun _=>Z) Z (gq Z) hy ?_
  refine ss Z<|sv Z<|A1<|B4 ?_
  exact Bn (v1:= .tup [.sl (22,u), .d (bo true)]) (.inr Z) (Ep (B1 Z)<|B1 Z) (.of Z) [((22,u),some<|.arr 42 5 (List.map G5 zs))] (B7 (gq Z) (.of Z) trivial) (R6 [(22,u)] Z ⟨trivial,trivial⟩ ⟨gq Z,trivial⟩ Z (l7.2 ⟨fun i hi=>Q2 Z hi,(fun _ h=>nomatch h)⟩) nd1)
 ·refine B6 ?_
  refine sq Z ?_
  refine sl Z (gq Z) Z ?_
  refine sv Z<|sv Z ?_
  refine Ab _ (.sl (900000,0)) Z (J1 Z) (fun _=>Z) ?_
  refine gt Z (fun w=>Fa (f:=G5) (A5 w) (gq Z)) ?_
  refine gt Z (fun w=>J3 (A5 w) Z Z) ?_
  refine sa Z Z Z ?_
  refine sv Z ?_
  refine gp Z (J1 Z) (fun _=>Z) ?_
  refine gt Z (vl Z (gq Z) Z) ?_
  refine Ab _ (.sl (900000,0)) Z (J1 Z) (fun _=>Z) ?_
  refine gt Z (fun w=>Fa (f:=G5) (A5 w) (gq Z)) ?_
  refine gt Z (fun w=>J3 (A5 w) Z Z) ?_
  refine gt Z (fun w=>J3 (A5 w) (A5 w) Z) ?_
  refine sa Z Z Z ?_
  refine sv Z<|A1 ?_
  refine cc Z h (fun c2 h=> ?_)<|fun c2 h=> ?_
  ·refine bs h fun y hy h=> ?_
   cases h
   refine lr fun u hu=> ?_
   refine ss Z ?_
   refine sq Z ?_
   refine sl Z (gq Z) Z ?_
   refine Ry G5 (900000,0) xs _ Z (gq Z) Z hy ?_
   refine ss Z<|sv Z<|A1<|B4 ?_
   exact Bn (v1:= .tup [.sl (43,u), .d (bo true)]) (.inr Z) (Ep (B1 Z)<|B1 Z) (.of Z) [((43,u),some<|.arr 42 5 (List.map G5 zs))] (B7 (gq Z) (.of Z) trivial) (R6 [(43,u)] Z ⟨trivial,trivial⟩ ⟨gq Z,trivial⟩ Z (l7.2 ⟨fun i hi=>Q2 Z hi,(fun _ h=>nomatch h)⟩) nd1)
  ·refine B6 ?_
   refine sq Z ?_
   refine sl Z (gq Z) Z ?_
   refine sv Z<|sv Z ?_
   refine gp Z (J1 Z) (fun _=>Z) ?_
   refine gt Z (vl Z (gq Z) Z) ?_
   refine gt Z (fun w=>J3 (A5 w) Z Z) ?_
   refine sa Z Z Z ?_
   refine sv Z ?_
   refine gp Z (J1 Z) (fun _=>Z) ?_
   refine gt Z (vl Z (gq Z) Z) ?_
   refine Ab _ (.sl (900000,0)) Z (J1 Z) (fun _=>Z) ?_
   refine gt Z (fun w=>Fa (f:=G5) (A5 w) (gq Z)) ?_
   refine gt Z (fun w=>J3 (A5 w) (A5 w) Z) ?_
   refine sa Z Z Z ?_
   refine sv Z<|A1 ?_
   refine cc Z h (fun c3 h=> ?_)<|fun c3 h=> ?_
   ·refine bs h fun y hy h=> ?_
    cases h
    refine B6 ?_
    refine ss Z ?_
    refine sq Z ?_
    refine sl Z (gq Z) Z ?_
    refine sd Z (B5 Z (gq Z) Z Z) ?_
    refine A9 (.aptr (900000,0) 5 x.At.toNat 0) Z (Ob (f:=G5) Z Z (gq Z) hy) ?_
    refine Lk G5 (900000,0) _ xs x.At y v (G5 v) Z Z Z (gq Z) hy (Nat.le_of_ble_eq_true Z) Z ?_
    refine A1<|B6 ?_
    refine ss Z<|ss Z<|sv Z<|A1 ?_
    refine Ug 6 (900000,0) Z (gq Z) fun u'=>B4 ?_
    exact Bn (v1:= .tup [.sl (700000,u'), .d (bo true)]) (.inr Z) (Ep (B1 Z)<|B1 Z) (.of Z) [((700000,u'),some<|.arr 42 5 (List.map G5<|Lj xs x.At v))] (B7 (gq Z) (.of Z) trivial) (R6 [(700000,u')] Z ⟨trivial,trivial⟩ ⟨gq Z,trivial⟩ Z (l7.2 ⟨fun i hi=>Q2 Z hi,(fun _ h=>nomatch h)⟩) nd1)
   ·cases h
    refine B2<|E3<|B6 ?_
    refine ss Z<|ss Z<|sv Z<|A1 ?_
    refine Ug 6 (900000,0) Z (gq Z) fun u'=>B4 ?_
    exact Bn (v1:= .tup [.sl (700000,u'), .d (bo false)]) (.inr Z) (Ep (B1 Z)<|B1 Z) (.of Z) [((700000,u'),some<|.arr 42 5 (List.map G5 xs))] (B7 (gq Z) (.of Z) trivial) (R6 [(700000,u')] Z ⟨trivial,trivial⟩ ⟨gq Z,trivial⟩ Z (l7.2 ⟨fun i hi=>Q2 Z hi,(fun _ h=>nomatch h)⟩) nd1)
theorem NS (zs:List Lane)(x:Edit)(v:Lane)(ok:Bool)(h:Eb x.Kind x.At [] v=some (zs,ok)):MCall prog 86 [.d .nilS, .d (.agg (G2 x)), .d (.agg (G5 v))] [] (.tup [oS zs (800000,0), .d (bo ok)]) [] [oB 42 5 G5 zs]:=by
 refine Er (fk func86 ntmps86 (fun r=>if r==2 then [1002]else if r==4 then [1003]else []) (by with_unfolding_all rfl)) (by generalize zs=y;cases y<;>rfl) (nl Z) ?_
 unfold Eb at h
 refine B6 ?_
 refine sm Z ?_
 refine sm Z ?_
 refine sv Z ?_
 refine sv Z<|A1 ?_
 refine A3<|A8<|B6 ?_
 refine sq Z ?_
 refine sl Z (gq Z) Z ?_
 refine sv Z<|sv Z ?_
 refine gp Z (J1 Z) (fun _=>Z) ?_
 refine gt Z (vl Z (gq Z) Z) ?_
 refine gt Z (fun _=>Z) ?_
 refine gt (v:=i64 (([]:List Lane).length:Int)) Z (fun w=>Fy<|A5 w) ?_
 refine gt Z (fun w=>J3 (A5 w) (A5 w) Z) ?_
 refine sa Z Z Z ?_
 refine sv Z<|A1 ?_
 refine cc Z h (fun c1 h=> ?_)<|fun c1 h=> ?_
 ·refine bs h fun y hy h=> ?_
  cases h
  refine lr fun u hu=> ?_
  refine sv Z ?_
  refine sd Z (B5 Z (gq Z) Z Z) ?_
  refine A9 (dl G5 [v]) Z Z ?_
  refine H9 G5 (22,u) [] v [] _ (E4<|fun _=>Z) Z (Classical.byContradiction fun e=>hu (22,u) e Z) hy ?_
  refine ss Z<|sv Z<|A1<|B4 ?_
  exact Bn (v1:= .tup [oS zs (22,u), .d (bo true)]) (.inr Z) (Ep (B1 Z)<|B1 Z) (.of (by rw [Q7<|L4 hy];rfl)) [((22,u),oB 42 5 G5 zs)] (H7 (gq Z) trivial) (R6 [(22,u)] (by generalize zs=y;cases y<;>rfl) trivial ⟨(gq Z).trans oB_ren.symm,trivial⟩ Z (l7.2 ⟨fun i hi=>Q2 Z hi,(fun _ h=>nomatch h)⟩) nd1)
 ·refine B6 ?_
  refine sq Z ?_
  refine sl Z (gq Z) Z ?_
  refine sv Z<|sv Z ?_
  refine gt Z (fun _=>Z) ?_
  refine gt (v:=i64 (([]:List Lane).length:Int)) Z (fun w=>Fy<|A5 w) ?_
  refine gt Z (fun w=>J3 (A5 w) Z Z) ?_
  refine sa Z Z Z ?_
  refine sv Z ?_
  refine gp Z (J1 Z) (fun _=>Z) ?_
  refine gt Z (vl Z (gq Z) Z) ?_
  refine gt Z (fun _=>Z) ?_
  refine gt (v:=i64 (([]:List Lane).length:Int)) Z (fun w=>Fy<|A5 w) ?_
  refine gt Z (fun w=>J3 (A5 w) Z Z) ?_
  refine gt Z (fun w=>J3 (A5 w) (A5 w) Z) ?_
  refine sa Z Z Z ?_
  refine sv Z<|A1 ?_
  refine cc Z h (fun c2 h=> ?_)<|fun c2 h=> ?_
  ·simp at c2
  ·refine B6 ?_
   refine sq Z ?_
   refine sl Z (gq Z) Z ?_
   refine sv Z<|sv Z ?_
   refine gp Z (J1 Z) (fun _=>Z) ?_
   refine gt Z (vl Z (gq Z) Z) ?_
   refine gt Z (fun w=>J3 (A5 w) Z Z) ?_
   refine sa Z Z Z ?_
   refine sv Z ?_
   refine gp Z (J1 Z) (fun _=>Z) ?_
   refine gt Z (vl Z (gq Z) Z) ?_
   refine gt Z (fun _=>Z) ?_
   refine gt (v:=i64 (([]:List Lane).length:Int)) Z (fun w=>Fy<|A5 w) ?_
   refine gt Z (fun w=>J3 (A5 w) (A5 w) Z) ?_
   refine sa Z Z Z ?_
   refine sv Z<|A1 ?_
   refine cc Z h (fun c3 h=> ?_)<|fun c3 h=> ?_
   ·exact absurd h (by rintro h;refine bs h fun y hy _=>Ie hy rfl)
   ·cases h
    refine B2<|E3<|B6 ?_
    refine sv Z<|sv Z<|sv Z<|A1<|B4 ?_
    exact Bn (v1:= .tup [oS ([]:List Lane) (700000,0), .d (bo false)]) (.inr Z) (Ep (B1 Z)<|B1 Z) (.of Z) [((700000,0),oB 42 5 G5 [])] (M4 trivial) (R6 [(700000,0)] Z trivial ⟨Z,trivial⟩ Z (l7.2 ⟨fun i hi=>Q2 Z hi,(fun _ h=>nomatch h)⟩) nd1)
theorem NT:EditC prog 86 42 5 G5 G2 Edit.Kind Edit.At:=⟨NR,NS⟩
end
section
open Go.RowKit Go.Lib
theorem NU (xs zs:List Zone)(x:Edit)(v:Zone)(ok:Bool)(h:Eb x.Kind x.At xs v=some (zs,ok)):MCall prog 88 [.sl (900000,0), .d (.agg (G2 x)), .d (.agg (F4 v))] [.arr 45 2 (xs.map F4)] (.tup [.sl (800000,0), .d (bo ok)]) [none] [some (.arr 45 2 (zs.map F4))]:=by
 refine Er (fk func88 ntmps88 (fun r=>if r==2 then [1002]else if r==4 then [1003]else []) (by with_unfolding_all rfl)) Z (nl Z) ?_
 unfold Eb at h
 refine B6 ?_
 refine sm Z ?_
 refine sm Z ?_
 refine sv Z ?_
 refine sv Z<|A1 ?_
 refine A3<|A8<|B6 ?_
 refine sq Z ?_
 refine sl Z (gq Z) Z ?_
 refine sv Z<|sv Z ?_
 refine gp Z (J1 Z) (fun _=>Z) ?_
 refine gt Z (vl Z (gq Z) Z) ?_
 refine Ab _ (.sl (900000,0)) Z (J1 Z) (fun _=>Z) ?_
 refine gt Z (fun w=>Fa (f:=F4) (A5 w) (gq Z)) ?_
 refine gt Z (fun w=>J3 (A5 w) (A5 w) Z) ?_
 refine sa Z Z Z ?_
 refine sv Z<|A1 ?_
 refine cc Z h (fun c1 h=> ?_)<|fun c1 h=> ?_
 ·refine bs h fun y hy h=> ?_
  cases h
  refine lr fun u hu=> ?_
  refine ss Z ?_
  refine sd Z (B5 Z (gq Z) Z Z) ?_
  refine A9 (dl F4 [v]) Z Z ?_
  refine Dz F4 (900000,0) xs [v] _ (E4<|fun _=>Z) Z (gq Z) hy ?_
  refine ss Z<|sv Z<|A1<|B4 ?_
  exact Bn (v1:= .tup [.sl (22,u), .d (bo true)]) (.inr Z) (Ep (B1 Z)<|B1 Z) (.of Z) [((22,u),some<|.arr 45 2 (List.map F4 zs))] (B7 (gq Z) (.of Z) trivial) (R6 [(22,u)] Z ⟨trivial,trivial⟩ ⟨gq Z,trivial⟩ Z (l7.2 ⟨fun i hi=>Q2 Z hi,(fun _ h=>nomatch h)⟩) nd1)
 ·refine B6 ?_
  refine sq Z ?_
  refine sl Z (gq Z) Z ?_
  refine sv Z<|sv Z ?_
  refine Ab _ (.sl (900000,0)) Z (J1 Z) (fun _=>Z) ?_
  refine gt Z (fun w=>Fa (f:=F4) (A5 w) (gq Z)) ?_
  refine gt Z (fun w=>J3 (A5 w) Z Z) ?_
  refine sa Z Z Z ?_
  refine sv Z ?_
  refine gp Z (J1 Z) (fun _=>Z) ?_
  refine gt Z (vl Z (gq Z) Z) ?_
  refine Ab _ (.sl (900000,0)) Z (J1 Z) (fun _=>Z) ?_
  refine gt Z (fun w=>Fa (f:=F4) (A5 w) (gq Z)) ?_
  refine gt Z (fun w=>J3 (A5 w) Z Z) ?_
  refine gt Z (fun w=>J3 (A5 w) (A5 w) Z) ?_
  refine sa Z Z Z ?_
  refine sv Z<|A1 ?_
  refine cc Z h (fun c2 h=> ?_)<|fun c2 h=> ?_
  ·refine bs h fun y hy h=> ?_
   cases h
   refine lr fun u hu=> ?_
   refine ss Z ?_
   refine sq Z ?_
   refine sl Z (gq Z) Z ?_
   refine Ry F4 (900000,0) xs _ Z (gq Z) Z hy ?_
   refine ss Z<|sv Z<|A1<|B4 ?_
   exact Bn (v1:= .tup [.sl (43,u), .d (bo true)]) (.inr Z) (Ep (B1 Z)<|B1 Z) (.of Z) [((43,u),some<|.arr 45 2 (List.map F4 zs))] (B7 (gq Z) (.of Z) trivial) (R6 [(43,u)] Z ⟨trivial,trivial⟩ ⟨gq Z,trivial⟩ Z (l7.2 ⟨fun i hi=>Q2 Z hi,(fun _ h=>nomatch h)⟩) nd1)
  ·refine B6 ?_
   refine sq Z ?_
   refine sl Z (gq Z) Z ?_
   refine sv Z<|sv Z ?_
   refine gp Z (J1 Z) (fun _=>Z) ?_
   refine gt Z (vl Z (gq Z) Z) ?_
   refine gt Z (fun w=>J3 (A5 w) Z Z) ?_
   refine sa Z Z Z ?_
   refine sv Z ?_
   refine gp Z (J1 Z) (fun _=>Z) ?_
   refine gt Z (vl Z (gq Z) Z) ?_
   refine Ab _ (.sl (900000,0)) Z (J1 Z) (fun _=>Z) ?_
   refine gt Z (fun w=>Fa (f:=F4) (A5 w) (gq Z)) ?_
   refine gt Z (fun w=>J3 (A5 w) (A5 w) Z) ?_
   refine sa Z Z Z ?_
   refine sv Z<|A1 ?_
   refine cc Z h (fun c3 h=> ?_)<|fun c3 h=> ?_
   ·refine bs h fun y hy h=> ?_
    cases h
    refine B6 ?_
    refine ss Z ?_
    refine sq Z ?_
    refine sl Z (gq Z) Z ?_
    refine sd Z (B5 Z (gq Z) Z Z) ?_
    refine A9 (.aptr (900000,0) 2 x.At.toNat 0) Z (Ob (f:=F4) Z Z (gq Z) hy) ?_
    refine Lk F4 (900000,0) _ xs x.At y v (F4 v) Z Z Z (gq Z) hy (Nat.le_of_ble_eq_true Z) Z ?_
    refine A1<|B6 ?_
    refine ss Z<|ss Z<|sv Z<|A1 ?_
    refine Ug 6 (900000,0) Z (gq Z) fun u'=>B4 ?_
    exact Bn (v1:= .tup [.sl (700000,u'), .d (bo true)]) (.inr Z) (Ep (B1 Z)<|B1 Z) (.of Z) [((700000,u'),some<|.arr 45 2 (List.map F4<|Lj xs x.At v))] (B7 (gq Z) (.of Z) trivial) (R6 [(700000,u')] Z ⟨trivial,trivial⟩ ⟨gq Z,trivial⟩ Z (l7.2 ⟨fun i hi=>Q2 Z hi,(fun _ h=>nomatch h)⟩) nd1)
   ·cases h
    refine B2<|E3<|B6 ?_
    refine ss Z<|ss Z<|sv Z<|A1 ?_
    refine Ug 6 (900000,0) Z (gq Z) fun u'=>B4 ?_
    exact Bn (v1:= .tup [.sl (700000,u'), .d (bo false)]) (.inr Z) (Ep (B1 Z)<|B1 Z) (.of Z) [((700000,u'),some<|.arr 45 2 (List.map F4 xs))] (B7 (gq Z) (.of Z) trivial) (R6 [(700000,u')] Z ⟨trivial,trivial⟩ ⟨gq Z,trivial⟩ Z (l7.2 ⟨fun i hi=>Q2 Z hi,(fun _ h=>nomatch h)⟩) nd1)
theorem NV (zs:List Zone)(x:Edit)(v:Zone)(ok:Bool)(h:Eb x.Kind x.At [] v=some (zs,ok)):MCall prog 88 [.d .nilS, .d (.agg (G2 x)), .d (.agg (F4 v))] [] (.tup [oS zs (800000,0), .d (bo ok)]) [] [oB 45 2 F4 zs]:=by
 refine Er (fk func88 ntmps88 (fun r=>if r==2 then [1002]else if r==4 then [1003]else []) (by with_unfolding_all rfl)) (by generalize zs=y;cases y<;>rfl) (nl Z) ?_
 unfold Eb at h
 refine B6 ?_
 refine sm Z ?_
 refine sm Z ?_
 refine sv Z ?_
 refine sv Z<|A1 ?_
 refine A3<|A8<|B6 ?_
 refine sq Z ?_
 refine sl Z (gq Z) Z ?_
 refine sv Z<|sv Z ?_
 refine gp Z (J1 Z) (fun _=>Z) ?_
 refine gt Z (vl Z (gq Z) Z) ?_
 refine gt Z (fun _=>Z) ?_
 refine gt (v:=i64 (([]:List Zone).length:Int)) Z (fun w=>Fy<|A5 w) ?_
 refine gt Z (fun w=>J3 (A5 w) (A5 w) Z) ?_
 refine sa Z Z Z ?_
 refine sv Z<|A1 ?_
 refine cc Z h (fun c1 h=> ?_)<|fun c1 h=> ?_
 ·refine bs h fun y hy h=> ?_
  cases h
  refine lr fun u hu=> ?_
  refine sv Z ?_
  refine sd Z (B5 Z (gq Z) Z Z) ?_
  refine A9 (dl F4 [v]) Z Z ?_
  refine H9 F4 (22,u) [] v [] _ (E4<|fun _=>Z) Z (Classical.byContradiction fun e=>hu (22,u) e Z) hy ?_
  refine ss Z<|sv Z<|A1<|B4 ?_
  exact Bn (v1:= .tup [oS zs (22,u), .d (bo true)]) (.inr Z) (Ep (B1 Z)<|B1 Z) (.of (by rw [Q7<|L4 hy];rfl)) [((22,u),oB 45 2 F4 zs)] (H7 (gq Z) trivial) (R6 [(22,u)] (by generalize zs=y;cases y<;>rfl) trivial ⟨(gq Z).trans oB_ren.symm,trivial⟩ Z (l7.2 ⟨fun i hi=>Q2 Z hi,(fun _ h=>nomatch h)⟩) nd1)
 ·refine B6 ?_
  refine sq Z ?_
  refine sl Z (gq Z) Z ?_
  refine sv Z<|sv Z ?_
  refine gt Z (fun _=>Z) ?_
  refine gt (v:=i64 (([]:List Zone).length:Int)) Z (fun w=>Fy<|A5 w) ?_
  refine gt Z (fun w=>J3 (A5 w) Z Z) ?_
  refine sa Z Z Z ?_
  refine sv Z ?_
  refine gp Z (J1 Z) (fun _=>Z) ?_
  refine gt Z (vl Z (gq Z) Z) ?_
  refine gt Z (fun _=>Z) ?_
  refine gt (v:=i64 (([]:List Zone).length:Int)) Z (fun w=>Fy<|A5 w) ?_
  refine gt Z (fun w=>J3 (A5 w) Z Z) ?_
  refine gt Z (fun w=>J3 (A5 w) (A5 w) Z) ?_
  refine sa Z Z Z ?_
  refine sv Z<|A1 ?_
  refine cc Z h (fun c2 h=> ?_)<|fun c2 h=> ?_
  ·simp at c2
  ·refine B6 ?_
   refine sq Z ?_
   refine sl Z (gq Z) Z ?_
   refine sv Z<|sv Z ?_
   refine gp Z (J1 Z) (fun _=>Z) ?_
   refine gt Z (vl Z (gq Z) Z) ?_
   refine gt Z (fun w=>J3 (A5 w) Z Z) ?_
   refine sa Z Z Z ?_
   refine sv Z ?_
   refine gp Z (J1 Z) (fun _=>Z) ?_
   refine gt Z (vl Z (gq Z) Z) ?_
   refine gt Z (fun _=>Z) ?_
   refine gt (v:=i64 (([]:List Zone).length:Int)) Z (fun w=>Fy<|A5 w) ?_
   refine gt Z (fun w=>J3 (A5 w) (A5 w) Z) ?_
   refine sa Z Z Z ?_
   refine sv Z<|A1 ?_
   refine cc Z h (fun c3 h=> ?_)<|fun c3 h=> ?_
   ·exact absurd h (by rintro h;refine bs h fun y hy _=>Ie hy rfl)
   ·cases h
    refine B2<|E3<|B6 ?_
    refine sv Z<|sv Z<|sv Z<|A1<|B4 ?_
    exact Bn (v1:= .tup [oS ([]:List Zone) (700000,0), .d (bo false)]) (.inr Z) (Ep (B1 Z)<|B1 Z) (.of Z) [((700000,0),oB 45 2 F4 [])] (M4 trivial) (R6 [(700000,0)] Z trivial ⟨Z,trivial⟩ Z (l7.2 ⟨fun i hi=>Q2 Z hi,(fun _ h=>nomatch h)⟩) nd1)
theorem NW:EditC prog 88 45 2 F4 G2 Edit.Kind Edit.At:=⟨NU,NV⟩
end
section
open Go.RowKit Go.Lib
theorem NX (xs zs:List Signal)(x:Edit)(v:Signal)(ok:Bool)(h:Eb x.Kind x.At xs v=some (zs,ok)):MCall prog 90 [.sl (900000,0), .d (.agg (G2 x)), .d (.agg (E2 v))] [.arr 48 2 (xs.map E2)] (.tup [.sl (800000,0), .d (bo ok)]) [none] [some (.arr 48 2 (zs.map E2))]:=by
 refine Er (fk func90 ntmps90 (fun r=>if r==2 then [1002]else if r==4 then [1003]else []) (by with_unfolding_all rfl)) Z (nl Z) ?_
 unfold Eb at h
 refine B6 ?_
 refine sm Z ?_
 refine sm Z ?_
 refine sv Z ?_
 refine sv Z<|A1 ?_
 refine A3<|A8<|B6 ?_
 refine sq Z ?_
 refine sl Z (gq Z) Z ?_
 refine sv Z<|sv Z ?_
 refine gp Z (J1 Z) (fun _=>Z) ?_
 refine gt Z (vl Z (gq Z) Z) ?_
 refine Ab _ (.sl (900000,0)) Z (J1 Z) (fun _=>Z) ?_
 refine gt Z (fun w=>Fa (f:=E2) (A5 w) (gq Z)) ?_
 refine gt Z (fun w=>J3 (A5 w) (A5 w) Z) ?_
 refine sa Z Z Z ?_
 refine sv Z<|A1 ?_
 refine cc Z h (fun c1 h=> ?_)<|fun c1 h=> ?_
 ·refine bs h fun y hy h=> ?_
  cases h
  refine lr fun u hu=> ?_
  refine ss Z ?_
  refine sd Z (B5 Z (gq Z) Z Z) ?_
  refine A9 (dl E2 [v]) Z Z ?_
  refine Dz E2 (900000,0) xs [v] _ (E4<|fun _=>Z) Z (gq Z) hy ?_
  refine ss Z<|sv Z<|A1<|B4 ?_
  exact Bn (v1:= .tup [.sl (22,u), .d (bo true)]) (.inr Z) (Ep (B1 Z)<|B1 Z) (.of Z) [((22,u),some<|.arr 48 2 (List.map E2 zs))] (B7 (gq Z) (.of Z) trivial) (R6 [(22,u)] Z ⟨trivial,trivial⟩ ⟨gq Z,trivial⟩ Z (l7.2 ⟨fun i hi=>Q2 Z hi,(fun _ h=>nomatch h)⟩) nd1)
 ·refine B6 ?_
  refine sq Z ?_
  refine sl Z (gq Z) Z ?_
  refine sv Z<|sv Z ?_
  refine Ab _ (.sl (900000,0)) Z (J1 Z) (fun _=>Z) ?_
  refine gt Z (fun w=>Fa (f:=E2) (A5 w) (gq Z)) ?_
  refine gt Z (fun w=>J3 (A5 w) Z Z) ?_
  refine sa Z Z Z ?_
  refine sv Z ?_
  refine gp Z (J1 Z) (fun _=>Z) ?_
  refine gt Z (vl Z (gq Z) Z) ?_
  refine Ab _ (.sl (900000,0)) Z (J1 Z) (fun _=>Z) ?_
  refine gt Z (fun w=>Fa (f:=E2) (A5 w) (gq Z)) ?_
  refine gt Z (fun w=>J3 (A5 w) Z Z) ?_
  refine gt Z (fun w=>J3 (A5 w) (A5 w) Z) ?_
  refine sa Z Z Z ?_
  refine sv Z<|A1 ?_
  refine cc Z h (fun c2 h=> ?_)<|fun c2 h=> ?_
  ·refine bs h fun y hy h=> ?_
   cases h
   refine lr fun u hu=> ?_
   refine ss Z ?_
   refine sq Z ?_
   refine sl Z (gq Z) Z ?_
   refine Ry E2 (900000,0) xs _ Z (gq Z) Z hy ?_
   refine ss Z<|sv Z<|A1<|B4 ?_
   exact Bn (v1:= .tup [.sl (43,u), .d (bo true)]) (.inr Z) (Ep (B1 Z)<|B1 Z) (.of Z) [((43,u),some<|.arr 48 2 (List.map E2 zs))] (B7 (gq Z) (.of Z) trivial) (R6 [(43,u)] Z ⟨trivial,trivial⟩ ⟨gq Z,trivial⟩ Z (l7.2 ⟨fun i hi=>Q2 Z hi,(fun _ h=>nomatch h)⟩) nd1)
  ·refine B6 ?_
   refine sq Z ?_
   refine sl Z (gq Z) Z ?_
   refine sv Z<|sv Z ?_
   refine gp Z (J1 Z) (fun _=>Z) ?_
   refine gt Z (vl Z (gq Z) Z) ?_
   refine gt Z (fun w=>J3 (A5 w) Z Z) ?_
   refine sa Z Z Z ?_
   refine sv Z ?_
   refine gp Z (J1 Z) (fun _=>Z) ?_
   refine gt Z (vl Z (gq Z) Z) ?_
   refine Ab _ (.sl (900000,0)) Z (J1 Z) (fun _=>Z) ?_
   refine gt Z (fun w=>Fa (f:=E2) (A5 w) (gq Z)) ?_
   refine gt Z (fun w=>J3 (A5 w) (A5 w) Z) ?_
   refine sa Z Z Z ?_
   refine sv Z<|A1 ?_
   refine cc Z h (fun c3 h=> ?_)<|fun c3 h=> ?_
   ·refine bs h fun y hy h=> ?_
    cases h
    refine B6 ?_
    refine ss Z ?_
    refine sq Z ?_
    refine sl Z (gq Z) Z ?_
    refine sd Z (B5 Z (gq Z) Z Z) ?_
    refine A9 (.aptr (900000,0) 2 x.At.toNat 0) Z (Ob (f:=E2) Z Z (gq Z) hy) ?_
    refine Lk E2 (900000,0) _ xs x.At y v (E2 v) Z Z Z (gq Z) hy (Nat.le_of_ble_eq_true Z) Z ?_
    refine A1<|B6 ?_
    refine ss Z<|ss Z<|sv Z<|A1 ?_
    refine Ug 6 (900000,0) Z (gq Z) fun u'=>B4 ?_
    exact Bn (v1:= .tup [.sl (700000,u'), .d (bo true)]) (.inr Z) (Ep (B1 Z)<|B1 Z) (.of Z) [((700000,u'),some<|.arr 48 2 (List.map E2<|Lj xs x.At v))] (B7 (gq Z) (.of Z) trivial) (R6 [(700000,u')] Z ⟨trivial,trivial⟩ ⟨gq Z,trivial⟩ Z (l7.2 ⟨fun i hi=>Q2 Z hi,(fun _ h=>nomatch h)⟩) nd1)
   ·cases h
    refine B2<|E3<|B6 ?_
    refine ss Z<|ss Z<|sv Z<|A1 ?_
    refine Ug 6 (900000,0) Z (gq Z) fun u'=>B4 ?_
    exact Bn (v1:= .tup [.sl (700000,u'), .d (bo false)]) (.inr Z) (Ep (B1 Z)<|B1 Z) (.of Z) [((700000,u'),some<|.arr 48 2 (List.map E2 xs))] (B7 (gq Z) (.of Z) trivial) (R6 [(700000,u')] Z ⟨trivial,trivial⟩ ⟨gq Z,trivial⟩ Z (l7.2 ⟨fun i hi=>Q2 Z hi,(fun _ h=>nomatch h)⟩) nd1)
theorem NY (zs:List Signal)(x:Edit)(v:Signal)(ok:Bool)(h:Eb x.Kind x.At [] v=some (zs,ok)):MCall prog 90 [.d .nilS, .d (.agg (G2 x)), .d (.agg (E2 v))] [] (.tup [oS zs (800000,0), .d (bo ok)]) [] [oB 48 2 E2 zs]:=by
 refine Er (fk func90 ntmps90 (fun r=>if r==2 then [1002]else if r==4 then [1003]else []) (by with_unfolding_all rfl)) (by generalize zs=y;cases y<;>rfl) (nl Z) ?_
 unfold Eb at h
 refine B6 ?_
 refine sm Z ?_
 refine sm Z ?_
 refine sv Z ?_
 refine sv Z<|A1 ?_
 refine A3<|A8<|B6 ?_
 refine sq Z ?_
 refine sl Z (gq Z) Z ?_
 refine sv Z<|sv Z ?_
 refine gp Z (J1 Z) (fun _=>Z) ?_
 refine gt Z (vl Z (gq Z) Z) ?_
 refine gt Z (fun _=>Z) ?_
 refine gt (v:=i64 (([]:List Signal).length:Int)) Z (fun w=>Fy<|A5 w) ?_
 refine gt Z (fun w=>J3 (A5 w) (A5 w) Z) ?_
 refine sa Z Z Z ?_
 refine sv Z<|A1 ?_
 refine cc Z h (fun c1 h=> ?_)<|fun c1 h=> ?_
 ·refine bs h fun y hy h=> ?_
  cases h
  refine lr fun u hu=> ?_
  refine sv Z ?_
  refine sd Z (B5 Z (gq Z) Z Z) ?_
  refine A9 (dl E2 [v]) Z Z ?_
  refine H9 E2 (22,u) [] v [] _ (E4<|fun _=>Z) Z (Classical.byContradiction fun e=>hu (22,u) e Z) hy ?_
  refine ss Z<|sv Z<|A1<|B4 ?_
  exact Bn (v1:= .tup [oS zs (22,u), .d (bo true)]) (.inr Z) (Ep (B1 Z)<|B1 Z) (.of (by rw [Q7<|L4 hy];rfl)) [((22,u),oB 48 2 E2 zs)] (H7 (gq Z) trivial) (R6 [(22,u)] (by generalize zs=y;cases y<;>rfl) trivial ⟨(gq Z).trans oB_ren.symm,trivial⟩ Z (l7.2 ⟨fun i hi=>Q2 Z hi,(fun _ h=>nomatch h)⟩) nd1)
 ·refine B6 ?_
  refine sq Z ?_
  refine sl Z (gq Z) Z ?_
  refine sv Z<|sv Z ?_
  refine gt Z (fun _=>Z) ?_
  refine gt (v:=i64 (([]:List Signal).length:Int)) Z (fun w=>Fy<|A5 w) ?_
  refine gt Z (fun w=>J3 (A5 w) Z Z) ?_
  refine sa Z Z Z ?_
  refine sv Z ?_
  refine gp Z (J1 Z) (fun _=>Z) ?_
  refine gt Z (vl Z (gq Z) Z) ?_
  refine gt Z (fun _=>Z) ?_
  refine gt (v:=i64 (([]:List Signal).length:Int)) Z (fun w=>Fy<|A5 w) ?_
  refine gt Z (fun w=>J3 (A5 w) Z Z) ?_
  refine gt Z (fun w=>J3 (A5 w) (A5 w) Z) ?_
  refine sa Z Z Z ?_
  refine sv Z<|A1 ?_
  refine cc Z h (fun c2 h=> ?_)<|fun c2 h=> ?_
  ·simp at c2
  ·refine B6 ?_
   refine sq Z ?_
   refine sl Z (gq Z) Z ?_
   refine sv Z<|sv Z ?_
   refine gp Z (J1 Z) (fun _=>Z) ?_
   refine gt Z (vl Z (gq Z) Z) ?_
   refine gt Z (fun w=>J3 (A5 w) Z Z) ?_
   refine sa Z Z Z ?_
   refine sv Z ?_
   refine gp Z (J1 Z) (fun _=>Z) ?_
   refine gt Z (vl Z (gq Z) Z) ?_
   refine gt Z (fun _=>Z) ?_
   refine gt (v:=i64 (([]:List Signal).length:Int)) Z (fun w=>Fy<|A5 w) ?_
   refine gt Z (fun w=>J3 (A5 w) (A5 w) Z) ?_
   refine sa Z Z Z ?_
   refine sv Z<|A1 ?_
   refine cc Z h (fun c3 h=> ?_)<|fun c3 h=> ?_
   ·exact absurd h (by rintro h;refine bs h fun y hy _=>Ie hy rfl)
   ·cases h
    refine B2<|E3<|B6 ?_
    refine sv Z<|sv Z<|sv Z<|A1<|B4 ?_
    exact Bn (v1:= .tup [oS ([]:List Signal) (700000,0), .d (bo false)]) (.inr Z) (Ep (B1 Z)<|B1 Z) (.of Z) [((700000,0),oB 48 2 E2 [])] (M4 trivial) (R6 [(700000,0)] Z trivial ⟨Z,trivial⟩ Z (l7.2 ⟨fun i hi=>Q2 Z hi,(fun _ h=>nomatch h)⟩) nd1)
theorem NZ:EditC prog 90 48 2 E2 G2 Edit.Kind Edit.At:=⟨NX,NY⟩
end
section
open Go.RowKit Go.Lib
theorem OA (xs zs:List Work)(x:Edit)(v:Work)(ok:Bool)(h:Eb x.Kind x.At xs v=some (zs,ok)):MCall prog 92 [.sl (900000,0), .d (.agg (G2 x)), .d (.agg (I6 v))] [.arr 50 6 (xs.map I6)] (.tup [.sl (800000,0), .d (bo ok)]) [none] [some (.arr 50 6 (zs.map I6))]:=by
 refine Er (fk func92 ntmps92 (fun r=>if r==2 then [1002]else if r==4 then [1003]else []) (by with_unfolding_all rfl)) Z (nl Z) ?_
 unfold Eb at h
 refine B6 ?_
 refine sm Z ?_
 refine sm Z ?_
 refine sv Z ?_
 refine sv Z<|A1 ?_
 refine A3<|A8<|B6 ?_
 refine sq Z ?_
 refine sl Z (gq Z) Z ?_
 refine sv Z<|sv Z ?_
 refine gp Z (J1 Z) (fun _=>Z) ?_
 refine gt Z (vl Z (gq Z) Z) ?_
 refine Ab _ (.sl (900000,0)) Z (J1 Z) (fun _=>Z) ?_
 refine gt Z (fun w=>Fa (f:=I6) (A5 w) (gq Z)) ?_
 refine gt Z (fun w=>J3 (A5 w) (A5 w) Z) ?_
 refine sa Z Z Z ?_
 refine sv Z<|A1 ?_
 refine cc Z h (fun c1 h=> ?_)<|fun c1 h=> ?_
 ·refine bs h fun y hy h=> ?_
  cases h
  refine lr fun u hu=> ?_
  refine ss Z ?_
  refine sd Z (B5 Z (gq Z) Z Z) ?_
  refine A9 (dl I6 [v]) Z Z ?_
  refine Dz I6 (900000,0) xs [v] _ (E4<|fun _=>Z) Z (gq Z) hy ?_
  refine ss Z<|sv Z<|A1<|B4 ?_
  exact Bn (v1:= .tup [.sl (22,u), .d (bo true)]) (.inr Z) (Ep (B1 Z)<|B1 Z) (.of Z) [((22,u),some<|.arr 50 6 (List.map I6 zs))] (B7 (gq Z) (.of Z) trivial) (R6 [(22,u)] Z ⟨trivial,trivial⟩ ⟨gq Z,trivial⟩ Z (l7.2 ⟨fun i hi=>Q2 Z hi,(fun _ h=>nomatch h)⟩) nd1)
 ·refine B6 ?_
  refine sq Z ?_
  refine sl Z (gq Z) Z ?_
  refine sv Z<|sv Z ?_
  refine Ab _ (.sl (900000,0)) Z (J1 Z) (fun _=>Z) ?_
  refine gt Z (fun w=>Fa (f:=I6) (A5 w) (gq Z)) ?_
  refine gt Z (fun w=>J3 (A5 w) Z Z) ?_
  refine sa Z Z Z ?_
  refine sv Z ?_
  refine gp Z (J1 Z) (fun _=>Z) ?_
  refine gt Z (vl Z (gq Z) Z) ?_
  refine Ab _ (.sl (900000,0)) Z (J1 Z) (fun _=>Z) ?_
  refine gt Z (fun w=>Fa (f:=I6) (A5 w) (gq Z)) ?_
  refine gt Z (fun w=>J3 (A5 w) Z Z) ?_
  refine gt Z (fun w=>J3 (A5 w) (A5 w) Z) ?_
  refine sa Z Z Z ?_
  refine sv Z<|A1 ?_
  refine cc Z h (fun c2 h=> ?_)<|fun c2 h=> ?_
  ·refine bs h fun y hy h=> ?_
   cases h
   refine lr fun u hu=> ?_
   refine ss Z ?_
   refine sq Z ?_
   refine sl Z (gq Z) Z ?_
   refine Ry I6 (900000,0) xs _ Z (gq Z) Z hy ?_
   refine ss Z<|sv Z<|A1<|B4 ?_
   exact Bn (v1:= .tup [.sl (43,u), .d (bo true)]) (.inr Z) (Ep (B1 Z)<|B1 Z) (.of Z) [((43,u),some<|.arr 50 6 (List.map I6 zs))] (B7 (gq Z) (.of Z) trivial) (R6 [(43,u)] Z ⟨trivial,trivial⟩ ⟨gq Z,trivial⟩ Z (l7.2 ⟨fun i hi=>Q2 Z hi,(fun _ h=>nomatch h)⟩) nd1)
  ·refine B6 ?_
   refine sq Z ?_
   refine sl Z (gq Z) Z ?_
   refine sv Z<|sv Z ?_
   refine gp Z (J1 Z) (fun _=>Z) ?_
   refine gt Z (vl Z (gq Z) Z) ?_
   refine gt Z (fun w=>J3 (A5 w) Z Z) ?_
   refine sa Z Z Z ?_
   refine sv Z ?_
   refine gp Z (J1 Z) (fun _=>Z) ?_
   refine gt Z (vl Z (gq Z) Z) ?_
   refine Ab _ (.sl (900000,0)) Z (J1 Z) (fun _=>Z) ?_
   refine gt Z (fun w=>Fa (f:=I6) (A5 w) (gq Z)) ?_
   refine gt Z (fun w=>J3 (A5 w) (A5 w) Z) ?_
   refine sa Z Z Z ?_
   refine sv Z<|A1 ?_
   refine cc Z h (fun c3 h=> ?_)<|fun c3 h=> ?_
   ·refine bs h fun y hy h=> ?_
    cases h
    refine B6 ?_
    refine ss Z ?_
    refine sq Z ?_
    refine sl Z (gq Z) Z ?_
    refine sd Z (B5 Z (gq Z) Z Z) ?_
    refine A9 (.aptr (900000,0) 6 x.At.toNat 0) Z (Ob (f:=I6) Z Z (gq Z) hy) ?_
    refine Lk I6 (900000,0) _ xs x.At y v (I6 v) Z Z Z (gq Z) hy (Nat.le_of_ble_eq_true Z) Z ?_
    refine A1<|B6 ?_
    refine ss Z<|ss Z<|sv Z<|A1 ?_
    refine Ug 6 (900000,0) Z (gq Z) fun u'=>B4 ?_
    exact Bn (v1:= .tup [.sl (700000,u'), .d (bo true)]) (.inr Z) (Ep (B1 Z)<|B1 Z) (.of Z) [((700000,u'),some<|.arr 50 6 (List.map I6<|Lj xs x.At v))] (B7 (gq Z) (.of Z) trivial) (R6 [(700000,u')] Z ⟨trivial,trivial⟩ ⟨gq Z,trivial⟩ Z (l7.2 ⟨fun i hi=>Q2 Z hi,(fun _ h=>nomatch h)⟩) nd1)
   ·cases h
    refine B2<|E3<|B6 ?_
    refine ss Z<|ss Z<|sv Z<|A1 ?_
    refine Ug 6 (900000,0) Z (gq Z) fun u'=>B4 ?_
    exact Bn (v1:= .tup [.sl (700000,u'), .d (bo false)]) (.inr Z) (Ep (B1 Z)<|B1 Z) (.of Z) [((700000,u'),some<|.arr 50 6 (List.map I6 xs))] (B7 (gq Z) (.of Z) trivial) (R6 [(700000,u')] Z ⟨trivial,trivial⟩ ⟨gq Z,trivial⟩ Z (l7.2 ⟨fun i hi=>Q2 Z hi,(fun _ h=>nomatch h)⟩) nd1)
theorem OB (zs:List Work)(x:Edit)(v:Work)(ok:Bool)(h:Eb x.Kind x.At [] v=some (zs,ok)):MCall prog 92 [.d .nilS, .d (.agg (G2 x)), .d (.agg (I6 v))] [] (.tup [oS zs (800000,0), .d (bo ok)]) [] [oB 50 6 I6 zs]:=by
 refine Er (fk func92 ntmps92 (fun r=>if r==2 then [1002]else if r==4 then [1003]else []) (by with_unfolding_all rfl)) (by generalize zs=y;cases y<;>rfl) (nl Z) ?_
 unfold Eb at h
 refine B6 ?_
 refine sm Z ?_
 refine sm Z ?_
 refine sv Z ?_
 refine sv Z<|A1 ?_
 refine A3<|A8<|B6 ?_
 refine sq Z ?_
 refine sl Z (gq Z) Z ?_
 refine sv Z<|sv Z ?_
 refine gp Z (J1 Z) (fun _=>Z) ?_
 refine gt Z (vl Z (gq Z) Z) ?_
 refine gt Z (fun _=>Z) ?_
 refine gt (v:=i64 (([]:List Work).length:Int)) Z (fun w=>Fy<|A5 w) ?_
 refine gt Z (fun w=>J3 (A5 w) (A5 w) Z) ?_
 refine sa Z Z Z ?_
 refine sv Z<|A1 ?_
 refine cc Z h (fun c1 h=> ?_)<|fun c1 h=> ?_
 ·refine bs h fun y hy h=> ?_
  cases h
  refine lr fun u hu=> ?_
  refine sv Z ?_
  refine sd Z (B5 Z (gq Z) Z Z) ?_
  refine A9 (dl I6 [v]) Z Z ?_
  refine H9 I6 (22,u) [] v [] _ (E4<|fun _=>Z) Z (Classical.byContradiction fun e=>hu (22,u) e Z) hy ?_
  refine ss Z<|sv Z<|A1<|B4 ?_
  exact Bn (v1:= .tup [oS zs (22,u), .d (bo true)]) (.inr Z) (Ep (B1 Z)<|B1 Z) (.of (by rw [Q7<|L4 hy];rfl)) [((22,u),oB 50 6 I6 zs)] (H7 (gq Z) trivial) (R6 [(22,u)] (by generalize zs=y;cases y<;>rfl) trivial ⟨(gq Z).trans oB_ren.symm,trivial⟩ Z (l7.2 ⟨fun i hi=>Q2 Z hi,(fun _ h=>nomatch h)⟩) nd1)
 ·refine B6 ?_
  refine sq Z ?_
  refine sl Z (gq Z) Z ?_
  refine sv Z<|sv Z ?_
  refine gt Z (fun _=>Z) ?_
  refine gt (v:=i64 (([]:List Work).length:Int)) Z (fun w=>Fy<|A5 w) ?_
  refine gt Z (fun w=>J3 (A5 w) Z Z) ?_
  refine sa Z Z Z ?_
  refine sv Z ?_
  refine gp Z (J1 Z) (fun _=>Z) ?_
  refine gt Z (vl Z (gq Z) Z) ?_
  refine gt Z (fun _=>Z) ?_
  refine gt (v:=i64 (([]:List Work).length:Int)) Z (fun w=>Fy<|A5 w) ?_
  refine gt Z (fun w=>J3 (A5 w) Z Z) ?_
  refine gt Z (fun w=>J3 (A5 w) (A5 w) Z) ?_
  refine sa Z Z Z ?_
  refine sv Z<|A1 ?_
  refine cc Z h (fun c2 h=> ?_)<|fun c2 h=> ?_
  ·simp at c2
  ·refine B6 ?_
   refine sq Z ?_
   refine sl Z (gq Z) Z ?_
   refine sv Z<|sv Z ?_
   refine gp Z (J1 Z) (fun _=>Z) ?_
   refine gt Z (vl Z (gq Z) Z) ?_
   refine gt Z (fun w=>J3 (A5 w) Z Z) ?_
   refine sa Z Z Z ?_
   refine sv Z ?_
   refine gp Z (J1 Z) (fun _=>Z) ?_
   refine gt Z (vl Z (gq Z) Z) ?_
   refine gt Z (fun _=>Z) ?_
   refine gt (v:=i64 (([]:List Work).length:Int)) Z (fun w=>Fy<|A5 w) ?_
   refine gt Z (fun w=>J3 (A5 w) (A5 w) Z) ?_
   refine sa Z Z Z ?_
   refine sv Z<|A1 ?_
   refine cc Z h (fun c3 h=> ?_)<|fun c3 h=> ?_
   ·exact absurd h (by rintro h;refine bs h fun y hy _=>Ie hy rfl)
   ·cases h
    refine B2<|E3<|B6 ?_
    refine sv Z<|sv Z<|sv Z<|A1<|B4 ?_
    exact Bn (v1:= .tup [oS ([]:List Work) (700000,0), .d (bo false)]) (.inr Z) (Ep (B1 Z)<|B1 Z) (.of Z) [((700000,0),oB 50 6 I6 [])] (M4 trivial) (R6 [(700000,0)] Z trivial ⟨Z,trivial⟩ Z (l7.2 ⟨fun i hi=>Q2 Z hi,(fun _ h=>nomatch h)⟩) nd1)
theorem OD:EditC prog 92 50 6 I6 G2 Edit.Kind Edit.At:=⟨OA,OB⟩
end
def Dc [Lp](p2:Patch)(x1:(Int×Map)):Option (Stp (Int×Map) (Sum Map (Map×Int))):=
  cond (decide (x1.1< (p2.Edits.length:Int))) ((E8 p2.Edits x1.1).bind fun v3=>cond ((decide (v3.Kind<1))||(decide (v3.Kind>3))) (some (.out (.inr ((Map.mk 0 [] [] [] []),4)))) (thenS (cond (v3.Table==1) ((Ap v3.Lane_).bind fun v4=>(Eb v3.Kind v3.At x1.2.Lanes v4).bind fun v5=>some (.inl (v5.2,(Map.mk x1.2.Version v5.1 x1.2.Zones x1.2.Signals x1.2.Works)))) (cond (v3.Table==2) ((Aq v3.Zone_).bind fun v6=>(Eb v3.Kind v3.At x1.2.Zones v6).bind fun v7=>some (.inl (v7.2,(Map.mk x1.2.Version x1.2.Lanes v7.1 x1.2.Signals x1.2.Works)))) (cond (v3.Table==3) ((W7 v3.Signal_).bind fun v8=>(Eb v3.Kind v3.At x1.2.Signals v8).bind fun v9=>some (.inl (v9.2,(Map.mk x1.2.Version x1.2.Lanes x1.2.Zones v9.1 x1.2.Works)))) (cond (v3.Table==4) ((Eb v3.Kind v3.At x1.2.Works v3.Work_).bind fun v10=>some (.inl (v10.2,(Map.mk x1.2.Version x1.2.Lanes x1.2.Zones x1.2.Signals v10.1)))) (some (.inr ((Map.mk 0 [] [] [] []),4))))))) (fun y2=>cond (!y2.1) (some (.out (.inr ((Map.mk 0 [] [] [] []),2)))) (some (.go ((H6 (x1.1+1)),y2.2)))) (fun r=>some (.out (.inr r))))) (some (.out (.inl x1.2)))
def Ip [Lp](p1:Map)(p2:Patch):Option (Map×Int):=
  (Q5 p1).bind fun v1=>cond (v1 !=0) (some ((Map.mk 0 [] [] [] []),v1)) (cond (p2.Base !=p1.Version) (some ((Map.mk 0 [] [] [] []),14)) ((Gf p1).bind fun v2=>thenS (loop (Dc p2) (0,v2)) (fun y1=>cond (decide (y1.Version≥1099511627776)) (some ((Map.mk 0 [] [] [] []),2)) ((Q5 (Map.mk (H6 (y1.Version+1)) y1.Lanes y1.Zones y1.Signals y1.Works)).bind fun v11=>cond (v11 !=0) (some ((Map.mk 0 [] [] [] []),v11)) (some ((Map.mk (H6 (y1.Version+1)) y1.Lanes y1.Zones y1.Signals y1.Works),0)))) (fun r=>some r)))
theorem Xd(p1 p2 r)(h:Ip p1 p2=some r):PCall prog 21 [(.agg (Q8 p1)),(.agg [(i64 p2.Base),(.list (List.map G2 p2.Edits))])] (.tup [(.agg (Q8 r.1)),(i64 r.2)]):=by
 refine C4 (fk func21 ntmps21 (fun r=>if r==6 then [1006001]else if r==16 then [1016006]else if r==18 then [1018006]else if r==20 then [1020006]else if r==22 then [1022005]else []) (by with_unfolding_all rfl)) (nl Z) ?_
 unfold Ip at h
 refine A7 (s0:=⟨T [(0,(.d _)),(1,(.d _))],G []⟩) (G1 Z Z) ?_
 refine lr<|fun u1 _=>sm Z<|sm Z<|sn Z Z<|sv Z<|A1<|A3<|B6<|sd Z (B5 Z (gq Z) Z Z)<|bs h fun _ hv1 h=>B8 Z Z A2 (Z2 _ _ hv1) (.inl Z) (sv Z<|A1<|B6<|sv Z<|sv Z<|A1<|cc Z h (fun c1 h=> ?_)<|fun c1 h=> ?_)
 refine B6<|sv Z<|sv Z<|Aa Z G_hit [(di 0),(.d .nilS),(.d .nilS),(.d .nilS),(.d .nilS)] Z (sv Z<|A1<|B4 ?_)
 cases h
 exact B0 (.inr Z) (Kn (I3 Z G_hit (nl Z) Z) (B1 Z) D4 D4) (.tup (.cons (.agg (ca Z<|.cons ⟨DLe.nil,Z⟩ (.cons ⟨DLe.nil,Z⟩ (.cons ⟨DLe.nil,Z⟩ (.cons ⟨DLe.nil,Z⟩ .nil))))) A2))
 refine B2<|A3<|B6<|sq Z<|sl Z (gq Z) Z (sq Z<|sl Z (gq Z) Z (sv Z<|A1<|cc Z h (fun c2 h=> ?_)<|fun c2 h=> ?_))
 refine B6<|sv Z<|Aa Z G_hit [(di 0),(.d .nilS),(.d .nilS),(.d .nilS),(.d .nilS)] Z (sv Z<|A1<|B4 ?_)
 cases h
 exact B0 (.inr Z) (Kn (I3 Z G_hit (nl Z) Z) (B1 Z) D4 D4) (.tup (.cons (.agg (ca Z<|.cons ⟨DLe.nil,Z⟩ (.cons ⟨DLe.nil,Z⟩ (.cons ⟨DLe.nil,Z⟩ (.cons ⟨DLe.nil,Z⟩ .nil))))) A2))
 refine B2<|lr<|fun u7 _=>sd Z (B5 Z (gq Z) Z Z)<|bs h fun v2 hv2 h=> ?_
 refine DL (v:=Ao [(di v2.Version),(oS v2.Lanes (10060010,u7)),(oS v2.Zones (10060011,u7)),(oS v2.Signals (10060012,u7)),(oS v2.Works (10060013,u7))]) (us:= [(10060010,u7),(10060011,u7),(10060012,u7),(10060013,u7)]) (Zo (Tk _ _ hv2) [] [] _ (((10060013,u7),oB 50 6 I6 v2.Works)::(((10060012,u7),oB 48 2 E2 v2.Signals)::(((10060011,u7),oB 45 2 F4 v2.Zones)::(((10060010,u7),oB 42 5 G5 v2.Lanes)::_)))) Z Es Z Bz trivial (fun _ h=>h) List.nodup_nil (by generalize v2.Lanes=x1;generalize v2.Zones=x2;generalize v2.Signals=x3;generalize v2.Works=x4;cases x1<;>cases x2<;>cases x3<;>cases x4<;>rfl) Z (Mg<|Mg<|Mg<|Mg (Z)) Z) ?_
 refine sn Z Z<|Dp _ _ _ _ _ (Aj _) Z Z G_hit (nl Z) [(di v2.Version),(oS v2.Lanes (10060010,u7)),(oS v2.Zones (10060011,u7)),(oS v2.Signals (10060012,u7)),(oS v2.Works (10060013,u7))] Z (A1<|A3<|A3<|A7 (s0:=⟨T [(3,(.ptr (3,u1) 0)),(4,(.ptr (4,u1) 0)),(7,(.ptr (7,u7) 0))],G [((3,u1),some<|.box 36 [(di p2.Base),(dl G2 p2.Edits)]),((4,u1),some<|.box 27 [(di 0),(.d .nilS),(.d .nilS),(.d .nilS),(.d .nilS)]),((7,u7),some<|.box 27 [(di v2.Version),(oS v2.Lanes (10060010,u7)),(oS v2.Zones (10060011,u7)),(oS v2.Signals (10060012,u7)),(oS v2.Works (10060013,u7))]),((10060010,u7),oB 42 5 G5 v2.Lanes),((10060011,u7),oB 45 2 F4 v2.Zones),((10060012,u7),oB 48 2 E2 v2.Signals),((10060013,u7),oB 50 6 I6 v2.Works)]⟩) (C0 (V4 Z)<|sg Z<|sg Z<|B7 G_hit (.of Z)<|C7 (gq Z)<|C7 (gq Z)<|C7 (gq Z)<|C7 (gq Z) trivial) ?_)
 refine B9<|sq Z<|sl Z G_hit Z<|sd Z (D6 Z)<|sv Z<|A1<|js h fun z1 hz1 h=>F6 (fun s=> ∃(y1:Map) (g1:(({d:Nat // d∈ [10060010,10160060]}×Nat)×Bool× ({d:Nat // d∈ [10060011,10180060]}×Nat)×Bool× ({d:Nat // d∈ [10060012,10200060]}×Nat)×Bool× ({d:Nat // d∈ [10060013,10220050]}×Nat)×Bool)),z1= .inl y1∧Sb ⟨T [(4,(.ptr (4,u1) 0)),(7,(.ptr (7,u7) 0))],G [((4,u1),some<|.box 27 [(di 0),(.d .nilS),(.d .nilS),(.d .nilS),(.d .nilS)]),((7,u7),some<|.box 27 [(di y1.Version),(oW g1.2.1 y1.Lanes (g1.1.1.val,g1.1.2)),(oW g1.2.2.2.1 y1.Zones (g1.2.2.1.1.val,g1.2.2.1.2)),(oW g1.2.2.2.2.2.1 y1.Signals (g1.2.2.2.2.1.1.val,g1.2.2.2.2.1.2)),(oW g1.2.2.2.2.2.2.2 y1.Works (g1.2.2.2.2.2.2.1.1.val,g1.2.2.2.2.2.2.1.2))]),((g1.1.1.val,g1.1.2),wB g1.2.1 42 5 G5 y1.Lanes),((g1.2.2.1.1.val,g1.2.2.1.2),wB g1.2.2.2.1 45 2 F4 y1.Zones),((g1.2.2.2.2.1.1.val,g1.2.2.2.2.1.2),wB g1.2.2.2.2.2.1 48 2 E2 y1.Signals),((g1.2.2.2.2.2.2.1.1.val,g1.2.2.2.2.2.2.1.2),wB g1.2.2.2.2.2.2.2 50 6 I6 y1.Works)]⟩ s) ?_ ?_
 refine A8<|G0 (Dc p2) (fun (x1:(Int×Map)) (g2:(({d:Nat // d∈ [10060010,10160060]}×Nat)×Bool× ({d:Nat // d∈ [10060011,10180060]}×Nat)×Bool× ({d:Nat // d∈ [10060012,10200060]}×Nat)×Bool× ({d:Nat // d∈ [10060013,10220050]}×Nat)×Bool))=>⟨T [(4,(.ptr (4,u1) 0)),(7,(.ptr (7,u7) 0)),(27,(dl G2 p2.Edits)),(28,(di (p2.Edits.length:Int))),(29,(di x1.1))],G [((4,u1),some<|.box 27 [(di 0),(.d .nilS),(.d .nilS),(.d .nilS),(.d .nilS)]),((7,u7),some<|.box 27 [(di x1.2.Version),(oW g2.2.1 x1.2.Lanes (g2.1.1.val,g2.1.2)),(oW g2.2.2.2.1 x1.2.Zones (g2.2.2.1.1.val,g2.2.2.1.2)),(oW g2.2.2.2.2.2.1 x1.2.Signals (g2.2.2.2.2.1.1.val,g2.2.2.2.2.1.2)),(oW g2.2.2.2.2.2.2.2 x1.2.Works (g2.2.2.2.2.2.2.1.1.val,g2.2.2.2.2.2.2.1.2))]),((g2.1.1.val,g2.1.2),wB g2.2.1 42 5 G5 x1.2.Lanes),((g2.2.2.1.1.val,g2.2.2.1.2),wB g2.2.2.2.1 45 2 F4 x1.2.Zones),((g2.2.2.2.2.1.1.val,g2.2.2.2.2.1.2),wB g2.2.2.2.2.2.1 48 2 E2 x1.2.Signals),((g2.2.2.2.2.2.2.1.1.val,g2.2.2.2.2.2.2.1.2),wB g2.2.2.2.2.2.2.2 50 6 I6 x1.2.Works)]⟩) (0,v2) ((⟨10060010, .head _⟩,u7),false,(⟨10060011, .head _⟩,u7),false,(⟨10060012, .head _⟩,u7),false,(⟨10060013, .head _⟩,u7),false) _ hz1 (C0 (V4 Z)<|sg Z<|B7 (gq Z) (.box (cv<|.cons (.of oW_f.symm) (.cons (.of oW_f.symm) (.cons (.of oW_f.symm) (.cons (.of oW_f.symm) .nil))))) (BJ (gq Z)<|BJ (gq Z)<|BJ (gq Z)<|BJ (gq Z) trivial)) ?_
 intro x1 g2 z2 hz2 ez2
 unfold Dc at hz2
 refine B6<|sv Z<|A1<|A3<|cc Z hz2 (fun c3 hz2=> ?_)<|fun c3 hz2=> ?_
 refine B2<|A3<|A8<|lr<|fun u10 _=>bs hz2 fun v3 hv3 hz2=>sd Z (F0 Z Z hv3 Z)<|sd Z (C8 Z hv3 Z Z)<|sm Z<|Aa Z G_hit (Od v3) Z (A1<|B6<|sv Z<|A1<|A3<|B6<|sq Z<|sl Z G_hit Z<|sv Z<|sv Z<|gp Z (X3 Z) (fun _=>Z) (gf Z (vl Z G_hit Z)<|gf Z (vb Z Z Z)<|sd Z (Gi Z Z<|fun hc=>A5<|Bd hc)<|A1<|cc Z hz2 (fun c4 hz2=> ?_)<|fun c4 hz2=> ?_))
 refine A3<|A7 (s0:=⟨T [(4,(.ptr _ _))],G [((4,u1),some<|.box 27 _)]⟩) (G1 Z Z) ?_
 refine B9<|sv Z<|Aa Z G_hit [(di 0),(.d .nilS),(.d .nilS),(.d .nilS),(.d .nilS)] Z (sv Z<|A1<|B4 ?_)
 cases hz2
 obtain rfl:=ez2 _ rfl
 refine ⟨nofun,G6 ?_⟩
 rw [bM]at h
 cases h
 exact B0 (.inr Z) (Kn (I3 Z G_hit (nl Z) Z) (B1 Z) D4 D4) (.tup (.cons (.agg (ca Z<|.cons ⟨DLe.nil,Z⟩ (.cons ⟨DLe.nil,Z⟩ (.cons ⟨DLe.nil,Z⟩ (.cons ⟨DLe.nil,Z⟩ .nil))))) A2))
 refine B2<|A3<|A3<|A7 (s0:=⟨T [(4,(.ptr (4,u1) 0)),(7,(.ptr (7,u7) 0)),(9,(.ptr (9,u10) 0)),(27,(dl G2 p2.Edits)),(28,(di (p2.Edits.length:Int))),(29,(di x1.1))],G [((4,u1),some<|.box 27 [(di 0),(.d .nilS),(.d .nilS),(.d .nilS),(.d .nilS)]),((7,u7),some<|.box 27 [(di x1.2.Version),(oW g2.2.1 x1.2.Lanes (g2.1.1.val,g2.1.2)),(oW g2.2.2.2.1 x1.2.Zones (g2.2.2.1.1.val,g2.2.2.1.2)),(oW g2.2.2.2.2.2.1 x1.2.Signals (g2.2.2.2.2.1.1.val,g2.2.2.2.2.1.2)),(oW g2.2.2.2.2.2.2.2 x1.2.Works (g2.2.2.2.2.2.2.1.1.val,g2.2.2.2.2.2.2.1.2))]),((g2.1.1.val,g2.1.2),wB g2.2.1 42 5 G5 x1.2.Lanes),((g2.2.2.1.1.val,g2.2.2.1.2),wB g2.2.2.2.1 45 2 F4 x1.2.Zones),((g2.2.2.2.2.1.1.val,g2.2.2.2.2.1.2),wB g2.2.2.2.2.2.1 48 2 E2 x1.2.Signals),((g2.2.2.2.2.2.2.1.1.val,g2.2.2.2.2.2.2.1.2),wB g2.2.2.2.2.2.2.2 50 6 I6 x1.2.Works),((9,u10),some<|.box 52 (Od v3))]⟩) (C0 (V4 Z)<|sg Z<|sg Z<|S5 (A4 (U6 g2.1.1.property Z)<|A4 (U6 g2.1.1.property Z)<|A4 (U6 g2.1.1.property Z)<|A4 (U6 g2.1.1.property Z) G_hit)<|S5 (A4 (U6 g2.2.2.1.1.property Z)<|A4 (U6 g2.2.2.1.1.property Z)<|A4 (U6 g2.2.2.1.1.property Z)<|A4 (U6 g2.2.2.1.1.property Z)<|A4 (Q3 g2.2.2.1.1.property g2.1.1.property Z) G_hit)<|S5 (A4 (U6 g2.2.2.2.2.1.1.property Z)<|A4 (U6 g2.2.2.2.2.1.1.property Z)<|A4 (U6 g2.2.2.2.2.1.1.property Z)<|A4 (U6 g2.2.2.2.2.1.1.property Z)<|A4 (Q3 g2.2.2.2.2.1.1.property g2.1.1.property Z)<|A4 (Q3 g2.2.2.2.2.1.1.property g2.2.2.1.1.property Z) G_hit)<|S5 (A4 (U6 g2.2.2.2.2.2.2.1.1.property Z)<|A4 (U6 g2.2.2.2.2.2.2.1.1.property Z)<|A4 (U6 g2.2.2.2.2.2.2.1.1.property Z)<|A4 (U6 g2.2.2.2.2.2.2.1.1.property Z)<|A4 (Q3 g2.2.2.2.2.2.2.1.1.property g2.1.1.property Z)<|A4 (Q3 g2.2.2.2.2.2.2.1.1.property g2.2.2.1.1.property Z)<|A4 (Q3 g2.2.2.2.2.2.2.1.1.property g2.2.2.2.2.1.1.property Z) G_hit)<|B7 G_hit (.of Z) trivial) ?_
 refine B9<|sq Z<|sd Z (Bp Z (A4 Z<|A4 Z<|A4 (Ji g2.1.1.property Z)<|A4 (Ji g2.2.2.1.1.property Z)<|A4 (Ji g2.2.2.2.2.1.1.property Z)<|A4 (Ji g2.2.2.2.2.2.2.1.1.property Z) G_hit) Z)<|A1<|js hz2 fun z3 hz3 hz2=>F6 (fun s=> ∃(y2:(Bool×Map)) (g3:(({d:Nat // d∈ [10060010,10160060]}×Nat)×Bool× ({d:Nat // d∈ [10060011,10180060]}×Nat)×Bool× ({d:Nat // d∈ [10060012,10200060]}×Nat)×Bool× ({d:Nat // d∈ [10060013,10220050]}×Nat)×Bool)),z3= .inl y2∧Sb ⟨T [(4,(.ptr (4,u1) 0)),(7,(.ptr (7,u7) 0)),(10,(.d (bo y2.1))),(27,(dl G2 p2.Edits)),(28,(di (p2.Edits.length:Int))),(29,(di x1.1))],G [((4,u1),some<|.box 27 [(di 0),(.d .nilS),(.d .nilS),(.d .nilS),(.d .nilS)]),((7,u7),some<|.box 27 [(di y2.2.Version),(oW g3.2.1 y2.2.Lanes (g3.1.1.val,g3.1.2)),(oW g3.2.2.2.1 y2.2.Zones (g3.2.2.1.1.val,g3.2.2.1.2)),(oW g3.2.2.2.2.2.1 y2.2.Signals (g3.2.2.2.2.1.1.val,g3.2.2.2.2.1.2)),(oW g3.2.2.2.2.2.2.2 y2.2.Works (g3.2.2.2.2.2.2.1.1.val,g3.2.2.2.2.2.2.1.2))]),((g3.1.1.val,g3.1.2),wB g3.2.1 42 5 G5 y2.2.Lanes),((g3.2.2.1.1.val,g3.2.2.1.2),wB g3.2.2.2.1 45 2 F4 y2.2.Zones),((g3.2.2.2.2.1.1.val,g3.2.2.2.2.1.2),wB g3.2.2.2.2.2.1 48 2 E2 y2.2.Signals),((g3.2.2.2.2.2.2.1.1.val,g3.2.2.2.2.2.2.1.2),wB g3.2.2.2.2.2.2.2 50 6 I6 y2.2.Works)]⟩ s) ?_ ?_
 refine A8<|B6<|sv Z<|sv Z<|A1<|cc Z hz3 (fun c5 hz3=> ?_)<|fun c5 hz3=> ?_
 refine Tc Z fun u16 _=>sq Z<|A9 (oW g2.2.1 x1.2.Lanes (g2.1.1.val,g2.1.2)) Z (Bp Z (gq Z) Z) (sd Z (B5 Z (A4 Z<|A4 Z<|A4 (Ji g2.1.1.property Z)<|A4 (Ji g2.2.2.1.1.property Z)<|A4 (Ji g2.2.2.2.2.1.1.property Z)<|A4 (Ji g2.2.2.2.2.2.2.1.1.property Z) G_hit) Z Z)<|sq Z<|sd Z (B5 Z (A4 Z<|A4 Z<|A4 (Ji g2.1.1.property Z)<|A4 (Ji g2.2.2.1.1.property Z)<|A4 (Ji g2.2.2.2.2.1.1.property Z)<|A4 (Ji g2.2.2.2.2.2.2.1.1.property Z) G_hit) Z Z)<|bs hz3 fun v4 hv4 hz3=>B8 Z Z A2 (Fm _ _ hv4) (.inl Z) (bs hz3 fun v5 hv5 hz3=>HZ (Vm (b:=g2.2.1) (x:=v3) (v:=v4) NT hv5 Z (A4 (U6 g2.1.1.property Z)<|A4 (U6 g2.1.1.property Z) G_hit))<|A9 (.tup _) Z Z (A9 (oW (wb g2.2.1 x1.2.Lanes) v5.1 (10160060,u16)) Z Z (sv Z<|sq Z<|Dp _ _ _ _ _ (Pa _ _ _) Z Z (A4 Z<|A4 (Ji g2.1.1.property Z)<|gq Z) (nl Z) [(di x1.2.Version),(oW (wb g2.2.1 x1.2.Lanes) v5.1 (10160060,u16)),(oW g2.2.2.2.1 x1.2.Zones (g2.2.2.1.1.val,g2.2.2.1.2)),(oW g2.2.2.2.2.2.1 x1.2.Signals (g2.2.2.2.2.1.1.val,g2.2.2.2.2.1.2)),(oW g2.2.2.2.2.2.2.2 x1.2.Works (g2.2.2.2.2.2.2.1.1.val,g2.2.2.2.2.2.2.1.2))] Z (sv Z<|A1<|E3 ?_)))))
 cases hz3
 exact Az ⟨_,((⟨10160060, .tail _ (.head _)⟩,u16),(wb g2.2.1 x1.2.Lanes),(g2.2.2.1.1,g2.2.2.1.2),g2.2.2.2.1,(g2.2.2.2.2.1.1,g2.2.2.2.2.1.2),g2.2.2.2.2.2.1,(g2.2.2.2.2.2.2.1.1,g2.2.2.2.2.2.2.1.2),g2.2.2.2.2.2.2.2),Z,(C0 (V4 Z)<|B7 (VA 2 Z<|A4 (Ji g2.1.1.property Z) G_hit) (.of Z) (B7 G_hit (.of Z)<|S5 (gq Z)<|S5 (A4 (U6 g2.2.2.1.1.property Z)<|A4 (U6 g2.2.2.1.1.property Z)<|A4 (Q3 g2.2.2.1.1.property g2.1.1.property Z)<|A4 (U6 g2.2.2.1.1.property Z)<|A4 (U6 g2.2.2.1.1.property Z)<|A4 (Q3 g2.2.2.1.1.property g2.1.1.property Z) G_hit)<|S5 (A4 (U6 g2.2.2.2.2.1.1.property Z)<|A4 (U6 g2.2.2.2.2.1.1.property Z)<|A4 (Q3 g2.2.2.2.2.1.1.property g2.1.1.property Z)<|A4 (U6 g2.2.2.2.2.1.1.property Z)<|A4 (U6 g2.2.2.2.2.1.1.property Z)<|A4 (Q3 g2.2.2.2.2.1.1.property g2.1.1.property Z)<|A4 (Q3 g2.2.2.2.2.1.1.property g2.2.2.1.1.property Z) G_hit)<|S5 (A4 (U6 g2.2.2.2.2.2.2.1.1.property Z)<|A4 (U6 g2.2.2.2.2.2.2.1.1.property Z)<|A4 (Q3 g2.2.2.2.2.2.2.1.1.property g2.1.1.property Z)<|A4 (U6 g2.2.2.2.2.2.2.1.1.property Z)<|A4 (U6 g2.2.2.2.2.2.2.1.1.property Z)<|A4 (Q3 g2.2.2.2.2.2.2.1.1.property g2.1.1.property Z)<|A4 (Q3 g2.2.2.2.2.2.2.1.1.property g2.2.2.1.1.property Z)<|A4 (Q3 g2.2.2.2.2.2.2.1.1.property g2.2.2.2.2.1.1.property Z) G_hit) trivial))⟩
 refine B6<|sv Z<|sv Z<|A1<|cc Z hz3 (fun c6 hz3=> ?_)<|fun c6 hz3=> ?_
 refine Tc Z fun u18 _=>sq Z<|A9 (oW g2.2.2.2.1 x1.2.Zones (g2.2.2.1.1.val,g2.2.2.1.2)) Z (Bp Z (gq Z) Z) (sd Z (B5 Z (A4 Z<|A4 Z<|A4 (Ji g2.1.1.property Z)<|A4 (Ji g2.2.2.1.1.property Z)<|A4 (Ji g2.2.2.2.2.1.1.property Z)<|A4 (Ji g2.2.2.2.2.2.2.1.1.property Z) G_hit) Z Z)<|sq Z<|sd Z (B5 Z (A4 Z<|A4 Z<|A4 (Ji g2.1.1.property Z)<|A4 (Ji g2.2.2.1.1.property Z)<|A4 (Ji g2.2.2.2.2.1.1.property Z)<|A4 (Ji g2.2.2.2.2.2.2.1.1.property Z) G_hit) Z Z)<|bs hz3 fun v6 hv6 hz3=>B8 Z Z A2 (Fp _ _ hv6) (.inl Z) (bs hz3 fun v7 hv7 hz3=>HZ (Vm (b:=g2.2.2.2.1) (x:=v3) (v:=v6) NW hv7 Z (A4 (U6 g2.2.2.1.1.property Z)<|A4 (U6 g2.2.2.1.1.property Z)<|A4 (Q3 g2.2.2.1.1.property g2.1.1.property Z) G_hit))<|A9 (.tup _) Z Z (A9 (oW (wb g2.2.2.2.1 x1.2.Zones) v7.1 (10180060,u18)) Z Z (sv Z<|sq Z<|Dp _ _ _ _ _ (Pa _ _ _) Z Z (A4 Z<|A4 (Ji g2.2.2.1.1.property Z)<|gq Z) (nl Z) [(di x1.2.Version),(oW g2.2.1 x1.2.Lanes (g2.1.1.val,g2.1.2)),(oW (wb g2.2.2.2.1 x1.2.Zones) v7.1 (10180060,u18)),(oW g2.2.2.2.2.2.1 x1.2.Signals (g2.2.2.2.2.1.1.val,g2.2.2.2.2.1.2)),(oW g2.2.2.2.2.2.2.2 x1.2.Works (g2.2.2.2.2.2.2.1.1.val,g2.2.2.2.2.2.2.1.2))] Z (sv Z<|A1<|E3 ?_)))))
 cases hz3
 exact Az ⟨_,((g2.1.1,g2.1.2),g2.2.1,(⟨10180060, .tail _ (.head _)⟩,u18),(wb g2.2.2.2.1 x1.2.Zones),(g2.2.2.2.2.1.1,g2.2.2.2.2.1.2),g2.2.2.2.2.2.1,(g2.2.2.2.2.2.2.1.1,g2.2.2.2.2.2.2.1.2),g2.2.2.2.2.2.2.2),Z,(C0 (V4 Z)<|B7 (VA 2 Z<|A4 (Ji g2.2.2.1.1.property Z) G_hit) (.of Z) (B7 G_hit (.of Z)<|S5 (A4 (U6 g2.1.1.property Z)<|A4 (U6 g2.1.1.property Z)<|A4 (Q3 g2.1.1.property g2.2.2.1.1.property Z)<|A4 (U6 g2.1.1.property Z)<|A4 (U6 g2.1.1.property Z) G_hit)<|S5 (gq Z)<|S5 (A4 (U6 g2.2.2.2.2.1.1.property Z)<|A4 (U6 g2.2.2.2.2.1.1.property Z)<|A4 (Q3 g2.2.2.2.2.1.1.property g2.2.2.1.1.property Z)<|A4 (U6 g2.2.2.2.2.1.1.property Z)<|A4 (U6 g2.2.2.2.2.1.1.property Z)<|A4 (Q3 g2.2.2.2.2.1.1.property g2.1.1.property Z)<|A4 (Q3 g2.2.2.2.2.1.1.property g2.2.2.1.1.property Z) G_hit)<|S5 (A4 (U6 g2.2.2.2.2.2.2.1.1.property Z)<|A4 (U6 g2.2.2.2.2.2.2.1.1.property Z)<|A4 (Q3 g2.2.2.2.2.2.2.1.1.property g2.2.2.1.1.property Z)<|A4 (U6 g2.2.2.2.2.2.2.1.1.property Z)<|A4 (U6 g2.2.2.2.2.2.2.1.1.property Z)<|A4 (Q3 g2.2.2.2.2.2.2.1.1.property g2.1.1.property Z)<|A4 (Q3 g2.2.2.2.2.2.2.1.1.property g2.2.2.1.1.property Z)<|A4 (Q3 g2.2.2.2.2.2.2.1.1.property g2.2.2.2.2.1.1.property Z) G_hit) trivial))⟩
 refine B6<|sv Z<|sv Z<|A1<|cc Z hz3 (fun c7 hz3=> ?_)<|fun c7 hz3=> ?_
 refine Tc Z fun u20 _=>sq Z<|A9 (oW g2.2.2.2.2.2.1 x1.2.Signals (g2.2.2.2.2.1.1.val,g2.2.2.2.2.1.2)) Z (Bp Z (gq Z) Z) (sd Z (B5 Z (A4 Z<|A4 Z<|A4 (Ji g2.1.1.property Z)<|A4 (Ji g2.2.2.1.1.property Z)<|A4 (Ji g2.2.2.2.2.1.1.property Z)<|A4 (Ji g2.2.2.2.2.2.2.1.1.property Z) G_hit) Z Z)<|sq Z<|sd Z (B5 Z (A4 Z<|A4 Z<|A4 (Ji g2.1.1.property Z)<|A4 (Ji g2.2.2.1.1.property Z)<|A4 (Ji g2.2.2.2.2.1.1.property Z)<|A4 (Ji g2.2.2.2.2.2.2.1.1.property Z) G_hit) Z Z)<|bs hz3 fun v8 hv8 hz3=>B8 Z Z A2 (Dt _ _ hv8) (.inl Z) (bs hz3 fun v9 hv9 hz3=>HZ (Vm (b:=g2.2.2.2.2.2.1) (x:=v3) (v:=v8) NZ hv9 Z (A4 (U6 g2.2.2.2.2.1.1.property Z)<|A4 (U6 g2.2.2.2.2.1.1.property Z)<|A4 (Q3 g2.2.2.2.2.1.1.property g2.1.1.property Z)<|A4 (Q3 g2.2.2.2.2.1.1.property g2.2.2.1.1.property Z) G_hit))<|A9 (.tup _) Z Z (A9 (oW (wb g2.2.2.2.2.2.1 x1.2.Signals) v9.1 (10200060,u20)) Z Z (sv Z<|sq Z<|Dp _ _ _ _ _ (Pa _ _ _) Z Z (A4 Z<|A4 (Ji g2.2.2.2.2.1.1.property Z)<|gq Z) (nl Z) [(di x1.2.Version),(oW g2.2.1 x1.2.Lanes (g2.1.1.val,g2.1.2)),(oW g2.2.2.2.1 x1.2.Zones (g2.2.2.1.1.val,g2.2.2.1.2)),(oW (wb g2.2.2.2.2.2.1 x1.2.Signals) v9.1 (10200060,u20)),(oW g2.2.2.2.2.2.2.2 x1.2.Works (g2.2.2.2.2.2.2.1.1.val,g2.2.2.2.2.2.2.1.2))] Z (sv Z<|A1<|E3 ?_)))))
 cases hz3
 exact Az ⟨_,((g2.1.1,g2.1.2),g2.2.1,(g2.2.2.1.1,g2.2.2.1.2),g2.2.2.2.1,(⟨10200060, .tail _ (.head _)⟩,u20),(wb g2.2.2.2.2.2.1 x1.2.Signals),(g2.2.2.2.2.2.2.1.1,g2.2.2.2.2.2.2.1.2),g2.2.2.2.2.2.2.2),Z,(C0 (V4 Z)<|B7 (VA 2 Z<|A4 (Ji g2.2.2.2.2.1.1.property Z) G_hit) (.of Z) (B7 G_hit (.of Z)<|S5 (A4 (U6 g2.1.1.property Z)<|A4 (U6 g2.1.1.property Z)<|A4 (Q3 g2.1.1.property g2.2.2.2.2.1.1.property Z)<|A4 (U6 g2.1.1.property Z)<|A4 (U6 g2.1.1.property Z) G_hit)<|S5 (A4 (U6 g2.2.2.1.1.property Z)<|A4 (U6 g2.2.2.1.1.property Z)<|A4 (Q3 g2.2.2.1.1.property g2.2.2.2.2.1.1.property Z)<|A4 (U6 g2.2.2.1.1.property Z)<|A4 (U6 g2.2.2.1.1.property Z)<|A4 (Q3 g2.2.2.1.1.property g2.1.1.property Z) G_hit)<|S5 (gq Z)<|S5 (A4 (U6 g2.2.2.2.2.2.2.1.1.property Z)<|A4 (U6 g2.2.2.2.2.2.2.1.1.property Z)<|A4 (Q3 g2.2.2.2.2.2.2.1.1.property g2.2.2.2.2.1.1.property Z)<|A4 (U6 g2.2.2.2.2.2.2.1.1.property Z)<|A4 (U6 g2.2.2.2.2.2.2.1.1.property Z)<|A4 (Q3 g2.2.2.2.2.2.2.1.1.property g2.1.1.property Z)<|A4 (Q3 g2.2.2.2.2.2.2.1.1.property g2.2.2.1.1.property Z)<|A4 (Q3 g2.2.2.2.2.2.2.1.1.property g2.2.2.2.2.1.1.property Z) G_hit) trivial))⟩
 refine B6<|sv Z<|sv Z<|A1<|cc Z hz3 (fun c8 hz3=> ?_)<|fun c8 hz3=> ?_
 refine A7 (s0:=⟨T [(4,(.ptr (4,u1) 0)),(7,(.ptr (7,u7) 0)),(9,(.ptr (9,u10) 0)),(27,(dl G2 p2.Edits)),(28,(di (p2.Edits.length:Int))),(29,(di x1.1))],G [((4,u1),some<|.box 27 [(di 0),(.d .nilS),(.d .nilS),(.d .nilS),(.d .nilS)]),((7,u7),some<|.box 27 [(di x1.2.Version),(oW g2.2.1 x1.2.Lanes (g2.1.1.val,g2.1.2)),(oW g2.2.2.2.1 x1.2.Zones (g2.2.2.1.1.val,g2.2.2.1.2)),(oW g2.2.2.2.2.2.1 x1.2.Signals (g2.2.2.2.2.1.1.val,g2.2.2.2.2.1.2)),(oW g2.2.2.2.2.2.2.2 x1.2.Works (g2.2.2.2.2.2.2.1.1.val,g2.2.2.2.2.2.2.1.2))]),((g2.1.1.val,g2.1.2),wB g2.2.1 42 5 G5 x1.2.Lanes),((g2.2.2.1.1.val,g2.2.2.1.2),wB g2.2.2.2.1 45 2 F4 x1.2.Zones),((g2.2.2.2.2.1.1.val,g2.2.2.2.2.1.2),wB g2.2.2.2.2.2.1 48 2 E2 x1.2.Signals),((g2.2.2.2.2.2.2.1.1.val,g2.2.2.2.2.2.2.1.2),wB g2.2.2.2.2.2.2.2 50 6 I6 x1.2.Works),((9,u10),some<|.box 52 (Od v3))]⟩) (C0 (V4 Z)<|B7 G_hit (.of Z)<|sg Z<|S5 (A4 (U6 g2.1.1.property Z)<|A4 (U6 g2.1.1.property Z) G_hit)<|S5 (A4 (U6 g2.2.2.1.1.property Z)<|A4 (U6 g2.2.2.1.1.property Z)<|A4 (Q3 g2.2.2.1.1.property g2.1.1.property Z) G_hit)<|S5 (A4 (U6 g2.2.2.2.2.1.1.property Z)<|A4 (U6 g2.2.2.2.2.1.1.property Z)<|A4 (Q3 g2.2.2.2.2.1.1.property g2.1.1.property Z)<|A4 (Q3 g2.2.2.2.2.1.1.property g2.2.2.1.1.property Z) G_hit)<|S5 (A4 (U6 g2.2.2.2.2.2.2.1.1.property Z)<|A4 (U6 g2.2.2.2.2.2.2.1.1.property Z)<|A4 (Q3 g2.2.2.2.2.2.2.1.1.property g2.1.1.property Z)<|A4 (Q3 g2.2.2.2.2.2.2.1.1.property g2.2.2.1.1.property Z)<|A4 (Q3 g2.2.2.2.2.2.2.1.1.property g2.2.2.2.2.1.1.property Z) G_hit)<|B7 (VA 2 Z<|A4 (Ji g2.1.1.property Z)<|A4 (Ji g2.2.2.1.1.property Z)<|A4 (Ji g2.2.2.2.2.1.1.property Z)<|A4 (Ji g2.2.2.2.2.2.2.1.1.property Z) G_hit) (.of Z) trivial) ?_
 refine K8 fun u22 _=>sq Z<|A9 (oW g2.2.2.2.2.2.2.2 x1.2.Works (g2.2.2.2.2.2.2.1.1.val,g2.2.2.2.2.2.2.1.2)) Z (Bp Z (gq Z) Z) (sd Z (B5 Z (A4 Z<|A4 Z<|A4 (Ji g2.1.1.property Z)<|A4 (Ji g2.2.2.1.1.property Z)<|A4 (Ji g2.2.2.2.2.1.1.property Z)<|A4 (Ji g2.2.2.2.2.2.2.1.1.property Z) G_hit) Z Z)<|sq Z<|sd Z (B5 Z (A4 Z<|A4 Z<|A4 (Ji g2.1.1.property Z)<|A4 (Ji g2.2.2.1.1.property Z)<|A4 (Ji g2.2.2.2.2.1.1.property Z)<|A4 (Ji g2.2.2.2.2.2.2.1.1.property Z) G_hit) Z Z)<|bs hz3 fun v10 hv10 hz3=>HZ (Vm (b:=g2.2.2.2.2.2.2.2) (x:=v3) (v:=v3.Work_) OD hv10 Z (A4 (U6 g2.2.2.2.2.2.2.1.1.property Z)<|A4 (U6 g2.2.2.2.2.2.2.1.1.property Z)<|A4 (Q3 g2.2.2.2.2.2.2.1.1.property g2.1.1.property Z)<|A4 (Q3 g2.2.2.2.2.2.2.1.1.property g2.2.2.1.1.property Z)<|A4 (Q3 g2.2.2.2.2.2.2.1.1.property g2.2.2.2.2.1.1.property Z) G_hit))<|A9 (.tup _) Z Z (A9 (oW (wb g2.2.2.2.2.2.2.2 x1.2.Works) v10.1 (10220050,u22)) Z Z (sv Z<|sq Z<|Dp _ _ _ _ _ (Pa _ _ _) Z Z (A4 Z<|A4 (Ji g2.2.2.2.2.2.2.1.1.property Z)<|gq Z) (nl Z) [(di x1.2.Version),(oW g2.2.1 x1.2.Lanes (g2.1.1.val,g2.1.2)),(oW g2.2.2.2.1 x1.2.Zones (g2.2.2.1.1.val,g2.2.2.1.2)),(oW g2.2.2.2.2.2.1 x1.2.Signals (g2.2.2.2.2.1.1.val,g2.2.2.2.2.1.2)),(oW (wb g2.2.2.2.2.2.2.2 x1.2.Works) v10.1 (10220050,u22))] Z (sv Z<|A1<|E3 ?_))))
 cases hz3
 exact Az ⟨_,((g2.1.1,g2.1.2),g2.2.1,(g2.2.2.1.1,g2.2.2.1.2),g2.2.2.2.1,(g2.2.2.2.2.1.1,g2.2.2.2.2.1.2),g2.2.2.2.2.2.1,(⟨10220050, .tail _ (.head _)⟩,u22),(wb g2.2.2.2.2.2.2.2 x1.2.Works)),Z,(C0 (V4 Z)<|B7 (VA 2 Z<|A4 (Ji g2.2.2.2.2.2.2.1.1.property Z) G_hit) (.of Z) (B7 G_hit (.of Z)<|S5 (A4 (U6 g2.1.1.property Z)<|A4 (U6 g2.1.1.property Z)<|A4 (Q3 g2.1.1.property g2.2.2.2.2.2.2.1.1.property Z)<|A4 (U6 g2.1.1.property Z)<|A4 (U6 g2.1.1.property Z) G_hit)<|S5 (A4 (U6 g2.2.2.1.1.property Z)<|A4 (U6 g2.2.2.1.1.property Z)<|A4 (Q3 g2.2.2.1.1.property g2.2.2.2.2.2.2.1.1.property Z)<|A4 (U6 g2.2.2.1.1.property Z)<|A4 (U6 g2.2.2.1.1.property Z)<|A4 (Q3 g2.2.2.1.1.property g2.1.1.property Z) G_hit)<|S5 (A4 (U6 g2.2.2.2.2.1.1.property Z)<|A4 (U6 g2.2.2.2.2.1.1.property Z)<|A4 (Q3 g2.2.2.2.2.1.1.property g2.2.2.2.2.2.2.1.1.property Z)<|A4 (U6 g2.2.2.2.2.1.1.property Z)<|A4 (U6 g2.2.2.2.2.1.1.property Z)<|A4 (Q3 g2.2.2.2.2.1.1.property g2.1.1.property Z)<|A4 (Q3 g2.2.2.2.2.1.1.property g2.2.2.1.1.property Z) G_hit)<|S5 (gq Z) trivial))⟩
 refine A3<|A7 (s0:=⟨T [(4,(.ptr _ _))],G [((4,u1),some<|.box 27 _)]⟩) (G1 Z Z) ?_
 refine B9<|sv Z<|Aa Z G_hit [(di 0),(.d .nilS),(.d .nilS),(.d .nilS),(.d .nilS)] Z (sv Z<|A1<|B4 ?_)
 cases hz3
 rw [bM]at hz2
 cases hz2
 obtain rfl:=ez2 _ rfl
 refine ⟨nofun,G6 ?_⟩
 rw [bM]at h
 cases h
 exact B0 (.inr Z) (Kn (I3 Z G_hit (nl Z) Z) (B1 Z) D4 D4) (.tup (.cons (.agg (ca Z<|.cons ⟨DLe.nil,Z⟩ (.cons ⟨DLe.nil,Z⟩ (.cons ⟨DLe.nil,Z⟩ (.cons ⟨DLe.nil,Z⟩ .nil))))) A2))
 rintro _ ⟨y2,g3,rfl,q1⟩
 rw [bL]at hz2
 refine A7 q1<|B6<|sv Z<|A9 (.d (bo (!y2.1))) Z Z (A1<|cc Z hz2 (fun c9 hz2=> ?_)<|fun c9 hz2=> ?_)
 refine B6<|sv Z<|Aa Z G_hit [(di 0),(.d .nilS),(.d .nilS),(.d .nilS),(.d .nilS)] Z (sv Z<|A1<|B4 ?_)
 cases hz2
 obtain rfl:=ez2 _ rfl
 refine ⟨nofun,G6 ?_⟩
 rw [bM]at h
 cases h
 exact B0 (.inr Z) (Kn (I3 Z G_hit (nl Z) Z) (B1 Z) D4 D4) (.tup (.cons (.agg (ca Z<|.cons ⟨DLe.nil,Z⟩ (.cons ⟨DLe.nil,Z⟩ (.cons ⟨DLe.nil,Z⟩ (.cons ⟨DLe.nil,Z⟩ .nil))))) A2))
 refine B2<|E3<|B9<|sv Z<|sv Z<|A1<|G9 ?_
 cases hz2
 exact ⟨Z,((g3.1.1,g3.1.2),g3.2.1,(g3.2.2.1.1,g3.2.2.1.2),g3.2.2.2.1,(g3.2.2.2.2.1.1,g3.2.2.2.2.1.2),g3.2.2.2.2.2.1,(g3.2.2.2.2.2.2.1.1,g3.2.2.2.2.2.2.1.2),g3.2.2.2.2.2.2.2),(C0 (V4 Z)<|B7 G_hit (.of Z)<|sg Z<|S5 (A4 (U6 g3.1.1.property Z)<|A4 (U6 g3.1.1.property Z) G_hit)<|S5 (A4 (U6 g3.2.2.1.1.property Z)<|A4 (U6 g3.2.2.1.1.property Z)<|A4 (Q3 g3.2.2.1.1.property g3.1.1.property Z) G_hit)<|S5 (A4 (U6 g3.2.2.2.2.1.1.property Z)<|A4 (U6 g3.2.2.2.2.1.1.property Z)<|A4 (Q3 g3.2.2.2.2.1.1.property g3.1.1.property Z)<|A4 (Q3 g3.2.2.2.2.1.1.property g3.2.2.1.1.property Z) G_hit)<|S5 (A4 (U6 g3.2.2.2.2.2.2.1.1.property Z)<|A4 (U6 g3.2.2.2.2.2.2.1.1.property Z)<|A4 (Q3 g3.2.2.2.2.2.2.1.1.property g3.1.1.property Z)<|A4 (Q3 g3.2.2.2.2.2.2.1.1.property g3.2.2.1.1.property Z)<|A4 (Q3 g3.2.2.2.2.2.2.1.1.property g3.2.2.2.2.1.1.property Z) G_hit) trivial)⟩
 refine D8 Z ?_
 cases hz2
 obtain rfl:=ez2 _ rfl
 refine ⟨nofun,D1 Z<|Az ?_⟩
 exact ⟨_,((g2.1.1,g2.1.2),g2.2.1,(g2.2.2.1.1,g2.2.2.1.2),g2.2.2.2.1,(g2.2.2.2.2.1.1,g2.2.2.2.2.1.2),g2.2.2.2.2.2.1,(g2.2.2.2.2.2.2.1.1,g2.2.2.2.2.2.2.1.2),g2.2.2.2.2.2.2.2),Z,(C0 (V4 Z)<|B7 G_hit (.of Z)<|sg Z<|S5 (A4 (U6 g2.1.1.property Z)<|A4 (U6 g2.1.1.property Z) G_hit)<|S5 (A4 (U6 g2.2.2.1.1.property Z)<|A4 (U6 g2.2.2.1.1.property Z)<|A4 (Q3 g2.2.2.1.1.property g2.1.1.property Z) G_hit)<|S5 (A4 (U6 g2.2.2.2.2.1.1.property Z)<|A4 (U6 g2.2.2.2.2.1.1.property Z)<|A4 (Q3 g2.2.2.2.2.1.1.property g2.1.1.property Z)<|A4 (Q3 g2.2.2.2.2.1.1.property g2.2.2.1.1.property Z) G_hit)<|S5 (A4 (U6 g2.2.2.2.2.2.2.1.1.property Z)<|A4 (U6 g2.2.2.2.2.2.2.1.1.property Z)<|A4 (Q3 g2.2.2.2.2.2.2.1.1.property g2.1.1.property Z)<|A4 (Q3 g2.2.2.2.2.2.2.1.1.property g2.2.2.1.1.property Z)<|A4 (Q3 g2.2.2.2.2.2.2.1.1.property g2.2.2.2.2.1.1.property Z) G_hit) trivial)⟩
 rintro _ ⟨y1,g1,rfl,q2⟩
 rw [bL]at h
 refine A7 q2<|A3<|B6<|sq Z<|sl Z (gq Z) Z (sv Z<|A1<|cc Z h (fun c10 h=> ?_)<|fun c10 h=> ?_)
 refine B6<|sv Z<|Aa Z G_hit [(di 0),(.d .nilS),(.d .nilS),(.d .nilS),(.d .nilS)] Z (sv Z<|A1<|B4 ?_)
 cases h
 exact B0 (.inr Z) (Kn (I3 Z G_hit (nl Z) Z) (B1 Z) D4 D4) (.tup (.cons (.agg (ca Z<|.cons ⟨DLe.nil,Z⟩ (.cons ⟨DLe.nil,Z⟩ (.cons ⟨DLe.nil,Z⟩ (.cons ⟨DLe.nil,Z⟩ .nil))))) A2))
 refine B2<|B6<|sq Z<|sl Z (gq Z) Z (sv Z<|sq Z<|Aa Z (gq Z) [(di<|H6 (y1.Version+1)),(oW g1.2.1 y1.Lanes (g1.1.1.val,g1.1.2)),(oW g1.2.2.2.1 y1.Zones (g1.2.2.1.1.val,g1.2.2.1.2)),(oW g1.2.2.2.2.2.1 y1.Signals (g1.2.2.2.2.1.1.val,g1.2.2.2.2.1.2)),(oW g1.2.2.2.2.2.2.2 y1.Works (g1.2.2.2.2.2.2.1.1.val,g1.2.2.2.2.2.2.1.2))] Z (A1<|A3<|B6<|A9 (Ao [(di<|H6 (y1.Version+1)),(oW g1.2.1 y1.Lanes (g1.1.1.val,g1.1.2)),(oW g1.2.2.2.1 y1.Zones (g1.2.2.1.1.val,g1.2.2.1.2)),(oW g1.2.2.2.2.2.1 y1.Signals (g1.2.2.2.2.1.1.val,g1.2.2.2.2.1.2)),(oW g1.2.2.2.2.2.2.2 y1.Works (g1.2.2.2.2.2.2.1.1.val,g1.2.2.2.2.2.2.1.2))]) Z (B5 Z G_hit Z Z) (bs h fun _ hv11 h=>B8 Z (J5 (Im<|rD<|J5 (Rx<|A4 (U6 g1.1.1.property Z)<|A4 (U6 g1.1.1.property Z)<|A4 (U6 g1.1.1.property Z) G_hit)<|J5 (Rx<|A4 (U6 g1.2.2.1.1.property Z)<|A4 (U6 g1.2.2.1.1.property Z)<|A4 (U6 g1.2.2.1.1.property Z)<|A4 (Q3 g1.2.2.1.1.property g1.1.1.property Z) G_hit)<|J5 (Rx<|A4 (U6 g1.2.2.2.2.1.1.property Z)<|A4 (U6 g1.2.2.2.2.1.1.property Z)<|A4 (U6 g1.2.2.2.2.1.1.property Z)<|A4 (Q3 g1.2.2.2.2.1.1.property g1.1.1.property Z)<|A4 (Q3 g1.2.2.2.2.1.1.property g1.2.2.1.1.property Z) G_hit)<|J5 (Rx<|A4 (U6 g1.2.2.2.2.2.2.1.1.property Z)<|A4 (U6 g1.2.2.2.2.2.2.1.1.property Z)<|A4 (U6 g1.2.2.2.2.2.2.1.1.property Z)<|A4 (Q3 g1.2.2.2.2.2.2.1.1.property g1.1.1.property Z)<|A4 (Q3 g1.2.2.2.2.2.2.1.1.property g1.2.2.1.1.property Z)<|A4 (Q3 g1.2.2.2.2.2.2.1.1.property g1.2.2.2.2.1.1.property Z) G_hit) M3) M3) (.cons (.agg (ca Z<|.cons ⟨Rw,Z⟩ (.cons ⟨Rw,Z⟩ (.cons ⟨Rw,Z⟩ (.cons ⟨Rw,Z⟩ .nil))))) .nil) (Z2 _ _ hv11) (.inr Z) (sv Z<|A1<|B6<|sv Z<|sv Z<|A1<|cc Z h (fun c11 h=> ?_)<|fun c11 h=> ?_))))
 refine B6<|sv Z<|sv Z<|Aa Z (gq Z) [(di 0),(.d .nilS),(.d .nilS),(.d .nilS),(.d .nilS)] Z (sv Z<|A1<|B4 ?_)
 cases h
 exact B0 (.inr Z) (Kn (I3 Z G_hit (nl Z) Z) (B1 Z) D4 D4) (.tup (.cons (.agg (ca Z<|.cons ⟨DLe.nil,Z⟩ (.cons ⟨DLe.nil,Z⟩ (.cons ⟨DLe.nil,Z⟩ (.cons ⟨DLe.nil,Z⟩ .nil))))) A2))
 refine B2<|B6<|A9 (Ao [(di<|H6 (y1.Version+1)),(oW g1.2.1 y1.Lanes (g1.1.1.val,g1.1.2)),(oW g1.2.2.2.1 y1.Zones (g1.2.2.1.1.val,g1.2.2.1.2)),(oW g1.2.2.2.2.2.1 y1.Signals (g1.2.2.2.2.1.1.val,g1.2.2.2.2.1.2)),(oW g1.2.2.2.2.2.2.2 y1.Works (g1.2.2.2.2.2.2.1.1.val,g1.2.2.2.2.2.2.1.2))]) Z (B5 Z G_hit Z Z) (Dp _ _ _ _ _ (Aj _) Z Z (gq Z) (nl Z) [(di<|H6 (y1.Version+1)),(oW g1.2.1 y1.Lanes (g1.1.1.val,g1.1.2)),(oW g1.2.2.2.1 y1.Zones (g1.2.2.1.1.val,g1.2.2.1.2)),(oW g1.2.2.2.2.2.1 y1.Signals (g1.2.2.2.2.1.1.val,g1.2.2.2.2.1.2)),(oW g1.2.2.2.2.2.2.2 y1.Works (g1.2.2.2.2.2.2.1.1.val,g1.2.2.2.2.2.2.1.2))] Z (sv Z<|A1<|B4 ?_))
 cases h
 exact B0 (.inr Z) (Kn (I3 Z G_hit (nl Z) Z) (B1 Z) (Im<|rD<|J5 (Rx<|A4 (U6 g1.1.1.property Z)<|A4 (U6 g1.1.1.property Z)<|A4 (U6 g1.1.1.property Z)<|A4 (U6 g1.1.1.property Z) G_hit)<|J5 (Rx<|A4 (U6 g1.2.2.1.1.property Z)<|A4 (U6 g1.2.2.1.1.property Z)<|A4 (U6 g1.2.2.1.1.property Z)<|A4 (U6 g1.2.2.1.1.property Z)<|A4 (Q3 g1.2.2.1.1.property g1.1.1.property Z) G_hit)<|J5 (Rx<|A4 (U6 g1.2.2.2.2.1.1.property Z)<|A4 (U6 g1.2.2.2.2.1.1.property Z)<|A4 (U6 g1.2.2.2.2.1.1.property Z)<|A4 (U6 g1.2.2.2.2.1.1.property Z)<|A4 (Q3 g1.2.2.2.2.1.1.property g1.1.1.property Z)<|A4 (Q3 g1.2.2.2.2.1.1.property g1.2.2.1.1.property Z) G_hit)<|J5 (Rx<|A4 (U6 g1.2.2.2.2.2.2.1.1.property Z)<|A4 (U6 g1.2.2.2.2.2.2.1.1.property Z)<|A4 (U6 g1.2.2.2.2.2.2.1.1.property Z)<|A4 (U6 g1.2.2.2.2.2.2.1.1.property Z)<|A4 (Q3 g1.2.2.2.2.2.2.1.1.property g1.1.1.property Z)<|A4 (Q3 g1.2.2.2.2.2.2.1.1.property g1.2.2.1.1.property Z)<|A4 (Q3 g1.2.2.2.2.2.2.1.1.property g1.2.2.2.2.1.1.property Z) G_hit) M3) D4) (.tup (.cons (.agg (ca Z<|.cons ⟨Rw,Z⟩ (.cons ⟨Rw,Z⟩ (.cons ⟨Rw,Z⟩ (.cons ⟨Rw,Z⟩ .nil))))) A2))
def Gj (p1:Map)(p2:Int):Option Int:=
  (E8 [(p1.Lanes.length:Int),(p1.Zones.length:Int),(p1.Signals.length:Int),(p1.Works.length:Int)] (H6 (p2 - 1))).bind fun v1=>some v1
theorem La(p1 p2 r)(h:Gj p1 p2=some r):PCall prog 84 [(.agg (Q8 p1)),(i64 p2)] (i64 r):=by
 refine C4 (fk func84 ntmps84 (fun r=>if r==1 then [1012]else []) (by with_unfolding_all rfl)) (nl Z) ?_
 unfold Gj at h
 refine A7 (s0:=⟨T [(0,(.d _)),(1,(.d _))],G []⟩) (G1 Z Z) ?_
 refine B6<|sm Z<|sv Z<|A1<|B6<|sq Z<|sl Z G_hit Z<|sd Z (D6 Z)<|sq Z<|sl Z G_hit Z<|sd Z (D6 Z)<|sq Z<|sl Z G_hit Z<|sd Z (D6 Z)<|sq Z<|sl Z G_hit Z<|sd Z (D6 Z)<|A9 (dl A6 [(p1.Lanes.length:Int),(p1.Zones.length:Int),(p1.Signals.length:Int),(p1.Works.length:Int)]) Z Z (sv Z<|sv Z<|bs h fun _ hv1 h=>sd Z (F0 Z Z hv1 Z)<|sd Z (J8 Z hv1 Z)<|sv Z<|A1<|B4 ?_)
 cases h
 exact B0 (.inr Z) (C1 (B1 Z) D4) (.refl _)
def Gg (p1:Curve)(p2:Curve)(x1:Int):Option (Stp Int (Sum Unit Bool)):=
  cond (decide (x1< (p1.Pts.length:Int))) ((E8 p1.Pts x1).bind fun v1=>(E8 p2.Pts x1).bind fun v2=>cond (!(v1.X==v2.X&& (v1.Y==v2.Y&&true))) (some (.out (.inr false))) (some (.go (H6 (x1+1))))) (some (.out (.inl ())))
def Jv [Lp](p1:Curve)(p2:Curve):Option Bool:=
  cond ((p1.Pts.length:Int) !=(p2.Pts.length:Int)) (some false) (thenS (loop (Gg p1 p2) 0) (fun _=>some true) (fun r=>some r))
theorem Yj(p1 p2 r)(h:Jv p1 p2=some r):PCall prog 204 [(.agg [(.list (List.map P0 p1.Pts))]),(.agg [(.list (List.map P0 p2.Pts))])] (bo r):=by
 refine C4 (fk func204 ntmps204 m0 (by with_unfolding_all rfl)) (nl Z) ?_
 unfold Jv at h
 refine A7 (s0:=⟨T [(0,(.d _)),(1,(.d _))],G []⟩) (G1 Z Z) ?_
 refine lr<|fun u1 _=>sm Z<|sm Z<|sv Z<|A1<|A3<|B6<|sq Z<|sl Z (gq Z) Z (sd Z (D6 Z)<|sq Z<|sl Z G_hit Z<|sd Z (D6 Z)<|sv Z<|A1<|cc Z h (fun c1 h=> ?_)<|fun c1 h=> ?_)
 refine B6<|sv Z<|A1<|B4 ?_
 cases h
 exact B0 (.inr Z) (C1 (B1 Z) D4) (.refl _)
 refine B2<|A3<|B6<|sv Z<|A1<|js h fun z1 hz1 h=>F6 (fun s=> ∃(y1:Unit) (g1:Unit),z1= .inl y1∧Sb ⟨T [],G []⟩ s) ?_ ?_
 refine A8<|G0 (Gg p1 p2) (fun (x1:Int) (g2:Unit)=>⟨T [(2,(.ptr (2,u1) 0)),(3,(.ptr (3,u1) 0)),(5,(di x1))],G [((2,u1),some<|.box 39 [(dl P0 p1.Pts)]),((3,u1),some<|.box 39 [(dl P0 p2.Pts)])]⟩) 0 () _ hz1 (G1 Z Z) ?_
 intro x1 g2 z2 hz2 ez2
 unfold Gg at hz2
 refine A3<|B6<|sv Z<|sq Z<|sl Z G_hit Z<|sd Z (D6 Z)<|sv Z<|A1<|cc Z hz2 (fun c2 hz2=> ?_)<|fun c2 hz2=> ?_
 refine B2<|A3<|A8<|A3<|Q1 Z<|sq Z<|sl Z G_hit Z<|sv Z<|bs hz2 fun v1 hv1 hz2=>sd Z (F0 Z Z hv1 Z)<|sd Z (C8 Z hv1 Z Z)<|sq Z<|sl Z (gq Z) Z (sv Z<|bs hz2 fun v2 hv2 hz2=>sd Z (F0 Z Z hv2 Z)<|sd Z (C8 Z hv2 Z Z)<|A9 (.d (bo (!(v1.X==v2.X&& (v1.Y==v2.Y&&true))))) Z Z (A1<|cc Z hz2 (fun c3 hz2=> ?_)<|fun c3 hz2=> ?_))
 refine B6<|sv Z<|A1<|B4 ?_
 cases hz2
 obtain rfl:=ez2 _ rfl
 refine ⟨nofun,G6 ?_⟩
 rw [bM]at h
 cases h
 exact B0 (.inr Z) (C1 (B1 Z) D4) (.refl _)
 refine B2<|E3<|B9<|sv Z<|sv Z<|sv Z<|A1<|G9 ?_
 cases hz2
 exact ⟨Z,(),(G1 Z Z)⟩
 refine D8 Z ?_
 cases hz2
 obtain rfl:=ez2 _ rfl
 refine ⟨nofun,D1 Z<|Az ?_⟩
 exact ⟨_,(),Z,(G1 Z Z)⟩
 rintro _ ⟨y1,g1,rfl,q1⟩
 rw [bL]at h
 refine A7 q1<|B6<|sv Z<|A1<|B4 ?_
 cases h
 exact B0 (.inr Z) (C1 (B1 Z) D4) (.refl _)
end
end Go.Abs.Roadsz
