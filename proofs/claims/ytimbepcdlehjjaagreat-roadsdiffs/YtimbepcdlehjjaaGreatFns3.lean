/-
  The functions, part 3.
-/
import Derived.Test.YtimbepcdlehjjaaGreatFns2
set_option maxRecDepth 20000
set_option maxHeartbeats 4000000
set_option linter.unusedVariables false
namespace Go.Abs.Roadsz
noncomputable section
open Go Go.Abs Go.Proofs Tryz
attribute [local irreducible] H7 Ix Db
def O7 (p1:(List (List Edit)))(x2:((List Edit)×Int)):Option (Stp ((List Edit)×Int) (List Edit)):=
  cond (decide (x2.2< (p1.length:Int))) ((D6 p1 x2.2).bind fun v3=>(U5 x2.1 v3).bind fun v4=>some (.go (v4,(I8 (x2.2+1))))) (some (.out x2.1))
def O8 (p1:(List (List Edit)))(x1:(Int×Int)):Option (Stp (Int×Int) Int):=
  cond (decide (x1.2< (p1.length:Int))) ((D6 p1 x1.2).bind fun v1=>cond (decide ((I8 (x1.1+ (v1.length:Int)))<0)) (none) (some (.go ((I8 (x1.1+ (v1.length:Int))),(I8 (x1.2+1)))))) (some (.out x1.1))
def S8 [Lp](p1:(List (List Edit))):Option (List Edit):=
  (loop (O8 p1) (0,0)).bind fun y1=>(CR y1).bind fun v2=>(loop (O7 p1) (([]:List Edit),0)).bind fun y2=>some y2
theorem Jl(p1 r)(h:S8 p1=some r):PCall prog 107 [(.list (List.map Oe p1))] (.list (List.map E3 r)):=by
 refine C0 (fk func107 ntmps107 (fun r=>if r==9 then [1009001]else []) (by with_unfolding_all rfl)) (nl Z) ?_
 unfold S8 at h
 refine A5 (s0:=⟨T [(0,(.d _))],G []⟩) (D2 Z Z) ?_
 refine B5<|sv Z<|A1<|B5<|sv Z<|A1<|A2<|B5<|sv Z<|sd Z (C1 Z)<|sv Z<|A1<|bs h fun y1 hy1 h=>D5 (fun s=> ∃g1:Unit,Sb ⟨T [(0,(dl Oe p1)),(3,(di y1))],G []⟩ s) ?_ ?_
 refine A6<|E0 (O8 p1) (fun (x1:(Int×Int)) (g2:Unit)=>⟨T [(0,(dl Oe p1)),(3,(di x1.1)),(9,(dl Oe p1)),(10,(di (p1.length:Int))),(11,(di x1.2))],G []⟩) (0,0) () _ hy1 (D2 Z Z) ?_
 intro x1 g2 z1 hz1 ez1
 unfold O8 at hz1
 refine B5<|sv Z<|A1<|A2<|cc Z hz1 (fun c1 hz1=> ?_)<|fun c1 hz1=> ?_
 refine A9<|A2<|A6<|B5<|bs hz1 fun _ hv1 hz1=>sd Z (C9 Z Z hv1 Z)<|sd Z (F5 Z hv1 Z)<|sv Z<|A1<|B5<|sv Z<|sv Z<|sd Z (C1 Z)<|sv Z<|sv Z<|A1<|B5<|sv Z<|sv Z<|A1<|cc Z hz1 (fun c2 hz1=> ?_)<|fun c2 hz1=> ?_
 refine B0<| ?_
 cases hz1
 refine A9<|D9<|B0<|sv Z<|sv Z<|A1<|E7 ?_
 cases hz1
 exact ⟨Z,(),(D2 Z Z)⟩
 refine C5 Z ?_
 cases hz1
 obtain rfl:=ez1 _ rfl
 refine ⟨nofun,C4 Z<|Y5 ?_⟩
 exact ⟨(),(D2 Z Z)⟩
 rintro _ ⟨g1,q1⟩
 refine A5 q1<|lr<|fun u10 _=>sv Z<|bs h fun _ hv2 h=>IA (PD (α:=Edit) (b:=(decide (y1>0))) (e:=E3) (IL _ hv2) Z)<|B6 (oW (decide (y1>0)) ([]:List Edit) (10090010,u10)) Z Z (A1<|A2<|B5<|sv Z<|sd Z (C1 Z)<|sv Z<|A1<|bs h fun y2 hy2 h=>D5 (fun s=> ∃g3:(({d:Nat // d∈ [33,10090010]}×Nat)×Bool),Sb ⟨T [(6,(oW g3.2 y2 (g3.1.1.val,g3.1.2)))],G [((g3.1.1.val,g3.1.2),wB g3.2 52 18 E3 y2)]⟩ s) ?_ ?_)
 refine A6<|E0 (O7 p1) (fun (x2:((List Edit)×Int)) (g4:(({d:Nat // d∈ [33,10090010]}×Nat)×Bool))=>⟨T [(6,(oW g4.2 x2.1 (g4.1.1.val,g4.1.2))),(25,(dl Oe p1)),(26,(di (p1.length:Int))),(27,(di x2.2))],G [((g4.1.1.val,g4.1.2),wB g4.2 52 18 E3 x2.1)]⟩) (([]:List Edit),0) ((⟨10090010, .tail _ (.head _)⟩,u10),(decide (y1>0))) _ hy2 (C3 (U2 Z)<|FI G_hit trivial) ?_
 intro x2 g4 z2 hz2 ez2
 unfold O7 at hz2
 refine B5<|sv Z<|A1<|A2<|cc Z hz2 (fun c3 hz2=> ?_)<|fun c3 hz2=> ?_
 refine A9<|A2<|A6<|B5<|bs hz2 fun v3 hv3 hz2=>sd Z (C9 Z Z hv3 Z)<|sd Z (F5 Z hv3 Z)<|sv Z<|A1<|O9 fun u14 hu14=>B6 (oW g4.2 x2.1 (g4.1.1.val,g4.1.2)) Z Z (sv Z<|bs hz2 fun v4 hv4 hz2=>IG E3 g4.2 (g4.1.1.val,g4.1.2) x2.1 v3 _ (F4<|fun _=>Z) Z G_hit hv4 (Ja hu14) (B6 (oW g4.2 v4 (33,u14)) Z Z (A1<|D9<|B0<|sv Z<|sv Z<|A1<|E7 ?_)))
 cases hz2
 exact ⟨Z,((⟨33, .head _⟩,u14),g4.2),(C3 (U2 Z)<|FI G_hit trivial)⟩
 refine C5 Z ?_
 cases hz2
 obtain rfl:=ez2 _ rfl
 refine ⟨nofun,C4 Z<|Y5 ?_⟩
 exact ⟨((g4.1.1,g4.1.2),g4.2),(C3 ⟨.of Z,trivial⟩<|FI G_hit trivial)⟩
 rintro _ ⟨g3,q2⟩
 refine A5 q2<|B5<|B6 (oW g3.2 y2 (g3.1.1.val,g3.1.2)) Z Z (B6 (oW g3.2 y2 (g3.1.1.val,g3.1.2)) Z Z (A1<|B1 ?_))
 cases h
 exact A8 (.inr Z) (B4 (B2 Z)<|TM G_hit) TL
def Jm [Lp](p1:Map)(p2:Map):Option (Patch×Int):=
  thenS ((R9 p1).bind fun v1=>cond (v1 !=0) (some (.inr ((Patch.mk 0 []),v1))) ((R9 p2).bind fun v2=>cond (v2 !=0) (some (.inr ((Patch.mk 0 []),v2))) (some (.inl ())))) (fun _=>(H4 1 p1.Lanes p2.Lanes).bind fun v3=>(J4 2 p1.Zones p2.Zones).bind fun v4=>(I5 3 p1.Signals p2.Signals).bind fun v5=>(J5 4 p1.Works p2.Works).bind fun v6=>(S8 [v3,v4,v5,v6]).bind fun v7=>some ((Patch.mk p1.Version v7),0)) (fun r=>some r)
theorem Xj(p1 p2 r)(h:Jm p1 p2=some r):PCall prog 23 [(.agg (O1 p1)),(.agg (O1 p2))] (.tup [(.agg [(i64 r.1.Base),(.list (List.map E3 r.1.Edits))]),(i64 r.2)]):=by
 refine C0 (fk func23 ntmps23 (fun r=>if r==12 then [1006]else []) (by with_unfolding_all rfl)) (nl Z) ?_
 unfold Jm at h
 refine A5 (s0:=⟨T [(0,(.d _)),(1,(.d _))],G []⟩) (D2 Z Z) ?_
 refine lr<|fun u1 _=>sm Z<|sm Z<|sn Z Z<|sv Z<|A1<|A2<|B5<|sd Z (B3 Z (gq Z) Z Z)<|sd Z (B3 Z (gq Z) Z Z)<|sv Z<|sv Z<|A1<|js h fun z1 hz1 h=>D5 (fun s=> ∃(y1:Unit) (g1:Unit),z1= .inl y1∧Sb ⟨T [(2,(.ptr (2,u1) 0)),(3,(.ptr (3,u1) 0)),(4,(.ptr (4,u1) 0))],G [((2,u1),some<|.box 27 (I4 p1)),((3,u1),some<|.box 27 (I4 p2)),((4,u1),some<|.box 36 [(di 0),(.d .nilS)])]⟩ s) ?_ ?_
 refine A6<|Vr<|B5<|sv Z<|A1<|A2<|Ob Z<|A9<|A2<|A6<|B5<|sv Z<|sm Z<|Aj Z G_hit (I4 p1) Z (A1<|B5<|sd Z (B3 Z G_hit Z Z)<|bs hz1 fun _ hv1 hz1=>B8 Z Z A3 (Bz _ _ hv1) (.inl Z) (sv Z<|A1<|B5<|sv Z<|sv Z<|A1<|cc Z hz1 (fun c1 hz1=> ?_)<|fun c1 hz1=> ?_))
 refine A2<|A5 (s0:=⟨T [(4,(.ptr _ _)),(8,(.d _))],G [((4,u1),some<|.box 36 _)]⟩) (D2 Z Z) ?_
 refine B0<|sv Z<|sv Z<|Aj Z G_hit [(di 0),(.d .nilS)] Z (sv Z<|A1<|B1 ?_)
 cases hz1
 rw [bJ]at h
 cases h
 exact A8 (.inr Z) (Te (H8 Z G_hit (nl Z) Z) (B2 Z) C2 C2) (.tup (.cons (.agg (ca Z<|.cons ⟨DLe.nil,Z⟩ .nil)) A3))
 refine A9<|D9<|A5 (s0:=⟨T [(2,(.ptr _ _)),(3,(.ptr _ _)),(4,(.ptr _ _)),(15,(.d _)),(16,(.d _))],G [((2,u1),some<|.box 27 _),((3,u1),some<|.box 27 _),((4,u1),some<|.box 36 _)]⟩) (D2 Z Z) ?_
 refine B0<|sv Z<|sv Z<|A1<|Vr<|B5<|sv Z<|A1<|A2<|Ob Z<|A9<|A2<|A6<|B5<|sv Z<|sm Z<|Aj Z G_hit (I4 p2) Z (A1<|B5<|sd Z (B3 Z G_hit Z Z)<|bs hz1 fun _ hv2 hz1=>B8 Z Z A3 (Bz _ _ hv2) (.inl Z) (sv Z<|A1<|B5<|sv Z<|sv Z<|A1<|cc Z hz1 (fun c2 hz1=> ?_)<|fun c2 hz1=> ?_))
 refine B5<|sv Z<|sv Z<|Aj Z (gq Z) [(di 0),(.d .nilS)] Z (sv Z<|A1<|B1 ?_)
 cases hz1
 rw [bJ]at h
 cases h
 exact A8 (.inr Z) (Te (H8 Z G_hit (nl Z) Z) (B2 Z) C2 C2) (.tup (.cons (.agg (ca Z<|.cons ⟨DLe.nil,Z⟩ .nil)) A3))
 refine A9<|D9<|B0<|sv Z<|sv Z<|A1<|Vr<|B5<|sv Z<|A1<|A2<|Oc Z<|RB Z ?_
 cases hz1
 exact Y5 ⟨_,(),Z,(D2 Z Z)⟩
 rintro _ ⟨y1,g1,rfl,q1⟩
 rw [bI]at h
 refine A5 q1<|B5<|sq Z<|sl Z G_hit Z<|sq Z<|sl Z (gq Z) Z (bs h fun v3 hv3 h=>B8 Z Z A3 (Bf _ _ _ _ hv3) (.inl Z) (sv Z<|A1<|B5<|sq Z<|sl Z G_hit Z<|sq Z<|sl Z (gq Z) Z (bs h fun v4 hv4 h=>B8 Z Z A3 (Bg _ _ _ _ hv4) (.inl Z) (sv Z<|A1<|B5<|sq Z<|sl Z G_hit Z<|sq Z<|sl Z (gq Z) Z (bs h fun v5 hv5 h=>B8 Z Z A3 (Z1 _ _ _ _ hv5) (.inl Z) (sv Z<|A1<|A2<|A5 (s0:=⟨T [(2,(.ptr _ _)),(3,(.ptr _ _)),(4,(.ptr _ _)),(9,(.d _)),(10,(.d _)),(11,(.d _))],G [((2,u1),some<|.box 27 _),((3,u1),some<|.box 27 _),((4,u1),some<|.box 36 _)]⟩) (D2 Z Z) ?_))))))
 refine B0<|sq Z<|sl Z G_hit Z<|sq Z<|sl Z (gq Z) Z (bs h fun v6 hv6 h=>B8 Z Z A3 (Bh _ _ _ _ hv6) (.inl Z) (sv Z<|A1<|A2<|J6 Z<|sq Z<|sl Z G_hit Z<|sv Z<|sv Z<|sv Z<|sv Z<|B6 (dl Oe [v3,v4,v5,v6]) Z Z (bs h fun v7 hv7 h=>B8 Z Z A3 (Jl _ _ hv7) (.inl Z) (sv Z<|Aj Z (gq Z) [(di p1.Version),(dl E3 v7)] Z (sv Z<|A1<|B1 ?_)))))
 cases h
 exact A8 (.inr Z) (Te (H8 Z G_hit (nl Z) Z) (B2 Z) C2 C2) (.refl _)
def Y4 (p1:Int)(p2:Int)(p3:Int):Option Bool:=
  some ((decide (p1≥p2))&& (decide (p1≤p3)))
theorem Av(p1 p2 p3 r)(h:Y4 p1 p2 p3=some r):PCall prog 71 [(i64 p1),(i64 p2),(i64 p3)] (bo r):=by
 refine C0 (fk func71 ntmps71 m0 (by with_unfolding_all rfl)) (nl Z) ?_
 unfold Y4 at h
 refine A5 (s0:=⟨T [(0,(.d _)),(1,(.d _)),(2,(.d _))],G []⟩) (D2 Z Z) ?_
 refine B5<|sv Z<|A1<|B5<|sv Z<|sv Z<|sv Z<|sv Z<|gt Z (fun _=>Z)<|gt Z (fun _=>Z)<|gt Z (fun w3=>(T1 (A4 w3) (A4 w3) Z))<|sa Z Z Z<|sv Z<|A1<|B1 ?_
 cases h
 exact A8 (.inr Z) (B4 (B2 Z) C2) (.refl _)
def Ho (p1:Spot):Option Bool:=
  some ((((decide (p1.X≥(-16777216)))&& (decide (p1.X≤16777216)))&& (decide (p1.Y≥(-16777216))))&& (decide (p1.Y≤16777216)))
theorem Wh(p1 r)(h:Ho p1=some r):PCall prog 238 [(.agg [(i64 p1.X),(i64 p1.Y)])] (bo r):=by
 refine C0 (fk func238 ntmps238 m0 (by with_unfolding_all rfl)) (nl Z) ?_
 unfold Ho at h
 refine A5 (s0:=⟨T [(0,(.d _))],G []⟩) (D2 Z Z) ?_
 refine B5<|sm Z<|sv Z<|A1<|B5<|sq Z<|sl Z G_hit Z<|sv Z<|sv Z<|gp Z (P4 Z) (fun _=>Z) (gt Z (vl Z G_hit Z)<|gt Z (vb Z Z Z)<|sa Z Z Z<|sv Z<|gp Z (P4 Z) (fun _=>Z) (gt Z (vl Z G_hit Z)<|gt Z (vb Z Z Z)<|sa Z Z Z<|sv Z<|gp Z (P4 Z) (fun _=>Z) (gt Z (vl Z G_hit Z)<|gt Z (vb Z Z Z)<|sa Z Z Z<|sv Z<|A1<|B1 ?_)))
 cases h
 exact A8 (.inr Z) (B4 (B2 Z) C2) (.refl _)
def Ef (p1:Spot)(p2:Spot):Option Spot:=
  some (Spot.mk (I8 (p1.X - p2.X)) (I8 (p1.Y - p2.Y)))
theorem Jn(p1 p2 r)(h:Ef p1 p2=some r):PCall prog 239 [(.agg [(i64 p1.X),(i64 p1.Y)]),(.agg [(i64 p2.X),(i64 p2.Y)])] (.agg [(i64 r.X),(i64 r.Y)]):=by
 refine C0 (fk func239 ntmps239 m0 (by with_unfolding_all rfl)) (nl Z) ?_
 unfold Ef at h
 refine A5 (s0:=⟨T [(0,(.d _)),(1,(.d _))],G []⟩) (D2 Z Z) ?_
 refine B5<|sm Z<|sn Z Z<|sm Z<|A1<|B5<|sq Z<|sl Z (gq Z) Z (sq Z<|sl Z (gq Z) Z (sv Z<|sq Z<|sl Z (gq Z) Z (sq Z<|sl Z (gq Z) Z (sv Z<|sv Z<|Aj Z G_hit [(di<|I8 (p1.X - p2.X)),(di<|I8 (p1.Y - p2.Y))] Z (A1<|B1 ?_)))))
 cases h
 exact A8 (.inr Z) (B4 (H8 Z G_hit (nl Z) Z) C2) (.refl _)
def Fx (p1:Spot)(p2:Spot):Option Int:=
  some (I8 ((I8 (p1.X*p2.X))+ (I8 (p1.Y*p2.Y))))
theorem Ih(p1 p2 r)(h:Fx p1 p2=some r):PCall prog 241 [(.agg [(i64 p1.X),(i64 p1.Y)]),(.agg [(i64 p2.X),(i64 p2.Y)])] (i64 r):=by
 refine C0 (fk func241 ntmps241 m0 (by with_unfolding_all rfl)) (nl Z) ?_
 unfold Fx at h
 refine A5 (s0:=⟨T [(0,(.d _)),(1,(.d _))],G []⟩) (D2 Z Z) ?_
 refine B5<|sm Z<|sn Z Z<|sv Z<|A1<|B5<|sq Z<|sl Z (gq Z) Z (sq Z<|sl Z G_hit Z<|sv Z<|sq Z<|sl Z (gq Z) Z (sq Z<|sl Z G_hit Z<|sv Z<|sv Z<|sv Z<|A1<|B1 ?_))
 cases h
 exact A8 (.inr Z) (B4 (B2 Z) C2) (.refl _)
def Fh (p1:Int)(x1:(Int×Int)):Option (Stp (Int×Int) Int):=
  cond (decide (x1.2>0)) (cond (decide ((I8 ((I8 (x1.1+x1.2))* (I8 (x1.1+x1.2))))≤p1)) (some (.go ((I8 (x1.1+x1.2)),(I8 (x1.2.tdiv 2))))) (some (.go (x1.1,(I8 (x1.2.tdiv 2)))))) (some (.out x1.1))
def Eg [Lp](p1:Int):Option Int:=
  (loop (Fh p1) (0,67108864)).bind fun y1=>some y1
theorem Ox(p1 r)(h:Eg p1=some r):PCall prog 240 [(i64 p1)] (i64 r):=by
 refine C0 (fk func240 ntmps240 m0 (by with_unfolding_all rfl)) (nl Z) ?_
 unfold Eg at h
 refine A5 (s0:=⟨T [(0,(.d _))],G []⟩) (D2 Z Z) ?_
 refine B5<|sv Z<|A1<|B5<|sv Z<|A1<|A2<|B5<|sv Z<|A1<|bs h fun y1 hy1 h=>D5 (fun s=> ∃g1:Unit,Sb ⟨T [(3,(di y1))],G []⟩ s) ?_ ?_
 refine A6<|E0 (Fh p1) (fun (x1:(Int×Int)) (g2:Unit)=>⟨T [(0,(di p1)),(3,(di x1.1)),(4,(di x1.2))],G []⟩) (0,67108864) () _ hy1 (D2 Z Z) ?_
 intro x1 g2 z1 hz1 ez1
 unfold Fh at hz1
 refine A2<|B5<|sv Z<|sv Z<|A1<|cc Z hz1 (fun c1 hz1=> ?_)<|fun c1 hz1=> ?_
 refine A9<|A2<|A6<|B5<|sv Z<|sv Z<|sv Z<|sv Z<|sv Z<|sv Z<|sv Z<|sv Z<|sv Z<|A1<|cc Z hz1 (fun c2 hz1=> ?_)<|fun c2 hz1=> ?_
 refine B0<|sv Z<|sv Z<|sv Z<|sv Z<|A1<|D9<|B0<|sv Z<|sv Z<|sv Z<|A1<|E7 ?_
 cases hz1
 exact ⟨Z,(),(D2 Z Z)⟩
 refine A9<|D9<|B0<|sv Z<|sv Z<|sv Z<|A1<|E7 ?_
 cases hz1
 exact ⟨Z,(),(D2 Z Z)⟩
 refine C5 Z ?_
 cases hz1
 obtain rfl:=ez1 _ rfl
 refine ⟨nofun,C4 Z<|Y5 ?_⟩
 exact ⟨(),(D2 Z Z)⟩
 rintro _ ⟨g1,q1⟩
 refine A5 q1<|B5<|sv Z<|sv Z<|A1<|B1 ?_
 cases h
 exact A8 (.inr Z) (B4 (B2 Z) C2) (.refl _)
def Z7 [Lp](p1:Curve)(x2:Int):Option (Stp Int (Sum Unit Int)):=
  cond (decide ((I8 (x2+1))< (p1.Pts.length:Int))) ((D6 p1.Pts (I8 (x2+1))).bind fun v3=>(D6 p1.Pts x2).bind fun v4=>(Ef v3 v4).bind fun v5=>(Fx v5 v5).bind fun v6=>(Eg v6).bind fun v7=>(Fx v5 v5).bind fun v8=>cond ((I8 (v7*v7)) !=v8) (some (.out (.inr 3))) (cond ((decide (v7<1000))||(decide (v7>1048576))) (some (.out (.inr 2))) (((cond (decide (x2>0)) (D6 p1.Pts x2) (some default))).bind fun v9=>((cond (decide (x2>0)) (D6 p1.Pts (I8 (x2 - 1))) (some default))).bind fun v10=>((cond (decide (x2>0)) (Ef v9 v10) (some default))).bind fun v11=>((cond (decide (x2>0)) (Fx v5 v11) (some default))).bind fun v12=>cond ((decide (x2>0))&& (decide (v12≤0))) (some (.out (.inr 12))) (some (.go (I8 (x2+1))))))) (some (.out (.inl ())))
def Z8 (p1:Curve)(x1:Int):Option (Stp Int (Sum Unit Int)):=
  cond (decide (x1< (p1.Pts.length:Int))) ((D6 p1.Pts x1).bind fun v1=>(Ho v1).bind fun v2=>cond (!v2) (some (.out (.inr 2))) (some (.go (I8 (x1+1))))) (some (.out (.inl ())))
def Fy [Lp](p1:Curve):Option Int:=
  cond (decide ((p1.Pts.length:Int)<2)) (some 6) (cond (decide ((p1.Pts.length:Int)>16)) (some 5) (thenS (loop (Z8 p1) 0) (fun _=>thenS (loop (Z7 p1) 0) (fun _=>some 0) (fun r=>some r)) (fun r=>some r)))
theorem Np(p1 r)(h:Fy p1=some r):PCall prog 175 [(.agg [(.list (List.map I0 p1.Pts))])] (i64 r):=by
 refine C0 (fk func175 ntmps175 m0 (by with_unfolding_all rfl)) (nl Z) ?_
 unfold Fy at h
 refine A5 (s0:=⟨T [(0,(.d _))],G []⟩) (D2 Z Z) ?_
 refine lr<|fun u1 _=>sm Z<|sv Z<|A1<|A2<|B5<|sq Z<|sl Z G_hit Z<|sd Z (C1 Z)<|sv Z<|A1<|cc Z h (fun c1 h=> ?_)<|fun c1 h=> ?_
 refine B5<|sv Z<|A1<|B1 ?_
 cases h
 exact A8 (.inr Z) (B4 (B2 Z) C2) (.refl _)
 refine A9<|A2<|B5<|sq Z<|sl Z G_hit Z<|sd Z (C1 Z)<|sv Z<|A1<|cc Z h (fun c2 h=> ?_)<|fun c2 h=> ?_
 refine B5<|sv Z<|A1<|B1 ?_
 cases h
 exact A8 (.inr Z) (B4 (B2 Z) C2) (.refl _)
 refine A9<|A2<|B5<|sv Z<|A1<|js h fun z1 hz1 h=>D5 (fun s=> ∃(y1:Unit) (g1:Unit),z1= .inl y1∧Sb ⟨T [(1,(.ptr (1,u1) 0))],G [((1,u1),some<|.box 39 [(dl I0 p1.Pts)])]⟩ s) ?_ ?_
 refine A6<|E0 (Z8 p1) (fun (x1:Int) (g2:Unit)=>⟨T [(1,(.ptr (1,u1) 0)),(3,(di x1))],G [((1,u1),some<|.box 39 [(dl I0 p1.Pts)])]⟩) 0 () _ hz1 (D2 Z Z) ?_
 intro x1 g2 z2 hz2 ez2
 unfold Z8 at hz2
 refine A2<|B5<|sv Z<|sq Z<|sl Z G_hit Z<|sd Z (C1 Z)<|sv Z<|A1<|cc Z hz2 (fun c3 hz2=> ?_)<|fun c3 hz2=> ?_
 refine A9<|A2<|A6<|B5<|sq Z<|sl Z G_hit Z<|sv Z<|bs hz2 fun _ hv1 hz2=>sd Z (C9 Z Z hv1 Z)<|sd Z (B9 Z hv1 Z Z)<|bs hz2 fun v2 hv2 hz2=>B8 Z Z A3 (Wh _ _ hv2) (.inl Z) (B6 (.d (bo (!v2))) Z Z (A1<|cc Z hz2 (fun c4 hz2=> ?_)<|fun c4 hz2=> ?_))
 refine B5<|sv Z<|A1<|B1 ?_
 cases hz2
 obtain rfl:=ez2 _ rfl
 refine ⟨nofun,E4 ?_⟩
 rw [bJ]at h
 cases h
 exact A8 (.inr Z) (B4 (B2 Z) C2) (.refl _)
 refine A9<|D9<|B0<|sv Z<|sv Z<|sv Z<|A1<|E7 ?_
 cases hz2
 exact ⟨Z,(),(D2 Z Z)⟩
 refine C5 Z ?_
 cases hz2
 obtain rfl:=ez2 _ rfl
 refine ⟨nofun,C4 Z<|Y5 ?_⟩
 exact ⟨_,(),Z,(D2 Z Z)⟩
 rintro _ ⟨y1,g1,rfl,q1⟩
 rw [bI]at h
 refine A5 q1<|A2<|B5<|sv Z<|A1<|js h fun z3 hz3 h=>D5 (fun s=> ∃(y2:Unit) (g3:Unit),z3= .inl y2∧Sb ⟨T [],G []⟩ s) ?_ ?_
 refine A6<|E0 (Z7 p1) (fun (x2:Int) (g4:Unit)=>⟨T [(1,(.ptr (1,u1) 0)),(4,(di x2))],G [((1,u1),some<|.box 39 [(dl I0 p1.Pts)])]⟩) 0 () _ hz3 (D2 Z Z) ?_
 intro x2 g4 z4 hz4 ez4
 unfold Z7 at hz4
 refine A2<|B5<|sv Z<|sv Z<|sq Z<|sl Z G_hit Z<|sd Z (C1 Z)<|sv Z<|A1<|cc Z hz4 (fun c5 hz4=> ?_)<|fun c5 hz4=> ?_
 refine A9<|A2<|A6<|A2<|Lj Z fun u13 _=>sq Z<|sl Z G_hit Z<|sv Z<|sv Z<|bs hz4 fun _ hv3 hz4=>sd Z (C9 Z Z hv3 Z)<|sd Z (B9 Z hv3 Z Z)<|sq Z<|sl Z G_hit Z<|sv Z<|bs hz4 fun _ hv4 hz4=>sd Z (C9 Z Z hv4 Z)<|sd Z (B9 Z hv4 Z Z)<|bs hz4 fun v5 hv5 hz4=>B8 Z Z A3 (Jn _ _ _ hv5) (.inl Z) (sm Z<|Aj Z G_hit [(di v5.X),(di v5.Y)] Z (A1<|A2<|A5 (s0:=⟨T [(1,(.ptr _ _)),(4,(.d _)),(5,(.ptr _ _))],G [((1,u1),some<|.box 39 _),((5,u13),some<|.box 148 _)]⟩) (D2 Z Z) ?_))
 refine B0<|sd Z (B3 Z (gq Z) Z Z)<|sd Z (B3 Z (gq Z) Z Z)<|bs hz4 fun _ hv6 hz4=>B8 Z Z A3 (Ih _ _ _ hv6) (.inl Z) (bs hz4 fun _ hv7 hz4=>B8 Z Z A3 (Ox _ _ hv7) (.inl Z) (sv Z<|A1<|A2<|B5<|sv Z<|sv Z<|sv Z<|sd Z (B3 Z (gq Z) Z Z)<|sd Z (B3 Z (gq Z) Z Z)<|bs hz4 fun _ hv8 hz4=>B8 Z Z A3 (Ih _ _ _ hv8) (.inl Z) (sv Z<|A1<|cc Z hz4 (fun c6 hz4=> ?_)<|fun c6 hz4=> ?_)))
 refine B5<|sv Z<|A1<|B1 ?_
 cases hz4
 obtain rfl:=ez4 _ rfl
 refine ⟨nofun,E4 ?_⟩
 rw [bJ]at h
 cases h
 exact A8 (.inr Z) (B4 (B2 Z) C2) (.refl _)
 refine A9<|A2<|B5<|sv Z<|sv Z<|sv Z<|gf Z (fun _=>Z)<|gf Z (vb Z Z Z)<|sd Z (S9 Z Z<|fun hc=>A4<|L3 hc)<|A1<|cc Z hz4 (fun c7 hz4=> ?_)<|fun c7 hz4=> ?_
 refine A2<|A5 (s0:=⟨T [],G []⟩) (D2 Z Z) ?_
 refine B0<|sv Z<|A1<|B1 ?_
 cases hz4
 obtain rfl:=ez4 _ rfl
 refine ⟨nofun,E4 ?_⟩
 rw [bJ]at h
 cases h
 exact A8 (.inr Z) (B4 (B2 Z) C2) (.refl _)
 refine A9<|A2<|A5 (s0:=⟨T [(1,(.ptr _ _)),(4,(.d _)),(5,(.ptr _ _))],G [((1,u1),some<|.box 39 _),((5,u13),some<|.box 148 _)]⟩) (D2 Z Z) ?_
 refine J6 Z<|sv Z<|sv Z<|sv Z<|gt Z (fun _=>(B3 Z (gq Z) Z Z))<|gp Z (P4 Z) (fun _=>Z) (gt Z (vl Z G_hit Z)<|gt Z (fun _=>Z)<|bs hz4 fun v9 hv9 hz4=>gt Z (fun w7=>(C9 (A4 w7) (A4 w7) (G0 w7 hv9) Z))<|gt Z (fun w8=>(B9 (A4 w8) (G0 w8 hv9) Z Z))<|gp Z (P4 Z) (fun _=>Z) (gt Z (vl Z G_hit Z)<|gt Z (fun _=>Z)<|gt Z (vb Z Z Z)<|bs hz4 fun v10 hv10 hz4=>gt Z (fun w13=>(C9 (A4 w13) (A4 w13) (G0 w13 hv10) Z))<|gt Z (fun w14=>(B9 (A4 w14) (G0 w14 hv10) Z Z))<|bs hz4 fun v11 hv11 hz4=> ?_))
 refine L4 _ (.agg [(i64 v11.X),(i64 v11.Y)]) (P4 Z) (fun w15=>⟨_,[(.d (.agg [(i64 v9.X),(i64 v9.Y)])),(.d (.agg [(i64 v10.X),(i64 v10.Y)]))],_,_,(by simp only [A4 w15];rfl),Z,A3,Jn _ _ _<|G0 w15 hv11,(.inl Z)⟩) ?_
 refine bs hz4 fun v12 hv12 hz4=> ?_
 refine L4 _ (i64 v12) (P4 Z) (fun w16=>⟨_,[(.d (.agg [(i64 v5.X),(i64 v5.Y)])),(.d (.agg [(i64 v11.X),(i64 v11.Y)]))],_,_,(by simp only [A4 w16];rfl),Z,A3,Ih _ _ _<|G0 w16 hv12,(.inl Z)⟩) ?_
 refine gt Z (vb Z Z Z)<|sa Z Z Z<|A1<|cc Z hz4 (fun c8 hz4=> ?_)<|fun c8 hz4=> ?_
 refine A2<|A5 (s0:=⟨T [],G []⟩) (D2 Z Z) ?_
 refine B0<|sv Z<|A1<|B1 ?_
 cases hz4
 obtain rfl:=ez4 _ rfl
 refine ⟨nofun,E4 ?_⟩
 rw [bJ]at h
 cases h
 exact A8 (.inr Z) (B4 (B2 Z) C2) (.refl _)
 refine A9<|D9<|A5 (s0:=⟨T [(1,(.ptr _ _)),(4,(.d _))],G [((1,u1),some<|.box 39 _)]⟩) (D2 Z Z) ?_
 refine B0<|sv Z<|sv Z<|sv Z<|A1<|E7 ?_
 cases hz4
 exact ⟨Z,(),(D2 Z Z)⟩
 refine C5 Z ?_
 cases hz4
 obtain rfl:=ez4 _ rfl
 refine ⟨nofun,C4 Z<|Y5 ?_⟩
 exact ⟨_,(),Z,(D2 Z Z)⟩
 rintro _ ⟨y2,g3,rfl,q2⟩
 rw [bI]at h
 refine A5 q2<|B5<|sv Z<|A1<|B1 ?_
 cases h
 exact A8 (.inr Z) (B4 (B2 Z) C2) (.refl _)
def Ey (p1:Int):Option (Int×Int×Int):=
  cond (p1==1) (some (2000,30,90)) (cond (p1==2) (some (1000,20,60)) (cond (p1==3) (some (300,100,300)) (some (0,0,0))))
theorem Mi(p1 r)(h:Ey p1=some r):PCall prog 176 [(i64 p1)] (.tup [(i64 r.1),(i64 r.2.1),(i64 r.2.2)]):=by
 refine C0 (fk func176 ntmps176 m0 (by with_unfolding_all rfl)) (nl Z) ?_
 unfold Ey at h
 refine A5 (s0:=⟨T [(0,(.d _))],G []⟩) (D2 Z Z) ?_
 refine B5<|sv Z<|sv Z<|sv Z<|A1<|A2<|B5<|sv Z<|A1<|A6<|B5<|sv Z<|sv Z<|A1<|cc Z h (fun c1 h=> ?_)<|fun c1 h=> ?_
 refine B5<|sv Z<|sv Z<|sv Z<|A1<|B1 ?_
 cases h
 exact A8 (.inr Z) (Tf (B2 Z) (B2 Z) (B2 Z) C2 C2 C2) (.refl _)
 refine B5<|sv Z<|sv Z<|A1<|cc Z h (fun c2 h=> ?_)<|fun c2 h=> ?_
 refine B5<|sv Z<|sv Z<|sv Z<|A1<|B1 ?_
 cases h
 exact A8 (.inr Z) (Tf (B2 Z) (B2 Z) (B2 Z) C2 C2 C2) (.refl _)
 refine B5<|sv Z<|sv Z<|A1<|cc Z h (fun c3 h=> ?_)<|fun c3 h=> ?_
 refine B5<|sv Z<|sv Z<|sv Z<|A1<|B1 ?_
 cases h
 exact A8 (.inr Z) (Tf (B2 Z) (B2 Z) (B2 Z) C2 C2 C2) (.refl _)
 refine A9<|D9<|B5<|sv Z<|sv Z<|sv Z<|A1<|B1 ?_
 cases h
 exact A8 (.inr Z) (Tf (B2 Z) (B2 Z) (B2 Z) C2 C2 C2) (.refl _)
def V5 (p1:(List Int))(p2:Int)(p3:Int)(x1:Int):Option (Stp Int (Sum Unit Bool)):=
  cond (decide (x1< (p1.length:Int))) ((D6 p1 x1).bind fun v1=>((cond (!(decide (v1<p2))) (D6 p1 x1) (some default))).bind fun v2=>((cond ((!((decide (v1<p2))||(decide (v2≥p3))))&& (decide (x1>0))) (D6 p1 x1) (some default))).bind fun v3=>((cond ((!((decide (v1<p2))||(decide (v2≥p3))))&& (decide (x1>0))) (D6 p1 (I8 (x1 - 1))) (some default))).bind fun v4=>cond (((decide (v1<p2))||(decide (v2≥p3)))||((decide (x1>0))&& (decide (v3≤v4)))) (some (.out (.inr false))) (some (.go (I8 (x1+1))))) (some (.out (.inl ())))
def Bo [Lp](p1:(List Int))(p2:Int)(p3:Int):Option Bool:=
  thenS (loop (V5 p1 p2 p3) 0) (fun _=>some true) (fun r=>some r)
theorem Gz(p1 p2 p3 r)(h:Bo p1 p2 p3=some r):PCall prog 177 [(.list (List.map A7 p1)),(i64 p2),(i64 p3)] (bo r):=by
 refine C0 (fk func177 ntmps177 m0 (by with_unfolding_all rfl)) (nl Z) ?_
 unfold Bo at h
 refine A5 (s0:=⟨T [(0,(.d _)),(1,(.d _)),(2,(.d _))],G []⟩) (D2 Z Z) ?_
 refine B5<|sv Z<|A1<|A2<|B5<|sv Z<|A1<|js h fun z1 hz1 h=>D5 (fun s=> ∃(y1:Unit) (g1:Unit),z1= .inl y1∧Sb ⟨T [],G []⟩ s) ?_ ?_
 refine A6<|E0 (V5 p1 p2 p3) (fun (x1:Int) (g2:Unit)=>⟨T [(0,(dl A7 p1)),(1,(di p2)),(2,(di p3)),(7,(di x1))],G []⟩) 0 () _ hz1 (D2 Z Z) ?_
 intro x1 g2 z2 hz2 ez2
 unfold V5 at hz2
 refine A2<|B5<|sv Z<|sv Z<|sd Z (C1 Z)<|sv Z<|A1<|cc Z hz2 (fun c1 hz2=> ?_)<|fun c1 hz2=> ?_
 refine A9<|A2<|A6<|A2<|J6 Z<|sv Z<|sv Z<|bs hz2 fun _ hv1 hz2=>sd Z (C9 Z Z hv1 Z)<|sd Z (F5 Z hv1 Z)<|sv Z<|sv Z<|sv Z<|gf Z (fun _=>Z)<|gf Z (fun _=>Z)<|bs hz2 fun _ hv2 hz2=>gf Z (fun w3=>(C9 (A4 w3) (A4 w3) (G0 w3 hv2) Z))<|gf Z (fun w4=>(F5 (A4 w4) (G0 w4 hv2) Z))<|gf Z (fun _=>Z)<|gf Z (fun w6=>(T1 (A4 w6) (A4 w6) Z))<|sd Z (S9 Z Z<|fun hc=>A4<|L3 hc)<|sv Z<|gf Z (fun _=>Z)<|gf Z (vb Z Z Z)<|gf Z (fun w9=>(UD<|A4 w9))<|gv Z (Oo Z) (fun _=>Z) (gv Z (Oo Z) (fun _=>Z) (bs hz2 fun _ hv3 hz2=>gv Z (Oo Z) (fun w12=>(C9 (A4 w12) (A4 w12) (G0 w12 hv3) Z)) (gv Z (Oo Z) (fun w13=>(F5 (A4 w13) (G0 w13 hv3) Z)) (gv Z (Oo Z) (fun _=>Z) (gv Z (Oo Z) (fun _=>Z) (gv Z (Oo Z) (vb Z Z Z) (bs hz2 fun _ hv4 hz2=>gv Z (Oo Z) (fun w17=>(C9 (A4 w17) (A4 w17) (G0 w17 hv4) Z)) (gv Z (Oo Z) (fun w18=>(F5 (A4 w18) (G0 w18 hv4) Z)) (gv Z (Oo Z) (fun w19=>(T1 (A4 w19) (A4 w19) Z)) (gf Z (fun w20=>(QA (A4 w20) (fun hc=>A4<|SW w20 hc) Z))<|sd Z (S9 Z Z<|fun hc=>A4<|L3 hc)<|A1<|cc Z hz2 (fun c2 hz2=> ?_)<|fun c2 hz2=> ?_))))))))))
 refine A2<|A5 (s0:=⟨T [],G []⟩) (D2 Z Z) ?_
 refine B0<|sv Z<|A1<|B1 ?_
 cases hz2
 obtain rfl:=ez2 _ rfl
 refine ⟨nofun,E4 ?_⟩
 rw [bJ]at h
 cases h
 exact A8 (.inr Z) (B4 (B2 Z) C2) (.refl _)
 refine A9<|D9<|A5 (s0:=⟨T [(0,(.d _)),(1,(.d _)),(2,(.d _)),(7,(.d _))],G []⟩) (D2 Z Z) ?_
 refine B0<|sv Z<|sv Z<|sv Z<|A1<|E7 ?_
 cases hz2
 exact ⟨Z,(),(D2 Z Z)⟩
 refine C5 Z ?_
 cases hz2
 obtain rfl:=ez2 _ rfl
 refine ⟨nofun,C4 Z<|Y5 ?_⟩
 exact ⟨_,(),Z,(D2 Z Z)⟩
 rintro _ ⟨y1,g1,rfl,q1⟩
 rw [bI]at h
 refine A5 q1<|B5<|sv Z<|A1<|B1 ?_
 cases h
 exact A8 (.inr Z) (B4 (B2 Z) C2) (.refl _)
def Dh [Lp](p1:Map)(p2:Int):Option Int:=
  (D6 p1.Lanes p2).bind fun v1=>cond ((decide (v1.Kind<1))||(decide (v1.Kind>3))) (some 4) ((Fy v1.Curve_).bind fun v2=>cond (v2 !=0) (some v2) ((Ey v1.Kind).bind fun v3=>(Y4 v1.Half 200 4000).bind fun v4=>((cond (!(!v4)) (Y4 v1.Limit 1 v3.1) (some default))).bind fun v5=>cond ((!v4)||(!v5)) (some 2) (cond (decide ((v1.Next.length:Int)>3)) (some 8) ((Bo v1.Next (I8 (p2+1)) (p1.Lanes.length:Int)).bind fun v6=>cond (!v6) (some 11) (some 0)))))
theorem Ps(p1 p2 r)(h:Dh p1 p2=some r):PCall prog 72 [(.agg (O1 p1)),(i64 p2)] (i64 r):=by
 refine C0 (fk func72 ntmps72 m0 (by with_unfolding_all rfl)) (nl Z) ?_
 unfold Dh at h
 refine A5 (s0:=⟨T [(0,(.d _)),(1,(.d _))],G []⟩) (D2 Z Z) ?_
 refine lr<|fun u1 _=>sm Z<|sv Z<|A1<|lr<|fun u2 _=>sq Z<|sl Z G_hit Z<|sv Z<|bs h fun v1 hv1 h=>sd Z (C9 Z Z hv1 Z)<|sd Z (B9 Z hv1 Z Z)<|sm Z<|Aj Z G_hit (De v1) Z (A1<|A2<|B5<|sq Z<|sl Z G_hit Z<|sv Z<|sv Z<|gp Z (I9 Z) (fun _=>Z) (gf Z (vl Z G_hit Z)<|gf Z (vb Z Z Z)<|sd Z (S9 Z Z<|fun hc=>A4<|L3 hc)<|A1<|cc Z h (fun c1 h=> ?_)<|fun c1 h=> ?_))
 refine B5<|sv Z<|A1<|B1 ?_
 cases h
 exact A8 (.inr Z) (B4 (B2 Z) C2) (.refl _)
 refine A9<|B5<|sq Z<|sd Z (B3 Z G_hit Z Z)<|bs h fun _ hv2 h=>B8 Z Z A3 (Np _ _ hv2) (.inl Z) (sv Z<|A1<|A2<|A2<|A5 (s0:=⟨T [(1,(.d _)),(2,(.ptr _ _)),(5,(.ptr _ _)),(6,(.d _))],G [((2,u1),some<|.box 27 _),((5,u2),some<|.box 42 _)]⟩) (D2 Z Z) ?_)
 refine B0<|sv Z<|sv Z<|A1<|cc Z h (fun c2 h=> ?_)<|fun c2 h=> ?_
 refine B5<|sv Z<|sv Z<|A1<|B1 ?_
 cases h
 exact A8 (.inr Z) (B4 (B2 Z) C2) (.refl _)
 refine A9<|B5<|sq Z<|sl Z (gq Z) Z (bs h fun v3 hv3 h=>B8 Z Z A3 (Mi _ _ hv3) (.inl Z) (sv Z<|sv Z<|sv Z<|sv Z<|sv Z<|sv Z<|sv Z<|A1<|A2<|B5<|sq Z<|sl Z (gq Z) Z (bs h fun v4 hv4 h=>B8 Z Z A3 (Av _ _ _ _ hv4) (.inl Z) (B6 (.d (bo (!v4))) Z Z (sv Z<|gp Z (I9 Z) (fun _=>Z) (gf Z (vl Z (gq Z) Z)<|gf Z (fun _=>Z)<|bs h fun v5 hv5 h=> ?_))))))
 refine L4 _ (bo v5) (I9 Z) (fun w7=>⟨_,[(di v1.Limit),(di 1),(di v3.1)],_,_,(by simp only [A4 w7];rfl),Z,A3,Av _ _ _ _<|G0 w7 hv5,(.inl Z)⟩) ?_
 refine Ck _ (.d (bo (!v5))) Z (I9 Z) (fun w8=>(by simp only [A4 w8];rfl)) ?_
 refine sd Z (S9 Z Z<|fun hc=>A4<|L3 hc)<|A1<|cc Z h (fun c3 h=> ?_)<|fun c3 h=> ?_
 refine A2<|A5 (s0:=⟨T [],G []⟩) (D2 Z Z) ?_
 refine B0<|sv Z<|A1<|B1 ?_
 cases h
 exact A8 (.inr Z) (B4 (B2 Z) C2) (.refl _)
 refine A9<|A2<|A2<|A5 (s0:=⟨T [(1,(.d _)),(2,(.ptr _ _)),(5,(.ptr _ _))],G [((2,u1),some<|.box 27 _),((5,u2),some<|.box 42 _)]⟩) (D2 Z Z) ?_
 refine B0<|sq Z<|sl Z (gq Z) Z (sd Z (C1 Z)<|sv Z<|A1<|cc Z h (fun c4 h=> ?_)<|fun c4 h=> ?_)
 refine B5<|sv Z<|A1<|B1 ?_
 cases h
 exact A8 (.inr Z) (B4 (B2 Z) C2) (.refl _)
 refine A9<|A2<|B5<|sq Z<|sl Z (gq Z) Z (sv Z<|sv Z<|sq Z<|sl Z G_hit Z<|sd Z (C1 Z)<|bs h fun v6 hv6 h=>B8 Z Z A3 (Gz _ _ _ _ hv6) (.inl Z) (B6 (.d (bo (!v6))) Z Z (A1<|cc Z h (fun c5 h=> ?_)<|fun c5 h=> ?_)))
 refine B5<|sv Z<|A1<|B1 ?_
 cases h
 exact A8 (.inr Z) (B4 (B2 Z) C2) (.refl _)
 refine A9<|B5<|sv Z<|A1<|B1 ?_
 cases h
 exact A8 (.inr Z) (B4 (B2 Z) C2) (.refl _)
def V6 (p1:Map)(v1:Lane)(x2:Int):Option (Stp Int (Sum Unit Int)):=
  cond (decide (x2< (v1.Next.length:Int))) ((D6 v1.Next x2).bind fun v2=>(D6 p1.Lanes v2).bind fun v3=>cond (v3.Kind !=v1.Kind) (some (.out (.inr 4))) ((D6 v3.Curve_.Pts 0).bind fun v4=>(D6 v1.Curve_.Pts (I8 ((v1.Curve_.Pts.length:Int) - 1))).bind fun v5=>cond (!(v4.X==v5.X&& (v4.Y==v5.Y&&true))) (some (.out (.inr 3))) (some (.go (I8 (x2+1)))))) (some (.out (.inl ())))
def V7 [Lp](p1:Map)(x1:Int):Option (Stp Int (Sum Unit Int)):=
  cond (decide (x1< (p1.Lanes.length:Int))) ((D6 p1.Lanes x1).bind fun v1=>thenS (loop (V6 p1 v1) 0) (fun _=>some (.go (I8 (x1+1)))) (fun r=>some (.out (.inr r)))) (some (.out (.inl ())))
def Di [Lp](p1:Map):Option Int:=
  thenS (loop (V7 p1) 0) (fun _=>some 0) (fun r=>some r)
theorem Pt(p1 r)(h:Di p1=some r):PCall prog 73 [(.agg (O1 p1))] (i64 r):=by
 refine C0 (fk func73 ntmps73 m0 (by with_unfolding_all rfl)) (nl Z) ?_
 unfold Di at h
 refine A5 (s0:=⟨T [(0,(.d _))],G []⟩) (D2 Z Z) ?_
 refine lr<|fun u1 _=>sm Z<|sv Z<|A1<|A2<|B5<|sv Z<|A1<|js h fun z1 hz1 h=>D5 (fun s=> ∃(y1:Unit) (g1:Unit),z1= .inl y1∧Sb ⟨T [],G []⟩ s) ?_ ?_
 refine A6<|E0 (V7 p1) (fun (x1:Int) (g2:Unit)=>⟨T [(1,(.ptr (1,u1) 0)),(3,(di x1))],G [((1,u1),some<|.box 27 (I4 p1))]⟩) 0 () _ hz1 (D2 Z Z) ?_
 intro x1 g2 z2 hz2 ez2
 unfold V7 at hz2
 refine A2<|B5<|sv Z<|sq Z<|sl Z G_hit Z<|sd Z (C1 Z)<|sv Z<|A1<|cc Z hz2 (fun c1 hz2=> ?_)<|fun c1 hz2=> ?_
 refine A9<|A2<|A6<|lr<|fun u4 _=>sq Z<|sl Z G_hit Z<|sv Z<|bs hz2 fun v1 hv1 hz2=>sd Z (C9 Z Z hv1 Z)<|sd Z (B9 Z hv1 Z Z)<|sm Z<|Aj Z G_hit (De v1) Z (A1<|B5<|sv Z<|A1<|js hz2 fun z3 hz3 hz2=>D5 (fun s=> ∃(y2:Unit) (g3:Unit),z3= .inl y2∧Sb ⟨T [(1,(.ptr (1,u1) 0)),(3,(di x1))],G [((1,u1),some<|.box 27 (I4 p1))]⟩ s) ?_ ?_)
 refine A6<|E0 (V6 p1 v1) (fun (x2:Int) (g4:Unit)=>⟨T [(1,(.ptr (1,u1) 0)),(3,(di x1)),(4,(.ptr (4,u4) 0)),(5,(di x2))],G [((1,u1),some<|.box 27 (I4 p1)),((4,u4),some<|.box 42 (De v1))]⟩) 0 () _ hz3 (D2 Z Z) ?_
 intro x2 g4 z4 hz4 ez4
 unfold V6 at hz4
 refine A2<|B5<|sv Z<|sq Z<|sl Z (gq Z) Z (sd Z (C1 Z)<|sv Z<|A1<|cc Z hz4 (fun c2 hz4=> ?_)<|fun c2 hz4=> ?_)
 refine A9<|A2<|A6<|A2<|Lj Z fun u7 _=>sq Z<|sl Z G_hit Z<|sq Z<|sl Z (gq Z) Z (sv Z<|bs hz4 fun _ hv2 hz4=>sd Z (C9 Z Z hv2 Z)<|sd Z (F5 Z hv2 Z)<|bs hz4 fun v3 hv3 hz4=>sd Z (C9 Z Z hv3 Z)<|sd Z (B9 Z hv3 Z Z)<|sm Z<|Aj Z G_hit (De v3) Z (A1<|A2<|A2<|A5 (s0:=⟨T [(1,(.ptr _ _)),(3,(.d _)),(4,(.ptr _ _)),(5,(.d _)),(6,(.ptr _ _))],G [((1,u1),some<|.box 27 _),((4,u4),some<|.box 42 _),((6,u7),some<|.box 42 _)]⟩) (D2 Z Z) ?_))
 refine B0<|sq Z<|sl Z (gq Z) Z (sq Z<|sl Z (gq Z) Z (sv Z<|A1<|cc Z hz4 (fun c3 hz4=> ?_)<|fun c3 hz4=> ?_))
 refine B5<|sv Z<|A1<|B1 ?_
 cases hz4
 obtain rfl:=ez4 _ rfl
 refine ⟨nofun,E4 ?_⟩
 rw [bJ]at hz2
 cases hz2
 obtain rfl:=ez2 _ rfl
 refine ⟨nofun,E4 ?_⟩
 rw [bJ]at h
 cases h
 exact A8 (.inr Z) (B4 (B2 Z) C2) (.refl _)
 refine A9<|A2<|J6 Z<|sq Z<|sq Z<|sl Z (gq Z) Z (bs hz4 fun v4 hv4 hz4=>sd Z (C9 Z Z hv4 Z)<|sd Z (B9 Z hv4 Z Z)<|sq Z<|sp Z Z<|sl Z (gq Z) Z (sq Z<|sp Z Z<|sl Z (gq Z) Z (sd Z (C1 Z)<|sv Z<|bs hz4 fun v5 hv5 hz4=>sd Z (C9 Z Z hv5 Z)<|sd Z (B9 Z hv5 Z Z)<|B6 (.d (bo (!(v4.X==v5.X&& (v4.Y==v5.Y&&true))))) Z Z (A1<|cc Z hz4 (fun c4 hz4=> ?_)<|fun c4 hz4=> ?_))))
 refine A2<|A5 (s0:=⟨T [],G []⟩) (D2 Z Z) ?_
 refine B0<|sv Z<|A1<|B1 ?_
 cases hz4
 obtain rfl:=ez4 _ rfl
 refine ⟨nofun,E4 ?_⟩
 rw [bJ]at hz2
 cases hz2
 obtain rfl:=ez2 _ rfl
 refine ⟨nofun,E4 ?_⟩
 rw [bJ]at h
 cases h
 exact A8 (.inr Z) (B4 (B2 Z) C2) (.refl _)
 refine A9<|D9<|A5 (s0:=⟨T [(1,(.ptr _ _)),(3,(.d _)),(4,(.ptr _ _)),(5,(.d _))],G [((1,u1),some<|.box 27 _),((4,u4),some<|.box 42 _)]⟩) (D2 Z Z) ?_
 refine B0<|sv Z<|sv Z<|sv Z<|A1<|E7 ?_
 cases hz4
 exact ⟨Z,(),(D2 Z Z)⟩
 refine C5 Z ?_
 cases hz4
 obtain rfl:=ez4 _ rfl
 refine ⟨nofun,C4 Z<|Y5 ?_⟩
 exact ⟨_,(),Z,(D2 Z Z)⟩
 rintro _ ⟨y2,g3,rfl,q1⟩
 rw [bI]at hz2
 refine D9<|A5 q1<|B0<|sv Z<|sv Z<|sv Z<|A1<|E7 ?_
 cases hz2
 exact ⟨Z,(),(D2 Z Z)⟩
 refine C5 Z ?_
 cases hz2
 obtain rfl:=ez2 _ rfl
 refine ⟨nofun,C4 Z<|Y5 ?_⟩
 exact ⟨_,(),Z,(D2 Z Z)⟩
 rintro _ ⟨y1,g1,rfl,q2⟩
 rw [bI]at h
 refine A5 q2<|B5<|sv Z<|A1<|B1 ?_
 cases h
 exact A8 (.inr Z) (B4 (B2 Z) C2) (.refl _)
def Q3 [Lp](p1:Map)(p2:Signal)(x2:Int):Option (Stp Int (Sum Unit Int)):=
  cond (decide (x2< (p2.Phases.length:Int))) ((D6 p2.Phases x2).bind fun v4=>(Bo v4.Green 0 (p1.Lanes.length:Int)).bind fun v5=>cond (!v5) (some (.out (.inr 11))) (some (.go (I8 (x2+1))))) (some (.out (.inl ())))
def Q4 (p2:Signal)(x1:(Bool×Int)):Option (Stp (Bool×Int) Bool):=
  cond (decide (x1.2< (p2.Phases.length:Int))) (((cond x1.1 (D6 p2.Phases x1.2) (some default))).bind fun v2=>((cond x1.1 (Y4 v2.Ticks 1 10000) (some default))).bind fun v3=>some (.go ((x1.1&&v3),(I8 (x1.2+1))))) (some (.out x1.1))
def Bi [Lp](p1:Map)(p2:Signal):Option Int:=
  cond ((p2.Phases.length:Int)==0) (some 6) (cond (decide ((p2.Phases.length:Int)>6)) (some 8) ((Y4 p2.Offset 0 1099511627776).bind fun v1=>(loop (Q4 p2) (v1,0)).bind fun y1=>cond (!y1) (some 2) (thenS (loop (Q3 p1 p2) 0) (fun _=>some 0) (fun r=>some r))))
theorem Nq(p1 p2 r)(h:Bi p1 p2=some r):PCall prog 74 [(.agg (O1 p1)),(.agg [(i64 p2.Offset),(.list (List.map G3 p2.Phases))])] (i64 r):=by
 refine C0 (fk func74 ntmps74 m0 (by with_unfolding_all rfl)) (nl Z) ?_
 unfold Bi at h
 refine A5 (s0:=⟨T [(0,(.d _)),(1,(.d _))],G []⟩) (D2 Z Z) ?_
 refine lr<|fun u1 _=>sm Z<|sm Z<|sv Z<|A1<|A2<|B5<|sq Z<|sl Z G_hit Z<|sd Z (C1 Z)<|sv Z<|A1<|cc Z h (fun c1 h=> ?_)<|fun c1 h=> ?_
 refine B5<|sv Z<|A1<|B1 ?_
 cases h
 exact A8 (.inr Z) (B4 (B2 Z) C2) (.refl _)
 refine A9<|A2<|B5<|sq Z<|sl Z G_hit Z<|sd Z (C1 Z)<|sv Z<|A1<|cc Z h (fun c2 h=> ?_)<|fun c2 h=> ?_
 refine B5<|sv Z<|A1<|B1 ?_
 cases h
 exact A8 (.inr Z) (B4 (B2 Z) C2) (.refl _)
 refine A9<|B5<|sq Z<|sl Z G_hit Z<|bs h fun v1 hv1 h=>B8 Z Z A3 (Av _ _ _ _ hv1) (.inl Z) (sv Z<|A1<|A2<|B5<|sv Z<|A1<|bs h fun y1 hy1 h=>D5 (fun s=> ∃g1:Unit,Sb ⟨T [(2,(.ptr (2,u1) 0)),(3,(.ptr (3,u1) 0)),(5,(.d (bo y1)))],G [((2,u1),some<|.box 27 (I4 p1)),((3,u1),some<|.box 48 [(di p2.Offset),(dl G3 p2.Phases)])]⟩ s) ?_ ?_)
 refine A6<|E0 (Q4 p2) (fun (x1:(Bool×Int)) (g2:Unit)=>⟨T [(2,(.ptr (2,u1) 0)),(3,(.ptr (3,u1) 0)),(5,(.d (bo x1.1))),(6,(di x1.2))],G [((2,u1),some<|.box 27 (I4 p1)),((3,u1),some<|.box 48 [(di p2.Offset),(dl G3 p2.Phases)])]⟩) (v1,0) () _ hy1 (D2 Z Z) ?_
 intro x1 g2 z1 hz1 ez1
 unfold Q4 at hz1
 refine A2<|B5<|sv Z<|sq Z<|sl Z (gq Z) Z (sd Z (C1 Z)<|sv Z<|A1<|cc Z hz1 (fun c3 hz1=> ?_)<|fun c3 hz1=> ?_)
 refine A9<|A2<|A6<|B0<|sv Z<|sv Z<|gp Z (P4 Z) (fun _=>Z) (gt Z (vl Z (gq Z) Z)<|gt Z (fun _=>Z)<|bs hz1 fun v2 hv2 hz1=>gt Z (fun w4=>(C9 (A4 w4) (A4 w4) (G0 w4 hv2) Z)) ?_)
 refine gt Z (fun w5=>(by simp only [A4 w5];rfl)) ?_
 refine gt Z (fun w6=>(F5 (A4 w6) (G0 w6 hv2) Z))<|bs hz1 fun v3 hv3 hz1=> ?_
 refine L4 x1.1 (bo v3) (P4 Z) (fun w7=>⟨_,[(di v2.Ticks),(di 1),(di 10000)],_,_,(by simp only [A4 w7];rfl),Z,A3,Av _ _ _ _<|G0 w7 hv3,(.inl Z)⟩) ?_
 refine sa Z Z Z<|sv Z<|A1<|D9<|B0<|sv Z<|sv Z<|sv Z<|A1<|E7 ?_
 cases hz1
 exact ⟨Z,(),(D2 Z Z)⟩
 refine C5 Z ?_
 cases hz1
 obtain rfl:=ez1 _ rfl
 refine ⟨nofun,C4 Z<|Y5 ?_⟩
 exact ⟨(),(D2 Z Z)⟩
 rintro _ ⟨g1,q1⟩
 refine A5 q1<|A2<|B5<|sv Z<|B6 (.d (bo (!y1))) Z Z (A1<|cc Z h (fun c4 h=> ?_)<|fun c4 h=> ?_)
 refine B5<|sv Z<|A1<|B1 ?_
 cases h
 exact A8 (.inr Z) (B4 (B2 Z) C2) (.refl _)
 refine A9<|A2<|B5<|sv Z<|A1<|js h fun z2 hz2 h=>D5 (fun s=> ∃(y2:Unit) (g3:Unit),z2= .inl y2∧Sb ⟨T [],G []⟩ s) ?_ ?_
 refine A6<|E0 (Q3 p1 p2) (fun (x2:Int) (g4:Unit)=>⟨T [(2,(.ptr (2,u1) 0)),(3,(.ptr (3,u1) 0)),(7,(di x2))],G [((2,u1),some<|.box 27 (I4 p1)),((3,u1),some<|.box 48 [(di p2.Offset),(dl G3 p2.Phases)])]⟩) 0 () _ hz2 (D2 Z Z) ?_
 intro x2 g4 z3 hz3 ez3
 unfold Q3 at hz3
 refine A2<|B5<|sv Z<|sq Z<|sl Z (gq Z) Z (sd Z (C1 Z)<|sv Z<|A1<|cc Z hz3 (fun c5 hz3=> ?_)<|fun c5 hz3=> ?_)
 refine A9<|A2<|A6<|A2<|J6 Z<|sq Z<|sl Z (gq Z) Z (sv Z<|bs hz3 fun _ hv4 hz3=>sd Z (C9 Z Z hv4 Z)<|sv Z<|sd Z (F5 Z hv4 Z)<|sq Z<|sl Z G_hit Z<|sd Z (C1 Z)<|bs hz3 fun v5 hv5 hz3=>B8 Z Z A3 (Gz _ _ _ _ hv5) (.inl Z) (B6 (.d (bo (!v5))) Z Z (A1<|cc Z hz3 (fun c6 hz3=> ?_)<|fun c6 hz3=> ?_)))
 refine B5<|sv Z<|A1<|B1 ?_
 cases hz3
 obtain rfl:=ez3 _ rfl
 refine ⟨nofun,E4 ?_⟩
 rw [bJ]at h
 cases h
 exact A8 (.inr Z) (B4 (B2 Z) C2) (.refl _)
 refine A9<|D9<|B0<|sv Z<|sv Z<|sv Z<|A1<|E7 ?_
 cases hz3
 exact ⟨Z,(),(D2 Z Z)⟩
 refine C5 Z ?_
 cases hz3
 obtain rfl:=ez3 _ rfl
 refine ⟨nofun,C4 Z<|Y5 ?_⟩
 exact ⟨_,(),Z,(D2 Z Z)⟩
 rintro _ ⟨y2,g3,rfl,q2⟩
 rw [bI]at h
 refine A5 q2<|B5<|sv Z<|A1<|B1 ?_
 cases h
 exact A8 (.inr Z) (B4 (B2 Z) C2) (.refl _)
def X4 [Lp](p1:Curve)(x1:((List Int)×Int)):Option (Stp ((List Int)×Int) (List Int)):=
  cond (decide ((I8 (x1.2+1))< (p1.Pts.length:Int))) ((D6 p1.Pts (I8 (x1.2+1))).bind fun v2=>(D6 p1.Pts x1.2).bind fun v3=>(Ef v2 v3).bind fun v4=>(Fx v4 v4).bind fun v5=>(Eg v5).bind fun v6=>(U5 x1.1 [v6]).bind fun v7=>some (.go (v7,(I8 (x1.2+1))))) (some (.out x1.1))
def Gn [Lp](p1:Curve):Option (List Int):=
  (Fy p1).bind fun v1=>cond (v1 !=0) (some []) ((loop (X4 p1) ([],0)).bind fun y1=>some y1)
theorem Ub(p1 r)(h:Gn p1=some r):PCall prog 242 [(.agg [(.list (List.map I0 p1.Pts))])] (.list (List.map A7 r)):=by
 refine C0 (fk func242 ntmps242 (fun r=>if r==8 then [1005]else []) (by with_unfolding_all rfl)) (nl Z) ?_
 unfold Gn at h
 refine A5 (s0:=⟨T [(0,(.d _))],G []⟩) (D2 Z Z) ?_
 refine lr<|fun u1 _=>sm Z<|sv Z<|A1<|A2<|B5<|sd Z (B3 Z G_hit Z Z)<|bs h fun _ hv1 h=>B8 Z Z A3 (Np _ _ hv1) (.inl Z) (sv Z<|A1<|cc Z h (fun c1 h=> ?_)<|fun c1 h=> ?_)
 refine B5<|sv Z<|A1<|B1 ?_
 cases h
 exact A8 (.inr Z) (B4 (B2 Z) C2) DLe.nil
 refine A9<|B5<|sv Z<|A1<|A2<|B5<|sv Z<|A1<|bs h fun y1 hy1 h=>D5 (fun s=> ∃g1:Nat,Sb ⟨T [(3,(oS y1 (35,g1)))],G [((35,g1),oB 2 1 A7 y1)]⟩ s) ?_ ?_
 refine A6<|E0 (X4 p1) (fun (x1:((List Int)×Int)) (g2:Nat)=>⟨T [(1,(.ptr (1,u1) 0)),(3,(oS x1.1 (35,g2))),(4,(di x1.2))],G [((1,u1),some<|.box 39 [(dl I0 p1.Pts)]),((35,g2),oB 2 1 A7 x1.1)]⟩) ([],0) 0 _ hy1 (C3 (U2 Z)<|B7 G_hit (.of Z)<|Y1 trivial) ?_
 intro x1 g2 z1 hz1 ez1
 unfold X4 at hz1
 refine A2<|B5<|sv Z<|sv Z<|sq Z<|sl Z G_hit Z<|sd Z (C1 Z)<|sv Z<|A1<|cc Z hz1 (fun c2 hz1=> ?_)<|fun c2 hz1=> ?_
 refine A9<|A2<|A6<|A2<|Lj Z fun u7 _=>sq Z<|sl Z G_hit Z<|sv Z<|sv Z<|bs hz1 fun _ hv2 hz1=>sd Z (C9 Z Z hv2 Z)<|sd Z (B9 Z hv2 Z Z)<|sq Z<|sl Z G_hit Z<|sv Z<|bs hz1 fun _ hv3 hz1=>sd Z (C9 Z Z hv3 Z)<|sd Z (B9 Z hv3 Z Z)<|bs hz1 fun v4 hv4 hz1=>B8 Z Z A3 (Jn _ _ _ hv4) (.inl Z) (sm Z<|Aj Z G_hit [(di v4.X),(di v4.Y)] Z (A1<|A5 (s0:=⟨T [(1,(.ptr (1,u1) 0)),(3,(oS x1.1 (35,g2))),(4,(di x1.2)),(5,(.ptr (5,u7) 0))],G [((1,u1),some<|.box 39 [(dl I0 p1.Pts)]),((35,g2),oB 2 1 A7 x1.1),((5,u7),some<|.box 148 [(di v4.X),(di v4.Y)])]⟩) (C3 (U2 Z)<|sg Z<|D3 (gq Z)<|B7 G_hit (.of Z) trivial) ?_))
 refine O9 fun u8 _=>B6 (oS x1.1 (35,g2)) Z Z (sd Z (B3 Z (gq Z) Z Z)<|sd Z (B3 Z (gq Z) Z Z)<|bs hz1 fun _ hv5 hz1=>B8 Z Z A3 (Ih _ _ _ hv5) (.inl Z) (bs hz1 fun v6 hv6 hz1=>B8 Z Z A3 (Ox _ _ hv6) (.inl Z) (B6 (dl A7 [v6]) Z Z (bs hz1 fun _ hv7 hz1=>J2 A7 (35,g2) x1.1 v6 [] _ (F4<|fun _=>Z) Z (gq Z) hv7 (ss Z<|A1<|D9<|B0<|sv Z<|sv Z<|sv Z<|A1<|E7 ?_)))))
 cases hz1
 exact ⟨Z,u8,(C3 ⟨.of Z,(.of (Ai<|O0 hv7).symm), .of Z,trivial⟩<|sg Z<|P5 G_hit trivial)⟩
 refine C5 Z ?_
 cases hz1
 obtain rfl:=ez1 _ rfl
 refine ⟨nofun,C4 Z<|Y5 ?_⟩
 exact ⟨g2,(C3 ⟨.of Z,trivial⟩<|D3 (gq Z) trivial)⟩
 rintro _ ⟨g1,q1⟩
 refine A5 q1<|B5<|B6 (oS y1 (35,g1)) Z Z (B6 (oS y1 (35,g1)) Z Z (A1<|B1 ?_))
 cases h
 exact A8 (.inr Z) (B4 (B2 Z)<|Ed G_hit) Ec
def U4 (v1:(List Int))(x1:(Int×Int)):Option (Stp (Int×Int) Int):=
  cond (decide (x1.2< (v1.length:Int))) ((D6 v1 x1.2).bind fun v2=>some (.go ((I8 (x1.1+v2)),(I8 (x1.2+1))))) (some (.out x1.1))
def Cx [Lp](p1:Curve):Option Int:=
  (Gn p1).bind fun v1=>(loop (U4 v1) (0,0)).bind fun y1=>some y1
theorem Mj(p1 r)(h:Cx p1=some r):PCall prog 178 [(.agg [(.list (List.map I0 p1.Pts))])] (i64 r):=by
 refine C0 (fk func178 ntmps178 m0 (by with_unfolding_all rfl)) (nl Z) ?_
 unfold Cx at h
 refine A5 (s0:=⟨T [(0,(.d _))],G []⟩) (D2 Z Z) ?_
 refine B5<|sm Z<|sv Z<|A1<|B5<|sv Z<|A1<|B5<|sd Z (B3 Z G_hit Z Z)<|bs h fun v1 hv1 h=>B8 Z Z A3 (Ub _ _ hv1) (.inl Z) (sv Z<|A1<|A2<|B5<|sv Z<|A1<|bs h fun y1 hy1 h=>D5 (fun s=> ∃g1:Unit,Sb ⟨T [(3,(di y1))],G []⟩ s) ?_ ?_)
 refine A6<|E0 (U4 v1) (fun (x1:(Int×Int)) (g2:Unit)=>⟨T [(3,(di x1.1)),(4,(dl A7 v1)),(5,(di x1.2))],G []⟩) (0,0) () _ hy1 (D2 Z Z) ?_
 intro x1 g2 z1 hz1 ez1
 unfold U4 at hz1
 refine A2<|B5<|sv Z<|sv Z<|sd Z (C1 Z)<|sv Z<|A1<|cc Z hz1 (fun c1 hz1=> ?_)<|fun c1 hz1=> ?_
 refine A9<|A2<|A6<|B0<|sv Z<|sv Z<|sv Z<|bs hz1 fun _ hv2 hz1=>sd Z (C9 Z Z hv2 Z)<|sd Z (F5 Z hv2 Z)<|sv Z<|sv Z<|A1<|D9<|B0<|sv Z<|sv Z<|sv Z<|A1<|E7 ?_
 cases hz1
 exact ⟨Z,(),(D2 Z Z)⟩
 refine C5 Z ?_
 cases hz1
 obtain rfl:=ez1 _ rfl
 refine ⟨nofun,C4 Z<|Y5 ?_⟩
 exact ⟨(),(D2 Z Z)⟩
 rintro _ ⟨g1,q1⟩
 refine A5 q1<|B5<|sv Z<|sv Z<|A1<|B1 ?_
 cases h
 exact A8 (.inr Z) (B4 (B2 Z) C2) (.refl _)
def V8 [Lp](p1:Map)(p2:Zone)(x2:Int):Option (Stp Int (Sum Unit Int)):=
  cond (decide (x2< (p2.Parts.length:Int))) ((D6 p2.Parts x2).bind fun v4=>((cond (!((decide (v4.From<0))||(decide (v4.From≥v4.To)))) (D6 p1.Lanes v4.Lane_) (some default))).bind fun v5=>((cond (!((decide (v4.From<0))||(decide (v4.From≥v4.To)))) (Cx v5.Curve_) (some default))).bind fun v6=>cond (((((decide (v4.From<0))||(decide (v4.From≥v4.To)))||(decide (v4.To>v6)))||(decide (v4.Rank<0)))||(decide (v4.Rank>100))) (some (.out (.inr 2))) (some (.go (I8 (x2+1))))) (some (.out (.inl ())))
def Cy (p2:Zone)(x1:((List Int)×Int)):Option (Stp ((List Int)×Int) (List Int)):=
  cond (decide (x1.2< (p2.Parts.length:Int))) ((D6 p2.Parts x1.2).bind fun v1=>(U5 x1.1 [v1.Lane_]).bind fun v2=>some (.go (v2,(I8 (x1.2+1))))) (some (.out x1.1))
def Dj [Lp](p1:Map)(p2:Zone):Option Int:=
  cond (decide ((p2.Parts.length:Int)<2)) (some 6) (cond (decide ((p2.Parts.length:Int)>6)) (some 8) (cond ((decide (p2.Signal_<0))||(decide (p2.Signal_>(p1.Signals.length:Int)))) (some 2) ((loop (Cy p2) ([],0)).bind fun y1=>(Bo y1 0 (p1.Lanes.length:Int)).bind fun v3=>cond (!v3) (some 11) (thenS (loop (V8 p1 p2) 0) (fun _=>some 0) (fun r=>some r)))))
theorem Pu(p1 p2 r)(h:Dj p1 p2=some r):PCall prog 75 [(.agg (O1 p1)),(.agg [(.list (List.map G1 p2.Parts)),(i64 p2.Signal_)])] (i64 r):=by
 refine C0 (fk func75 ntmps75 (fun r=>if r==11 then [1007]else []) (by with_unfolding_all rfl)) (nl Z) ?_
 unfold Dj at h
 refine A5 (s0:=⟨T [(0,(.d _)),(1,(.d _))],G []⟩) (D2 Z Z) ?_
 refine lr<|fun u1 _=>sm Z<|sm Z<|sv Z<|A1<|A2<|B5<|sq Z<|sl Z G_hit Z<|sd Z (C1 Z)<|sv Z<|A1<|cc Z h (fun c1 h=> ?_)<|fun c1 h=> ?_
 refine B5<|sv Z<|A1<|B1 ?_
 cases h
 exact A8 (.inr Z) (B4 (B2 Z) C2) (.refl _)
 refine A9<|A2<|B5<|sq Z<|sl Z G_hit Z<|sd Z (C1 Z)<|sv Z<|A1<|cc Z h (fun c2 h=> ?_)<|fun c2 h=> ?_
 refine B5<|sv Z<|A1<|B1 ?_
 cases h
 exact A8 (.inr Z) (B4 (B2 Z) C2) (.refl _)
 refine A9<|A2<|B5<|sq Z<|sl Z G_hit Z<|sv Z<|sv Z<|gp Z (I9 Z) (fun _=>Z) (gf Z (vl Z G_hit Z)<|gp Z (I9 Z) (fun _=>Z) (gf Z (vl Z (gq Z) Z)<|gf Z (fun w5=>(C1<|A4 w5))<|gf Z (fun w6=>(T1 (A4 w6) (A4 w6) Z))<|sd Z (S9 Z Z<|fun hc=>A4<|L3 hc)<|A1<|cc Z h (fun c3 h=> ?_)<|fun c3 h=> ?_))
 refine A2<|A5 (s0:=⟨T [],G []⟩) (D2 Z Z) ?_
 refine B0<|sv Z<|A1<|B1 ?_
 cases h
 exact A8 (.inr Z) (B4 (B2 Z) C2) (.refl _)
 refine A9<|A2<|A5 (s0:=⟨T [(2,(.ptr _ _)),(3,(.ptr _ _))],G [((2,u1),some<|.box 27 _),((3,u1),some<|.box 45 _)]⟩) (D2 Z Z) ?_
 refine B0<|sv Z<|A1<|A2<|B5<|sv Z<|A1<|bs h fun y1 hy1 h=>D5 (fun s=> ∃g1:Nat,Sb ⟨T [(2,(.ptr (2,u1) 0)),(3,(.ptr (3,u1) 0)),(5,(oS y1 (43,g1)))],G [((2,u1),some<|.box 27 (I4 p1)),((3,u1),some<|.box 45 [(dl G1 p2.Parts),(di p2.Signal_)]),((43,g1),oB 3 1 A7 y1)]⟩ s) ?_ ?_
 refine A6<|E0 (Cy p2) (fun (x1:((List Int)×Int)) (g2:Nat)=>⟨T [(2,(.ptr (2,u1) 0)),(3,(.ptr (3,u1) 0)),(5,(oS x1.1 (43,g2))),(6,(di x1.2))],G [((2,u1),some<|.box 27 (I4 p1)),((3,u1),some<|.box 45 [(dl G1 p2.Parts),(di p2.Signal_)]),((43,g2),oB 3 1 A7 x1.1)]⟩) ([],0) 0 _ hy1 (C3 (U2 Z)<|B7 G_hit (.of Z)<|sg Z<|Y1 trivial) ?_
 intro x1 g2 z1 hz1 ez1
 unfold Cy at hz1
 refine A2<|B5<|sv Z<|sq Z<|sl Z (gq Z) Z (sd Z (C1 Z)<|sv Z<|A1<|cc Z hz1 (fun c4 hz1=> ?_)<|fun c4 hz1=> ?_)
 refine A9<|A2<|A6<|O9 fun u11 _=>B6 (oS x1.1 (43,g2)) Z Z (sq Z<|sl Z (gq Z) Z (sv Z<|bs hz1 fun v1 hv1 hz1=>sd Z (C9 Z Z hv1 Z)<|sv Z<|sd Z (F5 Z hv1 Z)<|B6 (dl A7 [v1.Lane_]) Z Z (bs hz1 fun _ hv2 hz1=>J2 A7 (43,g2) x1.1 v1.Lane_ [] _ (F4<|fun _=>Z) Z (gq Z) hv2 (ss Z<|A1<|D9<|A5 (s0:=⟨T [(2,(.ptr _ _)),(3,(.ptr _ _)),(5,(.sl _)),(6,(.d _))],G [((2,u1),some<|.box 27 _),((3,u1),some<|.box 45 _),((43,u11),some _)]⟩) (D2 Z Z) ?_))))
 refine B0<|sv Z<|sv Z<|sv Z<|A1<|E7 ?_
 cases hz1
 exact ⟨Z,u11,(C3 ⟨.of Z, .of Z,(.of (Ai<|O0 hv2).symm), .of Z,trivial⟩<|B7 G_hit (.of Z)<|sg Z<|P5 (gq Z) trivial)⟩
 refine C5 Z ?_
 cases hz1
 obtain rfl:=ez1 _ rfl
 refine ⟨nofun,C4 Z<|Y5 ?_⟩
 exact ⟨g2,(C3 (U2 Z)<|B7 G_hit (.of Z)<|sg Z<|D3 (gq Z) trivial)⟩
 rintro _ ⟨g1,q1⟩
 refine A5 q1<|A2<|B5<|B6 (oS y1 (43,g1)) Z Z (sq Z<|sl Z G_hit Z<|sd Z (C1 Z)<|bs h fun v3 hv3 h=>B8 Z (O4 (Ed<|gq Z)<|rD<|rD K9) (.cons Ec (.cons (.refl _) A3)) (Gz _ _ _ _ hv3) (.inr Z) (B6 (.d (bo (!v3))) Z Z (A1<|cc Z h (fun c5 h=> ?_)<|fun c5 h=> ?_)))
 refine B5<|sv Z<|A1<|B1 ?_
 cases h
 exact A8 (.inr Z) (B4 (B2 Z) C2) (.refl _)
 refine A9<|A2<|B5<|sv Z<|A1<|js h fun z2 hz2 h=>D5 (fun s=> ∃(y2:Unit) (g3:Unit),z2= .inl y2∧Sb ⟨T [],G []⟩ s) ?_ ?_
 refine A6<|E0 (V8 p1 p2) (fun (x2:Int) (g4:Unit)=>⟨T [(2,(.ptr (2,u1) 0)),(3,(.ptr (3,u1) 0)),(7,(di x2))],G [((2,u1),some<|.box 27 (I4 p1)),((3,u1),some<|.box 45 [(dl G1 p2.Parts),(di p2.Signal_)])]⟩) 0 () _ hz2 (D2 Z Z) ?_
 intro x2 g4 z3 hz3 ez3
 unfold V8 at hz3
 refine A2<|B5<|sv Z<|sq Z<|sl Z (gq Z) Z (sd Z (C1 Z)<|sv Z<|A1<|cc Z hz3 (fun c6 hz3=> ?_)<|fun c6 hz3=> ?_)
 refine A9<|A2<|A6<|B5<|sq Z<|sl Z (gq Z) Z (sv Z<|bs hz3 fun v4 hv4 hz3=>sd Z (C9 Z Z hv4 Z)<|sd Z (B9 Z hv4 Z Z)<|sm Z<|Aj Z G_hit (Nh v4) Z (A1<|A2<|J6 Z<|sq Z<|sl Z G_hit Z<|sv Z<|sv Z<|gp Z (I9 Z) (fun _=>Z) (gf Z (vl Z G_hit Z)<|gp Z (I9 Z) (fun _=>Z) (gf Z (vl Z G_hit Z)<|gf Z (fun w11=>(T1 (A4 w11) (A4 w11) Z))<|sd Z (S9 Z Z<|fun hc=>A4<|L3 hc)<|sv Z<|gp Z (I9 Z) (fun _=>Z) (gf Z (vl Z G_hit Z)<|gp Z (I9 Z) (fun _=>Z) (gf Z (vl Z (gq Z) Z)<|gp Z (I9 Z) (fun _=>Z) (gf Z (vl Z G_hit Z)<|bs hz3 fun v5 hv5 hz3=>gf Z (fun w18=>(C9 (A4 w18) (A4 w18) (G0 w18 hv5) Z)) ?_)))))))
 refine gf Z (fun w19=>(by simp only [A4 w19];rfl)) ?_
 refine gf Z (fun w20=>(B9 (A4 w20) (G0 w20 hv5) Z Z))<|bs hz3 fun v6 hv6 hz3=> ?_
 refine L4 _ (i64 v6) (I9 Z) (fun w21=>⟨_,[(.d (.agg [(.list (List.map I0 v5.Curve_.Pts))]))],_,_,(by simp only [A4 w21];rfl),Z,A3,Mj _ _<|G0 w21 hv6,(.inl Z)⟩) ?_
 refine gf Z (fun w22=>(T1 (A4 w22) (A4 w22) Z))<|sd Z (S9 Z Z<|fun hc=>A4<|L3 hc)<|sv Z<|gp Z (I9 Z) (fun _=>Z) (gf Z (vl Z G_hit Z)<|gf Z (vb Z Z Z)<|sd Z (S9 Z Z<|fun hc=>A4<|L3 hc)<|sv Z<|gp Z (I9 Z) (fun _=>Z) (gf Z (vl Z G_hit Z)<|gf Z (vb Z Z Z)<|sd Z (S9 Z Z<|fun hc=>A4<|L3 hc)<|A1<|cc Z hz3 (fun c7 hz3=> ?_)<|fun c7 hz3=> ?_))
 refine A2<|A5 (s0:=⟨T [],G []⟩) (D2 Z Z) ?_
 refine B0<|sv Z<|A1<|B1 ?_
 cases hz3
 obtain rfl:=ez3 _ rfl
 refine ⟨nofun,E4 ?_⟩
 rw [bJ]at h
 cases h
 exact A8 (.inr Z) (B4 (B2 Z) C2) (.refl _)
 refine A9<|D9<|A5 (s0:=⟨T [(2,(.ptr _ _)),(3,(.ptr _ _)),(7,(.d _))],G [((2,u1),some<|.box 27 _),((3,u1),some<|.box 45 _)]⟩) (D2 Z Z) ?_
 refine B0<|sv Z<|sv Z<|sv Z<|A1<|E7 ?_
 cases hz3
 exact ⟨Z,(),(D2 Z Z)⟩
 refine C5 Z ?_
 cases hz3
 obtain rfl:=ez3 _ rfl
 refine ⟨nofun,C4 Z<|Y5 ?_⟩
 exact ⟨_,(),Z,(D2 Z Z)⟩
 rintro _ ⟨y2,g3,rfl,q2⟩
 rw [bI]at h
 refine A5 q2<|B5<|sv Z<|A1<|B1 ?_
 cases h
 exact A8 (.inr Z) (B4 (B2 Z) C2) (.refl _)
def Dk [Lp](p1:Map)(p2:Work):Option Int:=
  cond ((decide (p2.Lane_<0))||(decide (p2.Lane_≥(p1.Lanes.length:Int)))) (some 7) ((D6 p1.Lanes p2.Lane_).bind fun v1=>(Ey v1.Kind).bind fun v2=>((cond (!((decide (p2.From<0))||(decide (p2.From>p2.To)))) (Cx v1.Curve_) (some default))).bind fun v3=>((cond (!((((((decide (p2.From<0))||(decide (p2.From>p2.To)))||(decide (p2.To>v3)))||(decide (p2.Begin<0)))||(decide (p2.Begin≥p2.End)))||(decide (p2.End>1099511627776)))) (Y4 p2.Limit 0 v2.1) (some default))).bind fun v4=>cond (((((((decide (p2.From<0))||(decide (p2.From>p2.To)))||(decide (p2.To>v3)))||(decide (p2.Begin<0)))||(decide (p2.Begin≥p2.End)))||(decide (p2.End>1099511627776)))||(!v4)) (some 2) (some 0))
theorem Pv(p1 p2 r)(h:Dk p1 p2=some r):PCall prog 76 [(.agg (O1 p1)),(.agg (By p2))] (i64 r):=by
 refine C0 (fk func76 ntmps76 m0 (by with_unfolding_all rfl)) (nl Z) ?_
 unfold Dk at h
 refine A5 (s0:=⟨T [(0,(.d _)),(1,(.d _))],G []⟩) (D2 Z Z) ?_
 refine lr<|fun u1 _=>sm Z<|sm Z<|sv Z<|A1<|A2<|B5<|sq Z<|sl Z G_hit Z<|sv Z<|sv Z<|gp Z (I9 Z) (fun _=>Z) (gf Z (vl Z G_hit Z)<|gp Z (I9 Z) (fun _=>Z) (gf Z (vl Z (gq Z) Z)<|gf Z (fun w5=>(C1<|A4 w5))<|gf Z (fun w6=>(T1 (A4 w6) (A4 w6) Z))<|sd Z (S9 Z Z<|fun hc=>A4<|L3 hc)<|A1<|cc Z h (fun c1 h=> ?_)<|fun c1 h=> ?_))
 refine B5<|sv Z<|A1<|B1 ?_
 cases h
 exact A8 (.inr Z) (B4 (B2 Z) C2) (.refl _)
 refine A9<|lr<|fun u4 _=>sq Z<|sl Z (gq Z) Z (sq Z<|sl Z G_hit Z<|bs h fun v1 hv1 h=>sd Z (C9 Z Z hv1 Z)<|sd Z (B9 Z hv1 Z Z)<|sm Z<|Aj Z G_hit (De v1) Z (A1<|A2<|A5 (s0:=⟨T [(3,(.ptr _ _)),(5,(.ptr _ _))],G [((3,u1),some<|.box 50 _),((5,u4),some<|.box 42 _)]⟩) (D2 Z Z) ?_))
 refine B0<|sq Z<|sl Z (gq Z) Z (bs h fun v2 hv2 h=>B8 Z Z A3 (Mi _ _ hv2) (.inl Z) (sv Z<|sv Z<|sv Z<|sv Z<|sv Z<|sv Z<|sv Z<|A1<|A2<|A2<|J6 Z<|sq Z<|sl Z G_hit Z<|sv Z<|sv Z<|gp Z (I9 Z) (fun _=>Z) (gf Z (vl Z G_hit Z)<|gp Z (I9 Z) (fun _=>Z) (gf Z (vl Z G_hit Z)<|gf Z (fun w11=>(T1 (A4 w11) (A4 w11) Z))<|sd Z (S9 Z Z<|fun hc=>A4<|L3 hc)<|sv Z<|gp Z (I9 Z) (fun _=>Z) (gf Z (vl Z G_hit Z)<|gp Z (I9 Z) (fun _=>Z) (gf Z (fun w15=>(B3 (A4 w15) (gq Z) Z Z))<|bs h fun v3 hv3 h=> ?_))))))
 refine L4 _ (i64 v3) (I9 Z) (fun w16=>⟨_,[(.d (.agg [(.list (List.map I0 v1.Curve_.Pts))]))],_,_,(by simp only [A4 w16];rfl),Z,A3,Mj _ _<|G0 w16 hv3,(.inl Z)⟩) ?_
 refine gf Z (fun w17=>(T1 (A4 w17) (A4 w17) Z))<|sd Z (S9 Z Z<|fun hc=>A4<|L3 hc)<|sv Z<|gp Z (I9 Z) (fun _=>Z) (gf Z (vl Z G_hit Z)<|gf Z (vb Z Z Z)<|sd Z (S9 Z Z<|fun hc=>A4<|L3 hc)<|sv Z<|gp Z (I9 Z) (fun _=>Z) (gf Z (vl Z G_hit Z)<|gp Z (I9 Z) (fun _=>Z) (gf Z (vl Z G_hit Z)<|gf Z (fun w25=>(T1 (A4 w25) (A4 w25) Z))<|sd Z (S9 Z Z<|fun hc=>A4<|L3 hc)<|sv Z<|gp Z (I9 Z) (fun _=>Z) (gf Z (vl Z G_hit Z)<|gf Z (vb Z Z Z)<|sd Z (S9 Z Z<|fun hc=>A4<|L3 hc)<|sv Z<|gp Z (I9 Z) (fun _=>Z) (gf Z (vl Z G_hit Z)<|gf Z (fun _=>Z)<|bs h fun v4 hv4 h=> ?_)))))
 refine L4 _ (bo v4) (I9 Z) (fun w32=>⟨_,[(di p2.Limit),(di 0),(di v2.1)],_,_,(by simp only [A4 w32];rfl),Z,A3,Av _ _ _ _<|G0 w32 hv4,(.inl Z)⟩) ?_
 refine Ck _ (.d (bo (!v4))) Z (I9 Z) (fun w33=>(by simp only [A4 w33];rfl)) ?_
 refine sd Z (S9 Z Z<|fun hc=>A4<|L3 hc)<|A1<|cc Z h (fun c2 h=> ?_)<|fun c2 h=> ?_
 refine A2<|A5 (s0:=⟨T [],G []⟩) (D2 Z Z) ?_
 refine B0<|sv Z<|A1<|B1 ?_
 cases h
 exact A8 (.inr Z) (B4 (B2 Z) C2) (.refl _)
 refine A9<|A2<|A5 (s0:=⟨T [],G []⟩) (D2 Z Z) ?_
 refine B0<|sv Z<|A1<|B1 ?_
 cases h
 exact A8 (.inr Z) (B4 (B2 Z) C2) (.refl _)
def Cf [Lp](p1:Map)(x4:(Int×Int)):Option (Stp (Int×Int) Int):=
  cond ((decide (x4.2< (p1.Works.length:Int)))&& (x4.1==0)) ((D6 p1.Works x4.2).bind fun v8=>(Dk p1 v8).bind fun v9=>some (.go (v9,(I8 (x4.2+1))))) (some (.out x4.1))
def Cg [Lp](p1:Map)(x3:(Int×Int)):Option (Stp (Int×Int) Int):=
  cond ((decide (x3.2< (p1.Zones.length:Int)))&& (x3.1==0)) ((D6 p1.Zones x3.2).bind fun v6=>(Dj p1 v6).bind fun v7=>some (.go (v7,(I8 (x3.2+1))))) (some (.out x3.1))
def Ci [Lp](p1:Map)(x2:(Int×Int)):Option (Stp (Int×Int) Int):=
  cond ((decide (x2.2< (p1.Signals.length:Int)))&& (x2.1==0)) ((D6 p1.Signals x2.2).bind fun v4=>(Bi p1 v4).bind fun v5=>some (.go (v5,(I8 (x2.2+1))))) (some (.out x2.1))
def Z9 [Lp](p1:Map)(x1:Int):Option (Stp Int (Sum Unit Int)):=
  cond (decide (x1< (p1.Lanes.length:Int))) ((Dh p1 x1).bind fun v2=>cond (v2 !=0) (some (.out (.inr v2))) (some (.go (I8 (x1+1))))) (some (.out (.inl ())))
def Fz [Lp](p1:Map):Option Int:=
  (Y4 p1.Version 0 1099511627776).bind fun v1=>cond (!v1) (some 2) (cond ((p1.Lanes.length:Int)==0) (some 6) (cond ((((decide ((p1.Lanes.length:Int)>12))||(decide ((p1.Zones.length:Int)>12)))||(decide ((p1.Signals.length:Int)>4)))||(decide ((p1.Works.length:Int)>8))) (some 8) (thenS (loop (Z9 p1) 0) (fun _=>(Di p1).bind fun v3=>(loop (Ci p1) (v3,0)).bind fun y2=>(loop (Cg p1) (y2,0)).bind fun y3=>(loop (Cf p1) (y3,0)).bind fun y4=>some y4) (fun r=>some r))))
theorem Nr(p1 r)(h:Fz p1=some r):PCall prog 17 [(.agg (O1 p1))] (i64 r):=by
 refine C0 (fk func17 ntmps17 m0 (by with_unfolding_all rfl)) (nl Z) ?_
 unfold Fz at h
 refine A5 (s0:=⟨T [(0,(.d _))],G []⟩) (D2 Z Z) ?_
 refine lr<|fun u1 _=>sm Z<|sv Z<|A1<|A2<|B5<|sq Z<|sl Z G_hit Z<|bs h fun v1 hv1 h=>B8 Z Z A3 (Av _ _ _ _ hv1) (.inl Z) (B6 (.d (bo (!v1))) Z Z (A1<|cc Z h (fun c1 h=> ?_)<|fun c1 h=> ?_))
 refine B5<|sv Z<|A1<|B1 ?_
 cases h
 exact A8 (.inr Z) (B4 (B2 Z) C2) (.refl _)
 refine A9<|A2<|B5<|sq Z<|sl Z G_hit Z<|sd Z (C1 Z)<|sv Z<|A1<|cc Z h (fun c2 h=> ?_)<|fun c2 h=> ?_
 refine B5<|sv Z<|A1<|B1 ?_
 cases h
 exact A8 (.inr Z) (B4 (B2 Z) C2) (.refl _)
 refine A9<|A2<|B5<|sq Z<|sl Z G_hit Z<|sd Z (C1 Z)<|sv Z<|sv Z<|gp Z (I9 Z) (fun _=>Z) (gf Z (vl Z G_hit Z)<|gf Z (fun w3=>(C1<|A4 w3))<|gf Z (vb Z Z Z)<|sd Z (S9 Z Z<|fun hc=>A4<|L3 hc)<|sv Z<|gp Z (I9 Z) (fun _=>Z) (gf Z (vl Z G_hit Z)<|gf Z (fun w7=>(C1<|A4 w7))<|gf Z (vb Z Z Z)<|sd Z (S9 Z Z<|fun hc=>A4<|L3 hc)<|sv Z<|gp Z (I9 Z) (fun _=>Z) (gf Z (vl Z G_hit Z)<|gf Z (fun w11=>(C1<|A4 w11))<|gf Z (vb Z Z Z)<|sd Z (S9 Z Z<|fun hc=>A4<|L3 hc)<|A1<|cc Z h (fun c3 h=> ?_)<|fun c3 h=> ?_)))
 refine A2<|A5 (s0:=⟨T [],G []⟩) (D2 Z Z) ?_
 refine B0<|sv Z<|A1<|B1 ?_
 cases h
 exact A8 (.inr Z) (B4 (B2 Z) C2) (.refl _)
 refine A9<|A2<|A2<|A5 (s0:=⟨T [(1,(.ptr _ _))],G [((1,u1),some<|.box 27 _)]⟩) (D2 Z Z) ?_
 refine B0<|sv Z<|A1<|js h fun z1 hz1 h=>D5 (fun s=> ∃(y1:Unit) (g1:Unit),z1= .inl y1∧Sb ⟨T [(1,(.ptr (1,u1) 0))],G [((1,u1),some<|.box 27 (I4 p1))]⟩ s) ?_ ?_
 refine A6<|E0 (Z9 p1) (fun (x1:Int) (g2:Unit)=>⟨T [(1,(.ptr (1,u1) 0)),(3,(di x1))],G [((1,u1),some<|.box 27 (I4 p1))]⟩) 0 () _ hz1 (D2 Z Z) ?_
 intro x1 g2 z2 hz2 ez2
 unfold Z9 at hz2
 refine A2<|B5<|sv Z<|sq Z<|sl Z G_hit Z<|sd Z (C1 Z)<|sv Z<|A1<|cc Z hz2 (fun c4 hz2=> ?_)<|fun c4 hz2=> ?_
 refine A9<|A2<|A6<|B5<|sd Z (B3 Z G_hit Z Z)<|sv Z<|bs hz2 fun _ hv2 hz2=>B8 Z Z A3 (Ps _ _ _ hv2) (.inl Z) (sv Z<|A1<|B5<|sv Z<|sv Z<|A1<|cc Z hz2 (fun c5 hz2=> ?_)<|fun c5 hz2=> ?_)
 refine B5<|sv Z<|sv Z<|A1<|B1 ?_
 cases hz2
 obtain rfl:=ez2 _ rfl
 refine ⟨nofun,E4 ?_⟩
 rw [bJ]at h
 cases h
 exact A8 (.inr Z) (B4 (B2 Z) C2) (.refl _)
 refine A9<|D9<|B0<|sv Z<|sv Z<|sv Z<|A1<|E7 ?_
 cases hz2
 exact ⟨Z,(),(D2 Z Z)⟩
 refine C5 Z ?_
 cases hz2
 obtain rfl:=ez2 _ rfl
 refine ⟨nofun,C4 Z<|Y5 ?_⟩
 exact ⟨_,(),Z,(D2 Z Z)⟩
 rintro _ ⟨y1,g1,rfl,q1⟩
 rw [bI]at h
 refine A5 q1<|B5<|sd Z (B3 Z G_hit Z Z)<|bs h fun v3 hv3 h=>B8 Z Z A3 (Pt _ _ hv3) (.inl Z) (sv Z<|A1<|A2<|B5<|sv Z<|A1<|bs h fun y2 hy2 h=>D5 (fun s=> ∃g3:Unit,Sb ⟨T [(1,(.ptr (1,u1) 0)),(5,(di y2))],G [((1,u1),some<|.box 27 (I4 p1))]⟩ s) ?_ ?_)
 refine A6<|E0 (Ci p1) (fun (x2:(Int×Int)) (g4:Unit)=>⟨T [(1,(.ptr (1,u1) 0)),(5,(di x2.1)),(6,(di x2.2))],G [((1,u1),some<|.box 27 (I4 p1))]⟩) (v3,0) () _ hy2 (D2 Z Z) ?_
 intro x2 g4 z3 hz3 ez3
 unfold Ci at hz3
 refine A2<|B5<|sv Z<|sq Z<|sl Z G_hit Z<|sd Z (C1 Z)<|sv Z<|sv Z<|gt Z (fun _=>Z)<|gt Z (vb Z Z Z)<|sa Z Z Z<|A1<|cc Z hz3 (fun c6 hz3=> ?_)<|fun c6 hz3=> ?_
 refine A9<|A2<|A6<|J6 Z<|sd Z (B3 Z G_hit Z Z)<|sq Z<|sl Z G_hit Z<|sv Z<|bs hz3 fun _ hv4 hz3=>sd Z (C9 Z Z hv4 Z)<|sd Z (B9 Z hv4 Z Z)<|bs hz3 fun _ hv5 hz3=>B8 Z Z A3 (Nq _ _ _ hv5) (.inl Z) (sv Z<|A1<|D9<|B0<|sv Z<|sv Z<|sv Z<|A1<|E7 ?_)
 cases hz3
 exact ⟨Z,(),(D2 Z Z)⟩
 refine C5 Z ?_
 cases hz3
 obtain rfl:=ez3 _ rfl
 refine ⟨nofun,C4 Z<|Y5 ?_⟩
 exact ⟨(),(D2 Z Z)⟩
 rintro _ ⟨g3,q2⟩
 refine A5 q2<|A2<|B5<|sv Z<|A1<|bs h fun y3 hy3 h=>D5 (fun s=> ∃g5:Unit,Sb ⟨T [(1,(.ptr (1,u1) 0)),(5,(di y3))],G [((1,u1),some<|.box 27 (I4 p1))]⟩ s) ?_ ?_
 refine A6<|E0 (Cg p1) (fun (x3:(Int×Int)) (g6:Unit)=>⟨T [(1,(.ptr (1,u1) 0)),(5,(di x3.1)),(7,(di x3.2))],G [((1,u1),some<|.box 27 (I4 p1))]⟩) (y2,0) () _ hy3 (D2 Z Z) ?_
 intro x3 g6 z4 hz4 ez4
 unfold Cg at hz4
 refine A2<|B5<|sv Z<|sq Z<|sl Z G_hit Z<|sd Z (C1 Z)<|sv Z<|sv Z<|gt Z (fun _=>Z)<|gt Z (vb Z Z Z)<|sa Z Z Z<|A1<|cc Z hz4 (fun c7 hz4=> ?_)<|fun c7 hz4=> ?_
 refine A9<|A2<|A6<|J6 Z<|sd Z (B3 Z G_hit Z Z)<|sq Z<|sl Z G_hit Z<|sv Z<|bs hz4 fun _ hv6 hz4=>sd Z (C9 Z Z hv6 Z)<|sd Z (B9 Z hv6 Z Z)<|bs hz4 fun _ hv7 hz4=>B8 Z Z A3 (Pu _ _ _ hv7) (.inl Z) (sv Z<|A1<|D9<|B0<|sv Z<|sv Z<|sv Z<|A1<|E7 ?_)
 cases hz4
 exact ⟨Z,(),(D2 Z Z)⟩
 refine C5 Z ?_
 cases hz4
 obtain rfl:=ez4 _ rfl
 refine ⟨nofun,C4 Z<|Y5 ?_⟩
 exact ⟨(),(D2 Z Z)⟩
 rintro _ ⟨g5,q3⟩
 refine A5 q3<|A2<|B5<|sv Z<|A1<|bs h fun y4 hy4 h=>D5 (fun s=> ∃g7:Unit,Sb ⟨T [(5,(di y4))],G []⟩ s) ?_ ?_
 refine A6<|E0 (Cf p1) (fun (x4:(Int×Int)) (g8:Unit)=>⟨T [(1,(.ptr (1,u1) 0)),(5,(di x4.1)),(8,(di x4.2))],G [((1,u1),some<|.box 27 (I4 p1))]⟩) (y3,0) () _ hy4 (D2 Z Z) ?_
 intro x4 g8 z5 hz5 ez5
 unfold Cf at hz5
 refine A2<|B5<|sv Z<|sq Z<|sl Z G_hit Z<|sd Z (C1 Z)<|sv Z<|sv Z<|gt Z (fun _=>Z)<|gt Z (vb Z Z Z)<|sa Z Z Z<|A1<|cc Z hz5 (fun c8 hz5=> ?_)<|fun c8 hz5=> ?_
 refine A9<|A2<|A6<|J6 Z<|sd Z (B3 Z G_hit Z Z)<|sq Z<|sl Z G_hit Z<|sv Z<|bs hz5 fun _ hv8 hz5=>sd Z (C9 Z Z hv8 Z)<|sd Z (B9 Z hv8 Z Z)<|bs hz5 fun _ hv9 hz5=>B8 Z Z A3 (Pv _ _ _ hv9) (.inl Z) (sv Z<|A1<|D9<|B0<|sv Z<|sv Z<|sv Z<|A1<|E7 ?_)
 cases hz5
 exact ⟨Z,(),(D2 Z Z)⟩
 refine C5 Z ?_
 cases hz5
 obtain rfl:=ez5 _ rfl
 refine ⟨nofun,C4 Z<|Y5 ?_⟩
 exact ⟨(),(D2 Z Z)⟩
 rintro _ ⟨g7,q4⟩
 refine A5 q4<|B5<|sv Z<|sv Z<|A1<|B1 ?_
 cases h
 exact A8 (.inr Z) (B4 (B2 Z) C2) (.refl _)
def Ha (p1:Map)(p2:Int):Option Int:=
  (D6 [(p1.Lanes.length:Int),(p1.Zones.length:Int),(p1.Signals.length:Int),(p1.Works.length:Int)] (I8 (p2 - 1))).bind fun v1=>some v1
theorem Oy(p1 p2 r)(h:Ha p1 p2=some r):PCall prog 84 [(.agg (O1 p1)),(i64 p2)] (i64 r):=by
 refine C0 (fk func84 ntmps84 (fun r=>if r==1 then [1012]else []) (by with_unfolding_all rfl)) (nl Z) ?_
 unfold Ha at h
 refine A5 (s0:=⟨T [(0,(.d _)),(1,(.d _))],G []⟩) (D2 Z Z) ?_
 refine B5<|sm Z<|sv Z<|A1<|B5<|sq Z<|sl Z G_hit Z<|sd Z (C1 Z)<|sq Z<|sl Z G_hit Z<|sd Z (C1 Z)<|sq Z<|sl Z G_hit Z<|sd Z (C1 Z)<|sq Z<|sl Z G_hit Z<|sd Z (C1 Z)<|B6 (dl A7 [(p1.Lanes.length:Int),(p1.Zones.length:Int),(p1.Signals.length:Int),(p1.Works.length:Int)]) Z Z (sv Z<|sv Z<|bs h fun _ hv1 h=>sd Z (C9 Z Z hv1 Z)<|sd Z (F5 Z hv1 Z)<|sv Z<|A1<|B1 ?_)
 cases h
 exact A8 (.inr Z) (B4 (B2 Z) C2) (.refl _)
def Bp (p1:Curve)(p2:Curve)(x1:Int):Option (Stp Int (Sum Unit Bool)):=
  cond (decide (x1< (p1.Pts.length:Int))) ((D6 p1.Pts x1).bind fun v1=>(D6 p2.Pts x1).bind fun v2=>cond (!(v1.X==v2.X&& (v1.Y==v2.Y&&true))) (some (.out (.inr false))) (some (.go (I8 (x1+1))))) (some (.out (.inl ())))
def Hb [Lp](p1:Curve)(p2:Curve):Option Bool:=
  cond ((p1.Pts.length:Int) !=(p2.Pts.length:Int)) (some false) (thenS (loop (Bp p1 p2) 0) (fun _=>some true) (fun r=>some r))
theorem Xk(p1 p2 r)(h:Hb p1 p2=some r):PCall prog 204 [(.agg [(.list (List.map I0 p1.Pts))]),(.agg [(.list (List.map I0 p2.Pts))])] (bo r):=by
 refine C0 (fk func204 ntmps204 m0 (by with_unfolding_all rfl)) (nl Z) ?_
 unfold Hb at h
 refine A5 (s0:=⟨T [(0,(.d _)),(1,(.d _))],G []⟩) (D2 Z Z) ?_
 refine lr<|fun u1 _=>sm Z<|sm Z<|sv Z<|A1<|A2<|B5<|sq Z<|sl Z (gq Z) Z (sd Z (C1 Z)<|sq Z<|sl Z G_hit Z<|sd Z (C1 Z)<|sv Z<|A1<|cc Z h (fun c1 h=> ?_)<|fun c1 h=> ?_)
 refine B5<|sv Z<|A1<|B1 ?_
 cases h
 exact A8 (.inr Z) (B4 (B2 Z) C2) (.refl _)
 refine A9<|A2<|B5<|sv Z<|A1<|js h fun z1 hz1 h=>D5 (fun s=> ∃(y1:Unit) (g1:Unit),z1= .inl y1∧Sb ⟨T [],G []⟩ s) ?_ ?_
 refine A6<|E0 (Bp p1 p2) (fun (x1:Int) (g2:Unit)=>⟨T [(2,(.ptr (2,u1) 0)),(3,(.ptr (3,u1) 0)),(5,(di x1))],G [((2,u1),some<|.box 39 [(dl I0 p1.Pts)]),((3,u1),some<|.box 39 [(dl I0 p2.Pts)])]⟩) 0 () _ hz1 (D2 Z Z) ?_
 intro x1 g2 z2 hz2 ez2
 unfold Bp at hz2
 refine A2<|B5<|sv Z<|sq Z<|sl Z G_hit Z<|sd Z (C1 Z)<|sv Z<|A1<|cc Z hz2 (fun c2 hz2=> ?_)<|fun c2 hz2=> ?_
 refine A9<|A2<|A6<|A2<|J6 Z<|sq Z<|sl Z G_hit Z<|sv Z<|bs hz2 fun v1 hv1 hz2=>sd Z (C9 Z Z hv1 Z)<|sd Z (B9 Z hv1 Z Z)<|sq Z<|sl Z (gq Z) Z (sv Z<|bs hz2 fun v2 hv2 hz2=>sd Z (C9 Z Z hv2 Z)<|sd Z (B9 Z hv2 Z Z)<|B6 (.d (bo (!(v1.X==v2.X&& (v1.Y==v2.Y&&true))))) Z Z (A1<|cc Z hz2 (fun c3 hz2=> ?_)<|fun c3 hz2=> ?_))
 refine B5<|sv Z<|A1<|B1 ?_
 cases hz2
 obtain rfl:=ez2 _ rfl
 refine ⟨nofun,E4 ?_⟩
 rw [bJ]at h
 cases h
 exact A8 (.inr Z) (B4 (B2 Z) C2) (.refl _)
 refine A9<|D9<|B0<|sv Z<|sv Z<|sv Z<|A1<|E7 ?_
 cases hz2
 exact ⟨Z,(),(D2 Z Z)⟩
 refine C5 Z ?_
 cases hz2
 obtain rfl:=ez2 _ rfl
 refine ⟨nofun,C4 Z<|Y5 ?_⟩
 exact ⟨_,(),Z,(D2 Z Z)⟩
 rintro _ ⟨y1,g1,rfl,q1⟩
 rw [bI]at h
 refine A5 q1<|B5<|sv Z<|A1<|B1 ?_
 cases h
 exact A8 (.inr Z) (B4 (B2 Z) C2) (.refl _)
def R1 (p1:(List Int))(p2:(List Int))(x1:Int):Option (Stp Int (Sum Unit Bool)):=
  cond ((decide (x1< (p1.length:Int)))&& (decide (x1< (p2.length:Int)))) ((D6 p1 x1).bind fun v1=>(D6 p2 x1).bind fun v2=>cond (v1 !=v2) (some (.out (.inr false))) (some (.go (I8 (x1+1))))) (some (.out (.inl ())))
def Aa [Lp](p1:(List Int))(p2:(List Int)):Option Bool:=
  thenS (loop (R1 p1 p2) 0) (fun _=>some ((p1.length:Int)==(p2.length:Int))) (fun r=>some r)
theorem Kc(p1 p2 r)(h:Aa p1 p2=some r):PCall prog 205 [(.list (List.map A7 p1)),(.list (List.map A7 p2))] (bo r):=by
 refine C0 (fk func205 ntmps205 m0 (by with_unfolding_all rfl)) (nl Z) ?_
 unfold Aa at h
 refine A5 (s0:=⟨T [(0,(.d _)),(1,(.d _))],G []⟩) (D2 Z Z) ?_
 refine B5<|sv Z<|A1<|A2<|B5<|sv Z<|A1<|js h fun z1 hz1 h=>D5 (fun s=> ∃(y1:Unit) (g1:Unit),z1= .inl y1∧Sb ⟨T [(0,(dl A7 p1)),(1,(dl A7 p2))],G []⟩ s) ?_ ?_
 refine A6<|E0 (R1 p1 p2) (fun (x1:Int) (g2:Unit)=>⟨T [(0,(dl A7 p1)),(1,(dl A7 p2)),(5,(di x1))],G []⟩) 0 () _ hz1 (D2 Z Z) ?_
 intro x1 g2 z2 hz2 ez2
 unfold R1 at hz2
 refine A2<|B5<|sv Z<|sv Z<|sd Z (C1 Z)<|sv Z<|sv Z<|gt Z (fun _=>Z)<|gt Z (fun _=>Z)<|gt Z (fun w3=>(C1<|A4 w3))<|gt Z (fun w4=>(T1 (A4 w4) (A4 w4) Z))<|sa Z Z Z<|A1<|cc Z hz2 (fun c1 hz2=> ?_)<|fun c1 hz2=> ?_
 refine A9<|A2<|A6<|A2<|J6 Z<|sv Z<|sv Z<|bs hz2 fun _ hv1 hz2=>sd Z (C9 Z Z hv1 Z)<|sd Z (F5 Z hv1 Z)<|sv Z<|sv Z<|bs hz2 fun _ hv2 hz2=>sd Z (C9 Z Z hv2 Z)<|sd Z (F5 Z hv2 Z)<|sv Z<|A1<|cc Z hz2 (fun c2 hz2=> ?_)<|fun c2 hz2=> ?_
 refine B5<|sv Z<|A1<|B1 ?_
 cases hz2
 obtain rfl:=ez2 _ rfl
 refine ⟨nofun,E4 ?_⟩
 rw [bJ]at h
 cases h
 exact A8 (.inr Z) (B4 (B2 Z) C2) (.refl _)
 refine A9<|D9<|B0<|sv Z<|sv Z<|sv Z<|A1<|E7 ?_
 cases hz2
 exact ⟨Z,(),(D2 Z Z)⟩
 refine C5 Z ?_
 cases hz2
 obtain rfl:=ez2 _ rfl
 refine ⟨nofun,C4 Z<|Y5 ?_⟩
 exact ⟨_,(),Z,(D2 Z Z)⟩
 rintro _ ⟨y1,g1,rfl,q1⟩
 rw [bI]at h
 refine A5 q1<|B5<|sv Z<|sd Z (C1 Z)<|sv Z<|sd Z (C1 Z)<|sv Z<|sv Z<|A1<|B1 ?_
 cases h
 exact A8 (.inr Z) (B4 (B2 Z) C2) (.refl _)
def W9 [Lp](p1:Lane)(p2:Lane):Option Bool:=
  ((cond (((p1.Kind==p2.Kind)&& (p1.Half==p2.Half))&& (p1.Limit==p2.Limit)) (Hb p1.Curve_ p2.Curve_) (some default))).bind fun v1=>((cond ((((p1.Kind==p2.Kind)&& (p1.Half==p2.Half))&& (p1.Limit==p2.Limit))&&v1) (Aa p1.Next p2.Next) (some default))).bind fun v2=>some (((((p1.Kind==p2.Kind)&& (p1.Half==p2.Half))&& (p1.Limit==p2.Limit))&&v1)&&v2)
theorem Kd(p1 p2 r)(h:W9 p1 p2=some r):PCall prog 109 [(.agg (R8 p1)),(.agg (R8 p2))] (bo r):=by
 refine C0 (fk func109 ntmps109 m0 (by with_unfolding_all rfl)) (nl Z) ?_
 unfold W9 at h
 refine A5 (s0:=⟨T [(0,(.d _)),(1,(.d _))],G []⟩) (D2 Z Z) ?_
 refine B5<|sm Z<|sn Z Z<|sv Z<|A1<|B5<|sq Z<|sl Z (gq Z) Z (sq Z<|sl Z G_hit Z<|sv Z<|sv Z<|gp Z (P4 Z) (fun _=>Z) (gt Z (vl Z (gq Z) Z)<|gp Z (P4 Z) (fun _=>Z) (gt Z (vl Z G_hit Z)<|gt Z (fun w5=>(T1 (A4 w5) (A4 w5) Z))<|sa Z Z Z<|sv Z<|gp Z (P4 Z) (fun _=>Z) (gt Z (vl Z (gq Z) Z)<|gp Z (P4 Z) (fun _=>Z) (gt Z (vl Z G_hit Z)<|gt Z (fun w10=>(T1 (A4 w10) (A4 w10) Z))<|sa Z Z Z<|sv Z<|gp Z (P4 Z) (fun _=>Z) (gt Z (fun w12=>(B3 (A4 w12) (gq Z) Z Z))<|gp Z (P4 Z) (fun _=>Z) (gt Z (fun w14=>(B3 (A4 w14) G_hit Z Z))<|bs h fun v1 hv1 h=> ?_)))))))
 refine L4 _ (bo v1) (P4 Z) (fun w15=>⟨_,[(.d (.agg [(.list (List.map I0 p1.Curve_.Pts))])),(.d (.agg [(.list (List.map I0 p2.Curve_.Pts))]))],_,_,(by simp only [A4 w15];rfl),Z,A3,Xk _ _ _<|G0 w15 hv1,(.inl Z)⟩) ?_
 refine sa Z Z Z<|sv Z<|gp Z (P4 Z) (fun _=>Z) (gt Z (vl Z (gq Z) Z)<|gp Z (P4 Z) (fun _=>Z) (gt Z (vl Z G_hit Z)<|bs h fun v2 hv2 h=> ?_))
 refine L4 _ (bo v2) (P4 Z) (fun w20=>⟨_,[(dl A7 p1.Next),(dl A7 p2.Next)],_,_,(by simp only [A4 w20];rfl),Z,A3,Kc _ _ _<|G0 w20 hv2,(.inl Z)⟩) ?_
 refine sa Z Z Z<|sv Z<|A1<|B1 ?_
 cases h
 exact A8 (.inr Z) (B4 (B2 Z) C2) (.refl _)
def R2 (p1:Zone)(p2:Zone)(x1:Int):Option (Stp Int (Sum Unit Bool)):=
  cond ((decide (x1< (p1.Parts.length:Int)))&& (decide (x1< (p2.Parts.length:Int)))) ((D6 p1.Parts x1).bind fun v1=>(D6 p2.Parts x1).bind fun v2=>cond (!(v1.Lane_==v2.Lane_&& (v1.From==v2.From&& (v1.To==v2.To&& (v1.Rank==v2.Rank&&true))))) (some (.out (.inr false))) (some (.go (I8 (x1+1))))) (some (.out (.inl ())))
def Ab [Lp](p1:Zone)(p2:Zone):Option Bool:=
  thenS (loop (R2 p1 p2) 0) (fun _=>some ((p1.Signal_==p2.Signal_)&& ((p1.Parts.length:Int)==(p2.Parts.length:Int)))) (fun r=>some r)
theorem Ke(p1 p2 r)(h:Ab p1 p2=some r):PCall prog 110 [(.agg [(.list (List.map G1 p1.Parts)),(i64 p1.Signal_)]),(.agg [(.list (List.map G1 p2.Parts)),(i64 p2.Signal_)])] (bo r):=by
 refine C0 (fk func110 ntmps110 m0 (by with_unfolding_all rfl)) (nl Z) ?_
 unfold Ab at h
 refine A5 (s0:=⟨T [(0,(.d _)),(1,(.d _))],G []⟩) (D2 Z Z) ?_
 refine lr<|fun u1 _=>sm Z<|sm Z<|sv Z<|A1<|A2<|B5<|sv Z<|A1<|js h fun z1 hz1 h=>D5 (fun s=> ∃(y1:Unit) (g1:Unit),z1= .inl y1∧Sb ⟨T [(2,(.ptr (2,u1) 0)),(3,(.ptr (3,u1) 0))],G [((2,u1),some<|.box 45 [(dl G1 p1.Parts),(di p1.Signal_)]),((3,u1),some<|.box 45 [(dl G1 p2.Parts),(di p2.Signal_)])]⟩ s) ?_ ?_
 refine A6<|E0 (R2 p1 p2) (fun (x1:Int) (g2:Unit)=>⟨T [(2,(.ptr (2,u1) 0)),(3,(.ptr (3,u1) 0)),(5,(di x1))],G [((2,u1),some<|.box 45 [(dl G1 p1.Parts),(di p1.Signal_)]),((3,u1),some<|.box 45 [(dl G1 p2.Parts),(di p2.Signal_)])]⟩) 0 () _ hz1 (D2 Z Z) ?_
 intro x1 g2 z2 hz2 ez2
 unfold R2 at hz2
 refine A2<|B5<|sv Z<|sq Z<|sl Z G_hit Z<|sd Z (C1 Z)<|sv Z<|sv Z<|gt Z (fun _=>Z)<|gp Z (P4 Z) (fun _=>Z) (gt Z (vl Z (gq Z) Z)<|gt Z (fun w4=>(C1<|A4 w4))<|gt Z (fun w5=>(T1 (A4 w5) (A4 w5) Z))<|sa Z Z Z<|A1<|cc Z hz2 (fun c1 hz2=> ?_)<|fun c1 hz2=> ?_)
 refine A9<|A2<|A6<|A2<|J6 Z<|sq Z<|sl Z G_hit Z<|sv Z<|bs hz2 fun v1 hv1 hz2=>sd Z (C9 Z Z hv1 Z)<|sd Z (B9 Z hv1 Z Z)<|sq Z<|sl Z (gq Z) Z (sv Z<|bs hz2 fun v2 hv2 hz2=>sd Z (C9 Z Z hv2 Z)<|sd Z (B9 Z hv2 Z Z)<|B6 (.d (bo (!(v1.Lane_==v2.Lane_&& (v1.From==v2.From&& (v1.To==v2.To&& (v1.Rank==v2.Rank&&true))))))) Z Z (A1<|cc Z hz2 (fun c2 hz2=> ?_)<|fun c2 hz2=> ?_))
 refine A2<|A5 (s0:=⟨T [],G []⟩) (D2 Z Z) ?_
 refine B0<|sv Z<|A1<|B1 ?_
 cases hz2
 obtain rfl:=ez2 _ rfl
 refine ⟨nofun,E4 ?_⟩
 rw [bJ]at h
 cases h
 exact A8 (.inr Z) (B4 (B2 Z) C2) (.refl _)
 refine A9<|D9<|A5 (s0:=⟨T [(2,(.ptr _ _)),(3,(.ptr _ _)),(5,(.d _))],G [((2,u1),some<|.box 45 _),((3,u1),some<|.box 45 _)]⟩) (D2 Z Z) ?_
 refine B0<|sv Z<|sv Z<|sv Z<|A1<|E7 ?_
 cases hz2
 exact ⟨Z,(),(D2 Z Z)⟩
 refine C5 Z ?_
 cases hz2
 obtain rfl:=ez2 _ rfl
 refine ⟨nofun,C4 Z<|Y5 ?_⟩
 exact ⟨_,(),Z,(D2 Z Z)⟩
 rintro _ ⟨y1,g1,rfl,q1⟩
 rw [bI]at h
 refine A5 q1<|B5<|sq Z<|sl Z G_hit Z<|sq Z<|sl Z (gq Z) Z (sv Z<|sv Z<|gp Z (P4 Z) (fun _=>Z) (gt Z (vl Z G_hit Z)<|gt Z (fun w8=>(C1<|A4 w8))<|gp Z (P4 Z) (fun _=>Z) (gt Z (vl Z (gq Z) Z)<|gt Z (fun w11=>(C1<|A4 w11))<|gt Z (fun w12=>(T1 (A4 w12) (A4 w12) Z))<|sa Z Z Z<|sv Z<|A1<|B1 ?_)))
 cases h
 exact A8 (.inr Z) (B4 (B2 Z) C2) (.refl _)
def P6 [Lp](p1:Signal)(p2:Signal)(x1:Int):Option (Stp Int (Sum Unit Bool)):=
  cond ((decide (x1< (p1.Phases.length:Int)))&& (decide (x1< (p2.Phases.length:Int)))) ((D6 p1.Phases x1).bind fun v1=>(D6 p2.Phases x1).bind fun v2=>((cond (!(v1.Ticks !=v2.Ticks)) (D6 p1.Phases x1) (some default))).bind fun v3=>((cond (!(v1.Ticks !=v2.Ticks)) (D6 p2.Phases x1) (some default))).bind fun v4=>((cond (!(v1.Ticks !=v2.Ticks)) (Aa v3.Green v4.Green) (some default))).bind fun v5=>cond ((v1.Ticks !=v2.Ticks)||(!v5)) (some (.out (.inr false))) (some (.go (I8 (x1+1))))) (some (.out (.inl ())))
def V9 [Lp](p1:Signal)(p2:Signal):Option Bool:=
  thenS (loop (P6 p1 p2) 0) (fun _=>some ((p1.Offset==p2.Offset)&& ((p1.Phases.length:Int)==(p2.Phases.length:Int)))) (fun r=>some r)
theorem Ia(p1 p2 r)(h:V9 p1 p2=some r):PCall prog 111 [(.agg [(i64 p1.Offset),(.list (List.map G3 p1.Phases))]),(.agg [(i64 p2.Offset),(.list (List.map G3 p2.Phases))])] (bo r):=by
 refine C0 (fk func111 ntmps111 m0 (by with_unfolding_all rfl)) (nl Z) ?_
 unfold V9 at h
 refine A5 (s0:=⟨T [(0,(.d _)),(1,(.d _))],G []⟩) (D2 Z Z) ?_
 refine lr<|fun u1 _=>sm Z<|sm Z<|sv Z<|A1<|A2<|B5<|sv Z<|A1<|js h fun z1 hz1 h=>D5 (fun s=> ∃(y1:Unit) (g1:Unit),z1= .inl y1∧Sb ⟨T [(2,(.ptr (2,u1) 0)),(3,(.ptr (3,u1) 0))],G [((2,u1),some<|.box 48 [(di p1.Offset),(dl G3 p1.Phases)]),((3,u1),some<|.box 48 [(di p2.Offset),(dl G3 p2.Phases)])]⟩ s) ?_ ?_
 refine A6<|E0 (P6 p1 p2) (fun (x1:Int) (g2:Unit)=>⟨T [(2,(.ptr (2,u1) 0)),(3,(.ptr (3,u1) 0)),(5,(di x1))],G [((2,u1),some<|.box 48 [(di p1.Offset),(dl G3 p1.Phases)]),((3,u1),some<|.box 48 [(di p2.Offset),(dl G3 p2.Phases)])]⟩) 0 () _ hz1 (D2 Z Z) ?_
 intro x1 g2 z2 hz2 ez2
 unfold P6 at hz2
 refine A2<|B5<|sv Z<|sq Z<|sl Z G_hit Z<|sd Z (C1 Z)<|sv Z<|sv Z<|gt Z (fun _=>Z)<|gp Z (P4 Z) (fun _=>Z) (gt Z (vl Z (gq Z) Z)<|gt Z (fun w4=>(C1<|A4 w4))<|gt Z (fun w5=>(T1 (A4 w5) (A4 w5) Z))<|sa Z Z Z<|A1<|cc Z hz2 (fun c1 hz2=> ?_)<|fun c1 hz2=> ?_)
 refine A9<|A2<|A6<|A2<|J6 Z<|sq Z<|sl Z G_hit Z<|sv Z<|bs hz2 fun _ hv1 hz2=>sd Z (C9 Z Z hv1 Z)<|sv Z<|sd Z (F5 Z hv1 Z)<|sq Z<|sl Z (gq Z) Z (sv Z<|bs hz2 fun _ hv2 hz2=>sd Z (C9 Z Z hv2 Z)<|sv Z<|sd Z (F5 Z hv2 Z)<|sv Z<|sv Z<|gp Z (I9 Z) (fun _=>Z) (gf Z (vl Z G_hit Z)<|gf Z (fun _=>Z)<|bs hz2 fun v3 hv3 hz2=>gf Z (fun w9=>(C9 (A4 w9) (A4 w9) (G0 w9 hv3) Z)) ?_))
 refine gf Z (fun w10=>(by simp only [A4 w10];rfl)) ?_
 refine gf Z (fun w11=>(F5 (A4 w11) (G0 w11 hv3) Z))<|gp Z (I9 Z) (fun _=>Z) (gf Z (vl Z (gq Z) Z)<|gf Z (fun _=>Z)<|bs hz2 fun v4 hv4 hz2=>gf Z (fun w15=>(C9 (A4 w15) (A4 w15) (G0 w15 hv4) Z)) ?_)
 refine gf Z (fun w16=>(by simp only [A4 w16];rfl)) ?_
 refine gf Z (fun w17=>(F5 (A4 w17) (G0 w17 hv4) Z))<|bs hz2 fun v5 hv5 hz2=> ?_
 refine L4 _ (bo v5) (I9 Z) (fun w18=>⟨_,[(dl A7 v3.Green),(dl A7 v4.Green)],_,_,(by simp only [A4 w18];rfl),Z,A3,Kc _ _ _<|G0 w18 hv5,(.inl Z)⟩) ?_
 refine Ck _ (.d (bo (!v5))) Z (I9 Z) (fun w19=>(by simp only [A4 w19];rfl)) ?_
 refine sd Z (S9 Z Z<|fun hc=>A4<|L3 hc)<|A1<|cc Z hz2 (fun c2 hz2=> ?_)<|fun c2 hz2=> ?_
 refine A2<|A5 (s0:=⟨T [],G []⟩) (D2 Z Z) ?_
 refine B0<|sv Z<|A1<|B1 ?_
 cases hz2
 obtain rfl:=ez2 _ rfl
 refine ⟨nofun,E4 ?_⟩
 rw [bJ]at h
 cases h
 exact A8 (.inr Z) (B4 (B2 Z) C2) (.refl _)
 refine A9<|D9<|A5 (s0:=⟨T [(2,(.ptr _ _)),(3,(.ptr _ _)),(5,(.d _))],G [((2,u1),some<|.box 48 _),((3,u1),some<|.box 48 _)]⟩) (D2 Z Z) ?_
 refine B0<|sv Z<|sv Z<|sv Z<|A1<|E7 ?_
 cases hz2
 exact ⟨Z,(),(D2 Z Z)⟩
 refine C5 Z ?_
 cases hz2
 obtain rfl:=ez2 _ rfl
 refine ⟨nofun,C4 Z<|Y5 ?_⟩
 exact ⟨_,(),Z,(D2 Z Z)⟩
 rintro _ ⟨y1,g1,rfl,q1⟩
 rw [bI]at h
 refine A5 q1<|B5<|sq Z<|sl Z G_hit Z<|sq Z<|sl Z (gq Z) Z (sv Z<|sv Z<|gp Z (P4 Z) (fun _=>Z) (gt Z (vl Z G_hit Z)<|gt Z (fun w22=>(C1<|A4 w22))<|gp Z (P4 Z) (fun _=>Z) (gt Z (vl Z (gq Z) Z)<|gt Z (fun w25=>(C1<|A4 w25))<|gt Z (fun w26=>(T1 (A4 w26) (A4 w26) Z))<|sa Z Z Z<|sv Z<|A1<|B1 ?_)))
 cases h
 exact A8 (.inr Z) (B4 (B2 Z) C2) (.refl _)
def Y7 [Lp](p1:Map)(p2:Map)(p3:Int)(p4:Int):Option Bool:=
  cond (p3==1) ((D6 p1.Lanes p4).bind fun v1=>(D6 p2.Lanes p4).bind fun v2=>(W9 v1 v2).bind fun v3=>some v3) (cond (p3==2) ((D6 p1.Zones p4).bind fun v4=>(D6 p2.Zones p4).bind fun v5=>(Ab v4 v5).bind fun v6=>some v6) (cond (p3==3) ((D6 p1.Signals p4).bind fun v7=>(D6 p2.Signals p4).bind fun v8=>(V9 v7 v8).bind fun v9=>some v9) ((D6 p1.Works p4).bind fun v10=>(D6 p2.Works p4).bind fun v11=>some (v10.Lane_==v11.Lane_&& (v10.From==v11.From&& (v10.To==v11.To&& (v10.Begin==v11.Begin&& (v10.End==v11.End&& (v10.Limit==v11.Limit&&true)))))))))
theorem Sm(p1 p2 p3 p4 r)(h:Y7 p1 p2 p3 p4=some r):PCall prog 85 [(.agg (O1 p1)),(.agg (O1 p2)),(i64 p3),(i64 p4)] (bo r):=by
 refine C0 (fk func85 ntmps85 m0 (by with_unfolding_all rfl)) (nl Z) ?_
 unfold Y7 at h
 refine A5 (s0:=⟨T [(0,(.d _)),(1,(.d _)),(2,(.d _)),(3,(.d _))],G []⟩) (D2 Z Z) ?_
 refine B5<|sm Z<|sn Z Z<|sv Z<|A1<|A2<|B5<|sv Z<|A1<|A6<|B5<|sv Z<|sv Z<|A1<|cc Z h (fun c1 h=> ?_)<|fun c1 h=> ?_
 refine A2<|J6 Z<|sq Z<|sl Z (gq Z) Z (sv Z<|bs h fun _ hv1 h=>sd Z (C9 Z Z hv1 Z)<|sd Z (B9 Z hv1 Z Z)<|sq Z<|sl Z G_hit Z<|sv Z<|bs h fun _ hv2 h=>sd Z (C9 Z Z hv2 Z)<|sd Z (B9 Z hv2 Z Z)<|bs h fun _ hv3 h=>B8 Z Z A3 (Kd _ _ _ hv3) (.inl Z) (sv Z<|A1<|B1 ?_))
 cases h
 exact A8 (.inr Z) (B4 (B2 Z) C2) (.refl _)
 refine B5<|sv Z<|sv Z<|A1<|cc Z h (fun c2 h=> ?_)<|fun c2 h=> ?_
 refine A2<|J6 Z<|sq Z<|sl Z (gq Z) Z (sv Z<|bs h fun _ hv4 h=>sd Z (C9 Z Z hv4 Z)<|sd Z (B9 Z hv4 Z Z)<|sq Z<|sl Z G_hit Z<|sv Z<|bs h fun _ hv5 h=>sd Z (C9 Z Z hv5 Z)<|sd Z (B9 Z hv5 Z Z)<|bs h fun _ hv6 h=>B8 Z Z A3 (Ke _ _ _ hv6) (.inl Z) (sv Z<|A1<|B1 ?_))
 cases h
 exact A8 (.inr Z) (B4 (B2 Z) C2) (.refl _)
 refine B5<|sv Z<|sv Z<|A1<|cc Z h (fun c3 h=> ?_)<|fun c3 h=> ?_
 refine A2<|J6 Z<|sq Z<|sl Z (gq Z) Z (sv Z<|bs h fun _ hv7 h=>sd Z (C9 Z Z hv7 Z)<|sd Z (B9 Z hv7 Z Z)<|sq Z<|sl Z G_hit Z<|sv Z<|bs h fun _ hv8 h=>sd Z (C9 Z Z hv8 Z)<|sd Z (B9 Z hv8 Z Z)<|bs h fun _ hv9 h=>B8 Z Z A3 (Ia _ _ _ hv9) (.inl Z) (sv Z<|A1<|B1 ?_))
 cases h
 exact A8 (.inr Z) (B4 (B2 Z) C2) (.refl _)
 refine A9<|D9<|A2<|J6 Z<|sq Z<|sl Z (gq Z) Z (sv Z<|bs h fun v10 hv10 h=>sd Z (C9 Z Z hv10 Z)<|sd Z (B9 Z hv10 Z Z)<|sq Z<|sl Z G_hit Z<|sv Z<|bs h fun v11 hv11 h=>sd Z (C9 Z Z hv11 Z)<|sd Z (B9 Z hv11 Z Z)<|B6 (.d (bo (v10.Lane_==v11.Lane_&& (v10.From==v11.From&& (v10.To==v11.To&& (v10.Begin==v11.Begin&& (v10.End==v11.End&& (v10.Limit==v11.Limit&&true)))))))) Z Z (sv Z<|A1<|B1 ?_))
 cases h
 exact A8 (.inr Z) (B4 (B2 Z) C2) (.refl _)
def Lr (p1:Curve):Option Curve:=
  (U5 ([]:List Spot) p1.Pts).bind fun v1=>some (Curve.mk v1)
theorem Xl(p1 r)(h:Lr p1=some r):PCall prog 167 [(.agg [(.list (List.map I0 p1.Pts))])] (.agg [(.list (List.map I0 r.Pts))]):=by
 refine C0 (fk func167 ntmps167 m0 (by with_unfolding_all rfl)) (nl Z) ?_
 unfold Lr at h
 refine A5 (s0:=⟨T [(0,(.d _))],G []⟩) (D2 Z Z) ?_
 refine B5<|sm Z<|sn Z Z<|A1<|lr<|fun u2 _=>Tg (.sl _) (.arr 148 2 (List.map I0 ([]:List Spot))) Z Z (sq Z<|sl Z (gq Z) Z (bs h fun _ hv1 h=>Gd I0 _ _ _ _ (F4<|fun _=>Z) Z G_hit hv1 (B6 (.agg _) Z Z (Aj Z (gq Z) [(.sl (6,u2))] Z (A1<|B1 ?_)))))
 cases h
 exact A8 (.inr Z) (B4 (H8 Z G_hit (nl Z) Z)<|KW<|O4 (Td<|gq Z) K9) (.refl _)
def Hc (p1:(List Int)):Option (List Int):=
  (U5 ([]:List Int) p1).bind fun v1=>some v1
theorem Oz(p1 r)(h:Hc p1=some r):PCall prog 168 [(.list (List.map A7 p1))] (.list (List.map A7 r)):=by
 refine C0 (fk func168 ntmps168 m0 (by with_unfolding_all rfl)) (nl Z) ?_
 unfold Hc at h
 refine A5 (s0:=⟨T [(0,(.d _))],G []⟩) (D2 Z Z) ?_
 refine B5<|sv Z<|A1<|lr<|fun u2 hu2=>sv Z<|bs h fun v1 hv1 h=>Se A7 (4,u2) ([]:List Int) p1 _ (F4<|fun _=>Z) Z (Ja hu2) hv1 (Ja hu2) (B6 (oS v1 (4,u2)) Z Z (A1<|B1 ?_))
 cases h
 exact A8 (.inr Z) (B4 (B2 Z)<|Ed G_hit) Ec
def Fi (p1:Lane):Option Lane:=
  (Lr p1.Curve_).bind fun v1=>(Hc p1.Next).bind fun v2=>some (Lane.mk p1.Kind v1 p1.Half p1.Limit v2)
theorem Sn(p1 r)(h:Fi p1=some r):PCall prog 62 [(.agg (R8 p1))] (.agg (R8 r)):=by
 refine C0 (fk func62 ntmps62 m0 (by with_unfolding_all rfl)) (nl Z) ?_
 unfold Fi at h
 refine A5 (s0:=⟨T [(0,(.d _))],G []⟩) (D2 Z Z) ?_
 refine B5<|sm Z<|sn Z Z<|A1<|B5<|sq Z<|sd Z (B3 Z (gq Z) Z Z)<|bs h fun v1 hv1 h=>B8 Z Z A3 (Xl _ _ hv1) (.inl Z) (sq Z<|Aj Z (gq Z) ((De p1).set 1 (dl I0 v1.Pts)) Z (A1<|B5<|sq Z<|sl Z G_hit Z<|bs h fun v2 hv2 h=>B8 Z Z A3 (Oz _ _ hv2) (.inl Z) (sq Z<|Aj Z G_hit (((De p1).set 1 (dl I0 v1.Pts)).set 4 (dl A7 v2)) Z (A1<|B5<|sd Z (B3 Z G_hit Z Z)<|Aj Z (gq Z) (((De p1).set 1 (dl I0 v1.Pts)).set 4 (dl A7 v2)) Z (A1<|B1 ?_)))))
 cases h
 exact A8 (.inr Z) (B4 (H8 Z G_hit (nl Z) Z) C2) (.refl _)
def Fj (p1:Zone):Option Zone:=
  (U5 ([]:List Part) p1.Parts).bind fun v1=>some (Zone.mk v1 p1.Signal_)
theorem So(p1 r)(h:Fj p1=some r):PCall prog 63 [(.agg [(.list (List.map G1 p1.Parts)),(i64 p1.Signal_)])] (.agg [(.list (List.map G1 r.Parts)),(i64 r.Signal_)]):=by
 refine C0 (fk func63 ntmps63 m0 (by with_unfolding_all rfl)) (nl Z) ?_
 unfold Fj at h
 refine A5 (s0:=⟨T [(0,(.d _))],G []⟩) (D2 Z Z) ?_
 refine B5<|sm Z<|sn Z Z<|A1<|lr<|fun u2 hu2=>sq Z<|sl Z (gq Z) Z (bs h fun v1 hv1 h=>Se G1 (5,u2) ([]:List Part) p1.Parts _ (F4<|fun _=>Z) Z (Ja hu2) hv1 (Ja hu2) (sq Z<|Cq _ _ _ _ _ (Yp _ _) Z Z (gq Z) (nl Z) [(oS v1 (5,u2)),(di p1.Signal_)] Z (A1<|B5<|B6 (Bv [(oS v1 (5,u2)),(di p1.Signal_)]) Z (B3 Z G_hit Z Z) (Cq _ _ _ _ _ (Cr _) Z Z (gq Z) (nl Z) [(oS v1 (5,u2)),(di p1.Signal_)] Z (A1<|B1 ?_)))))
 cases h
 exact A8 (.inr Z) (B4 (H8 Z G_hit (nl Z) Z)<|Iz<|O4 (Ed<|gq Z)<|rD K9) (.agg (.cons ⟨Ec,Z⟩ (cz Z)))
def Ac (p1:Signal)(x1:((List Phase)×Int)):Option (Stp ((List Phase)×Int) (List Phase)):=
  cond (decide (x1.2< (p1.Phases.length:Int))) ((D6 p1.Phases x1.2).bind fun v1=>(D6 p1.Phases x1.2).bind fun v2=>(Hc v2.Green).bind fun v3=>(U5 x1.1 [(Phase.mk v1.Ticks v3)]).bind fun v4=>some (.go (v4,(I8 (x1.2+1))))) (some (.out x1.1))
def Dl [Lp](p1:Signal):Option Signal:=
  (loop (Ac p1) ([],0)).bind fun y1=>some (Signal.mk p1.Offset y1)
theorem Pw(p1 r)(h:Dl p1=some r):PCall prog 64 [(.agg [(i64 p1.Offset),(.list (List.map G3 p1.Phases))])] (.agg [(i64 r.Offset),(.list (List.map G3 r.Phases))]):=by
 refine C0 (fk func64 ntmps64 (fun r=>if r==5 then [1015]else []) (by with_unfolding_all rfl)) (nl Z) ?_
 unfold Dl at h
 refine A5 (s0:=⟨T [(0,(.d _))],G []⟩) (D2 Z Z) ?_
 refine lr<|fun u1 _=>sm Z<|sm Z<|A1<|B5<|sv Z<|A1<|A2<|B5<|sv Z<|A1<|bs h fun y1 hy1 h=>D5 (fun s=> ∃g1:Nat,Sb ⟨T [(1,(.ptr (1,u1) 0)),(2,(.ptr (2,u1) 0)),(3,(oS y1 (28,g1)))],G [((1,u1),some<|.box 48 [(di p1.Offset),(dl G3 p1.Phases)]),((2,u1),some<|.box 48 [(di 0),(.d .nilS)]),((28,g1),oB 97 2 G3 y1)]⟩ s) ?_ ?_
 refine A6<|E0 (Ac p1) (fun (x1:((List Phase)×Int)) (g2:Nat)=>⟨T [(1,(.ptr (1,u1) 0)),(2,(.ptr (2,u1) 0)),(3,(oS x1.1 (28,g2))),(4,(di x1.2))],G [((1,u1),some<|.box 48 [(di p1.Offset),(dl G3 p1.Phases)]),((2,u1),some<|.box 48 [(di 0),(.d .nilS)]),((28,g2),oB 97 2 G3 x1.1)]⟩) ([],0) 0 _ hy1 (C3 (U2 Z)<|sg Z<|B7 G_hit (.of Z)<|Y1 trivial) ?_
 intro x1 g2 z1 hz1 ez1
 unfold Ac at hz1
 refine A2<|B5<|sv Z<|sq Z<|sl Z G_hit Z<|sd Z (C1 Z)<|sv Z<|A1<|cc Z hz1 (fun c1 hz1=> ?_)<|fun c1 hz1=> ?_
 refine A9<|A2<|A6<|Lj Z fun u5 _=>B6 (oS x1.1 (28,g2)) Z Z (sq Z<|sl Z G_hit Z<|sv Z<|bs hz1 fun v1 hv1 hz1=>sd Z (C9 Z Z hv1 Z)<|sv Z<|sd Z (F5 Z hv1 Z)<|sq Z<|sl Z G_hit Z<|sv Z<|bs hz1 fun _ hv2 hz1=>sd Z (C9 Z Z hv2 Z)<|sv Z<|sd Z (F5 Z hv2 Z)<|bs hz1 fun v3 hv3 hz1=>B8 Z Z A3 (Oz _ _ hv3) (.inl Z) (sv Z<|B6 (dl G3 [(Phase.mk v1.Ticks v3)]) Z Z (bs hz1 fun _ hv4 hz1=>J2 G3 (28,g2) x1.1 (Phase.mk v1.Ticks v3) [] _ (F4<|fun _=>Z) Z (gq Z) hv4 (ss Z<|A1<|D9<|A5 (s0:=⟨T [(1,(.ptr _ _)),(2,(.ptr _ _)),(3,(.sl _)),(4,(.d _))],G [((1,u1),some<|.box 48 _),((2,u1),some<|.box 48 _),((28,u5),some _)]⟩) (D2 Z Z) ?_))))
 refine B0<|sv Z<|sv Z<|sv Z<|A1<|E7 ?_
 cases hz1
 exact ⟨Z,u5,(C3 ⟨.of Z, .of Z,(.of (Ai<|O0 hv4).symm), .of Z,trivial⟩<|B7 G_hit (.of Z)<|sg Z<|P5 (gq Z) trivial)⟩
 refine C5 Z ?_
 cases hz1
 obtain rfl:=ez1 _ rfl
 refine ⟨nofun,C4 Z<|Y5 ?_⟩
 exact ⟨g2,(C3 (U2 Z)<|B7 G_hit (.of Z)<|sg Z<|D3 (gq Z) trivial)⟩
 rintro _ ⟨g1,q1⟩
 refine A5 q1<|B5<|B6 (oS y1 (28,g1)) Z Z (sq Z<|Cq _ _ _ _ _ (Yp _ _) Z Z G_hit (nl Z) [(di p1.Offset),(oS y1 (28,g1))] Z (A1<|B5<|B6 (Bv [(di p1.Offset),(oS y1 (28,g1))]) Z (B3 Z G_hit Z Z) (Cq _ _ _ _ _ (Cr _) Z Z (gq Z) (nl Z) [(di p1.Offset),(oS y1 (28,g1))] Z (A1<|B1 ?_))))
 cases h
 exact A8 (.inr Z) (B4 (H8 Z G_hit (nl Z) Z)<|Iz<|rD<|O4 (Ed<|gq Z) K9) (.agg (ca Z<|.cons ⟨Ec,Z⟩ .nil))
def Cz [Lp](p1:Int)(p2:Int)(p3:Int)(p4:Map):Option Edit:=
  cond (p2==1) ((D6 p4.Lanes p3).bind fun v1=>(Fi v1).bind fun v2=>some (Edit.mk p1 p2 p3 v2 (Zone.mk [] 0) (Signal.mk 0 []) (Work.mk 0 0 0 0 0 0))) (cond (p2==2) ((D6 p4.Zones p3).bind fun v3=>(Fj v3).bind fun v4=>some (Edit.mk p1 p2 p3 (Lane.mk 0 (Curve.mk []) 0 0 []) v4 (Signal.mk 0 []) (Work.mk 0 0 0 0 0 0))) (cond (p2==3) ((D6 p4.Signals p3).bind fun v5=>(Dl v5).bind fun v6=>some (Edit.mk p1 p2 p3 (Lane.mk 0 (Curve.mk []) 0 0 []) (Zone.mk [] 0) v6 (Work.mk 0 0 0 0 0 0))) (cond (p2==4) ((D6 p4.Works p3).bind fun v7=>some (Edit.mk p1 p2 p3 (Lane.mk 0 (Curve.mk []) 0 0 []) (Zone.mk [] 0) (Signal.mk 0 []) v7)) (some (Edit.mk p1 p2 p3 (Lane.mk 0 (Curve.mk []) 0 0 []) (Zone.mk [] 0) (Signal.mk 0 []) (Work.mk 0 0 0 0 0 0))))))
theorem Pa(p1 p2 p3 p4 r)(h:Cz p1 p2 p3 p4=some r):PCall prog 108 [(i64 p1),(i64 p2),(i64 p3),(.agg (O1 p4))] (.agg (E3 r)):=by
 refine C0 (fk func108 ntmps108 m0 (by with_unfolding_all rfl)) (nl Z) ?_
 unfold Cz at h
 refine A5 (s0:=⟨T [(0,(.d _)),(1,(.d _)),(2,(.d _)),(3,(.d _))],G []⟩) (D2 Z Z) ?_
 refine lr<|fun u1 _=>sm Z<|sm Z<|A1<|lr<|fun u2 _=>sv Z<|sv Z<|sv Z<|sv Z<|sm Z<|Aj Z G_hit ([(di p1),(di p2),(di p3)]++ ((zs 4).set 1 (.d .nilS))++ [(.d .nilS),(.d .nilS)]++ ((zs 9).set 2 (.d .nilS))) Z (A1<|A2<|B5<|sv Z<|A1<|A6<|B5<|sv Z<|sv Z<|A1<|cc Z h (fun c1 h=> ?_)<|fun c1 h=> ?_)
 refine B0<|sq Z<|sl Z (gq Z) Z (sv Z<|bs h fun _ hv1 h=>sd Z (C9 Z Z hv1 Z)<|sd Z (B9 Z hv1 Z Z)<|bs h fun v2 hv2 h=>B8 Z Z A3 (Sn _ _ hv2) (.inl Z) (sq Z<|Aj Z G_hit ([(di p1),(di p2),(di p3)]++ (De v2)++ [(.d .nilS)]++ ((zs 9).set 2 (.d .nilS))) Z (A1<|D9<|A2<|A5 (s0:=⟨T [(8,(.ptr _ _)),(9,(.ptr _ _))],G [((8,u1),some<|.box 52 _),((9,u2),some<|.box 52 _)]⟩) (D2 Z Z) ?_)))
 refine B0<|sd Z (B3 Z (gq Z) Z Z)<|Aj Z G_hit ([(di p1),(di p2),(di p3)]++ (De v2)++ [(.d .nilS)]++ ((zs 9).set 2 (.d .nilS))) Z (A1<|B1 ?_)
 cases h
 exact A8 (.inr Z) (B4 (H8 Z G_hit (nl Z) Z) C2) (.agg (ca Z<|ca Z<|ca Z<|ca Z<|ca Z<|ca Z<|ca Z<|ca Z<|.cons ⟨DLe.nil,Z⟩ (ca Z<|ca Z<|.cons ⟨DLe.nil,Z⟩ (cz Z))))
 refine B5<|sv Z<|sv Z<|A1<|cc Z h (fun c2 h=> ?_)<|fun c2 h=> ?_
 refine B0<|sq Z<|sl Z (gq Z) Z (sv Z<|bs h fun _ hv3 h=>sd Z (C9 Z Z hv3 Z)<|sd Z (B9 Z hv3 Z Z)<|bs h fun v4 hv4 h=>B8 Z Z A3 (So _ _ hv4) (.inl Z) (sq Z<|Aj Z G_hit ([(di p1),(di p2),(di p3)]++ ((zs 4).set 1 (.d .nilS))++ [(.d .nilS),(dl G1 v4.Parts),(di v4.Signal_)]++ ((zs 8).set 1 (.d .nilS))) Z (A1<|D9<|A2<|A5 (s0:=⟨T [(8,(.ptr _ _)),(9,(.ptr _ _))],G [((8,u1),some<|.box 52 _),((9,u2),some<|.box 52 _)]⟩) (D2 Z Z) ?_)))
 refine B0<|sd Z (B3 Z (gq Z) Z Z)<|Aj Z G_hit ([(di p1),(di p2),(di p3)]++ ((zs 4).set 1 (.d .nilS))++ [(.d .nilS),(dl G1 v4.Parts),(di v4.Signal_)]++ ((zs 8).set 1 (.d .nilS))) Z (A1<|B1 ?_)
 cases h
 exact A8 (.inr Z) (B4 (H8 Z G_hit (nl Z) Z) C2) (.agg (ca Z<|ca Z<|ca Z<|ca Z<|.cons ⟨DLe.nil,Z⟩ (ca Z<|ca Z<|.cons ⟨DLe.nil,Z⟩ (ca Z<|ca Z<|ca Z<|.cons ⟨DLe.nil,Z⟩ (cz Z)))))
 refine B5<|sv Z<|sv Z<|A1<|cc Z h (fun c3 h=> ?_)<|fun c3 h=> ?_
 refine B0<|sq Z<|sl Z (gq Z) Z (sv Z<|bs h fun _ hv5 h=>sd Z (C9 Z Z hv5 Z)<|sd Z (B9 Z hv5 Z Z)<|bs h fun v6 hv6 h=>B8 Z Z A3 (Pw _ _ hv6) (.inl Z) (sq Z<|Aj Z G_hit ([(di p1),(di p2),(di p3)]++ ((zs 4).set 1 (.d .nilS))++ [(.d .nilS),(.d .nilS)]++ (((zs 9).set 1 (di v6.Offset)).set 2 (dl G3 v6.Phases))) Z (A1<|D9<|A2<|A5 (s0:=⟨T [(8,(.ptr _ _)),(9,(.ptr _ _))],G [((8,u1),some<|.box 52 _),((9,u2),some<|.box 52 _)]⟩) (D2 Z Z) ?_)))
 refine B0<|sd Z (B3 Z (gq Z) Z Z)<|Aj Z G_hit ([(di p1),(di p2),(di p3)]++ ((zs 4).set 1 (.d .nilS))++ [(.d .nilS),(.d .nilS)]++ (((zs 9).set 1 (di v6.Offset)).set 2 (dl G3 v6.Phases))) Z (A1<|B1 ?_)
 cases h
 exact A8 (.inr Z) (B4 (H8 Z G_hit (nl Z) Z) C2) (.agg (ca Z<|ca Z<|ca Z<|ca Z<|.cons ⟨DLe.nil,Z⟩ (ca Z<|ca Z<|.cons ⟨DLe.nil,Z⟩ (.cons ⟨DLe.nil,Z⟩ (cz Z)))))
 refine B5<|sv Z<|sv Z<|A1<|cc Z h (fun c4 h=> ?_)<|fun c4 h=> ?_
 refine A5 (s0:=⟨T [(2,(.d _)),(7,(.ptr _ _)),(8,(.ptr _ _)),(9,(.ptr _ _))],G [((7,u1),some<|.box 27 _),((8,u1),some<|.box 52 _),((9,u2),some<|.box 52 _)]⟩) (D2 Z Z) ?_
 refine B0<|sq Z<|sl Z G_hit Z<|sv Z<|bs h fun v7 hv7 h=>sd Z (C9 Z Z hv7 Z)<|sd Z (B9 Z hv7 Z Z)<|sq Z<|Aj Z (gq Z) ([(di p1),(di p2),(di p3)]++ ((zs 4).set 1 (.d .nilS))++ [(.d .nilS),(.d .nilS),(di 0),(di 0),(.d .nilS)]++ (GX v7)) Z (A1<|D9<|B5<|sd Z (B3 Z G_hit Z Z)<|Aj Z (gq Z) ([(di p1),(di p2),(di p3)]++ ((zs 4).set 1 (.d .nilS))++ [(.d .nilS),(.d .nilS),(di 0),(di 0),(.d .nilS)]++ (GX v7)) Z (A1<|B1 ?_))
 cases h
 exact A8 (.inr Z) (B4 (H8 Z G_hit (nl Z) Z) C2) (.agg (ca Z<|ca Z<|ca Z<|ca Z<|.cons ⟨DLe.nil,Z⟩ (ca Z<|ca Z<|.cons ⟨DLe.nil,Z⟩ (.cons ⟨DLe.nil,Z⟩ (ca Z<|ca Z<|.cons ⟨DLe.nil,Z⟩ (cz Z))))))
 refine A9<|D9<|A2<|A5 (s0:=⟨T [(8,(.ptr _ _)),(9,(.ptr _ _))],G [((8,u1),some<|.box 52 _),((9,u2),some<|.box 52 _)]⟩) (D2 Z Z) ?_
 refine B0<|sd Z (B3 Z (gq Z) Z Z)<|Aj Z G_hit ([(di p1),(di p2),(di p3)]++ ((zs 4).set 1 (.d .nilS))++ [(.d .nilS),(.d .nilS)]++ ((zs 9).set 2 (.d .nilS))) Z (A1<|B1 ?_)
 cases h
 exact A8 (.inr Z) (B4 (H8 Z G_hit (nl Z) Z) C2) (.agg (ca Z<|ca Z<|ca Z<|ca Z<|.cons ⟨DLe.nil,Z⟩ (ca Z<|ca Z<|.cons ⟨DLe.nil,Z⟩ (.cons ⟨DLe.nil,Z⟩ (ca Z<|ca Z<|.cons ⟨DLe.nil,Z⟩ (cz Z))))))
def Bq [Lp](p2:Map)(x1:(Int×Patch))(v4:Int)(x4:(Int×Patch)):Option (Stp (Int×Patch) Patch):=
  cond (decide (x4.1<v4)) ((Cz 1 x1.1 x4.1 p2).bind fun v9=>(U5 x4.2.Edits [v9]).bind fun v10=>some (.go ((I8 (x4.1+1)),(Patch.mk x4.2.Base v10)))) (some (.out x4.2))
def Br (x1:(Int×Patch))(v4:Int)(x3:(Int×Patch)):Option (Stp (Int×Patch) Patch):=
  cond (decide (x3.1≥v4)) ((U5 x3.2.Edits [(Edit.mk 2 x1.1 x3.1 (Lane.mk 0 (Curve.mk []) 0 0 []) (Zone.mk [] 0) (Signal.mk 0 []) (Work.mk 0 0 0 0 0 0))]).bind fun v8=>some (.go ((I8 (x3.1 - 1)),(Patch.mk x3.2.Base v8)))) (some (.out x3.2))
def Bs [Lp](p1:Map)(p2:Map)(x1:(Int×Patch))(v3:Int)(v4:Int)(x2:(Int×Patch)):Option (Stp (Int×Patch) Patch):=
  cond ((decide (x2.1<v3))&& (decide (x2.1<v4))) ((Y7 p1 p2 x1.1 x2.1).bind fun v5=>cond (!v5) ((Cz 3 x1.1 x2.1 p2).bind fun v6=>(U5 x2.2.Edits [v6]).bind fun v7=>some (.go ((I8 (x2.1+1)),(Patch.mk x2.2.Base v7)))) (some (.go ((I8 (x2.1+1)),x2.2)))) (some (.out x2.2))
def Dr [Lp](p1:Map)(p2:Map)(x1:(Int×Patch)):Option (Stp (Int×Patch) Patch):=
  cond (decide (x1.1≤4)) ((Ha p1 x1.1).bind fun v3=>(Ha p2 x1.1).bind fun v4=>(loop (Bs p1 p2 x1 v3 v4) (0,x1.2)).bind fun y3=>(loop (Br x1 v4) ((I8 (v3 - 1)),y3)).bind fun y4=>(loop (Bq p2 x1 v4) (v3,y4)).bind fun y5=>some (.go ((I8 (x1.1+1)),y5))) (some (.out x1.2))
def Jo [Lp](p1:Map)(p2:Map):Option (Patch×Int):=
  (Fz p1).bind fun v1=>(cond (v1==0) ((Fz p2).bind fun v2=>some v2) (some v1)).bind fun y1=>cond (y1 !=0) (some ((Patch.mk 0 []),y1)) ((loop (Dr p1 p2) (1,(Patch.mk p1.Version []))).bind fun y2=>some (y2,0))
theorem Xm(p1 p2 r)(h:Jo p1 p2=some r):PCall prog 24 [(.agg (O1 p1)),(.agg (O1 p2))] (.tup [(.agg [(i64 r.1.Base),(.list (List.map E3 r.1.Edits))]),(i64 r.2)]):=by
 refine C0 (fk func24 ntmps24 (fun r=>if r==15 then [1006]else if r==19 then [1005]else if r==23 then [1006]else []) (by with_unfolding_all rfl)) (nl Z) ?_
 unfold Jo at h
 refine A5 (s0:=⟨T [(0,(.d _)),(1,(.d _))],G []⟩) (D2 Z Z) ?_
 refine lr<|fun u1 _=>sm Z<|sm Z<|sn Z Z<|sv Z<|A1<|B5<|sd Z (B3 Z (gq Z) Z Z)<|bs h fun _ hv1 h=>B8 Z Z A3 (Nr _ _ hv1) (.inl Z) (sv Z<|A1<|A2<|B5<|sv Z<|sv Z<|A1<|bs h fun y1 hy1 h=>D5 (fun s=> ∃g1:Unit,Sb ⟨T [(2,(.ptr (2,u1) 0)),(3,(.ptr (3,u1) 0)),(4,(.ptr (4,u1) 0)),(6,(di y1))],G [((2,u1),some<|.box 27 (I4 p1)),((3,u1),some<|.box 27 (I4 p2)),((4,u1),some<|.box 36 [(di 0),(.d .nilS)])]⟩ s) ?_ ?_)
 refine cc Z hy1 (fun c1 hy1=> ?_)<|fun c1 hy1=> ?_
 refine B0<|sd Z (B3 Z (gq Z) Z Z)<|bs hy1 fun _ hv2 hy1=>B8 Z Z A3 (Nr _ _ hv2) (.inl Z) (sv Z<|A1 ?_)
 cases hy1
 exact Y5 ⟨(),(D2 Z Z)⟩
 refine A9 ?_
 cases hy1
 exact Y5 ⟨(),(D2 Z Z)⟩
 rintro _ ⟨g1,q1⟩
 refine A5 q1<|A2<|B5<|sv Z<|sv Z<|A1<|cc Z h (fun c2 h=> ?_)<|fun c2 h=> ?_
 refine B5<|sv Z<|sv Z<|Aj Z (gq Z) [(di 0),(.d .nilS)] Z (sv Z<|A1<|B1 ?_)
 cases h
 exact A8 (.inr Z) (Te (H8 Z G_hit (nl Z) Z) (B2 Z) C2 C2) (.tup (.cons (.agg (ca Z<|.cons ⟨DLe.nil,Z⟩ .nil)) A3))
 refine A9<|lr<|fun u7 _=>sq Z<|sl Z G_hit Z<|sv Z<|sm Z<|Aj Z G_hit [(di p1.Version),(.d .nilS)] Z (A1<|A2<|B5<|sv Z<|A1<|bs h fun y2 hy2 h=>D5 (fun s=> ∃g2:({d:Nat // d∈ [60,75,90]}×Nat),Sb ⟨T [(4,(.ptr (4,u1) 0)),(7,(.ptr (7,u7) 0))],G [((4,u1),some<|.box 36 [(di 0),(.d .nilS)]),((7,u7),some<|.box 36 [(di y2.Base),(oS y2.Edits (g2.1.val,g2.2))]),((g2.1.val,g2.2),oB 52 18 E3 y2.Edits)]⟩ s) ?_ ?_)
 refine A6<|E0 (Dr p1 p2) (fun (x1:(Int×Patch)) (g3:({d:Nat // d∈ [60,75,90]}×Nat))=>⟨T [(2,(.ptr (2,u1) 0)),(3,(.ptr (3,u1) 0)),(4,(.ptr (4,u1) 0)),(7,(.ptr (7,u7) 0)),(8,(di x1.1))],G [((2,u1),some<|.box 27 (I4 p1)),((3,u1),some<|.box 27 (I4 p2)),((4,u1),some<|.box 36 [(di 0),(.d .nilS)]),((7,u7),some<|.box 36 [(di x1.2.Base),(oS x1.2.Edits (g3.1.val,g3.2))]),((g3.1.val,g3.2),oB 52 18 E3 x1.2.Edits)]⟩) (1,(Patch.mk p1.Version [])) (⟨60, .head _⟩,0) _ hy2 (C3 (U2 Z)<|sg Z<|sg Z<|sg Z<|B7 G_hit (.of Z)<|Y1 trivial) ?_
 intro x1 g3 z1 hz1 ez1
 unfold Dr at hz1
 refine A2<|B5<|sv Z<|sv Z<|A1<|cc Z hz1 (fun c3 hz1=> ?_)<|fun c3 hz1=> ?_
 refine A9<|A2<|A6<|A2<|J6 Z<|sd Z (B3 Z G_hit Z Z)<|sv Z<|bs hz1 fun v3 hv3 hz1=>B8 Z Z A3 (Oy _ _ _ hv3) (.inl Z) (sd Z (B3 Z (gq Z) Z Z)<|sv Z<|bs hz1 fun v4 hv4 hz1=>B8 Z Z A3 (Oy _ _ _ hv4) (.inl Z) (sv Z<|sv Z<|A1<|A2<|B5<|sv Z<|A1<|bs hz1 fun y3 hy3 hz1=>D5 (fun s=> ∃g4:({d:Nat // d∈ [60,75,90]}×Nat),Sb ⟨T [(2,(.ptr (2,u1) 0)),(3,(.ptr (3,u1) 0)),(4,(.ptr (4,u1) 0)),(7,(.ptr (7,u7) 0)),(8,(di x1.1)),(9,(di v3)),(10,(di v4))],G [((2,u1),some<|.box 27 (I4 p1)),((3,u1),some<|.box 27 (I4 p2)),((4,u1),some<|.box 36 [(di 0),(.d .nilS)]),((7,u7),some<|.box 36 [(di y3.Base),(oS y3.Edits (g4.1.val,g4.2))]),((g4.1.val,g4.2),oB 52 18 E3 y3.Edits)]⟩ s) ?_ ?_))
 refine A6<|E0 (Bs p1 p2 x1 v3 v4) (fun (x2:(Int×Patch)) (g5:({d:Nat // d∈ [60,75,90]}×Nat))=>⟨T [(2,(.ptr (2,u1) 0)),(3,(.ptr (3,u1) 0)),(4,(.ptr (4,u1) 0)),(7,(.ptr (7,u7) 0)),(8,(di x1.1)),(9,(di v3)),(10,(di v4)),(11,(di x2.1))],G [((2,u1),some<|.box 27 (I4 p1)),((3,u1),some<|.box 27 (I4 p2)),((4,u1),some<|.box 36 [(di 0),(.d .nilS)]),((7,u7),some<|.box 36 [(di x2.2.Base),(oS x2.2.Edits (g5.1.val,g5.2))]),((g5.1.val,g5.2),oB 52 18 E3 x2.2.Edits)]⟩) (0,x1.2) (g3.1,g3.2) _ hy3 (C3 (U2 Z)<|B7 G_hit (.of Z)<|sg Z<|sg Z<|sg Z<|D3 (IE g3.1.property 4 Z G_hit) trivial) ?_
 intro x2 g5 z2 hz2 ez2
 unfold Bs at hz2
 refine A2<|B5<|sv Z<|sv Z<|sv Z<|sv Z<|gt Z (fun _=>Z)<|gt Z (fun _=>Z)<|gt Z (fun w3=>(T1 (A4 w3) (A4 w3) Z))<|sa Z Z Z<|A1<|cc Z hz2 (fun c4 hz2=> ?_)<|fun c4 hz2=> ?_
 refine A9<|A2<|A6<|B5<|sd Z (B3 Z G_hit Z Z)<|sd Z (B3 Z (gq Z) Z Z)<|sv Z<|sv Z<|bs hz2 fun v5 hv5 hz2=>B8 Z Z A3 (Sm _ _ _ _ _ hv5) (.inl Z) (B6 (.d (bo (!v5))) Z Z (A1<|cc Z hz2 (fun c5 hz2=> ?_)<|fun c5 hz2=> ?_))
 refine A5 (s0:=⟨T [(2,(.ptr (2,u1) 0)),(3,(.ptr (3,u1) 0)),(4,(.ptr (4,u1) 0)),(7,(.ptr (7,u7) 0)),(8,(di x1.1)),(9,(di v3)),(10,(di v4)),(11,(di x2.1))],G [((2,u1),some<|.box 27 (I4 p1)),((3,u1),some<|.box 27 (I4 p2)),((4,u1),some<|.box 36 [(di 0),(.d .nilS)]),((7,u7),some<|.box 36 [(di x2.2.Base),(oS x2.2.Edits (g5.1.val,g5.2))]),((g5.1.val,g5.2),oB 52 18 E3 x2.2.Edits)]⟩) (C3 (U2 Z)<|B7 G_hit (.of Z)<|sg Z<|sg Z<|sg Z<|D3 (IE g5.1.property 4 Z G_hit) trivial) ?_
 refine Lj Z fun u14 _=>sq Z<|B6 (oS x2.2.Edits (g5.1.val,g5.2)) Z (Gf Z (gq Z) Z) (sv Z<|sv Z<|sd Z (B3 Z (gq Z) Z Z)<|bs hz2 fun v6 hv6 hz2=>B8 Z Z A3 (Pa _ _ _ _ _ hv6) (.inl Z) (B6 (dl E3 [v6]) Z (Bx E3 ([v6]:List Edit) (fun _=>Z) Z Z ⟨Z,Z,Z,trivial⟩ (fun _=>Z)) (bs hz2 fun v7 hv7 hz2=>J2 E3 (g5.1.val,g5.2) x2.2.Edits v6 [] _ (F4<|fun _=>Z) Z (N6 (ID g5.1.property Z)<|N6 (ID g5.1.property Z)<|N6 (ID g5.1.property Z)<|N6 (ID g5.1.property Z) G_hit) hv7 (sq Z<|Cq _ _ _ _ _ Z Z Z (N6 Z<|N6 (IV g5.1.property Z)<|gq Z) (nl Z) [(di x2.2.Base),(.sl (60,u14))] Z (A1<|D9<|A5 (s0:=⟨T [(2,(.ptr (2,u1) 0)),(3,(.ptr (3,u1) 0)),(4,(.ptr (4,u1) 0)),(7,(.ptr (7,u7) 0)),(8,(di x1.1)),(9,(di v3)),(10,(di v4)),(11,(di x2.1))],G [((2,u1),some<|.box 27 (I4 p1)),((3,u1),some<|.box 27 (I4 p2)),((4,u1),some<|.box 36 [(di 0),(.d .nilS)]),((7,u7),some<|.box 36 [(di x2.2.Base),(.sl (60,u14))]),((60,u14),some<|.arr 52 18 (List.map E3 v7))]⟩) (C3 (U2 Z)<|B7 (NI 2 Z<|N6 (IV g5.1.property Z) G_hit) (.of Z) (B7 (NI 2 Z<|N6 (IV g5.1.property Z)<|gq Z) (.of Z) (B7 (NI 2 Z<|N6 (IV g5.1.property Z)<|gq Z) (.of Z) (B7 G_hit (.of Z)<|sg Z trivial)))) ?_)))))
 refine B0<|sv Z<|sv Z<|sv Z<|A1<|E7 ?_
 cases hz2
 exact ⟨Z,(⟨60, .head _⟩,u14),(C3 (U2 Z)<|B7 G_hit (.of Z)<|sg Z<|sg Z<|B7 (gq Z) (.box (cv<|.cons (.of (Ai<|O0 hv7).symm) .nil)) (P5 (gq Z) trivial))⟩
 refine A9<|D9<|A5 (s0:=⟨T [(2,(.ptr (2,u1) 0)),(3,(.ptr (3,u1) 0)),(4,(.ptr (4,u1) 0)),(7,(.ptr (7,u7) 0)),(8,(di x1.1)),(9,(di v3)),(10,(di v4)),(11,(di x2.1))],G [((2,u1),some<|.box 27 (I4 p1)),((3,u1),some<|.box 27 (I4 p2)),((4,u1),some<|.box 36 [(di 0),(.d .nilS)]),((7,u7),some<|.box 36 [(di x2.2.Base),(oS x2.2.Edits (g5.1.val,g5.2))]),((g5.1.val,g5.2),oB 52 18 E3 x2.2.Edits)]⟩) (C3 (U2 Z)<|B7 G_hit (.of Z)<|sg Z<|sg Z<|sg Z<|D3 (IE g5.1.property 4 Z G_hit) trivial) ?_
 refine B0<|sv Z<|sv Z<|sv Z<|A1<|E7 ?_
 cases hz2
 exact ⟨Z,(g5.1,g5.2),(C3 (U2 Z)<|B7 G_hit (.of Z)<|sg Z<|sg Z<|sg Z<|D3 (IE g5.1.property 4 Z G_hit) trivial)⟩
 refine C5 Z ?_
 cases hz2
 obtain rfl:=ez2 _ rfl
 refine ⟨nofun,C4 Z<|Y5 ?_⟩
 exact ⟨(g5.1,g5.2),(C3 (U2 Z)<|B7 G_hit (.of Z)<|sg Z<|sg Z<|sg Z<|D3 (IE g5.1.property 4 Z G_hit) trivial)⟩
 rintro _ ⟨g4,q2⟩
 refine A5 q2<|A2<|B5<|sv Z<|sv Z<|sv Z<|A1<|bs hz1 fun y4 hy4 hz1=>D5 (fun s=> ∃g6:({d:Nat // d∈ [60,75,90]}×Nat),Sb ⟨T [(2,(.ptr (2,u1) 0)),(3,(.ptr (3,u1) 0)),(4,(.ptr (4,u1) 0)),(7,(.ptr (7,u7) 0)),(8,(di x1.1)),(9,(di v3)),(10,(di v4))],G [((2,u1),some<|.box 27 (I4 p1)),((3,u1),some<|.box 27 (I4 p2)),((4,u1),some<|.box 36 [(di 0),(.d .nilS)]),((7,u7),some<|.box 36 [(di y4.Base),(oS y4.Edits (g6.1.val,g6.2))]),((g6.1.val,g6.2),oB 52 18 E3 y4.Edits)]⟩ s) ?_ ?_
 refine A6<|E0 (Br x1 v4) (fun (x3:(Int×Patch)) (g7:({d:Nat // d∈ [60,75,90]}×Nat))=>⟨T [(2,(.ptr (2,u1) 0)),(3,(.ptr (3,u1) 0)),(4,(.ptr (4,u1) 0)),(7,(.ptr (7,u7) 0)),(8,(di x1.1)),(9,(di v3)),(10,(di v4)),(12,(di x3.1))],G [((2,u1),some<|.box 27 (I4 p1)),((3,u1),some<|.box 27 (I4 p2)),((4,u1),some<|.box 36 [(di 0),(.d .nilS)]),((7,u7),some<|.box 36 [(di x3.2.Base),(oS x3.2.Edits (g7.1.val,g7.2))]),((g7.1.val,g7.2),oB 52 18 E3 x3.2.Edits)]⟩) ((I8 (v3 - 1)),y3) (g4.1,g4.2) _ hy4 (C3 (U2 Z)<|B7 G_hit (.of Z)<|sg Z<|sg Z<|sg Z<|D3 (IE g4.1.property 4 Z G_hit) trivial) ?_
 intro x3 g7 z3 hz3 ez3
 unfold Br at hz3
 refine A2<|B5<|sv Z<|sv Z<|sv Z<|A1<|cc Z hz3 (fun c6 hz3=> ?_)<|fun c6 hz3=> ?_
 refine A9<|A2<|A6<|O9 fun u19 _=>sq Z<|B6 (oS x3.2.Edits (g7.1.val,g7.2)) Z (Gf Z (gq Z) Z) (sv Z<|sv Z<|sv Z<|B6 (dl E3 [(Edit.mk 2 x1.1 x3.1 (Lane.mk 0 (Curve.mk []) 0 0 []) (Zone.mk [] 0) (Signal.mk 0 []) (Work.mk 0 0 0 0 0 0))]) Z Z (bs hz3 fun v8 hv8 hz3=>J2 E3 (g7.1.val,g7.2) x3.2.Edits (Edit.mk 2 x1.1 x3.1 (Lane.mk 0 (Curve.mk []) 0 0 []) (Zone.mk [] 0) (Signal.mk 0 []) (Work.mk 0 0 0 0 0 0)) [] _ (F4<|fun _=>Z) Z (N6 (ID g7.1.property Z)<|N6 (ID g7.1.property Z)<|N6 (ID g7.1.property Z)<|N6 (ID g7.1.property Z) G_hit) hv8 (sq Z<|Cq _ _ _ _ _ Z Z Z (N6 Z<|N6 (IV g7.1.property Z)<|gq Z) (nl Z) [(di x3.2.Base),(.sl (75,u19))] Z (A1<|D9<|A5 (s0:=⟨T [(2,(.ptr (2,u1) 0)),(3,(.ptr (3,u1) 0)),(4,(.ptr (4,u1) 0)),(7,(.ptr (7,u7) 0)),(8,(di x1.1)),(9,(di v3)),(10,(di v4)),(12,(di x3.1))],G [((2,u1),some<|.box 27 (I4 p1)),((3,u1),some<|.box 27 (I4 p2)),((4,u1),some<|.box 36 [(di 0),(.d .nilS)]),((7,u7),some<|.box 36 [(di x3.2.Base),(.sl (75,u19))]),((75,u19),some<|.arr 52 18 (List.map E3 v8))]⟩) (C3 (U2 Z)<|B7 (NI 2 Z<|N6 (IV g7.1.property Z) G_hit) (.of Z) (B7 (NI 2 Z<|N6 (IV g7.1.property Z)<|gq Z) (.of Z) (B7 (NI 2 Z<|N6 (IV g7.1.property Z)<|gq Z) (.of Z) (B7 G_hit (.of Z)<|sg Z trivial)))) ?_))))
 refine B0<|sv Z<|sv Z<|sv Z<|A1<|E7 ?_
 cases hz3
 exact ⟨Z,(⟨75, .tail _ (.head _)⟩,u19),(C3 (U2 Z)<|B7 G_hit (.of Z)<|sg Z<|sg Z<|B7 (gq Z) (.box (cv<|.cons (.of (Ai<|O0 hv8).symm) .nil)) (P5 (gq Z) trivial))⟩
 refine C5 Z ?_
 cases hz3
 obtain rfl:=ez3 _ rfl
 refine ⟨nofun,C4 Z<|Y5 ?_⟩
 exact ⟨(g7.1,g7.2),(C3 (U2 Z)<|B7 G_hit (.of Z)<|sg Z<|sg Z<|sg Z<|D3 (IE g7.1.property 4 Z G_hit) trivial)⟩
 rintro _ ⟨g6,q3⟩
 refine A5 q3<|B5<|sv Z<|sv Z<|A1<|bs hz1 fun y5 hy5 hz1=>D5 (fun s=> ∃g8:({d:Nat // d∈ [60,75,90]}×Nat),Sb ⟨T [(2,(.ptr (2,u1) 0)),(3,(.ptr (3,u1) 0)),(4,(.ptr (4,u1) 0)),(7,(.ptr (7,u7) 0)),(8,(di x1.1))],G [((2,u1),some<|.box 27 (I4 p1)),((3,u1),some<|.box 27 (I4 p2)),((4,u1),some<|.box 36 [(di 0),(.d .nilS)]),((7,u7),some<|.box 36 [(di y5.Base),(oS y5.Edits (g8.1.val,g8.2))]),((g8.1.val,g8.2),oB 52 18 E3 y5.Edits)]⟩ s) ?_ ?_
 refine A6<|E0 (Bq p2 x1 v4) (fun (x4:(Int×Patch)) (g9:({d:Nat // d∈ [60,75,90]}×Nat))=>⟨T [(2,(.ptr (2,u1) 0)),(3,(.ptr (3,u1) 0)),(4,(.ptr (4,u1) 0)),(7,(.ptr (7,u7) 0)),(8,(di x1.1)),(10,(di v4)),(13,(di x4.1))],G [((2,u1),some<|.box 27 (I4 p1)),((3,u1),some<|.box 27 (I4 p2)),((4,u1),some<|.box 36 [(di 0),(.d .nilS)]),((7,u7),some<|.box 36 [(di x4.2.Base),(oS x4.2.Edits (g9.1.val,g9.2))]),((g9.1.val,g9.2),oB 52 18 E3 x4.2.Edits)]⟩) (v3,y4) (g6.1,g6.2) _ hy5 (C3 (U2 Z)<|B7 G_hit (.of Z)<|sg Z<|sg Z<|sg Z<|D3 (IE g6.1.property 4 Z G_hit) trivial) ?_
 intro x4 g9 z4 hz4 ez4
 unfold Bq at hz4
 refine A2<|B5<|sv Z<|sv Z<|sv Z<|A1<|cc Z hz4 (fun c7 hz4=> ?_)<|fun c7 hz4=> ?_
 refine A9<|A2<|A6<|Lj Z fun u23 _=>sq Z<|B6 (oS x4.2.Edits (g9.1.val,g9.2)) Z (Gf Z (gq Z) Z) (sv Z<|sv Z<|sd Z (B3 Z (gq Z) Z Z)<|bs hz4 fun v9 hv9 hz4=>B8 Z Z A3 (Pa _ _ _ _ _ hv9) (.inl Z) (B6 (dl E3 [v9]) Z (Bx E3 ([v9]:List Edit) (fun _=>Z) Z Z ⟨Z,Z,Z,trivial⟩ (fun _=>Z)) (bs hz4 fun v10 hv10 hz4=>J2 E3 (g9.1.val,g9.2) x4.2.Edits v9 [] _ (F4<|fun _=>Z) Z (N6 (ID g9.1.property Z)<|N6 (ID g9.1.property Z)<|N6 (ID g9.1.property Z)<|N6 (ID g9.1.property Z) G_hit) hv10 (sq Z<|Cq _ _ _ _ _ Z Z Z (N6 Z<|N6 (IV g9.1.property Z)<|gq Z) (nl Z) [(di x4.2.Base),(.sl (90,u23))] Z (A1<|D9<|A5 (s0:=⟨T [(2,(.ptr (2,u1) 0)),(3,(.ptr (3,u1) 0)),(4,(.ptr (4,u1) 0)),(7,(.ptr (7,u7) 0)),(8,(di x1.1)),(10,(di v4)),(13,(di x4.1))],G [((2,u1),some<|.box 27 (I4 p1)),((3,u1),some<|.box 27 (I4 p2)),((4,u1),some<|.box 36 [(di 0),(.d .nilS)]),((7,u7),some<|.box 36 [(di x4.2.Base),(.sl (90,u23))]),((90,u23),some<|.arr 52 18 (List.map E3 v10))]⟩) (C3 (U2 Z)<|B7 (NI 2 Z<|N6 (IV g9.1.property Z) G_hit) (.of Z) (B7 (NI 2 Z<|N6 (IV g9.1.property Z)<|gq Z) (.of Z) (B7 (NI 2 Z<|N6 (IV g9.1.property Z)<|gq Z) (.of Z) (B7 G_hit (.of Z)<|sg Z trivial)))) ?_)))))
 refine B0<|sv Z<|sv Z<|sv Z<|A1<|E7 ?_
 cases hz4
 exact ⟨Z,(⟨90, .tail _ (.tail _ (.head _))⟩,u23),(C3 (U2 Z)<|B7 G_hit (.of Z)<|sg Z<|sg Z<|B7 (gq Z) (.box (cv<|.cons (.of (Ai<|O0 hv10).symm) .nil)) (P5 (gq Z) trivial))⟩
 refine C5 Z ?_
 cases hz4
 obtain rfl:=ez4 _ rfl
 refine ⟨nofun,C4 Z<|Y5 ?_⟩
 exact ⟨(g9.1,g9.2),(C3 (U2 Z)<|B7 G_hit (.of Z)<|sg Z<|sg Z<|sg Z<|D3 (IE g9.1.property 4 Z G_hit) trivial)⟩
 rintro _ ⟨g8,q4⟩
 refine D9<|A5 q4<|B0<|sv Z<|sv Z<|sv Z<|A1<|E7 ?_
 cases hz1
 exact ⟨Z,(g8.1,g8.2),(C3 (U2 Z)<|B7 G_hit (.of Z)<|sg Z<|sg Z<|sg Z<|D3 (IE g8.1.property 4 Z G_hit) trivial)⟩
 refine C5 Z ?_
 cases hz1
 obtain rfl:=ez1 _ rfl
 refine ⟨nofun,C4 Z<|Y5 ?_⟩
 exact ⟨(g3.1,g3.2),(C3 (U2 Z)<|sg Z<|sg Z<|D3 (IE g3.1.property 4 Z G_hit) trivial)⟩
 rintro _ ⟨g2,q5⟩
 refine A5 q5<|B5<|B6 (Bv [(di y2.Base),(oS y2.Edits (g2.1.val,g2.2))]) Z (B3 Z (gq Z) Z Z) (Cq _ _ _ _ _ (Cr _) Z Z G_hit (nl Z) [(di y2.Base),(oS y2.Edits (g2.1.val,g2.2))] Z (sv Z<|A1<|B1 ?_))
 cases h
 exact A8 (.inr Z) (Te (H8 Z G_hit (nl Z) Z) (B2 Z) (Iz<|rD<|O4 (Ed<|IE g2.1.property 3 Z G_hit) K9) C2) (.tup (.cons (.agg (ca Z<|.cons ⟨Ec,Z⟩ .nil)) A3))
def Ad [Lp](p1:Patch)(p2:Patch)(x1:Int):Option (Stp Int (Sum Unit Bool)):=
  cond (decide (x1< (p1.Edits.length:Int))) ((D6 p1.Edits x1).bind fun v1=>(D6 p2.Edits x1).bind fun v2=>((cond (!((((v1.Kind !=v2.Kind)||(v1.Table !=v2.Table))||(v1.At !=v2.At))||(!(v1.Work_.Lane_==v2.Work_.Lane_&& (v1.Work_.From==v2.Work_.From&& (v1.Work_.To==v2.Work_.To&& (v1.Work_.Begin==v2.Work_.Begin&& (v1.Work_.End==v2.Work_.End&& (v1.Work_.Limit==v2.Work_.Limit&&true))))))))) (W9 v1.Lane_ v2.Lane_) (some default))).bind fun v3=>((cond (!(((((v1.Kind !=v2.Kind)||(v1.Table !=v2.Table))||(v1.At !=v2.At))||(!(v1.Work_.Lane_==v2.Work_.Lane_&& (v1.Work_.From==v2.Work_.From&& (v1.Work_.To==v2.Work_.To&& (v1.Work_.Begin==v2.Work_.Begin&& (v1.Work_.End==v2.Work_.End&& (v1.Work_.Limit==v2.Work_.Limit&&true))))))))||(!v3))) (Ab v1.Zone_ v2.Zone_) (some default))).bind fun v4=>((cond (!((((((v1.Kind !=v2.Kind)||(v1.Table !=v2.Table))||(v1.At !=v2.At))||(!(v1.Work_.Lane_==v2.Work_.Lane_&& (v1.Work_.From==v2.Work_.From&& (v1.Work_.To==v2.Work_.To&& (v1.Work_.Begin==v2.Work_.Begin&& (v1.Work_.End==v2.Work_.End&& (v1.Work_.Limit==v2.Work_.Limit&&true))))))))||(!v3))||(!v4))) (V9 v1.Signal_ v2.Signal_) (some default))).bind fun v5=>cond (((((((v1.Kind !=v2.Kind)||(v1.Table !=v2.Table))||(v1.At !=v2.At))||(!(v1.Work_.Lane_==v2.Work_.Lane_&& (v1.Work_.From==v2.Work_.From&& (v1.Work_.To==v2.Work_.To&& (v1.Work_.Begin==v2.Work_.Begin&& (v1.Work_.End==v2.Work_.End&& (v1.Work_.Limit==v2.Work_.Limit&&true))))))))||(!v3))||(!v4))||(!v5)) (some (.out (.inr false))) (some (.go (I8 (x1+1))))) (some (.out (.inl ())))
def Dm [Lp](p1:Patch)(p2:Patch):Option Bool:=
  cond ((p1.Base !=p2.Base)||((p1.Edits.length:Int) !=(p2.Edits.length:Int))) (some false) (thenS (loop (Ad p1 p2) 0) (fun _=>some true) (fun r=>some r))
theorem Px(p1 p2 r)(h:Dm p1 p2=some r):PCall prog 25 [(.agg [(i64 p1.Base),(.list (List.map E3 p1.Edits))]),(.agg [(i64 p2.Base),(.list (List.map E3 p2.Edits))])] (bo r):=by
 refine C0 (fk func25 ntmps25 m0 (by with_unfolding_all rfl)) (nl Z) ?_
 unfold Dm at h
 refine A5 (s0:=⟨T [(0,(.d _)),(1,(.d _))],G []⟩) (D2 Z Z) ?_
 refine lr<|fun u1 _=>sm Z<|sm Z<|sv Z<|A1<|A2<|B5<|sq Z<|sl Z (gq Z) Z (sq Z<|sl Z G_hit Z<|sv Z<|sv Z<|gp Z (I9 Z) (fun _=>Z) (gf Z (vl Z (gq Z) Z)<|gf Z (fun w3=>(C1<|A4 w3))<|gp Z (I9 Z) (fun _=>Z) (gf Z (vl Z G_hit Z)<|gf Z (fun w6=>(C1<|A4 w6))<|gf Z (fun w7=>(T1 (A4 w7) (A4 w7) Z))<|sd Z (S9 Z Z<|fun hc=>A4<|L3 hc)<|A1<|cc Z h (fun c1 h=> ?_)<|fun c1 h=> ?_)))
 refine B5<|sv Z<|A1<|B1 ?_
 cases h
 exact A8 (.inr Z) (B4 (B2 Z) C2) (.refl _)
 refine A9<|A2<|B5<|sv Z<|A1<|js h fun z1 hz1 h=>D5 (fun s=> ∃(y1:Unit) (g1:Unit),z1= .inl y1∧Sb ⟨T [],G []⟩ s) ?_ ?_
 refine A6<|E0 (Ad p1 p2) (fun (x1:Int) (g2:Unit)=>⟨T [(2,(.ptr (2,u1) 0)),(3,(.ptr (3,u1) 0)),(5,(di x1))],G [((2,u1),some<|.box 36 [(di p1.Base),(dl E3 p1.Edits)]),((3,u1),some<|.box 36 [(di p2.Base),(dl E3 p2.Edits)])]⟩) 0 () _ hz1 (D2 Z Z) ?_
 intro x1 g2 z2 hz2 ez2
 unfold Ad at hz2
 refine A2<|B5<|sv Z<|sq Z<|sl Z G_hit Z<|sd Z (C1 Z)<|sv Z<|A1<|cc Z hz2 (fun c2 hz2=> ?_)<|fun c2 hz2=> ?_
 refine A9<|A2<|A6<|A2<|OT fun u6 _=>Oq (.ptr _ _) Z Z (Oq (.d _) Z (Gf Z G_hit Z) (Oq (.d _) Z Z (bs hz2 fun v1 hv1 hz2=>Oq (.d _) Z (C9 Z Z hv1 Z) (Oq (.d _) Z (B9 Z hv1 Z Z) (Oq (.ptr _ _) Z Z (Oq (.d _) Z (Gf Z (gq Z) Z) (Oq (.d _) Z Z (bs hz2 fun v2 hv2 hz2=>Oq (.d _) Z (C9 Z Z hv2 Z) (Oq (.d _) Z (B9 Z hv2 Z Z) (QD (.ptr _ _) (.box _ _) Z Z (QD (.ptr _ _) (.box _ _) Z Z (GO _ _ _ _ _ Z Z Z (gq Z) (nl Z) (Ou v1) Z (GO _ _ _ _ _ Z Z Z (gq Z) (nl Z) (Ou v2) Z (SX ⟨Z,?_⟩))))))))))))))
 refine A2<|A5 (s0:=⟨T [(2,(.ptr _ _)),(3,(.ptr _ _)),(5,(.d _)),(6,(.ptr _ _)),(7,(.ptr _ _))],G [((2,u1),some<|.box 36 _),((3,u1),some<|.box 36 _),((6,u6),some<|.box 52 _),((7,u6),some<|.box 52 _)]⟩) (D2 Z Z) ?_
 refine B0<|sq Z<|sl Z (gq Z) Z (sq Z<|sl Z (gq Z) Z (sv Z<|sv Z<|gp Z (I9 Z) (fun _=>Z) (gf Z (vl Z (gq Z) Z)<|gp Z (I9 Z) (fun _=>Z) (gf Z (vl Z (gq Z) Z)<|gf Z (fun w12=>(T1 (A4 w12) (A4 w12) Z))<|sd Z (S9 Z Z<|fun hc=>A4<|L3 hc)<|sv Z<|gp Z (I9 Z) (fun _=>Z) (gf Z (vl Z (gq Z) Z)<|gp Z (I9 Z) (fun _=>Z) (gf Z (vl Z (gq Z) Z)<|gf Z (fun w17=>(T1 (A4 w17) (A4 w17) Z))<|sd Z (S9 Z Z<|fun hc=>A4<|L3 hc)<|sv Z<|gp Z (I9 Z) (fun _=>Z) (gf Z (fun w19=>(B3 (A4 w19) (gq Z) Z Z))<|gp Z (I9 Z) (fun _=>Z) (gf Z (fun w21=>(B3 (A4 w21) (gq Z) Z Z)) ?_))))))))
 refine Ck _ (.d (bo (!(v1.Work_.Lane_==v2.Work_.Lane_&& (v1.Work_.From==v2.Work_.From&& (v1.Work_.To==v2.Work_.To&& (v1.Work_.Begin==v2.Work_.Begin&& (v1.Work_.End==v2.Work_.End&& (v1.Work_.Limit==v2.Work_.Limit&&true))))))))) Z (I9 Z) (fun w22=>(by simp only [A4 w22];rfl)) ?_
 refine sd Z (S9 Z Z<|fun hc=>A4<|L3 hc)<|sv Z<|gp Z (I9 Z) (fun _=>Z) (gf Z (fun w24=>(B3 (A4 w24) (gq Z) Z Z))<|gp Z (I9 Z) (fun _=>Z) (gf Z (fun w26=>(B3 (A4 w26) (gq Z) Z Z))<|bs hz2 fun v3 hv3 hz2=> ?_))
 refine L4 _ (bo v3) (I9 Z) (fun w27=>⟨_,[(.d (.agg (R8 v1.Lane_))),(.d (.agg (R8 v2.Lane_)))],_,_,(by simp only [A4 w27];rfl),Z,A3,Kd _ _ _<|G0 w27 hv3,(.inl Z)⟩) ?_
 refine Ck _ (.d (bo (!v3))) Z (I9 Z) (fun w28=>(by simp only [A4 w28];rfl)) ?_
 refine sd Z (S9 Z Z<|fun hc=>A4<|L3 hc)<|sv Z<|gp Z (I9 Z) (fun _=>Z) (gf Z (fun w30=>(B3 (A4 w30) (gq Z) Z Z))<|gp Z (I9 Z) (fun _=>Z) (gf Z (fun w32=>(B3 (A4 w32) (gq Z) Z Z))<|bs hz2 fun v4 hv4 hz2=> ?_))
 refine L4 _ (bo v4) (I9 Z) (fun w33=>⟨_,[(.d (.agg [(.list (List.map G1 v1.Zone_.Parts)),(i64 v1.Zone_.Signal_)])),(.d (.agg [(.list (List.map G1 v2.Zone_.Parts)),(i64 v2.Zone_.Signal_)]))],_,_,(by simp only [A4 w33];rfl),Z,A3,Ke _ _ _<|G0 w33 hv4,(.inl Z)⟩) ?_
 refine Ck _ (.d (bo (!v4))) Z (I9 Z) (fun w34=>(by simp only [A4 w34];rfl)) ?_
 refine sd Z (S9 Z Z<|fun hc=>A4<|L3 hc)<|sv Z<|gp Z (I9 Z) (fun _=>Z) (gf Z (fun w36=>(B3 (A4 w36) (gq Z) Z Z))<|gp Z (I9 Z) (fun _=>Z) (gf Z (fun w38=>(B3 (A4 w38) (gq Z) Z Z))<|bs hz2 fun v5 hv5 hz2=> ?_))
 refine L4 _ (bo v5) (I9 Z) (fun w39=>⟨_,[(.d (.agg [(i64 v1.Signal_.Offset),(.list (List.map G3 v1.Signal_.Phases))])),(.d (.agg [(i64 v2.Signal_.Offset),(.list (List.map G3 v2.Signal_.Phases))]))],_,_,(by simp only [A4 w39];rfl),Z,A3,Ia _ _ _<|G0 w39 hv5,(.inl Z)⟩) ?_
 refine Ck _ (.d (bo (!v5))) Z (I9 Z) (fun w40=>(by simp only [A4 w40];rfl)) ?_
 refine sd Z (S9 Z Z<|fun hc=>A4<|L3 hc)<|A1<|cc Z hz2 (fun c3 hz2=> ?_)<|fun c3 hz2=> ?_
 refine A2<|A5 (s0:=⟨T [],G []⟩) (D2 Z Z) ?_
 refine B0<|sv Z<|A1<|B1 ?_
 cases hz2
 obtain rfl:=ez2 _ rfl
 refine ⟨nofun,E4 ?_⟩
 rw [bJ]at h
 cases h
 exact A8 (.inr Z) (B4 (B2 Z) C2) (.refl _)
 refine A9<|D9<|A5 (s0:=⟨T [(2,(.ptr _ _)),(3,(.ptr _ _)),(5,(.d _))],G [((2,u1),some<|.box 36 _),((3,u1),some<|.box 36 _)]⟩) (D2 Z Z) ?_
 refine B0<|sv Z<|sv Z<|sv Z<|A1<|E7 ?_
 cases hz2
 exact ⟨Z,(),(D2 Z Z)⟩
 refine C5 Z ?_
 cases hz2
 obtain rfl:=ez2 _ rfl
 refine ⟨nofun,C4 Z<|Y5 ?_⟩
 exact ⟨_,(),Z,(D2 Z Z)⟩
 rintro _ ⟨y1,g1,rfl,q1⟩
 rw [bI]at h
 refine A5 q1<|B5<|sv Z<|A1<|B1 ?_
 cases h
 exact A8 (.inr Z) (B4 (B2 Z) C2) (.refl _)
def Ez [Lp](p1:Map)(p2:Map):Option Bool:=
  (Il p1).bind fun v1=>((cond (!(!v1)) (Il p2) (some default))).bind fun v2=>cond ((!v1)||(!v2)) ((Cm).bind fun v3=>some v3) ((Jm p1 p2).bind fun v4=>(Jo p1 p2).bind fun v5=>((cond (v4.2==v5.2) (Dm v4.1 v5.1) (some default))).bind fun v6=>((cond ((v4.2==v5.2)&&v6) (Cm) (some default))).bind fun v7=>some (((v4.2==v5.2)&&v6)&&v7))
theorem Ok(p1 p2 r)(h:Ez p1 p2=some r):PCall prog 5 [(.agg (O1 p1)),(.agg (O1 p2))] (bo r):=by
 refine C0 (fk func5 ntmps5 m0 (by with_unfolding_all rfl)) (nl Z) ?_
 unfold Ez at h
 refine A5 (s0:=⟨T [(0,(.d _)),(1,(.d _))],G []⟩) (D2 Z Z) ?_
 refine lr<|fun u1 _=>sm Z<|sm Z<|sv Z<|A1<|A2<|B5<|sd Z (B3 Z (gq Z) Z Z)<|bs h fun v1 hv1 h=>B8 Z Z A3 (Qy _ _ hv1) (.inl Z) (B6 (.d (bo (!v1))) Z Z (sv Z<|gf Z (fun _=>(B3 Z G_hit Z Z))<|bs h fun v2 hv2 h=> ?_))
 refine L4 _ (bo v2) (I9 Z) (fun w2=>⟨_,[(.d (.agg (O1 p2)))],_,_,(by simp only [A4 w2];rfl),Z,A3,Qy _ _<|G0 w2 hv2,(.inl Z)⟩) ?_
 refine Ck _ (.d (bo (!v2))) Z (I9 Z) (fun w3=>(by simp only [A4 w3];rfl)) ?_
 refine sd Z (S9 Z Z<|fun hc=>A4<|L3 hc)<|A1<|cc Z h (fun c1 h=> ?_)<|fun c1 h=> ?_
 refine B5<|bs h fun _ hv3 h=>B8 Z Z A3 (No _ hv3) (.inl Z) (sv Z<|A1<|B1 ?_)
 cases h
 exact A8 (.inr Z) (B4 (B2 Z) C2) (.refl _)
 refine A9<|lr<|fun u4 _=>sd Z (B3 Z (gq Z) Z Z)<|sd Z (B3 Z G_hit Z Z)<|bs h fun v4 hv4 h=>B8 Z Z A3 (Xj _ _ _ hv4) (.inl Z) (sv Z<|sv Z<|sv Z<|sm Z<|Aj Z G_hit [(di v4.1.Base),(dl E3 v4.1.Edits)] Z (sv Z<|A1<|A2<|A5 (s0:=⟨T [(2,(.ptr _ _)),(3,(.ptr _ _)),(5,(.ptr _ _)),(6,(.d _))],G [((2,u1),some<|.box 27 _),((3,u1),some<|.box 27 _),((5,u4),some<|.box 36 _)]⟩) (D2 Z Z) ?_))
 refine B0<|sd Z (B3 Z G_hit Z Z)<|sd Z (B3 Z (gq Z) Z Z)<|bs h fun v5 hv5 h=>B8 Z Z A3 (Xm _ _ _ hv5) (.inl Z) (sv Z<|sv Z<|sv Z<|sm Z<|Aj Z G_hit [(di v5.1.Base),(dl E3 v5.1.Edits)] Z (sv Z<|A1<|B5<|sv Z<|sv Z<|sv Z<|sv Z<|gt Z (fun _=>(B3 Z (gq Z) Z Z))<|gt Z (fun _=>(B3 Z G_hit Z Z))<|bs h fun v6 hv6 h=> ?_))
 refine L4 _ (bo v6) (P4 Z) (fun w6=>⟨_,[(.d (.agg [(i64 v4.1.Base),(.list (List.map E3 v4.1.Edits))])),(.d (.agg [(i64 v5.1.Base),(.list (List.map E3 v5.1.Edits))]))],_,_,(by simp only [A4 w6];rfl),Z,A3,Px _ _ _<|G0 w6 hv6,(.inl Z)⟩) ?_
 refine sa Z Z Z<|sv Z<|bs h fun v7 hv7 h=>L4 _ (bo v7) (P4 Z) (fun w7=>⟨_,_,_,_,Z,Z,A3,No _<|G0 w7 hv7,(.inl Z)⟩) (sa Z Z Z<|sv Z<|A1<|B1 ?_)
 cases h
 exact A8 (.inr Z) (B4 (B2 Z) C2) (.refl _)
end
end Go.Abs.Roadsz
