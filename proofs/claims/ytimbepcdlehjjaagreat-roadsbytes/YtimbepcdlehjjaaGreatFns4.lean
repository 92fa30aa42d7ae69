/-
  The functions, part 4.
-/
import Derived.Test.YtimbepcdlehjjaaGreatFns3
set_option maxRecDepth 20000
set_option maxHeartbeats 4000000
set_option linter.unusedVariables false
namespace Go.Abs.Roadsz
noncomputable section
open Go Go.Abs Go.Proofs Tryz
attribute [local irreducible] L6 Fs Gl
def Fx [Lp](p1:Map)(x4:(Int×Int)):Option (Stp (Int×Int) Int):=
  cond ((decide (x4.2< (p1.Works.length:Int)))&& (x4.1==0)) ((F0 p1.Works x4.2).bind fun v8=>(Hh p1 v8).bind fun v9=>some (.go (v9,(K2 (x4.2+1))))) (some (.out x4.1))
def Fy [Lp](p1:Map)(x3:(Int×Int)):Option (Stp (Int×Int) Int):=
  cond ((decide (x3.2< (p1.Zones.length:Int)))&& (x3.1==0)) ((F0 p1.Zones x3.2).bind fun v6=>(Hg p1 v6).bind fun v7=>some (.go (v7,(K2 (x3.2+1))))) (some (.out x3.1))
def Fz [Lp](p1:Map)(x2:(Int×Int)):Option (Stp (Int×Int) Int):=
  cond ((decide (x2.2< (p1.Signals.length:Int)))&& (x2.1==0)) ((F0 p1.Signals x2.2).bind fun v4=>(Fa p1 v4).bind fun v5=>some (.go (v5,(K2 (x2.2+1))))) (some (.out x2.1))
def Dn [Lp](p1:Map)(x1:Int):Option (Stp Int (Sum Unit Int)):=
  cond (decide (x1< (p1.Lanes.length:Int))) ((He p1 x1).bind fun v2=>cond (v2 !=0) (some (.out (.inr v2))) (some (.go (K2 (x1+1))))) (some (.out (.inl ())))
def Kv [Lp](p1:Map):Option Int:=
  (Cu p1.Version 0 1099511627776).bind fun v1=>cond (!v1) (some 2) (cond ((p1.Lanes.length:Int)==0) (some 6) (cond ((((decide ((p1.Lanes.length:Int)>12))||(decide ((p1.Zones.length:Int)>12)))||(decide ((p1.Signals.length:Int)>4)))||(decide ((p1.Works.length:Int)>8))) (some 8) (thenS (loop (Dn p1) 0) (fun _=>(Hf p1).bind fun v3=>(loop (Fz p1) (v3,0)).bind fun y2=>(loop (Fy p1) (y2,0)).bind fun y3=>(loop (Fx p1) (y3,0)).bind fun y4=>some y4) (fun r=>some r))))
theorem Wd(p1 r)(h:Kv p1=some r):PCall prog 17 [(.agg (N8 p1))] (i64 r):=by
 refine D7 (fk func17 ntmps17 m0 (by with_unfolding_all rfl)) (nl Z) ?_
 unfold Kv at h
 refine A7 (s0:=⟨T [(0,(.d _))],G []⟩) (E3 Z Z) ?_
 refine lr<|fun u1 _=>sm Z<|sv Z<|A1<|A3<|B8<|sq Z<|sl Z G_hit Z<|bs h fun v1 hv1 h=>D1 Z Z A6 (El _ _ _ _ hv1) (.inl Z) (B6 (.d (bo (!v1))) Z Z (A1<|cc Z h (fun c1 h=> ?_)<|fun c1 h=> ?_))
 refine B8<|sv Z<|A1<|B9 ?_
 cases h
 exact B4 (.inr Z) (C5 (C0 Z) D4) (.refl _)
 refine B3<|A3<|B8<|sq Z<|sl Z G_hit Z<|sd Z (C8 Z)<|sv Z<|A1<|cc Z h (fun c2 h=> ?_)<|fun c2 h=> ?_
 refine B8<|sv Z<|A1<|B9 ?_
 cases h
 exact B4 (.inr Z) (C5 (C0 Z) D4) (.refl _)
 refine B3<|A3<|B8<|sq Z<|sl Z G_hit Z<|sd Z (C8 Z)<|sv Z<|sv Z<|gp Z (N7 Z) (fun _=>Z) (gf Z (vl Z G_hit Z)<|gf Z (fun w3=>(C8<|A8 w3))<|gf Z (vb Z Z Z)<|sd Z (X6 Z Z<|fun hc=>A8<|O7 hc)<|sv Z<|gp Z (N7 Z) (fun _=>Z) (gf Z (vl Z G_hit Z)<|gf Z (fun w7=>(C8<|A8 w7))<|gf Z (vb Z Z Z)<|sd Z (X6 Z Z<|fun hc=>A8<|O7 hc)<|sv Z<|gp Z (N7 Z) (fun _=>Z) (gf Z (vl Z G_hit Z)<|gf Z (fun w11=>(C8<|A8 w11))<|gf Z (vb Z Z Z)<|sd Z (X6 Z Z<|fun hc=>A8<|O7 hc)<|A1<|cc Z h (fun c3 h=> ?_)<|fun c3 h=> ?_)))
 refine A3<|A7 (s0:=⟨T [],G []⟩) (E3 Z Z) ?_
 refine B5<|sv Z<|A1<|B9 ?_
 cases h
 exact B4 (.inr Z) (C5 (C0 Z) D4) (.refl _)
 refine B3<|A3<|A3<|A7 (s0:=⟨T [(1,(.ptr _ _))],G [((1,u1),some<|.box 27 _)]⟩) (E3 Z Z) ?_
 refine B5<|sv Z<|A1<|js h fun z1 hz1 h=>D0 (fun s=> ∃(y1:Unit) (g1:Unit),z1= .inl y1∧Sb ⟨T [(1,(.ptr (1,u1) 0))],G [((1,u1),some<|.box 27 (F2 p1))]⟩ s) ?_ ?_
 refine A5<|D2 (Dn p1) (fun (x1:Int) (g2:Unit)=>⟨T [(1,(.ptr (1,u1) 0)),(3,(di x1))],G [((1,u1),some<|.box 27 (F2 p1))]⟩) 0 () _ hz1 (E3 Z Z) ?_
 intro x1 g2 z2 hz2 ez2
 unfold Dn at hz2
 refine A3<|B8<|sv Z<|sq Z<|sl Z G_hit Z<|sd Z (C8 Z)<|sv Z<|A1<|cc Z hz2 (fun c4 hz2=> ?_)<|fun c4 hz2=> ?_
 refine B3<|A3<|A5<|B8<|sd Z (C6 Z G_hit Z Z)<|sv Z<|bs hz2 fun _ hv2 hz2=>D1 Z Z A6 (Yd _ _ _ hv2) (.inl Z) (sv Z<|A1<|B8<|sv Z<|sv Z<|A1<|cc Z hz2 (fun c5 hz2=> ?_)<|fun c5 hz2=> ?_)
 refine B8<|sv Z<|sv Z<|A1<|B9 ?_
 cases hz2
 obtain rfl:=ez2 _ rfl
 refine ⟨nofun,F8 ?_⟩
 rw [bN]at h
 cases h
 exact B4 (.inr Z) (C5 (C0 Z) D4) (.refl _)
 refine B3<|E0<|B5<|sv Z<|sv Z<|sv Z<|A1<|D6 ?_
 cases hz2
 exact ⟨Z,(),(E3 Z Z)⟩
 refine C3 Z ?_
 cases hz2
 obtain rfl:=ez2 _ rfl
 refine ⟨nofun,C2 Z<|T4 ?_⟩
 exact ⟨_,(),Z,(E3 Z Z)⟩
 rintro _ ⟨y1,g1,rfl,q1⟩
 rw [bM]at h
 refine A7 q1<|B8<|sd Z (C6 Z G_hit Z Z)<|bs h fun v3 hv3 h=>D1 Z Z A6 (Ye _ _ hv3) (.inl Z) (sv Z<|A1<|A3<|B8<|sv Z<|A1<|bs h fun y2 hy2 h=>D0 (fun s=> ∃g3:Unit,Sb ⟨T [(1,(.ptr (1,u1) 0)),(5,(di y2))],G [((1,u1),some<|.box 27 (F2 p1))]⟩ s) ?_ ?_)
 refine A5<|D2 (Fz p1) (fun (x2:(Int×Int)) (g4:Unit)=>⟨T [(1,(.ptr (1,u1) 0)),(5,(di x2.1)),(6,(di x2.2))],G [((1,u1),some<|.box 27 (F2 p1))]⟩) (v3,0) () _ hy2 (E3 Z Z) ?_
 intro x2 g4 z3 hz3 ez3
 unfold Fz at hz3
 refine A3<|B8<|sv Z<|sq Z<|sl Z G_hit Z<|sd Z (C8 Z)<|sv Z<|sv Z<|gt Z (fun _=>Z)<|gt Z (vb Z Z Z)<|sa Z Z Z<|A1<|cc Z hz3 (fun c6 hz3=> ?_)<|fun c6 hz3=> ?_
 refine B3<|A3<|A5<|M8 Z<|sd Z (C6 Z G_hit Z Z)<|sq Z<|sl Z G_hit Z<|sv Z<|bs hz3 fun _ hv4 hz3=>sd Z (D8 Z Z hv4 Z)<|sd Z (D9 Z hv4 Z Z)<|bs hz3 fun _ hv5 hz3=>D1 Z Z A6 (Wc _ _ _ hv5) (.inl Z) (sv Z<|A1<|E0<|B5<|sv Z<|sv Z<|sv Z<|A1<|D6 ?_)
 cases hz3
 exact ⟨Z,(),(E3 Z Z)⟩
 refine C3 Z ?_
 cases hz3
 obtain rfl:=ez3 _ rfl
 refine ⟨nofun,C2 Z<|T4 ?_⟩
 exact ⟨(),(E3 Z Z)⟩
 rintro _ ⟨g3,q2⟩
 refine A7 q2<|A3<|B8<|sv Z<|A1<|bs h fun y3 hy3 h=>D0 (fun s=> ∃g5:Unit,Sb ⟨T [(1,(.ptr (1,u1) 0)),(5,(di y3))],G [((1,u1),some<|.box 27 (F2 p1))]⟩ s) ?_ ?_
 refine A5<|D2 (Fy p1) (fun (x3:(Int×Int)) (g6:Unit)=>⟨T [(1,(.ptr (1,u1) 0)),(5,(di x3.1)),(7,(di x3.2))],G [((1,u1),some<|.box 27 (F2 p1))]⟩) (y2,0) () _ hy3 (E3 Z Z) ?_
 intro x3 g6 z4 hz4 ez4
 unfold Fy at hz4
 refine A3<|B8<|sv Z<|sq Z<|sl Z G_hit Z<|sd Z (C8 Z)<|sv Z<|sv Z<|gt Z (fun _=>Z)<|gt Z (vb Z Z Z)<|sa Z Z Z<|A1<|cc Z hz4 (fun c7 hz4=> ?_)<|fun c7 hz4=> ?_
 refine B3<|A3<|A5<|M8 Z<|sd Z (C6 Z G_hit Z Z)<|sq Z<|sl Z G_hit Z<|sv Z<|bs hz4 fun _ hv6 hz4=>sd Z (D8 Z Z hv6 Z)<|sd Z (D9 Z hv6 Z Z)<|bs hz4 fun _ hv7 hz4=>D1 Z Z A6 (Yf _ _ _ hv7) (.inl Z) (sv Z<|A1<|E0<|B5<|sv Z<|sv Z<|sv Z<|A1<|D6 ?_)
 cases hz4
 exact ⟨Z,(),(E3 Z Z)⟩
 refine C3 Z ?_
 cases hz4
 obtain rfl:=ez4 _ rfl
 refine ⟨nofun,C2 Z<|T4 ?_⟩
 exact ⟨(),(E3 Z Z)⟩
 rintro _ ⟨g5,q3⟩
 refine A7 q3<|A3<|B8<|sv Z<|A1<|bs h fun y4 hy4 h=>D0 (fun s=> ∃g7:Unit,Sb ⟨T [(5,(di y4))],G []⟩ s) ?_ ?_
 refine A5<|D2 (Fx p1) (fun (x4:(Int×Int)) (g8:Unit)=>⟨T [(1,(.ptr (1,u1) 0)),(5,(di x4.1)),(8,(di x4.2))],G [((1,u1),some<|.box 27 (F2 p1))]⟩) (y3,0) () _ hy4 (E3 Z Z) ?_
 intro x4 g8 z5 hz5 ez5
 unfold Fx at hz5
 refine A3<|B8<|sv Z<|sq Z<|sl Z G_hit Z<|sd Z (C8 Z)<|sv Z<|sv Z<|gt Z (fun _=>Z)<|gt Z (vb Z Z Z)<|sa Z Z Z<|A1<|cc Z hz5 (fun c8 hz5=> ?_)<|fun c8 hz5=> ?_
 refine B3<|A3<|A5<|M8 Z<|sd Z (C6 Z G_hit Z Z)<|sq Z<|sl Z G_hit Z<|sv Z<|bs hz5 fun _ hv8 hz5=>sd Z (D8 Z Z hv8 Z)<|sd Z (D9 Z hv8 Z Z)<|bs hz5 fun _ hv9 hz5=>D1 Z Z A6 (Yg _ _ _ hv9) (.inl Z) (sv Z<|A1<|E0<|B5<|sv Z<|sv Z<|sv Z<|A1<|D6 ?_)
 cases hz5
 exact ⟨Z,(),(E3 Z Z)⟩
 refine C3 Z ?_
 cases hz5
 obtain rfl:=ez5 _ rfl
 refine ⟨nofun,C2 Z<|T4 ?_⟩
 exact ⟨(),(E3 Z Z)⟩
 rintro _ ⟨g7,q4⟩
 refine A7 q4<|B8<|sv Z<|sv Z<|A1<|B9 ?_
 cases h
 exact B4 (.inr Z) (C5 (C0 Z) D4) (.refl _)
def Em (p1:(List Int))(x1:((List Int)×Int))(x2:((List Int)×Int)):Option (Stp ((List Int)×Int) (List Int)):=
  cond (decide (x2.2≥0)) ((F0 p1 x1.2).bind fun v1=>(Rh .u64 (IntKind.wrap .u64 v1) (IntKind.wrap .u64 (K2 (8*x2.2)))).bind fun v2=>(Q4 x2.1 [(IntKind.wrap .u8 v2)]).bind fun v3=>some (.go (v3,(K2 (x2.2 - 1))))) (some (.out x2.1))
def En [Lp](p1:(List Int))(x1:((List Int)×Int)):Option (Stp ((List Int)×Int) (List Int)):=
  cond (decide (x1.2< (p1.length:Int))) ((loop (Em p1 x1) (x1.1,7)).bind fun y2=>some (.go (y2,(K2 (x1.2+1))))) (some (.out x1.1))
def Q2 [Lp](p1:(List Int)):Option ByteArray:=
  (loop (En p1) ([],0)).bind fun y1=>some (H3 y1)
theorem P4(p1 r)(h:Q2 p1=some r):PCall prog 149 [(.list (List.map A4 p1))] (O0 r):=by
 refine D7 (fk func149 ntmps149 (fun r=>if r==8 then [1011]else []) (by with_unfolding_all rfl)) (nl Z) ?_
 unfold Q2 at h
 refine A7 (s0:=⟨T [(0,(.d _))],G []⟩) (E3 Z Z) ?_
 refine B8<|sv Z<|A1<|B8<|sv Z<|A1<|A3<|B8<|sv Z<|A1<|bs h fun y1 hy1 h=>D0 (fun s=> ∃g1:Nat,Sb ⟨T [(3,(oS y1 (28,g1)))],G [((28,g1),oB 5 1 C4 y1)]⟩ s) ?_ ?_
 refine A5<|D2 (En p1) (fun (x1:((List Int)×Int)) (g2:Nat)=>⟨T [(0,(dl A4 p1)),(3,(oS x1.1 (28,g2))),(4,(di x1.2))],G [((28,g2),oB 5 1 C4 x1.1)]⟩) ([],0) 0 _ hy1 (B7 (K8 Z)<|O6 trivial) ?_
 intro x1 g2 z1 hz1 ez1
 unfold En at hz1
 refine A3<|B8<|sv Z<|sv Z<|sd Z (C8 Z)<|sv Z<|A1<|cc Z hz1 (fun c1 hz1=> ?_)<|fun c1 hz1=> ?_
 refine B3<|A3<|A5<|B8<|sv Z<|A1<|bs hz1 fun y2 hy2 hz1=>D0 (fun s=> ∃g3:Nat,Sb ⟨T [(0,(dl A4 p1)),(3,(oS y2 (28,g3))),(4,(di x1.2))],G [((28,g3),oB 5 1 C4 y2)]⟩ s) ?_ ?_
 refine A5<|D2 (Em p1 x1) (fun (x2:((List Int)×Int)) (g4:Nat)=>⟨T [(0,(dl A4 p1)),(3,(oS x2.1 (28,g4))),(4,(di x1.2)),(5,(di x2.2))],G [((28,g4),oB 5 1 C4 x2.1)]⟩) (x1.1,7) g2 _ hy2 (B7 (K8 Z)<|B0 G_hit trivial) ?_
 intro x2 g4 z2 hz2 ez2
 unfold Em at hz2
 refine A3<|B8<|sv Z<|sv Z<|A1<|cc Z hz2 (fun c2 hz2=> ?_)<|fun c2 hz2=> ?_
 refine B3<|A3<|A5<|M6 fun u7 _=>B6 (oS x2.1 (28,g4)) Z Z (sv Z<|sv Z<|bs hz2 fun _ hv1 hz2=>sd Z (D8 Z Z hv1 Z)<|sd Z (E9 Z hv1 Z)<|sv Z<|sv Z<|sv Z<|sv Z<|bs hz2 fun v2 hv2 hz2=>sd Z (Nb Z Z hv2)<|sv Z<|B6 (dl C4 [(IntKind.wrap .u8 v2)]) Z Z (bs hz2 fun _ hv3 hz2=>G7 C4 (28,g4) x2.1 (IntKind.wrap .u8 v2) [] _ (E1<|fun _=>Z) Z G_hit hv3 (ss Z<|A1<|E0<|M6 fun u8 _=>sv Z<|sv Z<|sv Z<|A1<|D6 ?_)))
 cases hz2
 exact ⟨Z,u7,(B7 ⟨.of Z,(.of (T1<|K5 hv3).symm), .of Z, .of Z,trivial⟩<|K9 G_hit trivial)⟩
 refine C3 Z ?_
 cases hz2
 obtain rfl:=ez2 _ rfl
 refine ⟨nofun,C2 Z<|T4 ?_⟩
 exact ⟨g4,(B7 (K8 Z)<|B0 G_hit trivial)⟩
 rintro _ ⟨g3,q1⟩
 refine E0<|A7 q1<|B5<|sv Z<|sv Z<|sv Z<|A1<|D6 ?_
 cases hz1
 exact ⟨Z,g3,(B7 (K8 Z)<|B0 G_hit trivial)⟩
 refine C3 Z ?_
 cases hz1
 obtain rfl:=ez1 _ rfl
 refine ⟨nofun,C2 Z<|T4 ?_⟩
 exact ⟨g2,(B7 ⟨.of Z,trivial⟩<|B0 G_hit trivial)⟩
 rintro _ ⟨g1,q2⟩
 refine A7 q2<|A3<|XM [(28,g1)] [(3,(dl C4 y1))] [] ⟨(XN (U9<|Qd (.head _) G_hit) U8),trivial⟩ trivial (B5<|sv Z<|sd Z (XT (xs:=y1) Z)<|sv Z<|A1<|B9 ?_)
 cases h
 exact B4 (.inr Z) (C5 (C0 Z) D4) (.refl _)
def Hp [Lp](p1:(List Int))(x1:(ByteArray×Int)):Option (Stp (ByteArray×Int) ByteArray):=
  cond (decide (x1.2< (p1.length:Int))) ((F0 p1 x1.2).bind fun v2=>(Q2 [v2]).bind fun v3=>(Uw x1.1 v3).bind fun v4=>some (.go (v4,(K2 (x1.2+1))))) (some (.out x1.1))
def Mm [Lp](p1:(List Int)):Option ByteArray:=
  (Q2 [(p1.length:Int)]).bind fun v1=>(loop (Hp p1) (v1,0)).bind fun y1=>some y1
theorem Xm(p1 r)(h:Mm p1=some r):PCall prog 150 [(.list (List.map A4 p1))] (O0 r):=by
 refine D7 (fk func150 ntmps150 (fun r=>if r==1 then [1002]else if r==5 then [1005]else []) (by with_unfolding_all rfl)) (nl Z) ?_
 unfold Mm at h
 refine A7 (s0:=⟨T [(0,(.d _))],G []⟩) (E3 Z Z) ?_
 refine B8<|sv Z<|A1<|B8<|sv Z<|sd Z (C8 Z)<|B6 (dl A4 [(p1.length:Int)]) Z Z (bs h fun v1 hv1 h=>D1 Z Z A6 (P4 _ _ hv1) (.inl Z) (sv Z<|A1<|A3<|B8<|sv Z<|A1<|bs h fun y1 hy1 h=>D0 (fun s=> ∃g1:Unit,Sb ⟨T [(3,(.d (O0 y1)))],G []⟩ s) ?_ ?_))
 refine A5<|D2 (Hp p1) (fun (x1:(ByteArray×Int)) (g2:Unit)=>⟨T [(0,(dl A4 p1)),(3,(.d (O0 x1.1))),(4,(di x1.2))],G []⟩) (v1,0) () _ hy1 (E3 Z Z) ?_
 intro x1 g2 z1 hz1 ez1
 unfold Hp at hz1
 refine A3<|B8<|sv Z<|sv Z<|sd Z (C8 Z)<|sv Z<|A1<|cc Z hz1 (fun c1 hz1=> ?_)<|fun c1 hz1=> ?_
 refine B3<|A3<|A5<|B5<|sv Z<|sv Z<|sv Z<|bs hz1 fun v2 hv2 hz1=>sd Z (D8 Z Z hv2 Z)<|sd Z (E9 Z hv2 Z)<|B6 (dl A4 [v2]) Z Z (bs hz1 fun _ hv3 hz1=>D1 Z Z A6 (P4 _ _ hv3) (.inl Z) (bs hz1 fun _ hv4 hz1=>sd Z (Lj Z Z hv4)<|sv Z<|A1<|E0<|B5<|sv Z<|sv Z<|sv Z<|A1<|D6 ?_))
 cases hz1
 exact ⟨Z,(),(E3 Z Z)⟩
 refine C3 Z ?_
 cases hz1
 obtain rfl:=ez1 _ rfl
 refine ⟨nofun,C2 Z<|T4 ?_⟩
 exact ⟨(),(E3 Z Z)⟩
 rintro _ ⟨g1,q1⟩
 refine A7 q1<|B8<|sv Z<|sv Z<|A1<|B9 ?_
 cases h
 exact B4 (.inr Z) (C5 (C0 Z) D4) (.refl _)
def Do [Lp](p1:Map)(x7:(ByteArray×Int)):Option (Stp (ByteArray×Int) ByteArray):=
  cond (decide (x7.2< (p1.Works.length:Int))) ((F0 p1.Works x7.2).bind fun v41=>(Q2 [v41.Lane_,v41.From,v41.To,v41.Begin,v41.End,v41.Limit]).bind fun v42=>(Uw x7.1 v42).bind fun v43=>some (.go (v43,(K2 (x7.2+1))))) (some (.out x7.1))
def Dp [Lp](p1:Map)(x5:(ByteArray×Int))(x6:(ByteArray×Int)):Option (Stp (ByteArray×Int) ByteArray):=
  (F0 p1.Signals x5.2).bind fun v30=>cond (decide (x6.2< (v30.Phases.length:Int))) ((F0 p1.Signals x5.2).bind fun v31=>(F0 v31.Phases x6.2).bind fun v32=>(Q2 [v32.Ticks]).bind fun v33=>(Uw x6.1 v33).bind fun v34=>(F0 p1.Signals x5.2).bind fun v35=>(F0 v35.Phases x6.2).bind fun v36=>(Mm v36.Green).bind fun v37=>(Uw v34 v37).bind fun v38=>some (.go (v38,(K2 (x6.2+1))))) (some (.out x6.1))
def Dq [Lp](p1:Map)(x5:(ByteArray×Int)):Option (Stp (ByteArray×Int) ByteArray):=
  cond (decide (x5.2< (p1.Signals.length:Int))) ((F0 p1.Signals x5.2).bind fun v26=>(F0 p1.Signals x5.2).bind fun v27=>(Q2 [v26.Offset,(v27.Phases.length:Int)]).bind fun v28=>(Uw x5.1 v28).bind fun v29=>(loop (Dp p1 x5) (v29,0)).bind fun y6=>some (.go (y6,(K2 (x5.2+1))))) (some (.out x5.1))
def Dr [Lp](p1:Map)(x3:(ByteArray×Int))(x4:(ByteArray×Int)):Option (Stp (ByteArray×Int) ByteArray):=
  (F0 p1.Zones x3.2).bind fun v19=>cond (decide (x4.2< (v19.Parts.length:Int))) ((F0 p1.Zones x3.2).bind fun v20=>(F0 v20.Parts x4.2).bind fun v21=>(Q2 [v21.Lane_,v21.From,v21.To,v21.Rank]).bind fun v22=>(Uw x4.1 v22).bind fun v23=>some (.go (v23,(K2 (x4.2+1))))) (some (.out x4.1))
def Ds [Lp](p1:Map)(x3:(ByteArray×Int)):Option (Stp (ByteArray×Int) ByteArray):=
  cond (decide (x3.2< (p1.Zones.length:Int))) ((F0 p1.Zones x3.2).bind fun v15=>(F0 p1.Zones x3.2).bind fun v16=>(Q2 [v15.Signal_,(v16.Parts.length:Int)]).bind fun v17=>(Uw x3.1 v17).bind fun v18=>(loop (Dr p1 x3) (v18,0)).bind fun y4=>some (.go (y4,(K2 (x3.2+1))))) (some (.out x3.1))
def Dt [Lp](v4:Lane)(x2:(ByteArray×Int)):Option (Stp (ByteArray×Int) ByteArray):=
  cond (decide (x2.2< (v4.Curve_.Pts.length:Int))) ((F0 v4.Curve_.Pts x2.2).bind fun v7=>(F0 v4.Curve_.Pts x2.2).bind fun v8=>(Q2 [v7.X,v8.Y]).bind fun v9=>(Uw x2.1 v9).bind fun v10=>some (.go (v10,(K2 (x2.2+1))))) (some (.out x2.1))
def Du [Lp](p1:Map)(x1:(ByteArray×Int)):Option (Stp (ByteArray×Int) ByteArray):=
  cond (decide (x1.2< (p1.Lanes.length:Int))) ((F0 p1.Lanes x1.2).bind fun v4=>(Q2 [v4.Kind,v4.Half,v4.Limit,(v4.Curve_.Pts.length:Int)]).bind fun v5=>(Uw x1.1 v5).bind fun v6=>(loop (Dt v4) (v6,0)).bind fun y2=>(Mm v4.Next).bind fun v11=>(Uw y2 v11).bind fun v12=>some (.go (v12,(K2 (x1.2+1))))) (some (.out x1.1))
def Kw [Lp](p1:Map):Option (ByteArray×Int):=
  (Kv p1).bind fun v1=>cond (v1 !=0) (some (ByteArray.empty,v1)) ((Q2 [p1.Version,(p1.Lanes.length:Int)]).bind fun v2=>(Uw (ByteArray.mk #[107,98,109,49]) v2).bind fun v3=>(loop (Du p1) (v3,0)).bind fun y1=>(Q2 [(p1.Zones.length:Int)]).bind fun v13=>(Uw y1 v13).bind fun v14=>(loop (Ds p1) (v14,0)).bind fun y3=>(Q2 [(p1.Signals.length:Int)]).bind fun v24=>(Uw y3 v24).bind fun v25=>(loop (Dq p1) (v25,0)).bind fun y5=>(Q2 [(p1.Works.length:Int)]).bind fun v39=>(Uw y5 v39).bind fun v40=>(loop (Do p1) (v40,0)).bind fun y7=>some (y7,0))
theorem FJ(p1 r)(h:Kw p1=some r):PCall prog 49 [(.agg (N8 p1))] (.tup [(O0 r.1),(i64 r.2)]):=by
 refine D7 (fk func49 ntmps49 (fun r=>if r==4 then [1005]else if r==9 then [1011]else if r==13 then [1015]else if r==15 then [1004]else if r==19 then [1014]else if r==24 then [1009]else if r==25 then [1004]else if r==29 then [1014]else if r==33 then [1011]else if r==34 then [1004]else if r==39 then [1013]else []) (by with_unfolding_all rfl)) (nl Z) ?_
 unfold Kw at h
 refine A7 (s0:=⟨T [(0,(.d _))],G []⟩) (E3 Z Z) ?_
 refine lr<|fun u1 _=>sm Z<|sv Z<|sv Z<|A1<|B8<|sd Z (C6 Z G_hit Z Z)<|bs h fun _ hv1 h=>D1 Z Z A6 (Wd _ _ hv1) (.inl Z) (sv Z<|A1<|A3<|B8<|sv Z<|sv Z<|A1<|cc Z h (fun c1 h=> ?_)<|fun c1 h=> ?_)
 refine B8<|sv Z<|sv Z<|sv Z<|A1<|B9 ?_
 cases h
 exact B4 (.inr Z) (My (C0 Z) (C0 Z) D4 D4) (.refl _)
 refine B3<|B8<|sq Z<|sl Z G_hit Z<|sq Z<|sl Z G_hit Z<|sd Z (C8 Z)<|B6 (dl A4 [p1.Version,(p1.Lanes.length:Int)]) Z Z (bs h fun _ hv2 h=>D1 Z Z A6 (P4 _ _ hv2) (.inl Z) (bs h fun v3 hv3 h=>sd Z (Lj Z Z hv3)<|sv Z<|A1<|A3<|B8<|sv Z<|A1<|bs h fun y1 hy1 h=>D0 (fun s=> ∃g1:Unit,Sb ⟨T [(1,(.ptr (1,u1) 0)),(5,(.d (O0 y1)))],G [((1,u1),some<|.box 27 (F2 p1))]⟩ s) ?_ ?_))
 refine A5<|D2 (Du p1) (fun (x1:(ByteArray×Int)) (g2:Unit)=>⟨T [(1,(.ptr (1,u1) 0)),(5,(.d (O0 x1.1))),(6,(di x1.2))],G [((1,u1),some<|.box 27 (F2 p1))]⟩) (v3,0) () _ hy1 (E3 Z Z) ?_
 intro x1 g2 z1 hz1 ez1
 unfold Du at hz1
 refine A3<|B8<|sv Z<|sq Z<|sl Z G_hit Z<|sd Z (C8 Z)<|sv Z<|A1<|cc Z hz1 (fun c2 hz1=> ?_)<|fun c2 hz1=> ?_
 refine B3<|A3<|A5<|lr<|fun u8 _=>sq Z<|sl Z G_hit Z<|sv Z<|bs hz1 fun v4 hv4 hz1=>sd Z (D8 Z Z hv4 Z)<|sd Z (D9 Z hv4 Z Z)<|sm Z<|V6 Z G_hit (T6 v4) Z (A1<|B8<|sv Z<|sq Z<|sl Z G_hit Z<|sq Z<|sl Z G_hit Z<|sq Z<|sl Z G_hit Z<|sq Z<|sp Z Z<|sl Z G_hit Z<|sd Z (C8 Z)<|B6 (dl A4 [v4.Kind,v4.Half,v4.Limit,(v4.Curve_.Pts.length:Int)]) Z Z (bs hz1 fun _ hv5 hz1=>D1 Z Z A6 (P4 _ _ hv5) (.inl Z) (bs hz1 fun v6 hv6 hz1=>sd Z (Lj Z Z hv6)<|sv Z<|A1<|A3<|A3<|A7 (s0:=⟨T [(1,(.ptr _ _)),(5,(.d _)),(6,(.d _)),(7,(.ptr _ _))],G [((1,u1),some<|.box 27 _),((7,u8),some<|.box 42 _)]⟩) (E3 Z Z) ?_)))
 refine B5<|sv Z<|A1<|bs hz1 fun y2 hy2 hz1=>D0 (fun s=> ∃g3:Unit,Sb ⟨T [(1,(.ptr (1,u1) 0)),(5,(.d (O0 y2))),(6,(di x1.2)),(7,(.ptr (7,u8) 0))],G [((1,u1),some<|.box 27 (F2 p1)),((7,u8),some<|.box 42 (T6 v4))]⟩ s) ?_ ?_
 refine A5<|D2 (Dt v4) (fun (x2:(ByteArray×Int)) (g4:Unit)=>⟨T [(1,(.ptr (1,u1) 0)),(5,(.d (O0 x2.1))),(6,(di x1.2)),(7,(.ptr (7,u8) 0)),(8,(di x2.2))],G [((1,u1),some<|.box 27 (F2 p1)),((7,u8),some<|.box 42 (T6 v4))]⟩) (v6,0) () _ hy2 (E3 Z Z) ?_
 intro x2 g4 z2 hz2 ez2
 unfold Dt at hz2
 refine A3<|B8<|sv Z<|sq Z<|sp Z Z<|sl Z (gq Z) Z (sd Z (C8 Z)<|sv Z<|A1<|cc Z hz2 (fun c3 hz2=> ?_)<|fun c3 hz2=> ?_)
 refine B3<|A3<|A5<|M8 Z<|sv Z<|sq Z<|sp Z Z<|sl Z (gq Z) Z (sv Z<|bs hz2 fun v7 hv7 hz2=>sd Z (D8 Z Z hv7 Z)<|sv Z<|sd Z (E9 Z hv7 Z)<|sq Z<|sp Z Z<|sl Z (gq Z) Z (sv Z<|bs hz2 fun v8 hv8 hz2=>sd Z (D8 Z Z hv8 Z)<|sv Z<|sd Z (E9 Z hv8 Z)<|B6 (dl A4 [v7.X,v8.Y]) Z Z (bs hz2 fun _ hv9 hz2=>D1 Z Z A6 (P4 _ _ hv9) (.inl Z) (bs hz2 fun _ hv10 hz2=>sd Z (Lj Z Z hv10)<|sv Z<|A1<|E0<|A7 (s0:=⟨T [(1,(.ptr _ _)),(5,(.d _)),(6,(.d _)),(7,(.ptr _ _)),(8,(.d _))],G [((1,u1),some<|.box 27 _),((7,u8),some<|.box 42 _)]⟩) (E3 Z Z) ?_))))
 refine B5<|sv Z<|sv Z<|sv Z<|A1<|D6 ?_
 cases hz2
 exact ⟨Z,(),(E3 Z Z)⟩
 refine C3 Z ?_
 cases hz2
 obtain rfl:=ez2 _ rfl
 refine ⟨nofun,C2 Z<|T4 ?_⟩
 exact ⟨(),(E3 Z Z)⟩
 rintro _ ⟨g3,q1⟩
 refine A7 q1<|B5<|sv Z<|sq Z<|sl Z (gq Z) Z (bs hz1 fun _ hv11 hz1=>D1 Z Z A6 (Xm _ _ hv11) (.inl Z) (bs hz1 fun _ hv12 hz1=>sd Z (Lj Z Z hv12)<|sv Z<|A1<|E0<|B5<|sv Z<|sv Z<|sv Z<|A1<|D6 ?_))
 cases hz1
 exact ⟨Z,(),(E3 Z Z)⟩
 refine C3 Z ?_
 cases hz1
 obtain rfl:=ez1 _ rfl
 refine ⟨nofun,C2 Z<|T4 ?_⟩
 exact ⟨(),(E3 Z Z)⟩
 rintro _ ⟨g1,q2⟩
 refine A7 q2<|B8<|sv Z<|sq Z<|sl Z G_hit Z<|sd Z (C8 Z)<|B6 (dl A4 [(p1.Zones.length:Int)]) Z Z (bs h fun _ hv13 h=>D1 Z Z A6 (P4 _ _ hv13) (.inl Z) (bs h fun v14 hv14 h=>sd Z (Lj Z Z hv14)<|sv Z<|A1<|A3<|B8<|sv Z<|A1<|bs h fun y3 hy3 h=>D0 (fun s=> ∃g5:Unit,Sb ⟨T [(1,(.ptr (1,u1) 0)),(5,(.d (O0 y3)))],G [((1,u1),some<|.box 27 (F2 p1))]⟩ s) ?_ ?_))
 refine A5<|D2 (Ds p1) (fun (x3:(ByteArray×Int)) (g6:Unit)=>⟨T [(1,(.ptr (1,u1) 0)),(5,(.d (O0 x3.1))),(9,(di x3.2))],G [((1,u1),some<|.box 27 (F2 p1))]⟩) (v14,0) () _ hy3 (E3 Z Z) ?_
 intro x3 g6 z3 hz3 ez3
 unfold Ds at hz3
 refine A3<|B8<|sv Z<|sq Z<|sl Z G_hit Z<|sd Z (C8 Z)<|sv Z<|A1<|cc Z hz3 (fun c4 hz3=> ?_)<|fun c4 hz3=> ?_
 refine B3<|A3<|A5<|A3<|M8 Z<|sv Z<|sq Z<|sl Z G_hit Z<|sv Z<|bs hz3 fun v15 hv15 hz3=>sd Z (D8 Z Z hv15 Z)<|sv Z<|sd Z (E9 Z hv15 Z)<|sq Z<|sl Z G_hit Z<|sv Z<|bs hz3 fun v16 hv16 hz3=>sd Z (D8 Z Z hv16 Z)<|sv Z<|sd Z (E9 Z hv16 Z)<|sd Z (C8 Z)<|B6 (dl A4 [v15.Signal_,(v16.Parts.length:Int)]) Z Z (bs hz3 fun _ hv17 hz3=>D1 Z Z A6 (P4 _ _ hv17) (.inl Z) (bs hz3 fun v18 hv18 hz3=>sd Z (Lj Z Z hv18)<|sv Z<|A1<|A3<|A7 (s0:=⟨T [(1,(.ptr _ _)),(5,(.d _)),(9,(.d _))],G [((1,u1),some<|.box 27 _)]⟩) (E3 Z Z) ?_))
 refine B5<|sv Z<|A1<|bs hz3 fun y4 hy4 hz3=>D0 (fun s=> ∃g7:Unit,Sb ⟨T [(1,(.ptr (1,u1) 0)),(5,(.d (O0 y4))),(9,(di x3.2))],G [((1,u1),some<|.box 27 (F2 p1))]⟩ s) ?_ ?_
 refine A5<|D2 (Dr p1 x3) (fun (x4:(ByteArray×Int)) (g8:Unit)=>⟨T [(1,(.ptr (1,u1) 0)),(5,(.d (O0 x4.1))),(9,(di x3.2)),(10,(di x4.2))],G [((1,u1),some<|.box 27 (F2 p1))]⟩) (v18,0) () _ hy4 (E3 Z Z) ?_
 intro x4 g8 z4 hz4 ez4
 unfold Dr at hz4
 refine A3<|B8<|sv Z<|sq Z<|sl Z G_hit Z<|sv Z<|bs hz4 fun _ hv19 hz4=>sd Z (D8 Z Z hv19 Z)<|sv Z<|sd Z (E9 Z hv19 Z)<|sd Z (C8 Z)<|sv Z<|A1<|cc Z hz4 (fun c5 hz4=> ?_)<|fun c5 hz4=> ?_
 refine B3<|A3<|A5<|lr<|fun u22 _=>sq Z<|sl Z G_hit Z<|sv Z<|bs hz4 fun _ hv20 hz4=>sd Z (D8 Z Z hv20 Z)<|sv Z<|sd Z (E9 Z hv20 Z)<|sv Z<|bs hz4 fun v21 hv21 hz4=>sd Z (D8 Z Z hv21 Z)<|sd Z (D9 Z hv21 Z Z)<|sm Z<|V6 Z G_hit (Sz v21) Z (A1<|A7 (s0:=⟨T [(1,(.ptr _ _)),(5,(.d _)),(9,(.d _)),(10,(.d _)),(11,(.ptr _ _))],G [((1,u1),some<|.box 27 _),((11,u22),some<|.box 91 _)]⟩) (E3 Z Z) ?_)
 refine B5<|sv Z<|sq Z<|sl Z (gq Z) Z (sq Z<|sl Z (gq Z) Z (sq Z<|sl Z (gq Z) Z (sq Z<|sl Z (gq Z) Z (B6 (dl A4 [v21.Lane_,v21.From,v21.To,v21.Rank]) Z Z (bs hz4 fun _ hv22 hz4=>D1 Z Z A6 (P4 _ _ hv22) (.inl Z) (bs hz4 fun _ hv23 hz4=>sd Z (Lj Z Z hv23)<|sv Z<|A1<|E0<|B5<|sv Z<|sv Z<|sv Z<|A1<|D6 ?_))))))
 cases hz4
 exact ⟨Z,(),(E3 Z Z)⟩
 refine C3 Z ?_
 cases hz4
 obtain rfl:=ez4 _ rfl
 refine ⟨nofun,C2 Z<|T4 ?_⟩
 exact ⟨(),(E3 Z Z)⟩
 rintro _ ⟨g7,q3⟩
 refine E0<|A7 q3<|B5<|sv Z<|sv Z<|sv Z<|A1<|D6 ?_
 cases hz3
 exact ⟨Z,(),(E3 Z Z)⟩
 refine C3 Z ?_
 cases hz3
 obtain rfl:=ez3 _ rfl
 refine ⟨nofun,C2 Z<|T4 ?_⟩
 exact ⟨(),(E3 Z Z)⟩
 rintro _ ⟨g5,q4⟩
 refine A7 q4<|B8<|sv Z<|sq Z<|sl Z G_hit Z<|sd Z (C8 Z)<|B6 (dl A4 [(p1.Signals.length:Int)]) Z Z (bs h fun _ hv24 h=>D1 Z Z A6 (P4 _ _ hv24) (.inl Z) (bs h fun v25 hv25 h=>sd Z (Lj Z Z hv25)<|sv Z<|A1<|A3<|B8<|sv Z<|A1<|bs h fun y5 hy5 h=>D0 (fun s=> ∃g9:Unit,Sb ⟨T [(1,(.ptr (1,u1) 0)),(5,(.d (O0 y5)))],G [((1,u1),some<|.box 27 (F2 p1))]⟩ s) ?_ ?_))
 refine A5<|D2 (Dq p1) (fun (x5:(ByteArray×Int)) (g10:Unit)=>⟨T [(1,(.ptr (1,u1) 0)),(5,(.d (O0 x5.1))),(12,(di x5.2))],G [((1,u1),some<|.box 27 (F2 p1))]⟩) (v25,0) () _ hy5 (E3 Z Z) ?_
 intro x5 g10 z5 hz5 ez5
 unfold Dq at hz5
 refine A3<|B8<|sv Z<|sq Z<|sl Z G_hit Z<|sd Z (C8 Z)<|sv Z<|A1<|cc Z hz5 (fun c6 hz5=> ?_)<|fun c6 hz5=> ?_
 refine B3<|A3<|A5<|A3<|M8 Z<|sv Z<|sq Z<|sl Z G_hit Z<|sv Z<|bs hz5 fun v26 hv26 hz5=>sd Z (D8 Z Z hv26 Z)<|sv Z<|sd Z (E9 Z hv26 Z)<|sq Z<|sl Z G_hit Z<|sv Z<|bs hz5 fun v27 hv27 hz5=>sd Z (D8 Z Z hv27 Z)<|sv Z<|sd Z (E9 Z hv27 Z)<|sd Z (C8 Z)<|B6 (dl A4 [v26.Offset,(v27.Phases.length:Int)]) Z Z (bs hz5 fun _ hv28 hz5=>D1 Z Z A6 (P4 _ _ hv28) (.inl Z) (bs hz5 fun v29 hv29 hz5=>sd Z (Lj Z Z hv29)<|sv Z<|A1<|A3<|A7 (s0:=⟨T [(1,(.ptr _ _)),(5,(.d _)),(12,(.d _))],G [((1,u1),some<|.box 27 _)]⟩) (E3 Z Z) ?_))
 refine B5<|sv Z<|A1<|bs hz5 fun y6 hy6 hz5=>D0 (fun s=> ∃g11:Unit,Sb ⟨T [(1,(.ptr (1,u1) 0)),(5,(.d (O0 y6))),(12,(di x5.2))],G [((1,u1),some<|.box 27 (F2 p1))]⟩ s) ?_ ?_
 refine A5<|D2 (Dp p1 x5) (fun (x6:(ByteArray×Int)) (g12:Unit)=>⟨T [(1,(.ptr (1,u1) 0)),(5,(.d (O0 x6.1))),(12,(di x5.2)),(13,(di x6.2))],G [((1,u1),some<|.box 27 (F2 p1))]⟩) (v29,0) () _ hy6 (E3 Z Z) ?_
 intro x6 g12 z6 hz6 ez6
 unfold Dp at hz6
 refine A3<|B8<|sv Z<|sq Z<|sl Z G_hit Z<|sv Z<|bs hz6 fun _ hv30 hz6=>sd Z (D8 Z Z hv30 Z)<|sv Z<|sd Z (E9 Z hv30 Z)<|sd Z (C8 Z)<|sv Z<|A1<|cc Z hz6 (fun c7 hz6=> ?_)<|fun c7 hz6=> ?_
 refine B3<|A3<|A5<|M8 Z<|sv Z<|sq Z<|sl Z G_hit Z<|sv Z<|bs hz6 fun _ hv31 hz6=>sd Z (D8 Z Z hv31 Z)<|sv Z<|sd Z (E9 Z hv31 Z)<|sv Z<|bs hz6 fun v32 hv32 hz6=>sd Z (D8 Z Z hv32 Z)<|sv Z<|sd Z (E9 Z hv32 Z)<|B6 (dl A4 [v32.Ticks]) Z Z (bs hz6 fun _ hv33 hz6=>D1 Z Z A6 (P4 _ _ hv33) (.inl Z) (bs hz6 fun _ hv34 hz6=>sd Z (Lj Z Z hv34)<|sq Z<|sl Z G_hit Z<|sv Z<|bs hz6 fun _ hv35 hz6=>sd Z (D8 Z Z hv35 Z)<|sv Z<|sd Z (E9 Z hv35 Z)<|sv Z<|bs hz6 fun _ hv36 hz6=>sd Z (D8 Z Z hv36 Z)<|sv Z<|sd Z (E9 Z hv36 Z)<|bs hz6 fun _ hv37 hz6=>D1 Z Z A6 (Xm _ _ hv37) (.inl Z) (bs hz6 fun _ hv38 hz6=>sd Z (Lj Z Z hv38)<|sv Z<|A1<|E0<|A7 (s0:=⟨T [(1,(.ptr _ _)),(5,(.d _)),(12,(.d _)),(13,(.d _))],G [((1,u1),some<|.box 27 _)]⟩) (E3 Z Z) ?_)))
 refine B5<|sv Z<|sv Z<|sv Z<|A1<|D6 ?_
 cases hz6
 exact ⟨Z,(),(E3 Z Z)⟩
 refine C3 Z ?_
 cases hz6
 obtain rfl:=ez6 _ rfl
 refine ⟨nofun,C2 Z<|T4 ?_⟩
 exact ⟨(),(E3 Z Z)⟩
 rintro _ ⟨g11,q5⟩
 refine E0<|A7 q5<|B5<|sv Z<|sv Z<|sv Z<|A1<|D6 ?_
 cases hz5
 exact ⟨Z,(),(E3 Z Z)⟩
 refine C3 Z ?_
 cases hz5
 obtain rfl:=ez5 _ rfl
 refine ⟨nofun,C2 Z<|T4 ?_⟩
 exact ⟨(),(E3 Z Z)⟩
 rintro _ ⟨g9,q6⟩
 refine A7 q6<|B8<|sv Z<|sq Z<|sl Z G_hit Z<|sd Z (C8 Z)<|B6 (dl A4 [(p1.Works.length:Int)]) Z Z (bs h fun _ hv39 h=>D1 Z Z A6 (P4 _ _ hv39) (.inl Z) (bs h fun v40 hv40 h=>sd Z (Lj Z Z hv40)<|sv Z<|A1<|A3<|B8<|sv Z<|A1<|bs h fun y7 hy7 h=>D0 (fun s=> ∃g13:Unit,Sb ⟨T [(5,(.d (O0 y7)))],G []⟩ s) ?_ ?_))
 refine A5<|D2 (Do p1) (fun (x7:(ByteArray×Int)) (g14:Unit)=>⟨T [(1,(.ptr (1,u1) 0)),(5,(.d (O0 x7.1))),(14,(di x7.2))],G [((1,u1),some<|.box 27 (F2 p1))]⟩) (v40,0) () _ hy7 (E3 Z Z) ?_
 intro x7 g14 z7 hz7 ez7
 unfold Do at hz7
 refine A3<|B8<|sv Z<|sq Z<|sl Z G_hit Z<|sd Z (C8 Z)<|sv Z<|A1<|cc Z hz7 (fun c8 hz7=> ?_)<|fun c8 hz7=> ?_
 refine B3<|A3<|A5<|B8<|sq Z<|sl Z G_hit Z<|sv Z<|bs hz7 fun v41 hv41 hz7=>sd Z (D8 Z Z hv41 Z)<|sd Z (D9 Z hv41 Z Z)<|sm Z<|V6 Z G_hit (II v41) Z (A1<|B5<|sv Z<|sq Z<|sl Z G_hit Z<|sq Z<|sl Z G_hit Z<|sq Z<|sl Z G_hit Z<|sq Z<|sl Z G_hit Z<|sq Z<|sl Z G_hit Z<|sq Z<|sl Z G_hit Z<|B6 (dl A4 [v41.Lane_,v41.From,v41.To,v41.Begin,v41.End,v41.Limit]) Z Z (bs hz7 fun _ hv42 hz7=>D1 Z Z A6 (P4 _ _ hv42) (.inl Z) (bs hz7 fun _ hv43 hz7=>sd Z (Lj Z Z hv43)<|sv Z<|A1<|E0<|A7 (s0:=⟨T [(1,(.ptr _ _)),(5,(.d _)),(14,(.d _))],G [((1,u1),some<|.box 27 _)]⟩) (E3 Z Z) ?_)))
 refine B5<|sv Z<|sv Z<|sv Z<|A1<|D6 ?_
 cases hz7
 exact ⟨Z,(),(E3 Z Z)⟩
 refine C3 Z ?_
 cases hz7
 obtain rfl:=ez7 _ rfl
 refine ⟨nofun,C2 Z<|T4 ?_⟩
 exact ⟨(),(E3 Z Z)⟩
 rintro _ ⟨g13,q7⟩
 refine A7 q7<|B8<|sv Z<|sv Z<|sv Z<|A1<|B9 ?_
 cases h
 exact B4 (.inr Z) (My (C0 Z) (C0 Z) D4 D4) (.refl _)
def R6 (p1:ByteArray)(p2:ByteArray):Option Bool:=
  ((cond (decide ((p1.size:Int)≥(p2.size:Int))) (BC p1 0 (p2.size:Int)) (some default))).bind fun v1=>some ((decide ((p1.size:Int)≥(p2.size:Int)))&& (v1.toList==p2.toList))
theorem Lb(p1 p2 r)(h:R6 p1 p2=some r):PCall prog 263 [(O0 p1),(O0 p2)] (bo r):=by
 refine D7 (fk func263 ntmps263 m0 (by with_unfolding_all rfl)) (nl Z) ?_
 unfold R6 at h
 refine A7 (s0:=⟨T [(0,(.d _)),(1,(.d _))],G []⟩) (E3 Z Z) ?_
 refine B8<|sv Z<|A1<|B8<|sv Z<|sd Z (Vs Z)<|sv Z<|sd Z (Vs Z)<|sv Z<|sv Z<|gt Z (fun _=>Z)<|gt Z (fun _=>Z)<|gt Z (fun w3=>(Vs<|A8 w3))<|bs h fun _ hv1 h=>gt Z (fun w4=>(JU (A8 w4) (A8 w4) (H4 w4 hv1)))<|gt Z (fun _=>Z)<|gt Z (fun w6=>(gP (A8 w6)<|A8 w6))<|sa Z Z Z<|sv Z<|A1<|B9 ?_
 cases h
 exact B4 (.inr Z) (C5 (C0 Z) D4) (.refl _)
def V8 (p1:ByteArray)(p2:ByteArray):Option (ByteArray×Bool):=
  (R6 p1 p2).bind fun v1=>cond (!v1) (some (p1,false)) ((BC p1 (p2.size:Int) (p1.size:Int)).bind fun v2=>some (v2,true))
theorem Lc(p1 p2 r)(h:V8 p1 p2=some r):PCall prog 215 [(O0 p1),(O0 p2)] (.tup [(O0 r.1),(bo r.2)]):=by
 refine D7 (fk func215 ntmps215 m0 (by with_unfolding_all rfl)) (nl Z) ?_
 unfold V8 at h
 refine A7 (s0:=⟨T [(0,(.d _)),(1,(.d _))],G []⟩) (E3 Z Z) ?_
 refine B8<|sv Z<|sv Z<|A1<|A3<|B8<|sv Z<|sv Z<|bs h fun v1 hv1 h=>D1 Z Z A6 (Lb _ _ _ hv1) (.inl Z) (B6 (.d (bo (!v1))) Z Z (A1<|cc Z h (fun c1 h=> ?_)<|fun c1 h=> ?_))
 refine B8<|sv Z<|sv Z<|sv Z<|A1<|B9 ?_
 cases h
 exact B4 (.inr Z) (My (C0 Z) (C0 Z) D4 D4) (.refl _)
 refine B3<|B8<|sv Z<|sv Z<|sd Z (Vs Z)<|bs h fun _ hv2 h=>sd Z (DJ Z Z hv2)<|sv Z<|sv Z<|A1<|B9 ?_
 cases h
 exact B4 (.inr Z) (My (C0 Z) (C0 Z) D4 D4) (.refl _)
def Fb (p1:ByteArray)(p2:ByteArray):Option (ByteArray×Bool):=
  (V8 p1 p2).bind fun v1=>some (v1.1,v1.2)
theorem We(p1 p2 r)(h:Fb p1 p2=some r):PCall prog 119 [(O0 p1),(O0 p2)] (.tup [(O0 r.1),(bo r.2)]):=by
 refine D7 (fk func119 ntmps119 m0 (by with_unfolding_all rfl)) (nl Z) ?_
 unfold Fb at h
 refine A7 (s0:=⟨T [(0,(.d _)),(1,(.d _))],G []⟩) (E3 Z Z) ?_
 refine B8<|sv Z<|sv Z<|A1<|B8<|sv Z<|sv Z<|bs h fun _ hv1 h=>D1 Z Z A6 (Lc _ _ _ hv1) (.inl Z) (sv Z<|sv Z<|sv Z<|sv Z<|A1<|B9 ?_)
 cases h
 exact B4 (.inr Z) (My (C0 Z) (C0 Z) D4 D4) (.refl _)
def V9 (v1:ByteArray)(x1:(Int×Int)):Option (Stp (Int×Int) Int):=
  cond (decide (x1.2< ((Av v1).length:Int))) ((F0 (Av v1) x1.2).bind fun v2=>some (.go ((IntKind.wrap .u64 (((BitVec.ofInt (IntKind.bits .u64) (IntKind.wrap .u64 (x1.1*2^ (min (8:Int).toNat (IntKind.bits .u64))))|||(BitVec.ofInt (IntKind.bits .u64) (IntKind.wrap .u64 v2))).toNat:Nat))),(K2 (x1.2+1))))) (some (.out x1.1))
def C1 [Lp](p1:RoadsReader):Option (Int×RoadsReader):=
  cond (decide ((p1.s.size:Int)<8)) (some (0,(RoadsReader.mk ByteArray.empty true))) ((BC p1.s 0 8).bind fun v1=>(loop (V9 v1) (0,0)).bind fun y1=>(BC p1.s 8 (p1.s.size:Int)).bind fun v3=>some ((K2 y1),(RoadsReader.mk v3 p1.short)))
theorem E5(p1 r)(h:C1 p1=some r):MCall prog 120 [(.ptr (900000,0) 0)] [(.box 154 [(.d (O0 p1.s)),(.d (bo p1.short))])] (di r.1) [some (.box 154 [(.d (O0 r.2.s)),(.d (bo r.2.short))])] []:=by
 refine Y6 (fk func120 ntmps120 (fun r=>if r==5 then [1005]else []) (by with_unfolding_all rfl)) Z (nl Z) ?_
 unfold C1 at h
 refine A7 (s0:=⟨T [(0,(.ptr _ _))],G [((900000,0),some<|.box 154 _)]⟩) (E3 Z Z) ?_
 refine B8<|sv Z<|A1<|A3<|B8<|sq Z<|sp Z Z<|sq Z<|sl Z G_hit Z<|sd Z (Vs Z)<|sv Z<|A1<|cc Z h (fun c1 h=> ?_)<|fun c1 h=> ?_
 refine B8<|sq Z<|sp Z Z<|sq Z<|sp Z Z<|V6 Z G_hit [(.d (O0 ByteArray.empty)),(.d (bo p1.short))] Z (sq Z<|sp Z Z<|V6 Z G_hit [(.d (O0 ByteArray.empty)),(.d (bo true))] Z (A1<|B8<|sv Z<|A1<|B9 ?_))
 cases h
 exact Ar (.inr Z) [] (As (C0 Z) D4) (.refl _) ⟨⟨_,_,_,G_hit,G3,Z,X3,Z⟩,trivial⟩
 refine B3<|B8<|sv Z<|A1<|A3<|B8<|sq Z<|sp Z Z<|sq Z<|sl Z G_hit Z<|bs h fun v1 hv1 h=>sd Z (JU Z Z hv1)<|sd Z (XU Z)<|sd Z (C8 Z)<|sv Z<|A1<|bs h fun y1 hy1 h=>D0 (fun s=> ∃g1:Unit,Sb ⟨T [(0,(.ptr (900000,0) 0)),(3,(.d (.v (.int .u64 y1))))],G [((900000,0),some<|.box 154 [(.d (O0 p1.s)),(.d (bo p1.short))])]⟩ s) ?_ ?_
 refine A5<|D2 (V9 v1) (fun (x1:(Int×Int)) (g2:Unit)=>⟨T [(0,(.ptr (900000,0) 0)),(3,(.d (.v (.int .u64 x1.1)))),(23,(dl C4<|Av v1)),(24,(di ((Av v1).length:Int))),(25,(di x1.2))],G [((900000,0),some<|.box 154 [(.d (O0 p1.s)),(.d (bo p1.short))])]⟩) (0,0) () _ hy1 (E3 Z Z) ?_
 intro x1 g2 z1 hz1 ez1
 unfold V9 at hz1
 refine B8<|sv Z<|A1<|A3<|cc Z hz1 (fun c2 hz1=> ?_)<|fun c2 hz1=> ?_
 refine B3<|A3<|A5<|B8<|bs hz1 fun _ hv2 hz1=>sd Z (D8 Z Z hv2 Z)<|sd Z (E9 Z hv2 Z)<|sv Z<|A1<|B5<|sv Z<|sv Z<|sv Z<|sv Z<|sv Z<|sv Z<|A1<|E0<|B5<|sv Z<|sv Z<|A1<|D6 ?_
 cases hz1
 exact ⟨Z,(),(E3 Z Z)⟩
 refine C3 Z ?_
 cases hz1
 obtain rfl:=ez1 _ rfl
 refine ⟨nofun,C2 Z<|T4 ?_⟩
 exact ⟨(),(E3 Z Z)⟩
 rintro _ ⟨g1,q1⟩
 refine A7 q1<|B8<|sq Z<|sp Z Z<|sq Z<|sp Z Z<|sl Z G_hit Z<|bs h fun v3 hv3 h=>sd Z (DJ Z Z hv3)<|sq Z<|sp Z Z<|V6 Z G_hit [(.d (O0 v3)),(.d (bo p1.short))] Z (A1<|B8<|sv Z<|sv Z<|sv Z<|A1<|B9 ?_)
 cases h
 exact Ar (.inr Z) [] (As (C0 Z) D4) (.refl _) ⟨⟨_,_,_,G_hit,G3,Z,X3,Z⟩,trivial⟩
def G4 [Lp](p1:RoadsReader):Option (Int×RoadsReader):=
  (C1 p1).bind fun v1=>some (v1.1,v1.2)
theorem S6(p1 r)(h:G4 p1=some r):MCall prog 216 [(.ptr (900000,0) 0)] [(.box 154 [(.d (O0 p1.s)),(.d (bo p1.short))])] (di r.1) [some (.box 154 [(.d (O0 r.2.s)),(.d (bo r.2.short))])] []:=by
 refine Y6 (fk func216 ntmps216 (fun r=>if r==1 then [1001001]else []) (by with_unfolding_all rfl)) Z (nl Z) ?_
 unfold G4 at h
 refine A7 (s0:=⟨T [(0,(.ptr _ _))],G [((900000,0),some<|.box 154 _)]⟩) (E3 Z Z) ?_
 refine B8<|sv Z<|A1<|B8<|sq Z<|bs h fun v1 hv1 h=>V5 (v:= .d (i64 v1.1)) (us:= [(900000,0)]) (R9 (E5 _ _ hv1) [(900000,0)] [(900000,0)] _ (((900000,0),some<|.box 154 [(.d (O0 v1.2.s)),(.d (bo v1.2.short))])::_) Z F3 (D3 (F9 G_hit Z) G0) (C9 G_hit E2) ⟨⟨_,G_hit, .of Z⟩,trivial⟩ (fun _ h=>h) nd1 Z Z Z) (sv Z<|A1<|B9 ?_)
 cases h
 exact Ar (.inr Z) [] (As (C0 Z) D4) (.refl _) ⟨⟨_,_,_,G_hit,G3,Z,X3,Z⟩,trivial⟩
def Af [Lp](p1:RoadsReader):Option (Spot×RoadsReader):=
  (C1 p1).bind fun v1=>(C1 v1.2).bind fun v2=>some ((Spot.mk v1.1 v2.1),v2.2)
theorem Tw(p1 r)(h:Af p1=some r):MCall prog 218 [(.ptr (900000,0) 0)] [(.box 154 [(.d (O0 p1.s)),(.d (bo p1.short))])] (.d (.agg [(i64 r.1.X),(i64 r.1.Y)])) [some (.box 154 [(.d (O0 r.2.s)),(.d (bo r.2.short))])] []:=by
 refine Y6 (fk func218 ntmps218 (fun r=>if r==1 then [1001001]else if r==2 then [1002002]else []) (by with_unfolding_all rfl)) Z (nl Z) ?_
 unfold Af at h
 refine A7 (s0:=⟨T [(0,(.ptr _ _))],G [((900000,0),some<|.box 154 _)]⟩) (E3 Z Z) ?_
 refine B8<|sm Z<|A1<|B8<|sq Z<|bs h fun v1 hv1 h=>V5 (v:= .d (i64 v1.1)) (us:= [(900000,0)]) (R9 (E5 _ _ hv1) [(900000,0)] [(900000,0)] _ (((900000,0),some<|.box 154 [(.d (O0 v1.2.s)),(.d (bo v1.2.short))])::_) Z F3 (D3 (F9 (A9 Z G_hit) Z) G0) (C9 (A9 Z G_hit) E2) ⟨⟨_,(A9 Z G_hit), .of Z⟩,trivial⟩ (fun _ h=>h) nd1 Z Z Z) (sv Z<|A1<|B8<|sv Z<|sq Z<|bs h fun v2 hv2 h=>V5 (v:= .d (i64 v2.1)) (us:= [(900000,0)]) (R9 (E5 _ _ hv2) [(900000,0)] [(900000,0)] _ (((900000,0),some<|.box 154 [(.d (O0 v2.2.s)),(.d (bo v2.2.short))])::_) Z F3 (D3 (F9 G_hit Z) G0) (C9 G_hit E2) ⟨⟨_,G_hit, .of Z⟩,trivial⟩ (fun _ h=>h) nd1 Z Z Z) (sv Z<|V6 Z (gq Z) [(di v1.1),(di v2.1)] Z (A1<|B9 ?_)))
 cases h
 exact Ar (.inr Z) [] (As (L0 Z G_hit (Nat.le_of_ble_eq_true Z) Z) D4) (.refl _) ⟨⟨_,_,_,(gq Z),G3,Z,X3,Z⟩,trivial⟩
def T8 [Lp](x1:((List Spot)×Int×RoadsReader)):Option (Stp ((List Spot)×Int×RoadsReader) ((List Spot)×RoadsReader)):=
  cond ((decide (x1.2.1>0))&& (!x1.2.2.short)) ((Af x1.2.2).bind fun v2=>(Q4 x1.1 [v2.1]).bind fun v3=>some (.go (v3,(K2 (x1.2.1 - 1)),v2.2))) (some (.out (x1.1,x1.2.2)))
def Q7 [Lp](p1:RoadsReader):Option ((List Spot)×RoadsReader):=
  (C1 p1).bind fun v1=>(loop (T8) ([],v1.1,v1.2)).bind fun y1=>some (y1.1,y1.2)
theorem Hz(p1 r)(h:Q7 p1=some r):MCall prog 217 [(.ptr (900000,0) 0),(.fn (.func 218) [(.ptr (900000,0) 0)] [])] [(.box 154 [(.d (O0 p1.s)),(.d (bo p1.short))])] (dl K4 r.1) [some (.box 154 [(.d (O0 r.2.s)),(.d (bo r.2.short))])] []:=by
 refine Y6 (fk func217 ntmps217 (fun r=>if r==2 then [1002001]else if r==5 then [1005002,1003]else []) (by with_unfolding_all rfl)) Z (nl Z) ?_
 unfold Q7 at h
 refine A7 (s0:=⟨T [(0,(.ptr _ _)),(1,(.fn _ _ _))],G [((900000,0),some<|.box 154 _)]⟩) (E3 Z Z) ?_
 refine B8<|sv Z<|A1<|B8<|sv Z<|A1<|A3<|B8<|sq Z<|bs h fun v1 hv1 h=>V5 (v:= .d (i64 v1.1)) (us:= [(900000,0)]) (R9 (E5 _ _ hv1) [(900000,0)] [(900000,0)] _ (((900000,0),some<|.box 154 [(.d (O0 v1.2.s)),(.d (bo v1.2.short))])::_) Z F3 (D3 (F9 G_hit Z) G0) (C9 G_hit E2) ⟨⟨_,G_hit, .of Z⟩,trivial⟩ (fun _ h=>h) nd1 Z Z Z) (sv Z<|A1<|bs h fun y1 hy1 h=>D0 (fun s=> ∃g1:Nat,Sb ⟨T [(0,(.ptr (900000,0) 0)),(5,(oS y1.1 (24,g1)))],G [((900000,0),some<|.box 154 [(.d (O0 y1.2.s)),(.d (bo y1.2.short))]),((24,g1),oB 148 2 K4 y1.1)]⟩ s) ?_ ?_)
 refine A5<|D2 (T8) (fun (x1:((List Spot)×Int×RoadsReader)) (g2:Nat)=>⟨T [(0,(.ptr (900000,0) 0)),(1,(.fn (.func 218) [(.ptr (900000,0) 0)] [])),(5,(oS x1.1 (24,g2))),(6,(di x1.2.1))],G [((900000,0),some<|.box 154 [(.d (O0 x1.2.2.s)),(.d (bo x1.2.2.short))]),((24,g2),oB 148 2 K4 x1.1)]⟩) ([],v1.1,v1.2) 0 _ hy1 (B7 (K8 Z)<|A2 G_hit (.of Z)<|O6 trivial) ?_
 intro x1 g2 z1 hz1 ez1
 unfold T8 at hz1
 refine A3<|B8<|sv Z<|sv Z<|sv Z<|gp Z (L5 Z) (fun _=>Z) ?_
 refine T3 _ (.ptr _ _) Z (L5 Z) (fun w2=>(by simp only [A8 w2];rfl)) ?_
 refine T3 _ (.ptr _ _) Z (L5 Z) (fun w3=>(by simp only [A8 w3];rfl)) ?_
 refine gt Z (vl Z G_hit Z) ?_
 refine T3 _ (.d (bo (!x1.2.2.short))) Z (L5 Z) (fun w5=>(by simp only [A8 w5];rfl)) ?_
 refine sa Z Z Z<|A1<|cc Z hz1 (fun c1 hz1=> ?_)<|fun c1 hz1=> ?_
 refine B3<|A3<|A5<|M6 fun u5 _=>B6 (oS x1.1 (24,g2)) Z Z (B6 (.fn _ _ _) Z Z (bs hz1 fun v2 hv2 hz1=>V5 (v:= .d (.agg [(i64 v2.1.X),(i64 v2.1.Y)])) (us:= [(900000,0)]) (R9 (Tw _ _ hv2) [(900000,0)] [(900000,0)] _ (((900000,0),some<|.box 154 [(.d (O0 v2.2.s)),(.d (bo v2.2.short))])::_) Z F3 (D3 (F9 G_hit Z) G0) (C9 G_hit E2) ⟨⟨_,G_hit, .of Z⟩,trivial⟩ (fun _ h=>h) nd1 Z Z Z) (B6 (dl K4 [v2.1]) Z Z (bs hz1 fun _ hv3 hz1=>G7 K4 (24,g2) x1.1 v2.1 [] _ (E1<|fun _=>Z) Z (gq Z) hv3 (ss Z<|A1<|E0<|A7 (s0:=⟨T [(0,(.ptr _ _)),(1,(.fn _ _ _)),(5,(.sl _)),(6,(.d _))],G [((900000,0),some<|.box 154 _),((24,u5),some _)]⟩) (E3 Z Z) ?_)))))
 refine B5<|sv Z<|sv Z<|sv Z<|A1<|D6 ?_
 cases hz1
 exact ⟨Z,u5,(B7 ⟨.of Z, .of Z,(.of (T1<|K5 hv3).symm), .of Z,trivial⟩<|A2 G_hit (.of Z)<|K9 (gq Z) trivial)⟩
 refine C3 Z ?_
 cases hz1
 obtain rfl:=ez1 _ rfl
 refine ⟨nofun,C2 Z<|T4 ?_⟩
 exact ⟨g2,(B7 (K8 Z)<|A2 G_hit (.of Z)<|B0 (gq Z) trivial)⟩
 rintro _ ⟨g1,q1⟩
 refine A7 q1<|B8<|B6 (oS y1.1 (24,g1)) Z Z (B6 (oS y1.1 (24,g1)) Z Z (A1<|B9 ?_))
 cases h
 exact Ar (.inr Z) [(24,g1)] (As (C0 Z)<|U9<|Qd (.head _)<|gq Z) U8 ⟨⟨_,_,_,G_hit,(Hl Z G3),Z,X3,Z⟩,trivial⟩
def S8 [Lp](x1:((List Int)×Int×RoadsReader)):Option (Stp ((List Int)×Int×RoadsReader) ((List Int)×RoadsReader)):=
  cond ((decide (x1.2.1>0))&& (!x1.2.2.short)) ((G4 x1.2.2).bind fun v2=>(Q4 x1.1 [v2.1]).bind fun v3=>some (.go (v3,(K2 (x1.2.1 - 1)),v2.2))) (some (.out (x1.1,x1.2.2)))
def J4 [Lp](p1:RoadsReader):Option ((List Int)×RoadsReader):=
  (C1 p1).bind fun v1=>(loop (S8) ([],v1.1,v1.2)).bind fun y1=>some (y1.1,y1.2)
theorem Z8(p1 r)(h:J4 p1=some r):MCall prog 219 [(.ptr (900000,0) 0),(.fn (.func 216) [(.ptr (900000,0) 0)] [])] [(.box 154 [(.d (O0 p1.s)),(.d (bo p1.short))])] (dl A4 r.1) [some (.box 154 [(.d (O0 r.2.s)),(.d (bo r.2.short))])] []:=by
 refine Y6 (fk func219 ntmps219 (fun r=>if r==2 then [1002001]else if r==5 then [1005002,1003]else []) (by with_unfolding_all rfl)) Z (nl Z) ?_
 unfold J4 at h
 refine A7 (s0:=⟨T [(0,(.ptr _ _)),(1,(.fn _ _ _))],G [((900000,0),some<|.box 154 _)]⟩) (E3 Z Z) ?_
 refine B8<|sv Z<|A1<|B8<|sv Z<|A1<|A3<|B8<|sq Z<|bs h fun v1 hv1 h=>V5 (v:= .d (i64 v1.1)) (us:= [(900000,0)]) (R9 (E5 _ _ hv1) [(900000,0)] [(900000,0)] _ (((900000,0),some<|.box 154 [(.d (O0 v1.2.s)),(.d (bo v1.2.short))])::_) Z F3 (D3 (F9 G_hit Z) G0) (C9 G_hit E2) ⟨⟨_,G_hit, .of Z⟩,trivial⟩ (fun _ h=>h) nd1 Z Z Z) (sv Z<|A1<|bs h fun y1 hy1 h=>D0 (fun s=> ∃g1:Nat,Sb ⟨T [(0,(.ptr (900000,0) 0)),(5,(oS y1.1 (24,g1)))],G [((900000,0),some<|.box 154 [(.d (O0 y1.2.s)),(.d (bo y1.2.short))]),((24,g1),oB 3 1 A4 y1.1)]⟩ s) ?_ ?_)
 refine A5<|D2 (S8) (fun (x1:((List Int)×Int×RoadsReader)) (g2:Nat)=>⟨T [(0,(.ptr (900000,0) 0)),(1,(.fn (.func 216) [(.ptr (900000,0) 0)] [])),(5,(oS x1.1 (24,g2))),(6,(di x1.2.1))],G [((900000,0),some<|.box 154 [(.d (O0 x1.2.2.s)),(.d (bo x1.2.2.short))]),((24,g2),oB 3 1 A4 x1.1)]⟩) ([],v1.1,v1.2) 0 _ hy1 (B7 (K8 Z)<|A2 G_hit (.of Z)<|O6 trivial) ?_
 intro x1 g2 z1 hz1 ez1
 unfold S8 at hz1
 refine A3<|B8<|sv Z<|sv Z<|sv Z<|gp Z (L5 Z) (fun _=>Z) ?_
 refine T3 _ (.ptr _ _) Z (L5 Z) (fun w2=>(by simp only [A8 w2];rfl)) ?_
 refine T3 _ (.ptr _ _) Z (L5 Z) (fun w3=>(by simp only [A8 w3];rfl)) ?_
 refine gt Z (vl Z G_hit Z) ?_
 refine T3 _ (.d (bo (!x1.2.2.short))) Z (L5 Z) (fun w5=>(by simp only [A8 w5];rfl)) ?_
 refine sa Z Z Z<|A1<|cc Z hz1 (fun c1 hz1=> ?_)<|fun c1 hz1=> ?_
 refine B3<|A3<|A5<|M6 fun u5 _=>B6 (oS x1.1 (24,g2)) Z Z (B6 (.fn _ _ _) Z Z (bs hz1 fun v2 hv2 hz1=>V5 (v:= .d (i64 v2.1)) (us:= [(900000,0)]) (R9 (S6 _ _ hv2) [(900000,0)] [(900000,0)] _ (((900000,0),some<|.box 154 [(.d (O0 v2.2.s)),(.d (bo v2.2.short))])::_) Z F3 (D3 (F9 G_hit Z) G0) (C9 G_hit E2) ⟨⟨_,G_hit, .of Z⟩,trivial⟩ (fun _ h=>h) nd1 Z Z Z) (B6 (dl A4 [v2.1]) Z Z (bs hz1 fun _ hv3 hz1=>G7 A4 (24,g2) x1.1 v2.1 [] _ (E1<|fun _=>Z) Z (gq Z) hv3 (ss Z<|A1<|E0<|A7 (s0:=⟨T [(0,(.ptr _ _)),(1,(.fn _ _ _)),(5,(.sl _)),(6,(.d _))],G [((900000,0),some<|.box 154 _),((24,u5),some _)]⟩) (E3 Z Z) ?_)))))
 refine B5<|sv Z<|sv Z<|sv Z<|A1<|D6 ?_
 cases hz1
 exact ⟨Z,u5,(B7 ⟨.of Z, .of Z,(.of (T1<|K5 hv3).symm), .of Z,trivial⟩<|A2 G_hit (.of Z)<|K9 (gq Z) trivial)⟩
 refine C3 Z ?_
 cases hz1
 obtain rfl:=ez1 _ rfl
 refine ⟨nofun,C2 Z<|T4 ?_⟩
 exact ⟨g2,(B7 (K8 Z)<|A2 G_hit (.of Z)<|B0 (gq Z) trivial)⟩
 rintro _ ⟨g1,q1⟩
 refine A7 q1<|B8<|B6 (oS y1.1 (24,g1)) Z Z (B6 (oS y1.1 (24,g1)) Z Z (A1<|B9 ?_))
 cases h
 exact Ar (.inr Z) [(24,g1)] (As (C0 Z)<|U9<|Qd (.head _)<|gq Z) U8 ⟨⟨_,_,_,G_hit,(Hl Z G3),Z,X3,Z⟩,trivial⟩
def Ag [Lp](p1:RoadsReader):Option (Lane×RoadsReader):=
  (G4 p1).bind fun v1=>(C1 v1.2).bind fun v2=>(C1 v2.2).bind fun v3=>(Q7 v3.2).bind fun v4=>(J4 v4.2).bind fun v5=>some ((Lane.mk v1.1 (Curve.mk v4.1) v2.1 v3.1 v5.1),v5.2)
theorem Tx(p1 r)(h:Ag p1=some r):MCall prog 122 [(.ptr (900000,0) 0)] [(.box 154 [(.d (O0 p1.s)),(.d (bo p1.short))])] (.d (.agg (J7 r.1))) [some (.box 154 [(.d (O0 r.2.s)),(.d (bo r.2.short))])] []:=by
 refine Y6 (fk func122 ntmps122 (fun r=>if r==1 then [1001001,1001003,1001005]else if r==2 then [1002003]else if r==3 then [1003003]else []) (by with_unfolding_all rfl)) Z (nl Z) ?_
 unfold Ag at h
 refine A7 (s0:=⟨T [(0,(.ptr _ _))],G [((900000,0),some<|.box 154 _)]⟩) (E3 Z Z) ?_
 refine lr<|fun u1 _=>sm Z<|A1<|B8<|sq Z<|bs h fun v1 hv1 h=>V5 (v:= .d (i64 v1.1)) (us:= [(900000,0)]) (R9 (S6 _ _ hv1) [(900000,0)] [(900000,0)] _ (((900000,0),some<|.box 154 [(.d (O0 v1.2.s)),(.d (bo v1.2.short))])::_) Z F3 (D3 (F9 (A9 Z G_hit) Z) G0) (C9 (A9 Z G_hit) E2) ⟨⟨_,(A9 Z G_hit), .of Z⟩,trivial⟩ (fun _ h=>h) nd1 Z Z Z) (sq Z<|bs h fun v2 hv2 h=>V5 (v:= .d (i64 v2.1)) (us:= [(900000,0)]) (R9 (E5 _ _ hv2) [(900000,0)] [(900000,0)] _ (((900000,0),some<|.box 154 [(.d (O0 v2.2.s)),(.d (bo v2.2.short))])::_) Z F3 (D3 (F9 G_hit Z) G0) (C9 G_hit E2) ⟨⟨_,G_hit, .of Z⟩,trivial⟩ (fun _ h=>h) nd1 Z Z Z) (sq Z<|bs h fun v3 hv3 h=>V5 (v:= .d (i64 v3.1)) (us:= [(900000,0)]) (R9 (E5 _ _ hv3) [(900000,0)] [(900000,0)] _ (((900000,0),some<|.box 154 [(.d (O0 v3.2.s)),(.d (bo v3.2.short))])::_) Z F3 (D3 (F9 G_hit Z) G0) (C9 G_hit E2) ⟨⟨_,G_hit, .of Z⟩,trivial⟩ (fun _ h=>h) nd1 Z Z Z) (sq Z<|V6 Z (gq Z) [(di v1.1),(.d .nilS),(di 0),(di 0),(.d .nilS)] Z (sq Z<|V6 Z G_hit [(di v1.1),(.d .nilS),(di v2.1),(di 0),(.d .nilS)] Z (sq Z<|V6 Z G_hit [(di v1.1),(.d .nilS),(di v2.1),(di v3.1),(.d .nilS)] Z (A1<|B8<|sq Z<|sp Z Z<|B6 (.fn _ _ _) Z Z (bs h fun v4 hv4 h=> ?_)))))))
 refine V5 (v:= .d (.list (List.map K4 v4.1))) (us:= [(900000,0)]) (R9 (Hz _ _ hv4) [(900000,0)] [(900000,0),(900000,0)] _ (((900000,0),some<|.box 154 [(.d (O0 v4.2.s)),(.d (bo v4.2.short))])::_) Z F3 (D3 (F9 (A9 Z<|A9 Z<|A9 Z G_hit) Z)<|D3 (Up (D3 (F9 (A9 Z<|A9 Z<|A9 Z G_hit) Z) G0) Z) G0) (C9 (A9 Z<|A9 Z<|A9 Z G_hit)<|C9 (A9 Z<|A9 Z<|A9 Z G_hit) E2) ⟨⟨_,(A9 Z<|A9 Z<|A9 Z G_hit), .of Z⟩,trivial⟩ (by simp) nd1 Z Z Z) ?_
 refine sp Z Z<|sq Z<|V6 Z (gq Z) [(di v1.1),(dl K4 v4.1),(di v2.1),(di v3.1),(.d .nilS)] Z (A1<|A3<|A7 (s0:=⟨T [(0,(.ptr _ _)),(2,(.ptr _ _))],G [((900000,0),some<|.box 154 _),((2,u1),some<|.box 42 _)]⟩) (E3 Z Z) ?_)
 refine B5<|sq Z<|sq Z<|B6 (.fn _ _ _) Z Z (bs h fun v5 hv5 h=> ?_)
 refine V5 (v:= .d (.list (List.map A4 v5.1))) (us:= [(900000,0)]) (R9 (Z8 _ _ hv5) [(900000,0)] [(900000,0),(900000,0)] _ (((900000,0),some<|.box 154 [(.d (O0 v5.2.s)),(.d (bo v5.2.short))])::_) Z F3 (D3 (F9 G_hit Z)<|D3 (Up (D3 (F9 G_hit Z) G0) Z) G0) (C9 G_hit<|C9 G_hit E2) ⟨⟨_,G_hit, .of Z⟩,trivial⟩ (by simp) nd1 Z Z Z) ?_
 refine sp Z Z<|V6 Z (gq Z) [(di v1.1),(dl K4 v4.1),(di v2.1),(di v3.1),(dl A4 v5.1)] Z (A1<|B8<|sd Z (C6 Z G_hit Z Z)<|V6 Z G_hit [(di v1.1),(dl K4 v4.1),(di v2.1),(di v3.1),(dl A4 v5.1)] Z (A1<|B9 ?_))
 cases h
 exact Ar (.inr Z) [] (As (L0 Z G_hit (Nat.le_of_ble_eq_true Z) Z) D4) (.refl _) ⟨⟨_,_,_,(gq Z),G3,Z,X3,Z⟩,trivial⟩
def T9 [Lp](x1:((List Lane)×Int×RoadsReader)):Option (Stp ((List Lane)×Int×RoadsReader) ((List Lane)×RoadsReader)):=
  cond ((decide (x1.2.1>0))&& (!x1.2.2.short)) ((Ag x1.2.2).bind fun v2=>(Q4 x1.1 [v2.1]).bind fun v3=>some (.go (v3,(K2 (x1.2.1 - 1)),v2.2))) (some (.out (x1.1,x1.2.2)))
def N3 [Lp](p1:RoadsReader):Option ((List Lane)×RoadsReader):=
  (C1 p1).bind fun v1=>(loop (T9) ([],v1.1,v1.2)).bind fun y1=>some (y1.1,y1.2)
theorem Ia(p1 r)(h:N3 p1=some r):MCall prog 121 [(.ptr (900000,0) 0),(.fn (.func 122) [(.ptr (900000,0) 0)] [])] [(.box 154 [(.d (O0 p1.s)),(.d (bo p1.short))])] (dl J7 r.1) [some (.box 154 [(.d (O0 r.2.s)),(.d (bo r.2.short))])] []:=by
 refine Y6 (fk func121 ntmps121 (fun r=>if r==2 then [1002001]else if r==5 then [1005002,1003]else []) (by with_unfolding_all rfl)) Z (nl Z) ?_
 unfold N3 at h
 refine A7 (s0:=⟨T [(0,(.ptr _ _)),(1,(.fn _ _ _))],G [((900000,0),some<|.box 154 _)]⟩) (E3 Z Z) ?_
 refine B8<|sv Z<|A1<|B8<|sv Z<|A1<|A3<|B8<|sq Z<|bs h fun v1 hv1 h=>V5 (v:= .d (i64 v1.1)) (us:= [(900000,0)]) (R9 (E5 _ _ hv1) [(900000,0)] [(900000,0)] _ (((900000,0),some<|.box 154 [(.d (O0 v1.2.s)),(.d (bo v1.2.short))])::_) Z F3 (D3 (F9 G_hit Z) G0) (C9 G_hit E2) ⟨⟨_,G_hit, .of Z⟩,trivial⟩ (fun _ h=>h) nd1 Z Z Z) (sv Z<|A1<|bs h fun y1 hy1 h=>D0 (fun s=> ∃g1:Nat,Sb ⟨T [(0,(.ptr (900000,0) 0)),(5,(oS y1.1 (24,g1)))],G [((900000,0),some<|.box 154 [(.d (O0 y1.2.s)),(.d (bo y1.2.short))]),((24,g1),oB 42 5 J7 y1.1)]⟩ s) ?_ ?_)
 refine A5<|D2 (T9) (fun (x1:((List Lane)×Int×RoadsReader)) (g2:Nat)=>⟨T [(0,(.ptr (900000,0) 0)),(1,(.fn (.func 122) [(.ptr (900000,0) 0)] [])),(5,(oS x1.1 (24,g2))),(6,(di x1.2.1))],G [((900000,0),some<|.box 154 [(.d (O0 x1.2.2.s)),(.d (bo x1.2.2.short))]),((24,g2),oB 42 5 J7 x1.1)]⟩) ([],v1.1,v1.2) 0 _ hy1 (B7 (K8 Z)<|A2 G_hit (.of Z)<|O6 trivial) ?_
 intro x1 g2 z1 hz1 ez1
 unfold T9 at hz1
 refine A3<|B8<|sv Z<|sv Z<|sv Z<|gp Z (L5 Z) (fun _=>Z) ?_
 refine T3 _ (.ptr _ _) Z (L5 Z) (fun w2=>(by simp only [A8 w2];rfl)) ?_
 refine T3 _ (.ptr _ _) Z (L5 Z) (fun w3=>(by simp only [A8 w3];rfl)) ?_
 refine gt Z (vl Z G_hit Z) ?_
 refine T3 _ (.d (bo (!x1.2.2.short))) Z (L5 Z) (fun w5=>(by simp only [A8 w5];rfl)) ?_
 refine sa Z Z Z<|A1<|cc Z hz1 (fun c1 hz1=> ?_)<|fun c1 hz1=> ?_
 refine B3<|A3<|A5<|M6 fun u5 _=>B6 (oS x1.1 (24,g2)) Z Z (B6 (.fn _ _ _) Z Z (bs hz1 fun v2 hv2 hz1=>V5 (v:= .d (.agg (J7 v2.1))) (us:= [(900000,0)]) (R9 (Tx _ _ hv2) [(900000,0)] [(900000,0)] _ (((900000,0),some<|.box 154 [(.d (O0 v2.2.s)),(.d (bo v2.2.short))])::_) Z F3 (D3 (F9 G_hit Z) G0) (C9 G_hit E2) ⟨⟨_,G_hit, .of Z⟩,trivial⟩ (fun _ h=>h) nd1 Z Z Z) (B6 (dl J7 [v2.1]) Z Z (bs hz1 fun _ hv3 hz1=>G7 J7 (24,g2) x1.1 v2.1 [] _ (E1<|fun _=>Z) Z (gq Z) hv3 (ss Z<|A1<|E0<|A7 (s0:=⟨T [(0,(.ptr _ _)),(1,(.fn _ _ _)),(5,(.sl _)),(6,(.d _))],G [((900000,0),some<|.box 154 _),((24,u5),some _)]⟩) (E3 Z Z) ?_)))))
 refine B5<|sv Z<|sv Z<|sv Z<|A1<|D6 ?_
 cases hz1
 exact ⟨Z,u5,(B7 ⟨.of Z, .of Z,(.of (T1<|K5 hv3).symm), .of Z,trivial⟩<|A2 G_hit (.of Z)<|K9 (gq Z) trivial)⟩
 refine C3 Z ?_
 cases hz1
 obtain rfl:=ez1 _ rfl
 refine ⟨nofun,C2 Z<|T4 ?_⟩
 exact ⟨g2,(B7 (K8 Z)<|A2 G_hit (.of Z)<|B0 (gq Z) trivial)⟩
 rintro _ ⟨g1,q1⟩
 refine A7 q1<|B8<|B6 (oS y1.1 (24,g1)) Z Z (B6 (oS y1.1 (24,g1)) Z Z (A1<|B9 ?_))
 cases h
 exact Ar (.inr Z) [(24,g1)] (As (C0 Z)<|U9<|Qd (.head _)<|gq Z) U8 ⟨⟨_,_,_,G_hit,(Hl Z G3),Z,X3,Z⟩,trivial⟩
def Ah [Lp](p1:RoadsReader):Option (Part×RoadsReader):=
  (G4 p1).bind fun v1=>(C1 v1.2).bind fun v2=>(C1 v2.2).bind fun v3=>(G4 v3.2).bind fun v4=>some ((Part.mk v1.1 v2.1 v3.1 v4.1),v4.2)
theorem Ty(p1 r)(h:Ah p1=some r):MCall prog 221 [(.ptr (900000,0) 0)] [(.box 154 [(.d (O0 p1.s)),(.d (bo p1.short))])] (.d (.agg (G8 r.1))) [some (.box 154 [(.d (O0 r.2.s)),(.d (bo r.2.short))])] []:=by
 refine Y6 (fk func221 ntmps221 (fun r=>if r==1 then [1001001,1001003,1001005]else if r==2 then [1002001]else []) (by with_unfolding_all rfl)) Z (nl Z) ?_
 unfold Ah at h
 refine A7 (s0:=⟨T [(0,(.ptr _ _))],G [((900000,0),some<|.box 154 _)]⟩) (E3 Z Z) ?_
 refine lr<|fun u1 _=>sm Z<|A1<|B8<|sq Z<|bs h fun v1 hv1 h=>V5 (v:= .d (i64 v1.1)) (us:= [(900000,0)]) (R9 (S6 _ _ hv1) [(900000,0)] [(900000,0)] _ (((900000,0),some<|.box 154 [(.d (O0 v1.2.s)),(.d (bo v1.2.short))])::_) Z F3 (D3 (F9 (A9 Z G_hit) Z) G0) (C9 (A9 Z G_hit) E2) ⟨⟨_,(A9 Z G_hit), .of Z⟩,trivial⟩ (fun _ h=>h) nd1 Z Z Z) (sq Z<|bs h fun v2 hv2 h=>V5 (v:= .d (i64 v2.1)) (us:= [(900000,0)]) (R9 (E5 _ _ hv2) [(900000,0)] [(900000,0)] _ (((900000,0),some<|.box 154 [(.d (O0 v2.2.s)),(.d (bo v2.2.short))])::_) Z F3 (D3 (F9 G_hit Z) G0) (C9 G_hit E2) ⟨⟨_,G_hit, .of Z⟩,trivial⟩ (fun _ h=>h) nd1 Z Z Z) (sq Z<|bs h fun v3 hv3 h=>V5 (v:= .d (i64 v3.1)) (us:= [(900000,0)]) (R9 (E5 _ _ hv3) [(900000,0)] [(900000,0)] _ (((900000,0),some<|.box 154 [(.d (O0 v3.2.s)),(.d (bo v3.2.short))])::_) Z F3 (D3 (F9 G_hit Z) G0) (C9 G_hit E2) ⟨⟨_,G_hit, .of Z⟩,trivial⟩ (fun _ h=>h) nd1 Z Z Z) (sq Z<|V6 Z (gq Z) [(di v1.1),(di 0),(di 0),(di 0)] Z (sq Z<|V6 Z G_hit [(di v1.1),(di v2.1),(di 0),(di 0)] Z (sq Z<|V6 Z G_hit [(di v1.1),(di v2.1),(di v3.1),(di 0)] Z (A1<|B8<|sq Z<|bs h fun v4 hv4 h=>V5 (v:= .d (i64 v4.1)) (us:= [(900000,0)]) (R9 (S6 _ _ hv4) [(900000,0)] [(900000,0)] _ (((900000,0),some<|.box 154 [(.d (O0 v4.2.s)),(.d (bo v4.2.short))])::_) Z F3 (D3 (F9 (A9 Z<|A9 Z<|A9 Z G_hit) Z) G0) (C9 (A9 Z<|A9 Z<|A9 Z G_hit) E2) ⟨⟨_,(A9 Z<|A9 Z<|A9 Z G_hit), .of Z⟩,trivial⟩ (fun _ h=>h) nd1 Z Z Z) (sq Z<|V6 Z (gq Z) [(di v1.1),(di v2.1),(di v3.1),(di v4.1)] Z (A1<|A3<|A7 (s0:=⟨T [(0,(.ptr _ _)),(2,(.ptr _ _))],G [((900000,0),some<|.box 154 _),((2,u1),some<|.box 91 _)]⟩) (E3 Z Z) ?_))))))))
 refine B5<|sd Z (C6 Z (gq Z) Z Z)<|V6 Z (gq Z) [(di v1.1),(di v2.1),(di v3.1),(di v4.1)] Z (A1<|B9 ?_)
 cases h
 exact Ar (.inr Z) [] (As (L0 Z G_hit (Nat.le_of_ble_eq_true Z) Z) D4) (.refl _) ⟨⟨_,_,_,(gq Z),G3,Z,X3,Z⟩,trivial⟩
def U0 [Lp](x1:((List Part)×Int×RoadsReader)):Option (Stp ((List Part)×Int×RoadsReader) ((List Part)×RoadsReader)):=
  cond ((decide (x1.2.1>0))&& (!x1.2.2.short)) ((Ah x1.2.2).bind fun v2=>(Q4 x1.1 [v2.1]).bind fun v3=>some (.go (v3,(K2 (x1.2.1 - 1)),v2.2))) (some (.out (x1.1,x1.2.2)))
def Q8 [Lp](p1:RoadsReader):Option ((List Part)×RoadsReader):=
  (C1 p1).bind fun v1=>(loop (U0) ([],v1.1,v1.2)).bind fun y1=>some (y1.1,y1.2)
theorem Ib(p1 r)(h:Q8 p1=some r):MCall prog 220 [(.ptr (900000,0) 0),(.fn (.func 221) [(.ptr (900000,0) 0)] [])] [(.box 154 [(.d (O0 p1.s)),(.d (bo p1.short))])] (dl G8 r.1) [some (.box 154 [(.d (O0 r.2.s)),(.d (bo r.2.short))])] []:=by
 refine Y6 (fk func220 ntmps220 (fun r=>if r==2 then [1002001]else if r==5 then [1005002,1003]else []) (by with_unfolding_all rfl)) Z (nl Z) ?_
 unfold Q8 at h
 refine A7 (s0:=⟨T [(0,(.ptr _ _)),(1,(.fn _ _ _))],G [((900000,0),some<|.box 154 _)]⟩) (E3 Z Z) ?_
 refine B8<|sv Z<|A1<|B8<|sv Z<|A1<|A3<|B8<|sq Z<|bs h fun v1 hv1 h=>V5 (v:= .d (i64 v1.1)) (us:= [(900000,0)]) (R9 (E5 _ _ hv1) [(900000,0)] [(900000,0)] _ (((900000,0),some<|.box 154 [(.d (O0 v1.2.s)),(.d (bo v1.2.short))])::_) Z F3 (D3 (F9 G_hit Z) G0) (C9 G_hit E2) ⟨⟨_,G_hit, .of Z⟩,trivial⟩ (fun _ h=>h) nd1 Z Z Z) (sv Z<|A1<|bs h fun y1 hy1 h=>D0 (fun s=> ∃g1:Nat,Sb ⟨T [(0,(.ptr (900000,0) 0)),(5,(oS y1.1 (24,g1)))],G [((900000,0),some<|.box 154 [(.d (O0 y1.2.s)),(.d (bo y1.2.short))]),((24,g1),oB 91 4 G8 y1.1)]⟩ s) ?_ ?_)
 refine A5<|D2 (U0) (fun (x1:((List Part)×Int×RoadsReader)) (g2:Nat)=>⟨T [(0,(.ptr (900000,0) 0)),(1,(.fn (.func 221) [(.ptr (900000,0) 0)] [])),(5,(oS x1.1 (24,g2))),(6,(di x1.2.1))],G [((900000,0),some<|.box 154 [(.d (O0 x1.2.2.s)),(.d (bo x1.2.2.short))]),((24,g2),oB 91 4 G8 x1.1)]⟩) ([],v1.1,v1.2) 0 _ hy1 (B7 (K8 Z)<|A2 G_hit (.of Z)<|O6 trivial) ?_
 intro x1 g2 z1 hz1 ez1
 unfold U0 at hz1
 refine A3<|B8<|sv Z<|sv Z<|sv Z<|gp Z (L5 Z) (fun _=>Z) ?_
 refine T3 _ (.ptr _ _) Z (L5 Z) (fun w2=>(by simp only [A8 w2];rfl)) ?_
 refine T3 _ (.ptr _ _) Z (L5 Z) (fun w3=>(by simp only [A8 w3];rfl)) ?_
 refine gt Z (vl Z G_hit Z) ?_
 refine T3 _ (.d (bo (!x1.2.2.short))) Z (L5 Z) (fun w5=>(by simp only [A8 w5];rfl)) ?_
 refine sa Z Z Z<|A1<|cc Z hz1 (fun c1 hz1=> ?_)<|fun c1 hz1=> ?_
 refine B3<|A3<|A5<|M6 fun u5 _=>B6 (oS x1.1 (24,g2)) Z Z (B6 (.fn _ _ _) Z Z (bs hz1 fun v2 hv2 hz1=>V5 (v:= .d (.agg (G8 v2.1))) (us:= [(900000,0)]) (R9 (Ty _ _ hv2) [(900000,0)] [(900000,0)] _ (((900000,0),some<|.box 154 [(.d (O0 v2.2.s)),(.d (bo v2.2.short))])::_) Z F3 (D3 (F9 G_hit Z) G0) (C9 G_hit E2) ⟨⟨_,G_hit, .of Z⟩,trivial⟩ (fun _ h=>h) nd1 Z Z Z) (B6 (dl G8 [v2.1]) Z Z (bs hz1 fun _ hv3 hz1=>G7 G8 (24,g2) x1.1 v2.1 [] _ (E1<|fun _=>Z) Z (gq Z) hv3 (ss Z<|A1<|E0<|A7 (s0:=⟨T [(0,(.ptr _ _)),(1,(.fn _ _ _)),(5,(.sl _)),(6,(.d _))],G [((900000,0),some<|.box 154 _),((24,u5),some _)]⟩) (E3 Z Z) ?_)))))
 refine B5<|sv Z<|sv Z<|sv Z<|A1<|D6 ?_
 cases hz1
 exact ⟨Z,u5,(B7 ⟨.of Z, .of Z,(.of (T1<|K5 hv3).symm), .of Z,trivial⟩<|A2 G_hit (.of Z)<|K9 (gq Z) trivial)⟩
 refine C3 Z ?_
 cases hz1
 obtain rfl:=ez1 _ rfl
 refine ⟨nofun,C2 Z<|T4 ?_⟩
 exact ⟨g2,(B7 (K8 Z)<|A2 G_hit (.of Z)<|B0 (gq Z) trivial)⟩
 rintro _ ⟨g1,q1⟩
 refine A7 q1<|B8<|B6 (oS y1.1 (24,g1)) Z Z (B6 (oS y1.1 (24,g1)) Z Z (A1<|B9 ?_))
 cases h
 exact Ar (.inr Z) [(24,g1)] (As (C0 Z)<|U9<|Qd (.head _)<|gq Z) U8 ⟨⟨_,_,_,G_hit,(Hl Z G3),Z,X3,Z⟩,trivial⟩
def Ai [Lp](p1:RoadsReader):Option (Zone×RoadsReader):=
  (G4 p1).bind fun v1=>(Q8 v1.2).bind fun v2=>some ((Zone.mk v2.1 v1.1),v2.2)
theorem Tz(p1 r)(h:Ai p1=some r):MCall prog 124 [(.ptr (900000,0) 0)] [(.box 154 [(.d (O0 p1.s)),(.d (bo p1.short))])] (.d (.agg [(.list (List.map G8 r.1.Parts)),(i64 r.1.Signal_)])) [some (.box 154 [(.d (O0 r.2.s)),(.d (bo r.2.short))])] []:=by
 refine Y6 (fk func124 ntmps124 (fun r=>if r==1 then [1001001]else if r==2 then [1002004]else []) (by with_unfolding_all rfl)) Z (nl Z) ?_
 unfold Ai at h
 refine A7 (s0:=⟨T [(0,(.ptr _ _))],G [((900000,0),some<|.box 154 _)]⟩) (E3 Z Z) ?_
 refine B8<|sm Z<|A1<|B8<|sq Z<|bs h fun v1 hv1 h=>V5 (v:= .d (i64 v1.1)) (us:= [(900000,0)]) (R9 (S6 _ _ hv1) [(900000,0)] [(900000,0)] _ (((900000,0),some<|.box 154 [(.d (O0 v1.2.s)),(.d (bo v1.2.short))])::_) Z F3 (D3 (F9 (A9 Z G_hit) Z) G0) (C9 (A9 Z G_hit) E2) ⟨⟨_,(A9 Z G_hit), .of Z⟩,trivial⟩ (fun _ h=>h) nd1 Z Z Z) (sv Z<|A1<|B8<|sv Z<|sq Z<|sp Z Z<|B6 (.fn _ _ _) Z Z (bs h fun v2 hv2 h=> ?_))
 refine V5 (v:= .d (.list (List.map G8 v2.1))) (us:= [(900000,0)]) (R9 (Ib _ _ hv2) [(900000,0)] [(900000,0),(900000,0)] _ (((900000,0),some<|.box 154 [(.d (O0 v2.2.s)),(.d (bo v2.2.short))])::_) Z F3 (D3 (F9 G_hit Z)<|D3 (Up (D3 (F9 G_hit Z) G0) Z) G0) (C9 G_hit<|C9 G_hit E2) ⟨⟨_,G_hit, .of Z⟩,trivial⟩ (by simp) nd1 Z Z Z) ?_
 refine sv Z<|V6 Z (gq Z) [(dl G8 v2.1),(di v1.1)] Z (A1<|B9 ?_)
 cases h
 exact Ar (.inr Z) [] (As (L0 Z G_hit (Nat.le_of_ble_eq_true Z) Z) D4) (.refl _) ⟨⟨_,_,_,(gq Z),G3,Z,X3,Z⟩,trivial⟩
def U1 [Lp](x1:((List Zone)×Int×RoadsReader)):Option (Stp ((List Zone)×Int×RoadsReader) ((List Zone)×RoadsReader)):=
  cond ((decide (x1.2.1>0))&& (!x1.2.2.short)) ((Ai x1.2.2).bind fun v2=>(Q4 x1.1 [v2.1]).bind fun v3=>some (.go (v3,(K2 (x1.2.1 - 1)),v2.2))) (some (.out (x1.1,x1.2.2)))
def N4 [Lp](p1:RoadsReader):Option ((List Zone)×RoadsReader):=
  (C1 p1).bind fun v1=>(loop (U1) ([],v1.1,v1.2)).bind fun y1=>some (y1.1,y1.2)
theorem Ic(p1 r)(h:N4 p1=some r):MCall prog 123 [(.ptr (900000,0) 0),(.fn (.func 124) [(.ptr (900000,0) 0)] [])] [(.box 154 [(.d (O0 p1.s)),(.d (bo p1.short))])] (dl J2 r.1) [some (.box 154 [(.d (O0 r.2.s)),(.d (bo r.2.short))])] []:=by
 refine Y6 (fk func123 ntmps123 (fun r=>if r==2 then [1002001]else if r==5 then [1005002,1003]else []) (by with_unfolding_all rfl)) Z (nl Z) ?_
 unfold N4 at h
 refine A7 (s0:=⟨T [(0,(.ptr _ _)),(1,(.fn _ _ _))],G [((900000,0),some<|.box 154 _)]⟩) (E3 Z Z) ?_
 refine B8<|sv Z<|A1<|B8<|sv Z<|A1<|A3<|B8<|sq Z<|bs h fun v1 hv1 h=>V5 (v:= .d (i64 v1.1)) (us:= [(900000,0)]) (R9 (E5 _ _ hv1) [(900000,0)] [(900000,0)] _ (((900000,0),some<|.box 154 [(.d (O0 v1.2.s)),(.d (bo v1.2.short))])::_) Z F3 (D3 (F9 G_hit Z) G0) (C9 G_hit E2) ⟨⟨_,G_hit, .of Z⟩,trivial⟩ (fun _ h=>h) nd1 Z Z Z) (sv Z<|A1<|bs h fun y1 hy1 h=>D0 (fun s=> ∃g1:Nat,Sb ⟨T [(0,(.ptr (900000,0) 0)),(5,(oS y1.1 (24,g1)))],G [((900000,0),some<|.box 154 [(.d (O0 y1.2.s)),(.d (bo y1.2.short))]),((24,g1),oB 45 2 J2 y1.1)]⟩ s) ?_ ?_)
 refine A5<|D2 (U1) (fun (x1:((List Zone)×Int×RoadsReader)) (g2:Nat)=>⟨T [(0,(.ptr (900000,0) 0)),(1,(.fn (.func 124) [(.ptr (900000,0) 0)] [])),(5,(oS x1.1 (24,g2))),(6,(di x1.2.1))],G [((900000,0),some<|.box 154 [(.d (O0 x1.2.2.s)),(.d (bo x1.2.2.short))]),((24,g2),oB 45 2 J2 x1.1)]⟩) ([],v1.1,v1.2) 0 _ hy1 (B7 (K8 Z)<|A2 G_hit (.of Z)<|O6 trivial) ?_
 intro x1 g2 z1 hz1 ez1
 unfold U1 at hz1
 refine A3<|B8<|sv Z<|sv Z<|sv Z<|gp Z (L5 Z) (fun _=>Z) ?_
 refine T3 _ (.ptr _ _) Z (L5 Z) (fun w2=>(by simp only [A8 w2];rfl)) ?_
 refine T3 _ (.ptr _ _) Z (L5 Z) (fun w3=>(by simp only [A8 w3];rfl)) ?_
 refine gt Z (vl Z G_hit Z) ?_
 refine T3 _ (.d (bo (!x1.2.2.short))) Z (L5 Z) (fun w5=>(by simp only [A8 w5];rfl)) ?_
 refine sa Z Z Z<|A1<|cc Z hz1 (fun c1 hz1=> ?_)<|fun c1 hz1=> ?_
 refine B3<|A3<|A5<|M6 fun u5 _=>B6 (oS x1.1 (24,g2)) Z Z (B6 (.fn _ _ _) Z Z (bs hz1 fun v2 hv2 hz1=>V5 (v:= .d (.agg [(.list (List.map G8 v2.1.Parts)),(i64 v2.1.Signal_)])) (us:= [(900000,0)]) (R9 (Tz _ _ hv2) [(900000,0)] [(900000,0)] _ (((900000,0),some<|.box 154 [(.d (O0 v2.2.s)),(.d (bo v2.2.short))])::_) Z F3 (D3 (F9 G_hit Z) G0) (C9 G_hit E2) ⟨⟨_,G_hit, .of Z⟩,trivial⟩ (fun _ h=>h) nd1 Z Z Z) (B6 (dl J2 [v2.1]) Z Z (bs hz1 fun _ hv3 hz1=>G7 J2 (24,g2) x1.1 v2.1 [] _ (E1<|fun _=>Z) Z (gq Z) hv3 (ss Z<|A1<|E0<|A7 (s0:=⟨T [(0,(.ptr _ _)),(1,(.fn _ _ _)),(5,(.sl _)),(6,(.d _))],G [((900000,0),some<|.box 154 _),((24,u5),some _)]⟩) (E3 Z Z) ?_)))))
 refine B5<|sv Z<|sv Z<|sv Z<|A1<|D6 ?_
 cases hz1
 exact ⟨Z,u5,(B7 ⟨.of Z, .of Z,(.of (T1<|K5 hv3).symm), .of Z,trivial⟩<|A2 G_hit (.of Z)<|K9 (gq Z) trivial)⟩
 refine C3 Z ?_
 cases hz1
 obtain rfl:=ez1 _ rfl
 refine ⟨nofun,C2 Z<|T4 ?_⟩
 exact ⟨g2,(B7 (K8 Z)<|A2 G_hit (.of Z)<|B0 (gq Z) trivial)⟩
 rintro _ ⟨g1,q1⟩
 refine A7 q1<|B8<|B6 (oS y1.1 (24,g1)) Z Z (B6 (oS y1.1 (24,g1)) Z Z (A1<|B9 ?_))
 cases h
 exact Ar (.inr Z) [(24,g1)] (As (C0 Z)<|U9<|Qd (.head _)<|gq Z) U8 ⟨⟨_,_,_,G_hit,(Hl Z G3),Z,X3,Z⟩,trivial⟩
def Y3 [Lp](p1:RoadsReader):Option (Phase×RoadsReader):=
  (C1 p1).bind fun v1=>(J4 v1.2).bind fun v2=>some ((Phase.mk v1.1 v2.1),v2.2)
theorem Te(p1 r)(h:Y3 p1=some r):MCall prog 223 [(.ptr (900000,0) 0)] [(.box 154 [(.d (O0 p1.s)),(.d (bo p1.short))])] (.d (.agg [(i64 r.1.Ticks),(.list (List.map A4 r.1.Green))])) [some (.box 154 [(.d (O0 r.2.s)),(.d (bo r.2.short))])] []:=by
 refine Y6 (fk func223 ntmps223 (fun r=>if r==1 then [1001001]else if r==2 then [1002004]else []) (by with_unfolding_all rfl)) Z (nl Z) ?_
 unfold Y3 at h
 refine A7 (s0:=⟨T [(0,(.ptr _ _))],G [((900000,0),some<|.box 154 _)]⟩) (E3 Z Z) ?_
 refine B8<|sm Z<|A1<|B8<|sq Z<|bs h fun v1 hv1 h=>V5 (v:= .d (i64 v1.1)) (us:= [(900000,0)]) (R9 (E5 _ _ hv1) [(900000,0)] [(900000,0)] _ (((900000,0),some<|.box 154 [(.d (O0 v1.2.s)),(.d (bo v1.2.short))])::_) Z F3 (D3 (F9 (A9 Z G_hit) Z) G0) (C9 (A9 Z G_hit) E2) ⟨⟨_,(A9 Z G_hit), .of Z⟩,trivial⟩ (fun _ h=>h) nd1 Z Z Z) (sv Z<|A1<|B8<|sv Z<|sq Z<|sp Z Z<|B6 (.fn _ _ _) Z Z (bs h fun v2 hv2 h=> ?_))
 refine V5 (v:= .d (.list (List.map A4 v2.1))) (us:= [(900000,0)]) (R9 (Z8 _ _ hv2) [(900000,0)] [(900000,0),(900000,0)] _ (((900000,0),some<|.box 154 [(.d (O0 v2.2.s)),(.d (bo v2.2.short))])::_) Z F3 (D3 (F9 G_hit Z)<|D3 (Up (D3 (F9 G_hit Z) G0) Z) G0) (C9 G_hit<|C9 G_hit E2) ⟨⟨_,G_hit, .of Z⟩,trivial⟩ (by simp) nd1 Z Z Z) ?_
 refine sv Z<|V6 Z (gq Z) [(di v1.1),(dl A4 v2.1)] Z (A1<|B9 ?_)
 cases h
 exact Ar (.inr Z) [] (As (L0 Z G_hit (Nat.le_of_ble_eq_true Z) Z) D4) (.refl _) ⟨⟨_,_,_,(gq Z),G3,Z,X3,Z⟩,trivial⟩
def S9 [Lp](x1:((List Phase)×Int×RoadsReader)):Option (Stp ((List Phase)×Int×RoadsReader) ((List Phase)×RoadsReader)):=
  cond ((decide (x1.2.1>0))&& (!x1.2.2.short)) ((Y3 x1.2.2).bind fun v2=>(Q4 x1.1 [v2.1]).bind fun v3=>some (.go (v3,(K2 (x1.2.1 - 1)),v2.2))) (some (.out (x1.1,x1.2.2)))
def P0 [Lp](p1:RoadsReader):Option ((List Phase)×RoadsReader):=
  (C1 p1).bind fun v1=>(loop (S9) ([],v1.1,v1.2)).bind fun y1=>some (y1.1,y1.2)
theorem Gu(p1 r)(h:P0 p1=some r):MCall prog 222 [(.ptr (900000,0) 0),(.fn (.func 223) [(.ptr (900000,0) 0)] [])] [(.box 154 [(.d (O0 p1.s)),(.d (bo p1.short))])] (dl G2 r.1) [some (.box 154 [(.d (O0 r.2.s)),(.d (bo r.2.short))])] []:=by
 refine Y6 (fk func222 ntmps222 (fun r=>if r==2 then [1002001]else if r==5 then [1005002,1003]else []) (by with_unfolding_all rfl)) Z (nl Z) ?_
 unfold P0 at h
 refine A7 (s0:=⟨T [(0,(.ptr _ _)),(1,(.fn _ _ _))],G [((900000,0),some<|.box 154 _)]⟩) (E3 Z Z) ?_
 refine B8<|sv Z<|A1<|B8<|sv Z<|A1<|A3<|B8<|sq Z<|bs h fun v1 hv1 h=>V5 (v:= .d (i64 v1.1)) (us:= [(900000,0)]) (R9 (E5 _ _ hv1) [(900000,0)] [(900000,0)] _ (((900000,0),some<|.box 154 [(.d (O0 v1.2.s)),(.d (bo v1.2.short))])::_) Z F3 (D3 (F9 G_hit Z) G0) (C9 G_hit E2) ⟨⟨_,G_hit, .of Z⟩,trivial⟩ (fun _ h=>h) nd1 Z Z Z) (sv Z<|A1<|bs h fun y1 hy1 h=>D0 (fun s=> ∃g1:Nat,Sb ⟨T [(0,(.ptr (900000,0) 0)),(5,(oS y1.1 (24,g1)))],G [((900000,0),some<|.box 154 [(.d (O0 y1.2.s)),(.d (bo y1.2.short))]),((24,g1),oB 97 2 G2 y1.1)]⟩ s) ?_ ?_)
 refine A5<|D2 (S9) (fun (x1:((List Phase)×Int×RoadsReader)) (g2:Nat)=>⟨T [(0,(.ptr (900000,0) 0)),(1,(.fn (.func 223) [(.ptr (900000,0) 0)] [])),(5,(oS x1.1 (24,g2))),(6,(di x1.2.1))],G [((900000,0),some<|.box 154 [(.d (O0 x1.2.2.s)),(.d (bo x1.2.2.short))]),((24,g2),oB 97 2 G2 x1.1)]⟩) ([],v1.1,v1.2) 0 _ hy1 (B7 (K8 Z)<|A2 G_hit (.of Z)<|O6 trivial) ?_
 intro x1 g2 z1 hz1 ez1
 unfold S9 at hz1
 refine A3<|B8<|sv Z<|sv Z<|sv Z<|gp Z (L5 Z) (fun _=>Z) ?_
 refine T3 _ (.ptr _ _) Z (L5 Z) (fun w2=>(by simp only [A8 w2];rfl)) ?_
 refine T3 _ (.ptr _ _) Z (L5 Z) (fun w3=>(by simp only [A8 w3];rfl)) ?_
 refine gt Z (vl Z G_hit Z) ?_
 refine T3 _ (.d (bo (!x1.2.2.short))) Z (L5 Z) (fun w5=>(by simp only [A8 w5];rfl)) ?_
 refine sa Z Z Z<|A1<|cc Z hz1 (fun c1 hz1=> ?_)<|fun c1 hz1=> ?_
 refine B3<|A3<|A5<|M6 fun u5 _=>B6 (oS x1.1 (24,g2)) Z Z (B6 (.fn _ _ _) Z Z (bs hz1 fun v2 hv2 hz1=>V5 (v:= .d (.agg [(i64 v2.1.Ticks),(.list (List.map A4 v2.1.Green))])) (us:= [(900000,0)]) (R9 (Te _ _ hv2) [(900000,0)] [(900000,0)] _ (((900000,0),some<|.box 154 [(.d (O0 v2.2.s)),(.d (bo v2.2.short))])::_) Z F3 (D3 (F9 G_hit Z) G0) (C9 G_hit E2) ⟨⟨_,G_hit, .of Z⟩,trivial⟩ (fun _ h=>h) nd1 Z Z Z) (B6 (dl G2 [v2.1]) Z Z (bs hz1 fun _ hv3 hz1=>G7 G2 (24,g2) x1.1 v2.1 [] _ (E1<|fun _=>Z) Z (gq Z) hv3 (ss Z<|A1<|E0<|A7 (s0:=⟨T [(0,(.ptr _ _)),(1,(.fn _ _ _)),(5,(.sl _)),(6,(.d _))],G [((900000,0),some<|.box 154 _),((24,u5),some _)]⟩) (E3 Z Z) ?_)))))
 refine B5<|sv Z<|sv Z<|sv Z<|A1<|D6 ?_
 cases hz1
 exact ⟨Z,u5,(B7 ⟨.of Z, .of Z,(.of (T1<|K5 hv3).symm), .of Z,trivial⟩<|A2 G_hit (.of Z)<|K9 (gq Z) trivial)⟩
 refine C3 Z ?_
 cases hz1
 obtain rfl:=ez1 _ rfl
 refine ⟨nofun,C2 Z<|T4 ?_⟩
 exact ⟨g2,(B7 (K8 Z)<|A2 G_hit (.of Z)<|B0 (gq Z) trivial)⟩
 rintro _ ⟨g1,q1⟩
 refine A7 q1<|B8<|B6 (oS y1.1 (24,g1)) Z Z (B6 (oS y1.1 (24,g1)) Z Z (A1<|B9 ?_))
 cases h
 exact Ar (.inr Z) [(24,g1)] (As (C0 Z)<|U9<|Qd (.head _)<|gq Z) U8 ⟨⟨_,_,_,G_hit,(Hl Z G3),Z,X3,Z⟩,trivial⟩
def X1 [Lp](p1:RoadsReader):Option (Signal×RoadsReader):=
  (C1 p1).bind fun v1=>(P0 v1.2).bind fun v2=>some ((Signal.mk v1.1 v2.1),v2.2)
theorem Sm(p1 r)(h:X1 p1=some r):MCall prog 126 [(.ptr (900000,0) 0)] [(.box 154 [(.d (O0 p1.s)),(.d (bo p1.short))])] (.d (.agg [(i64 r.1.Offset),(.list (List.map G2 r.1.Phases))])) [some (.box 154 [(.d (O0 r.2.s)),(.d (bo r.2.short))])] []:=by
 refine Y6 (fk func126 ntmps126 (fun r=>if r==1 then [1001001]else if r==2 then [1002004]else []) (by with_unfolding_all rfl)) Z (nl Z) ?_
 unfold X1 at h
 refine A7 (s0:=⟨T [(0,(.ptr _ _))],G [((900000,0),some<|.box 154 _)]⟩) (E3 Z Z) ?_
 refine B8<|sm Z<|A1<|B8<|sq Z<|bs h fun v1 hv1 h=>V5 (v:= .d (i64 v1.1)) (us:= [(900000,0)]) (R9 (E5 _ _ hv1) [(900000,0)] [(900000,0)] _ (((900000,0),some<|.box 154 [(.d (O0 v1.2.s)),(.d (bo v1.2.short))])::_) Z F3 (D3 (F9 (A9 Z G_hit) Z) G0) (C9 (A9 Z G_hit) E2) ⟨⟨_,(A9 Z G_hit), .of Z⟩,trivial⟩ (fun _ h=>h) nd1 Z Z Z) (sv Z<|A1<|B8<|sv Z<|sq Z<|sp Z Z<|B6 (.fn _ _ _) Z Z (bs h fun v2 hv2 h=> ?_))
 refine V5 (v:= .d (.list (List.map G2 v2.1))) (us:= [(900000,0)]) (R9 (Gu _ _ hv2) [(900000,0)] [(900000,0),(900000,0)] _ (((900000,0),some<|.box 154 [(.d (O0 v2.2.s)),(.d (bo v2.2.short))])::_) Z F3 (D3 (F9 G_hit Z)<|D3 (Up (D3 (F9 G_hit Z) G0) Z) G0) (C9 G_hit<|C9 G_hit E2) ⟨⟨_,G_hit, .of Z⟩,trivial⟩ (by simp) nd1 Z Z Z) ?_
 refine sv Z<|V6 Z (gq Z) [(di v1.1),(dl G2 v2.1)] Z (A1<|B9 ?_)
 cases h
 exact Ar (.inr Z) [] (As (L0 Z G_hit (Nat.le_of_ble_eq_true Z) Z) D4) (.refl _) ⟨⟨_,_,_,(gq Z),G3,Z,X3,Z⟩,trivial⟩
def R7 [Lp](x1:((List Signal)×Int×RoadsReader)):Option (Stp ((List Signal)×Int×RoadsReader) ((List Signal)×RoadsReader)):=
  cond ((decide (x1.2.1>0))&& (!x1.2.2.short)) ((X1 x1.2.2).bind fun v2=>(Q4 x1.1 [v2.1]).bind fun v3=>some (.go (v3,(K2 (x1.2.1 - 1)),v2.2))) (some (.out (x1.1,x1.2.2)))
def M1 [Lp](p1:RoadsReader):Option ((List Signal)×RoadsReader):=
  (C1 p1).bind fun v1=>(loop (R7) ([],v1.1,v1.2)).bind fun y1=>some (y1.1,y1.2)
theorem Ga(p1 r)(h:M1 p1=some r):MCall prog 125 [(.ptr (900000,0) 0),(.fn (.func 126) [(.ptr (900000,0) 0)] [])] [(.box 154 [(.d (O0 p1.s)),(.d (bo p1.short))])] (dl J9 r.1) [some (.box 154 [(.d (O0 r.2.s)),(.d (bo r.2.short))])] []:=by
 refine Y6 (fk func125 ntmps125 (fun r=>if r==2 then [1002001]else if r==5 then [1005002,1003]else []) (by with_unfolding_all rfl)) Z (nl Z) ?_
 unfold M1 at h
 refine A7 (s0:=⟨T [(0,(.ptr _ _)),(1,(.fn _ _ _))],G [((900000,0),some<|.box 154 _)]⟩) (E3 Z Z) ?_
 refine B8<|sv Z<|A1<|B8<|sv Z<|A1<|A3<|B8<|sq Z<|bs h fun v1 hv1 h=>V5 (v:= .d (i64 v1.1)) (us:= [(900000,0)]) (R9 (E5 _ _ hv1) [(900000,0)] [(900000,0)] _ (((900000,0),some<|.box 154 [(.d (O0 v1.2.s)),(.d (bo v1.2.short))])::_) Z F3 (D3 (F9 G_hit Z) G0) (C9 G_hit E2) ⟨⟨_,G_hit, .of Z⟩,trivial⟩ (fun _ h=>h) nd1 Z Z Z) (sv Z<|A1<|bs h fun y1 hy1 h=>D0 (fun s=> ∃g1:Nat,Sb ⟨T [(0,(.ptr (900000,0) 0)),(5,(oS y1.1 (24,g1)))],G [((900000,0),some<|.box 154 [(.d (O0 y1.2.s)),(.d (bo y1.2.short))]),((24,g1),oB 48 2 J9 y1.1)]⟩ s) ?_ ?_)
 refine A5<|D2 (R7) (fun (x1:((List Signal)×Int×RoadsReader)) (g2:Nat)=>⟨T [(0,(.ptr (900000,0) 0)),(1,(.fn (.func 126) [(.ptr (900000,0) 0)] [])),(5,(oS x1.1 (24,g2))),(6,(di x1.2.1))],G [((900000,0),some<|.box 154 [(.d (O0 x1.2.2.s)),(.d (bo x1.2.2.short))]),((24,g2),oB 48 2 J9 x1.1)]⟩) ([],v1.1,v1.2) 0 _ hy1 (B7 (K8 Z)<|A2 G_hit (.of Z)<|O6 trivial) ?_
 intro x1 g2 z1 hz1 ez1
 unfold R7 at hz1
 refine A3<|B8<|sv Z<|sv Z<|sv Z<|gp Z (L5 Z) (fun _=>Z) ?_
 refine T3 _ (.ptr _ _) Z (L5 Z) (fun w2=>(by simp only [A8 w2];rfl)) ?_
 refine T3 _ (.ptr _ _) Z (L5 Z) (fun w3=>(by simp only [A8 w3];rfl)) ?_
 refine gt Z (vl Z G_hit Z) ?_
 refine T3 _ (.d (bo (!x1.2.2.short))) Z (L5 Z) (fun w5=>(by simp only [A8 w5];rfl)) ?_
 refine sa Z Z Z<|A1<|cc Z hz1 (fun c1 hz1=> ?_)<|fun c1 hz1=> ?_
 refine B3<|A3<|A5<|M6 fun u5 _=>B6 (oS x1.1 (24,g2)) Z Z (B6 (.fn _ _ _) Z Z (bs hz1 fun v2 hv2 hz1=>V5 (v:= .d (.agg [(i64 v2.1.Offset),(.list (List.map G2 v2.1.Phases))])) (us:= [(900000,0)]) (R9 (Sm _ _ hv2) [(900000,0)] [(900000,0)] _ (((900000,0),some<|.box 154 [(.d (O0 v2.2.s)),(.d (bo v2.2.short))])::_) Z F3 (D3 (F9 G_hit Z) G0) (C9 G_hit E2) ⟨⟨_,G_hit, .of Z⟩,trivial⟩ (fun _ h=>h) nd1 Z Z Z) (B6 (dl J9 [v2.1]) Z Z (bs hz1 fun _ hv3 hz1=>G7 J9 (24,g2) x1.1 v2.1 [] _ (E1<|fun _=>Z) Z (gq Z) hv3 (ss Z<|A1<|E0<|A7 (s0:=⟨T [(0,(.ptr _ _)),(1,(.fn _ _ _)),(5,(.sl _)),(6,(.d _))],G [((900000,0),some<|.box 154 _),((24,u5),some _)]⟩) (E3 Z Z) ?_)))))
 refine B5<|sv Z<|sv Z<|sv Z<|A1<|D6 ?_
 cases hz1
 exact ⟨Z,u5,(B7 ⟨.of Z, .of Z,(.of (T1<|K5 hv3).symm), .of Z,trivial⟩<|A2 G_hit (.of Z)<|K9 (gq Z) trivial)⟩
 refine C3 Z ?_
 cases hz1
 obtain rfl:=ez1 _ rfl
 refine ⟨nofun,C2 Z<|T4 ?_⟩
 exact ⟨g2,(B7 (K8 Z)<|A2 G_hit (.of Z)<|B0 (gq Z) trivial)⟩
 rintro _ ⟨g1,q1⟩
 refine A7 q1<|B8<|B6 (oS y1.1 (24,g1)) Z Z (B6 (oS y1.1 (24,g1)) Z Z (A1<|B9 ?_))
 cases h
 exact Ar (.inr Z) [(24,g1)] (As (C0 Z)<|U9<|Qd (.head _)<|gq Z) U8 ⟨⟨_,_,_,G_hit,(Hl Z G3),Z,X3,Z⟩,trivial⟩
def Aj [Lp](p1:RoadsReader):Option (Work×RoadsReader):=
  (G4 p1).bind fun v1=>(C1 v1.2).bind fun v2=>(C1 v2.2).bind fun v3=>(C1 v3.2).bind fun v4=>(C1 v4.2).bind fun v5=>(C1 v5.2).bind fun v6=>some ((Work.mk v1.1 v2.1 v3.1 v4.1 v5.1 v6.1),v6.2)
theorem Ua(p1 r)(h:Aj p1=some r):MCall prog 128 [(.ptr (900000,0) 0)] [(.box 154 [(.d (O0 p1.s)),(.d (bo p1.short))])] (.d (.agg (R1 r.1))) [some (.box 154 [(.d (O0 r.2.s)),(.d (bo r.2.short))])] []:=by
 refine Y6 (fk func128 ntmps128 (fun r=>if r==1 then [1001001,1001003,1001005]else if r==2 then [1002001,1002003,1002005]else []) (by with_unfolding_all rfl)) Z (nl Z) ?_
 unfold Aj at h
 refine A7 (s0:=⟨T [(0,(.ptr _ _))],G [((900000,0),some<|.box 154 _)]⟩) (E3 Z Z) ?_
 refine lr<|fun u1 _=>sm Z<|A1<|B8<|sq Z<|bs h fun v1 hv1 h=>V5 (v:= .d (i64 v1.1)) (us:= [(900000,0)]) (R9 (S6 _ _ hv1) [(900000,0)] [(900000,0)] _ (((900000,0),some<|.box 154 [(.d (O0 v1.2.s)),(.d (bo v1.2.short))])::_) Z F3 (D3 (F9 (A9 Z G_hit) Z) G0) (C9 (A9 Z G_hit) E2) ⟨⟨_,(A9 Z G_hit), .of Z⟩,trivial⟩ (fun _ h=>h) nd1 Z Z Z) (sq Z<|bs h fun v2 hv2 h=>V5 (v:= .d (i64 v2.1)) (us:= [(900000,0)]) (R9 (E5 _ _ hv2) [(900000,0)] [(900000,0)] _ (((900000,0),some<|.box 154 [(.d (O0 v2.2.s)),(.d (bo v2.2.short))])::_) Z F3 (D3 (F9 G_hit Z) G0) (C9 G_hit E2) ⟨⟨_,G_hit, .of Z⟩,trivial⟩ (fun _ h=>h) nd1 Z Z Z) (sq Z<|bs h fun v3 hv3 h=>V5 (v:= .d (i64 v3.1)) (us:= [(900000,0)]) (R9 (E5 _ _ hv3) [(900000,0)] [(900000,0)] _ (((900000,0),some<|.box 154 [(.d (O0 v3.2.s)),(.d (bo v3.2.short))])::_) Z F3 (D3 (F9 G_hit Z) G0) (C9 G_hit E2) ⟨⟨_,G_hit, .of Z⟩,trivial⟩ (fun _ h=>h) nd1 Z Z Z) (sq Z<|V6 Z (gq Z) ([(di v1.1)]++ (zs 5)) Z (sq Z<|V6 Z G_hit ([(di v1.1),(di v2.1)]++ (zs 4)) Z (sq Z<|V6 Z G_hit [(di v1.1),(di v2.1),(di v3.1),(di 0),(di 0),(di 0)] Z (A1<|B8<|sq Z<|bs h fun v4 hv4 h=>V5 (v:= .d (i64 v4.1)) (us:= [(900000,0)]) (R9 (E5 _ _ hv4) [(900000,0)] [(900000,0)] _ (((900000,0),some<|.box 154 [(.d (O0 v4.2.s)),(.d (bo v4.2.short))])::_) Z F3 (D3 (F9 (A9 Z<|A9 Z<|A9 Z G_hit) Z) G0) (C9 (A9 Z<|A9 Z<|A9 Z G_hit) E2) ⟨⟨_,(A9 Z<|A9 Z<|A9 Z G_hit), .of Z⟩,trivial⟩ (fun _ h=>h) nd1 Z Z Z) (sq Z<|bs h fun v5 hv5 h=>V5 (v:= .d (i64 v5.1)) (us:= [(900000,0)]) (R9 (E5 _ _ hv5) [(900000,0)] [(900000,0)] _ (((900000,0),some<|.box 154 [(.d (O0 v5.2.s)),(.d (bo v5.2.short))])::_) Z F3 (D3 (F9 G_hit Z) G0) (C9 G_hit E2) ⟨⟨_,G_hit, .of Z⟩,trivial⟩ (fun _ h=>h) nd1 Z Z Z) (sq Z<|bs h fun v6 hv6 h=>V5 (v:= .d (i64 v6.1)) (us:= [(900000,0)]) (R9 (E5 _ _ hv6) [(900000,0)] [(900000,0)] _ (((900000,0),some<|.box 154 [(.d (O0 v6.2.s)),(.d (bo v6.2.short))])::_) Z F3 (D3 (F9 G_hit Z) G0) (C9 G_hit E2) ⟨⟨_,G_hit, .of Z⟩,trivial⟩ (fun _ h=>h) nd1 Z Z Z) (sq Z<|V6 Z (gq Z) [(di v1.1),(di v2.1),(di v3.1),(di v4.1),(di 0),(di 0)] Z (sq Z<|V6 Z G_hit [(di v1.1),(di v2.1),(di v3.1),(di v4.1),(di v5.1),(di 0)] Z (sq Z<|V6 Z G_hit [(di v1.1),(di v2.1),(di v3.1),(di v4.1),(di v5.1),(di v6.1)] Z (A1<|A3<|A7 (s0:=⟨T [(0,(.ptr _ _)),(2,(.ptr _ _))],G [((900000,0),some<|.box 154 _),((2,u1),some<|.box 50 _)]⟩) (E3 Z Z) ?_))))))))))))
 refine B5<|sd Z (C6 Z (gq Z) Z Z)<|V6 Z (gq Z) [(di v1.1),(di v2.1),(di v3.1),(di v4.1),(di v5.1),(di v6.1)] Z (A1<|B9 ?_)
 cases h
 exact Ar (.inr Z) [] (As (L0 Z G_hit (Nat.le_of_ble_eq_true Z) Z) D4) (.refl _) ⟨⟨_,_,_,(gq Z),G3,Z,X3,Z⟩,trivial⟩
def U2 [Lp](x1:((List Work)×Int×RoadsReader)):Option (Stp ((List Work)×Int×RoadsReader) ((List Work)×RoadsReader)):=
  cond ((decide (x1.2.1>0))&& (!x1.2.2.short)) ((Aj x1.2.2).bind fun v2=>(Q4 x1.1 [v2.1]).bind fun v3=>some (.go (v3,(K2 (x1.2.1 - 1)),v2.2))) (some (.out (x1.1,x1.2.2)))
def N5 [Lp](p1:RoadsReader):Option ((List Work)×RoadsReader):=
  (C1 p1).bind fun v1=>(loop (U2) ([],v1.1,v1.2)).bind fun y1=>some (y1.1,y1.2)
theorem Ie(p1 r)(h:N5 p1=some r):MCall prog 127 [(.ptr (900000,0) 0),(.fn (.func 128) [(.ptr (900000,0) 0)] [])] [(.box 154 [(.d (O0 p1.s)),(.d (bo p1.short))])] (dl R1 r.1) [some (.box 154 [(.d (O0 r.2.s)),(.d (bo r.2.short))])] []:=by
 refine Y6 (fk func127 ntmps127 (fun r=>if r==2 then [1002001]else if r==5 then [1005002,1003]else []) (by with_unfolding_all rfl)) Z (nl Z) ?_
 unfold N5 at h
 refine A7 (s0:=⟨T [(0,(.ptr _ _)),(1,(.fn _ _ _))],G [((900000,0),some<|.box 154 _)]⟩) (E3 Z Z) ?_
 refine B8<|sv Z<|A1<|B8<|sv Z<|A1<|A3<|B8<|sq Z<|bs h fun v1 hv1 h=>V5 (v:= .d (i64 v1.1)) (us:= [(900000,0)]) (R9 (E5 _ _ hv1) [(900000,0)] [(900000,0)] _ (((900000,0),some<|.box 154 [(.d (O0 v1.2.s)),(.d (bo v1.2.short))])::_) Z F3 (D3 (F9 G_hit Z) G0) (C9 G_hit E2) ⟨⟨_,G_hit, .of Z⟩,trivial⟩ (fun _ h=>h) nd1 Z Z Z) (sv Z<|A1<|bs h fun y1 hy1 h=>D0 (fun s=> ∃g1:Nat,Sb ⟨T [(0,(.ptr (900000,0) 0)),(5,(oS y1.1 (24,g1)))],G [((900000,0),some<|.box 154 [(.d (O0 y1.2.s)),(.d (bo y1.2.short))]),((24,g1),oB 50 6 R1 y1.1)]⟩ s) ?_ ?_)
 refine A5<|D2 (U2) (fun (x1:((List Work)×Int×RoadsReader)) (g2:Nat)=>⟨T [(0,(.ptr (900000,0) 0)),(1,(.fn (.func 128) [(.ptr (900000,0) 0)] [])),(5,(oS x1.1 (24,g2))),(6,(di x1.2.1))],G [((900000,0),some<|.box 154 [(.d (O0 x1.2.2.s)),(.d (bo x1.2.2.short))]),((24,g2),oB 50 6 R1 x1.1)]⟩) ([],v1.1,v1.2) 0 _ hy1 (B7 (K8 Z)<|A2 G_hit (.of Z)<|O6 trivial) ?_
 intro x1 g2 z1 hz1 ez1
 unfold U2 at hz1
 refine A3<|B8<|sv Z<|sv Z<|sv Z<|gp Z (L5 Z) (fun _=>Z) ?_
 refine T3 _ (.ptr _ _) Z (L5 Z) (fun w2=>(by simp only [A8 w2];rfl)) ?_
 refine T3 _ (.ptr _ _) Z (L5 Z) (fun w3=>(by simp only [A8 w3];rfl)) ?_
 refine gt Z (vl Z G_hit Z) ?_
 refine T3 _ (.d (bo (!x1.2.2.short))) Z (L5 Z) (fun w5=>(by simp only [A8 w5];rfl)) ?_
 refine sa Z Z Z<|A1<|cc Z hz1 (fun c1 hz1=> ?_)<|fun c1 hz1=> ?_
 refine B3<|A3<|A5<|M6 fun u5 _=>B6 (oS x1.1 (24,g2)) Z Z (B6 (.fn _ _ _) Z Z (bs hz1 fun v2 hv2 hz1=>V5 (v:= .d (.agg (R1 v2.1))) (us:= [(900000,0)]) (R9 (Ua _ _ hv2) [(900000,0)] [(900000,0)] _ (((900000,0),some<|.box 154 [(.d (O0 v2.2.s)),(.d (bo v2.2.short))])::_) Z F3 (D3 (F9 G_hit Z) G0) (C9 G_hit E2) ⟨⟨_,G_hit, .of Z⟩,trivial⟩ (fun _ h=>h) nd1 Z Z Z) (B6 (dl R1 [v2.1]) Z Z (bs hz1 fun _ hv3 hz1=>G7 R1 (24,g2) x1.1 v2.1 [] _ (E1<|fun _=>Z) Z (gq Z) hv3 (ss Z<|A1<|E0<|A7 (s0:=⟨T [(0,(.ptr _ _)),(1,(.fn _ _ _)),(5,(.sl _)),(6,(.d _))],G [((900000,0),some<|.box 154 _),((24,u5),some _)]⟩) (E3 Z Z) ?_)))))
 refine B5<|sv Z<|sv Z<|sv Z<|A1<|D6 ?_
 cases hz1
 exact ⟨Z,u5,(B7 ⟨.of Z, .of Z,(.of (T1<|K5 hv3).symm), .of Z,trivial⟩<|A2 G_hit (.of Z)<|K9 (gq Z) trivial)⟩
 refine C3 Z ?_
 cases hz1
 obtain rfl:=ez1 _ rfl
 refine ⟨nofun,C2 Z<|T4 ?_⟩
 exact ⟨g2,(B7 (K8 Z)<|A2 G_hit (.of Z)<|B0 (gq Z) trivial)⟩
 rintro _ ⟨g1,q1⟩
 refine A7 q1<|B8<|B6 (oS y1.1 (24,g1)) Z Z (B6 (oS y1.1 (24,g1)) Z Z (A1<|B9 ?_))
 cases h
 exact Ar (.inr Z) [(24,g1)] (As (C0 Z)<|U9<|Qd (.head _)<|gq Z) U8 ⟨⟨_,_,_,G_hit,(Hl Z G3),Z,X3,Z⟩,trivial⟩
def Mn [Lp](p1:ByteArray):Option (Map×Int):=
  (Fb p1 (ByteArray.mk #[107,98,109,49])).bind fun v1=>cond (!v1.2) (some ((Map.mk 0 [] [] [] []),3)) ((C1 (RoadsReader.mk v1.1 false)).bind fun v2=>(N3 v2.2).bind fun v3=>(N4 v3.2).bind fun v4=>(M1 v4.2).bind fun v5=>(N5 v5.2).bind fun v6=>((cond (!(v6.2.short||(!(v6.2.s.toList==ByteArray.empty.toList)))) (W7 (Map.mk v2.1 v3.1 v4.1 v5.1 v6.1)) (some default))).bind fun v7=>cond ((v6.2.short||(!(v6.2.s.toList==ByteArray.empty.toList)))||(v7 !=0)) (some ((Map.mk 0 [] [] [] []),3)) ((Gh (Map.mk v2.1 v3.1 v4.1 v5.1 v6.1)).bind fun v8=>cond (!(v8.1.toList==p1.toList)) (some ((Map.mk 0 [] [] [] []),3)) (some ((Map.mk v2.1 v3.1 v4.1 v5.1 v6.1),0))))
theorem GR(p1 r)(h:Mn p1=some r):PCall prog 31 [(O0 p1)] (.tup [(.agg (N8 r.1)),(i64 r.2)]):=by
 refine D7 (fk func31 ntmps31 (fun r=>if r==5 then [1005001]else if r==6 then [1006003]else if r==7 then [1007003]else if r==8 then [1008003]else if r==9 then [1009003]else []) (by with_unfolding_all rfl)) (nl Z) ?_
 unfold Mn at h
 refine A7 (s0:=⟨T [(0,(.d _))],G []⟩) (E3 Z Z) ?_
 refine lr<|fun u1 _=>sm Z<|sv Z<|A1<|B8<|sv Z<|bs h fun v1 hv1 h=>D1 Z Z A6 (We _ _ _ hv1) (.inl Z) (sv Z<|sv Z<|sv Z<|sv Z<|sv Z<|A1<|A3<|B8<|sv Z<|B6 (.d (bo (!v1.2))) Z Z (A1<|cc Z h (fun c1 h=> ?_)<|fun c1 h=> ?_))
 refine B8<|sv Z<|V6 Z G_hit [(di 0),(.d .nilS),(.d .nilS),(.d .nilS),(.d .nilS)] Z (sv Z<|A1<|B9 ?_)
 cases h
 exact B4 (.inr Z) (My (L0 Z G_hit (nl Z) Z) (C0 Z) D4 D4) (.tup (.cons (.agg (ca Z<|.cons ⟨DLe.nil,Z⟩ (.cons ⟨DLe.nil,Z⟩ (.cons ⟨DLe.nil,Z⟩ (.cons ⟨DLe.nil,Z⟩ .nil))))) A6))
 refine B3<|lr<|fun u5 _=>sv Z<|sv Z<|sm Z<|sq Z<|A1<|lr<|fun u6 _=>sq Z<|bs h fun v2 hv2 h=>V5 (v:= .d (i64 v2.1)) (us:= [(20,u5)]) (R9 (E5 _ _ hv2) [(20,u5)] [(20,u5)] _ (((20,u5),some<|.box 154 [(.d (O0 v2.2.s)),(.d (bo v2.2.short))])::_) Z F3 (D3 (F9 G_hit Z) G0) (C9 G_hit E2) ⟨⟨_,G_hit, .of Z⟩,trivial⟩ (fun _ h=>h) nd1 Z Z Z) (sv Z<|sm Z<|V6 Z G_hit [(di v2.1),(.d .nilS),(.d .nilS),(.d .nilS),(.d .nilS)] Z (A1<|A3<|A7 (s0:=⟨T [(0,(.d _)),(2,(.ptr _ _)),(6,(.ptr _ _)),(7,(.ptr _ _))],G [((2,u1),some<|.box 27 _),((20,u5),some<|.box 154 _),((7,u6),some<|.box 27 _)]⟩) (E3 Z Z) ?_))
 refine B5<|sq Z<|sq Z<|B6 (.fn _ _ _) Z Z (bs h fun v3 hv3 h=> ?_)
 refine V5 (v:= .d (.list (List.map J7 v3.1))) (us:= [(20,u5)]) (R9 (Ia _ _ hv3) [(20,u5)] [(20,u5),(20,u5)] _ (((20,u5),some<|.box 154 [(.d (O0 v3.2.s)),(.d (bo v3.2.short))])::_) Z F3 (D3 (F9 (A9 Z G_hit) Z)<|D3 (Up (D3 (F9 (A9 Z G_hit) Z) G0) Z) G0) (C9 (A9 Z G_hit)<|C9 (A9 Z G_hit) E2) ⟨⟨_,(A9 Z G_hit), .of Z⟩,trivial⟩ (by simp) nd1 Z Z Z) ?_
 refine sp Z Z<|V6 Z (gq Z) [(di v2.1),(dl J7 v3.1),(.d .nilS),(.d .nilS),(.d .nilS)] Z (A1<|B8<|sq Z<|sp Z Z<|B6 (.fn _ _ _) Z Z (bs h fun v4 hv4 h=> ?_))
 refine V5 (v:= .d (.list (List.map J2 v4.1))) (us:= [(20,u5)]) (R9 (Ic _ _ hv4) [(20,u5)] [(20,u5),(20,u5)] _ (((20,u5),some<|.box 154 [(.d (O0 v4.2.s)),(.d (bo v4.2.short))])::_) Z F3 (D3 (F9 (A9 Z G_hit) Z)<|D3 (Up (D3 (F9 (A9 Z G_hit) Z) G0) Z) G0) (C9 (A9 Z G_hit)<|C9 (A9 Z G_hit) E2) ⟨⟨_,(A9 Z G_hit), .of Z⟩,trivial⟩ (by simp) nd1 Z Z Z) ?_
 refine sp Z Z<|V6 Z (gq Z) [(di v2.1),(dl J7 v3.1),(dl J2 v4.1),(.d .nilS),(.d .nilS)] Z (A1<|B8<|sq Z<|sp Z Z<|B6 (.fn _ _ _) Z Z (bs h fun v5 hv5 h=> ?_))
 refine V5 (v:= .d (.list (List.map J9 v5.1))) (us:= [(20,u5)]) (R9 (Ga _ _ hv5) [(20,u5)] [(20,u5),(20,u5)] _ (((20,u5),some<|.box 154 [(.d (O0 v5.2.s)),(.d (bo v5.2.short))])::_) Z F3 (D3 (F9 (A9 Z G_hit) Z)<|D3 (Up (D3 (F9 (A9 Z G_hit) Z) G0) Z) G0) (C9 (A9 Z G_hit)<|C9 (A9 Z G_hit) E2) ⟨⟨_,(A9 Z G_hit), .of Z⟩,trivial⟩ (by simp) nd1 Z Z Z) ?_
 refine sp Z Z<|V6 Z (gq Z) [(di v2.1),(dl J7 v3.1),(dl J2 v4.1),(dl J9 v5.1),(.d .nilS)] Z (A1<|A3<|A7 (s0:=⟨T [(0,(.d _)),(2,(.ptr _ _)),(6,(.ptr _ _)),(7,(.ptr _ _))],G [((2,u1),some<|.box 27 _),((20,u5),some<|.box 154 _),((7,u6),some<|.box 27 _)]⟩) (E3 Z Z) ?_)
 refine B5<|sq Z<|sq Z<|B6 (.fn _ _ _) Z Z (bs h fun v6 hv6 h=> ?_)
 refine V5 (v:= .d (.list (List.map R1 v6.1))) (us:= [(20,u5)]) (R9 (Ie _ _ hv6) [(20,u5)] [(20,u5),(20,u5)] _ (((20,u5),some<|.box 154 [(.d (O0 v6.2.s)),(.d (bo v6.2.short))])::_) Z F3 (D3 (F9 (A9 Z G_hit) Z)<|D3 (Up (D3 (F9 (A9 Z G_hit) Z) G0) Z) G0) (C9 (A9 Z G_hit)<|C9 (A9 Z G_hit) E2) ⟨⟨_,(A9 Z G_hit), .of Z⟩,trivial⟩ (by simp) nd1 Z Z Z) ?_
 refine sp Z Z<|V6 Z (gq Z) [(di v2.1),(dl J7 v3.1),(dl J2 v4.1),(dl J9 v5.1),(dl R1 v6.1)] Z (A1<|A3<|B8<|sq Z<|sp Z Z<|sq Z<|sl Z (gq Z) Z (sv Z<|gp Z (N7 Z) (fun _=>Z) ?_))
 refine T3 _ (.ptr _ _) Z (N7 Z) (fun w2=>(by simp only [A8 w2];rfl)) ?_
 refine T3 _ (.ptr _ _) Z (N7 Z) (fun w3=>(by simp only [A8 w3];rfl)) ?_
 refine gf Z (vl Z (gq Z) Z)<|gf Z (fun w5=>(FD (A8 w5) Z))<|sd Z (X6 Z Z<|fun hc=>A8<|O7 hc)<|sv Z<|gf Z (fun _=>(C6 Z G_hit Z Z))<|bs h fun v7 hv7 h=> ?_
 refine N0 _ (i64 v7) (N7 Z) (fun w7=>⟨_,[(.d (.agg [(i64 v2.1),(.list (List.map J7 v3.1)),(.list (List.map J2 v4.1)),(.list (List.map J9 v5.1)),(.list (List.map R1 v6.1))]))],_,_,(by simp only [A8 w7];rfl),Z,A6,Fu _ _<|H4 w7 hv7,(.inl Z)⟩) ?_
 refine gf Z (vb Z Z Z)<|sd Z (X6 Z Z<|fun hc=>A8<|O7 hc)<|A1<|cc Z h (fun c2 h=> ?_)<|fun c2 h=> ?_
 refine A3<|A7 (s0:=⟨T [(2,(.ptr _ _))],G [((2,u1),some<|.box 27 _)]⟩) (E3 Z Z) ?_
 refine B5<|sv Z<|V6 Z G_hit [(di 0),(.d .nilS),(.d .nilS),(.d .nilS),(.d .nilS)] Z (sv Z<|A1<|B9 ?_)
 cases h
 exact B4 (.inr Z) (My (L0 Z G_hit (nl Z) Z) (C0 Z) D4 D4) (.tup (.cons (.agg (ca Z<|.cons ⟨DLe.nil,Z⟩ (.cons ⟨DLe.nil,Z⟩ (.cons ⟨DLe.nil,Z⟩ (.cons ⟨DLe.nil,Z⟩ .nil))))) A6))
 refine B3<|A3<|A3<|A7 (s0:=⟨T [(0,(.d _)),(2,(.ptr _ _)),(7,(.ptr _ _))],G [((2,u1),some<|.box 27 _),((7,u6),some<|.box 27 _)]⟩) (E3 Z Z) ?_
 refine B5<|sd Z (C6 Z (gq Z) Z Z)<|bs h fun _ hv8 h=>D1 Z Z A6 (Wa _ _ hv8) (.inl Z) (sv Z<|sv Z<|sv Z<|sv Z<|sv Z<|A1<|B8<|sv Z<|sv Z<|sd Z (FD Z Z)<|A1<|cc Z h (fun c3 h=> ?_)<|fun c3 h=> ?_)
 refine B8<|sv Z<|V6 Z G_hit [(di 0),(.d .nilS),(.d .nilS),(.d .nilS),(.d .nilS)] Z (sv Z<|A1<|B9 ?_)
 cases h
 exact B4 (.inr Z) (My (L0 Z G_hit (nl Z) Z) (C0 Z) D4 D4) (.tup (.cons (.agg (ca Z<|.cons ⟨DLe.nil,Z⟩ (.cons ⟨DLe.nil,Z⟩ (.cons ⟨DLe.nil,Z⟩ (.cons ⟨DLe.nil,Z⟩ .nil))))) A6))
 refine B3<|B8<|sd Z (C6 Z (gq Z) Z Z)<|V6 Z G_hit [(di v2.1),(dl J7 v3.1),(dl J2 v4.1),(dl J9 v5.1),(dl R1 v6.1)] Z (sv Z<|A1<|B9 ?_)
 cases h
 exact B4 (.inr Z) (My (L0 Z G_hit (nl Z) Z) (C0 Z) D4 D4) (.refl _)
def W0 (p1:Ref03Reader)(x1:(Int×Int)):Option (Stp (Int×Int) Int):=
  cond (decide (x1.2<8)) ((XS p1.s x1.2).bind fun v1=>some (.go ((IntKind.wrap .u64 (((BitVec.ofInt (IntKind.bits .u64) (IntKind.wrap .u64 (x1.1*2^ (min (8:Int).toNat (IntKind.bits .u64))))|||(BitVec.ofInt (IntKind.bits .u64) (IntKind.wrap .u64 v1))).toNat:Nat))),(K2 (x1.2+1))))) (some (.out x1.1))
def C7 [Lp](p1:Ref03Reader):Option (Int×Ref03Reader):=
  cond (decide ((p1.s.size:Int)<8)) (some (0,(Ref03Reader.mk p1.s true))) ((loop (W0 p1) (0,0)).bind fun y1=>(BC p1.s 8 (p1.s.size:Int)).bind fun v2=>some ((K2 y1),(Ref03Reader.mk v2 p1.bad)))
theorem I0(p1 r)(h:C7 p1=some r):MCall prog 151 [(.ptr (900000,0) 0)] [(.box 187 [(.d (O0 p1.s)),(.d (bo p1.bad))])] (di r.1) [some (.box 187 [(.d (O0 r.2.s)),(.d (bo r.2.bad))])] []:=by
 refine Y6 (fk func151 ntmps151 m0 (by with_unfolding_all rfl)) Z (nl Z) ?_
 unfold C7 at h
 refine A7 (s0:=⟨T [(0,(.ptr _ _))],G [((900000,0),some<|.box 187 _)]⟩) (E3 Z Z) ?_
 refine B8<|sv Z<|A1<|A3<|B8<|sq Z<|sp Z Z<|sq Z<|sl Z G_hit Z<|sd Z (Vs Z)<|sv Z<|A1<|cc Z h (fun c1 h=> ?_)<|fun c1 h=> ?_
 refine B8<|sq Z<|sp Z Z<|sq Z<|V6 Z G_hit [(.d (O0 p1.s)),(.d (bo true))] Z (A1<|B8<|sv Z<|A1<|B9 ?_)
 cases h
 exact Ar (.inr Z) [] (As (C0 Z) D4) (.refl _) ⟨⟨_,_,_,G_hit,G3,Z,X3,Z⟩,trivial⟩
 refine B3<|B8<|sv Z<|A1<|A3<|B8<|sv Z<|A1<|bs h fun y1 hy1 h=>D0 (fun s=> ∃g1:Unit,Sb ⟨T [(0,(.ptr (900000,0) 0)),(3,(.d (.v (.int .u64 y1))))],G [((900000,0),some<|.box 187 [(.d (O0 p1.s)),(.d (bo p1.bad))])]⟩ s) ?_ ?_
 refine A5<|D2 (W0 p1) (fun (x1:(Int×Int)) (g2:Unit)=>⟨T [(0,(.ptr (900000,0) 0)),(3,(.d (.v (.int .u64 x1.1)))),(4,(di x1.2))],G [((900000,0),some<|.box 187 [(.d (O0 p1.s)),(.d (bo p1.bad))])]⟩) (0,0) () _ hy1 (E3 Z Z) ?_
 intro x1 g2 z1 hz1 ez1
 unfold W0 at hz1
 refine A3<|B8<|sv Z<|sv Z<|A1<|cc Z hz1 (fun c2 hz1=> ?_)<|fun c2 hz1=> ?_
 refine B3<|A3<|A5<|B5<|sv Z<|sv Z<|sq Z<|sp Z Z<|sq Z<|sl Z G_hit Z<|sv Z<|bs hz1 fun _ hv1 hz1=>sd Z (gO Z Z hv1)<|sv Z<|sv Z<|sv Z<|A1<|E0<|B5<|sv Z<|sv Z<|sv Z<|A1<|D6 ?_
 cases hz1
 exact ⟨Z,(),(E3 Z Z)⟩
 refine C3 Z ?_
 cases hz1
 obtain rfl:=ez1 _ rfl
 refine ⟨nofun,C2 Z<|T4 ?_⟩
 exact ⟨(),(E3 Z Z)⟩
 rintro _ ⟨g1,q1⟩
 refine A7 q1<|B8<|sq Z<|sp Z Z<|sq Z<|sp Z Z<|sl Z G_hit Z<|bs h fun v2 hv2 h=>sd Z (DJ Z Z hv2)<|sq Z<|sp Z Z<|V6 Z G_hit [(.d (O0 v2)),(.d (bo p1.bad))] Z (A1<|B8<|sv Z<|sv Z<|sv Z<|A1<|B9 ?_)
 cases h
 exact Ar (.inr Z) [] (As (C0 Z) D4) (.refl _) ⟨⟨_,_,_,G_hit,G3,Z,X3,Z⟩,trivial⟩
def E4 [Lp](p1:Ref03Reader)(p2:Int):Option (Int×Ref03Reader):=
  (C7 p1).bind fun v1=>cond ((decide (v1.1<0))||(decide (v1.1>p2))) (some (0,(Ref03Reader.mk v1.2.s true))) (some (v1.1,v1.2))
theorem I6(p1 p2 r)(h:E4 p1 p2=some r):MCall prog 152 [(.ptr (900000,0) 0),(di p2)] [(.box 187 [(.d (O0 p1.s)),(.d (bo p1.bad))])] (di r.1) [some (.box 187 [(.d (O0 r.2.s)),(.d (bo r.2.bad))])] []:=by
 refine Y6 (fk func152 ntmps152 (fun r=>if r==1 then [1001001]else []) (by with_unfolding_all rfl)) Z (nl Z) ?_
 unfold E4 at h
 refine A7 (s0:=⟨T [(0,(.ptr _ _)),(1,(.d _))],G [((900000,0),some<|.box 187 _)]⟩) (E3 Z Z) ?_
 refine B8<|sv Z<|A1<|B8<|sq Z<|bs h fun v1 hv1 h=>V5 (v:= .d (i64 v1.1)) (us:= [(900000,0)]) (R9 (I0 _ _ hv1) [(900000,0)] [(900000,0)] _ (((900000,0),some<|.box 187 [(.d (O0 v1.2.s)),(.d (bo v1.2.bad))])::_) Z F3 (D3 (F9 G_hit Z) G0) (C9 G_hit E2) ⟨⟨_,G_hit, .of Z⟩,trivial⟩ (fun _ h=>h) nd1 Z Z Z) (sv Z<|A1<|A3<|B8<|sv Z<|sv Z<|sv Z<|gf Z (fun _=>Z)<|gf Z (fun _=>Z)<|gf Z (fun w3=>(An (A8 w3) (A8 w3) Z))<|sd Z (X6 Z Z<|fun hc=>A8<|O7 hc)<|A1<|cc Z h (fun c1 h=> ?_)<|fun c1 h=> ?_)
 refine B8<|sq Z<|sp Z Z<|sq Z<|V6 Z G_hit [(.d (O0 v1.2.s)),(.d (bo true))] Z (A1<|B8<|sv Z<|A1<|B9 ?_)
 cases h
 exact Ar (.inr Z) [] (As (C0 Z) D4) (.refl _) ⟨⟨_,_,_,G_hit,G3,Z,X3,Z⟩,trivial⟩
 refine B3<|B8<|sv Z<|sv Z<|A1<|B9 ?_
 cases h
 exact Ar (.inr Z) [] (As (C0 Z) D4) (.refl _) ⟨⟨_,_,_,G_hit,G3,Z,X3,Z⟩,trivial⟩
def Cv [Lp](x1:((List Int)×Int×Ref03Reader)):Option (Stp ((List Int)×Int×Ref03Reader) ((List Int)×Ref03Reader)):=
  cond (decide (x1.2.1>0)) ((E4 x1.2.2 1099511627776).bind fun v2=>(Q4 x1.1 [v2.1]).bind fun v3=>some (.go (v3,(K2 (x1.2.1 - 1)),v2.2))) (some (.out (x1.1,x1.2.2)))
def R3 [Lp](p1:Ref03Reader):Option ((List Int)×Ref03Reader):=
  (E4 p1 12).bind fun v1=>(loop (Cv) ([],v1.1,v1.2)).bind fun y1=>some (y1.1,y1.2)
theorem Lr(p1 r)(h:R3 p1=some r):MCall prog 153 [(.ptr (900000,0) 0)] [(.box 187 [(.d (O0 p1.s)),(.d (bo p1.bad))])] (dl A4 r.1) [some (.box 187 [(.d (O0 r.2.s)),(.d (bo r.2.bad))])] []:=by
 refine Y6 (fk func153 ntmps153 (fun r=>if r==2 then [1002001]else if r==5 then [1005002,1003]else []) (by with_unfolding_all rfl)) Z (nl Z) ?_
 unfold R3 at h
 refine A7 (s0:=⟨T [(0,(.ptr _ _))],G [((900000,0),some<|.box 187 _)]⟩) (E3 Z Z) ?_
 refine B8<|sv Z<|A1<|B8<|sv Z<|A1<|A3<|B8<|sq Z<|bs h fun v1 hv1 h=>V5 (v:= .d (i64 v1.1)) (us:= [(900000,0)]) (R9 (I6 _ _ _ hv1) [(900000,0)] [(900000,0)] _ (((900000,0),some<|.box 187 [(.d (O0 v1.2.s)),(.d (bo v1.2.bad))])::_) Z F3 (D3 (F9 G_hit Z)<|D3 Ts G0) (C9 G_hit E2) ⟨⟨_,G_hit, .of Z⟩,trivial⟩ (fun _ h=>h) nd1 Z Z Z) (sv Z<|A1<|bs h fun y1 hy1 h=>D0 (fun s=> ∃g1:Nat,Sb ⟨T [(0,(.ptr (900000,0) 0)),(3,(oS y1.1 (15,g1)))],G [((900000,0),some<|.box 187 [(.d (O0 y1.2.s)),(.d (bo y1.2.bad))]),((15,g1),oB 3 1 A4 y1.1)]⟩ s) ?_ ?_)
 refine A5<|D2 (Cv) (fun (x1:((List Int)×Int×Ref03Reader)) (g2:Nat)=>⟨T [(0,(.ptr (900000,0) 0)),(3,(oS x1.1 (15,g2))),(4,(di x1.2.1))],G [((900000,0),some<|.box 187 [(.d (O0 x1.2.2.s)),(.d (bo x1.2.2.bad))]),((15,g2),oB 3 1 A4 x1.1)]⟩) ([],v1.1,v1.2) 0 _ hy1 (B7 (K8 Z)<|A2 G_hit (.of Z)<|O6 trivial) ?_
 intro x1 g2 z1 hz1 ez1
 unfold Cv at hz1
 refine A3<|B8<|sv Z<|sv Z<|A1<|cc Z hz1 (fun c1 hz1=> ?_)<|fun c1 hz1=> ?_
 refine B3<|A3<|A5<|M6 fun u5 _=>B6 (oS x1.1 (15,g2)) Z Z (sq Z<|bs hz1 fun v2 hv2 hz1=>V5 (v:= .d (i64 v2.1)) (us:= [(900000,0)]) (R9 (I6 _ _ _ hv2) [(900000,0)] [(900000,0)] _ (((900000,0),some<|.box 187 [(.d (O0 v2.2.s)),(.d (bo v2.2.bad))])::_) Z F3 (D3 (F9 G_hit Z)<|D3 Ts G0) (C9 G_hit E2) ⟨⟨_,G_hit, .of Z⟩,trivial⟩ (fun _ h=>h) nd1 Z Z Z) (B6 (dl A4 [v2.1]) Z Z (bs hz1 fun _ hv3 hz1=>G7 A4 (15,g2) x1.1 v2.1 [] _ (E1<|fun _=>Z) Z (gq Z) hv3 (ss Z<|A1<|E0<|B5<|sv Z<|sv Z<|sv Z<|A1<|D6 ?_))))
 cases hz1
 exact ⟨Z,u5,(B7 ⟨.of Z,(.of (T1<|K5 hv3).symm), .of Z,trivial⟩<|sg Z<|K9 G_hit trivial)⟩
 refine C3 Z ?_
 cases hz1
 obtain rfl:=ez1 _ rfl
 refine ⟨nofun,C2 Z<|T4 ?_⟩
 exact ⟨g2,(B7 (K8 Z)<|A2 G_hit (.of Z)<|B0 (gq Z) trivial)⟩
 rintro _ ⟨g1,q1⟩
 refine A7 q1<|B8<|B6 (oS y1.1 (15,g1)) Z Z (B6 (oS y1.1 (15,g1)) Z Z (A1<|B9 ?_))
 cases h
 exact Ar (.inr Z) [(15,g1)] (As (C0 Z)<|U9<|Qd (.head _)<|gq Z) U8 ⟨⟨_,_,_,G_hit,(Hl Z G3),Z,X3,Z⟩,trivial⟩
def Fk [Lp](x7:(Int×Ref03Reader×Map)):Option (Stp (Int×Ref03Reader×Map) (Ref03Reader×Map)):=
  cond (decide (x7.1>0)) ((E4 x7.2.1 12).bind fun v31=>(C7 v31.2).bind fun v32=>(C7 v32.2).bind fun v33=>(C7 v33.2).bind fun v34=>(C7 v34.2).bind fun v35=>(C7 v35.2).bind fun v36=>(Q4 x7.2.2.Works [(Work.mk v31.1 v32.1 v33.1 v34.1 v35.1 v36.1)]).bind fun v37=>some (.go ((K2 (x7.1 - 1)),v36.2,(Map.mk x7.2.2.Version x7.2.2.Lanes x7.2.2.Zones x7.2.2.Signals v37)))) (some (.out (x7.2.1,x7.2.2)))
def Hq [Lp](x6:(Int×Ref03Reader×Signal)):Option (Stp (Int×Ref03Reader×Signal) (Ref03Reader×Signal)):=
  cond (decide (x6.1>0)) ((C7 x6.2.1).bind fun v26=>(R3 v26.2).bind fun v27=>(Q4 x6.2.2.Phases [(Phase.mk v26.1 v27.1)]).bind fun v28=>some (.go ((K2 (x6.1 - 1)),v27.2,(Signal.mk x6.2.2.Offset v28)))) (some (.out (x6.2.1,x6.2.2)))
def Fl [Lp](x5:(Int×Ref03Reader×Map)):Option (Stp (Int×Ref03Reader×Map) (Ref03Reader×Map)):=
  cond (decide (x5.1>0)) ((C7 x5.2.1).bind fun v24=>(E4 v24.2 6).bind fun v25=>(loop (Hq) (v25.1,v25.2,(Signal.mk v24.1 []))).bind fun y6=>(Q4 x5.2.2.Signals [y6.2]).bind fun v29=>some (.go ((K2 (x5.1 - 1)),y6.1,(Map.mk x5.2.2.Version x5.2.2.Lanes x5.2.2.Zones v29 [])))) (some (.out (x5.2.1,(Map.mk x5.2.2.Version x5.2.2.Lanes x5.2.2.Zones x5.2.2.Signals []))))
def Hr [Lp](x4:(Int×Ref03Reader×Zone)):Option (Stp (Int×Ref03Reader×Zone) (Ref03Reader×Zone)):=
  cond (decide (x4.1>0)) ((E4 x4.2.1 12).bind fun v17=>(C7 v17.2).bind fun v18=>(C7 v18.2).bind fun v19=>(E4 v19.2 100).bind fun v20=>(Q4 x4.2.2.Parts [(Part.mk v17.1 v18.1 v19.1 v20.1)]).bind fun v21=>some (.go ((K2 (x4.1 - 1)),v20.2,(Zone.mk v21 x4.2.2.Signal_)))) (some (.out (x4.2.1,x4.2.2)))
def Fm [Lp](x3:(Int×Ref03Reader×Map)):Option (Stp (Int×Ref03Reader×Map) (Ref03Reader×Map)):=
  cond (decide (x3.1>0)) ((E4 x3.2.1 4).bind fun v15=>(E4 v15.2 6).bind fun v16=>(loop (Hr) (v16.1,v16.2,(Zone.mk [] v15.1))).bind fun y4=>(Q4 x3.2.2.Zones [y4.2]).bind fun v22=>some (.go ((K2 (x3.1 - 1)),y4.1,(Map.mk x3.2.2.Version x3.2.2.Lanes v22 [] [])))) (some (.out (x3.2.1,(Map.mk x3.2.2.Version x3.2.2.Lanes x3.2.2.Zones [] []))))
def Ht [Lp](x2:(Int×Ref03Reader×Lane)):Option (Stp (Int×Ref03Reader×Lane) (Ref03Reader×Lane)):=
  cond (decide (x2.1>0)) ((C7 x2.2.1).bind fun v9=>(C7 v9.2).bind fun v10=>(Q4 x2.2.2.Curve_.Pts [(Spot.mk v9.1 v10.1)]).bind fun v11=>some (.go ((K2 (x2.1 - 1)),v10.2,(Lane.mk x2.2.2.Kind (Curve.mk v11) x2.2.2.Half x2.2.2.Limit [])))) (some (.out (x2.2.1,(Lane.mk x2.2.2.Kind x2.2.2.Curve_ x2.2.2.Half x2.2.2.Limit []))))
def Fo [Lp](x1:(Int×Ref03Reader×Map)):Option (Stp (Int×Ref03Reader×Map) (Ref03Reader×Map)):=
  cond (decide (x1.1>0)) ((E4 x1.2.1 3).bind fun v5=>(C7 v5.2).bind fun v6=>(C7 v6.2).bind fun v7=>(E4 v7.2 16).bind fun v8=>(loop (Ht) (v8.1,v8.2,(Lane.mk v5.1 (Curve.mk []) v6.1 v7.1 []))).bind fun y2=>(R3 y2.1).bind fun v12=>(Q4 x1.2.2.Lanes [(Lane.mk y2.2.Kind y2.2.Curve_ y2.2.Half y2.2.Limit v12.1)]).bind fun v13=>some (.go ((K2 (x1.1 - 1)),v12.2,(Map.mk x1.2.2.Version v13 [] [] [])))) (some (.out (x1.2.1,(Map.mk x1.2.2.Version x1.2.2.Lanes [] [] []))))
def Mo [Lp](p1:ByteArray):Option (Map×Int):=
  ((cond (!(decide ((p1.size:Int)<4))) (BC p1 0 4) (some default))).bind fun v1=>cond ((decide ((p1.size:Int)<4))||(!(v1.toList==(ByteArray.mk #[107,98,109,49]).toList))) (some ((Map.mk 0 [] [] [] []),3)) ((BC p1 4 (p1.size:Int)).bind fun v2=>(C7 (Ref03Reader.mk v2 false)).bind fun v3=>(E4 v3.2 12).bind fun v4=>(loop (Fo) (v4.1,v4.2,(Map.mk v3.1 [] [] [] []))).bind fun y1=>(E4 y1.1 12).bind fun v14=>(loop (Fm) (v14.1,v14.2,(Map.mk y1.2.Version y1.2.Lanes [] [] []))).bind fun y3=>(E4 y3.1 4).bind fun v23=>(loop (Fl) (v23.1,v23.2,(Map.mk y3.2.Version y3.2.Lanes y3.2.Zones [] []))).bind fun y5=>(E4 y5.1 8).bind fun v30=>(loop (Fk) (v30.1,v30.2,(Map.mk y5.2.Version y5.2.Lanes y5.2.Zones y5.2.Signals []))).bind fun y7=>((cond (!(y7.1.bad||(!(y7.1.s.toList==ByteArray.empty.toList)))) (Kv y7.2) (some default))).bind fun v38=>cond ((y7.1.bad||(!(y7.1.s.toList==ByteArray.empty.toList)))||(v38 !=0)) (some ((Map.mk 0 [] [] [] []),3)) (some (y7.2,0)))
theorem GS(p1 r)(h:Mo p1=some r):PCall prog 50 [(O0 p1)] (.tup [(.agg (N8 r.1)),(i64 r.2)]):=by
 refine D7 (fk func50 ntmps50 (fun r=>if r==4 then [1004001]else if r==5 then [1005001]else if r==8 then [1008001,1008003,1008005]else if r==9 then [1009001]else if r==12 then [1012001]else if r==13 then [1013005,1007]else if r==14 then [1014001]else if r==15 then [1003]else if r==16 then [1016001]else if r==19 then [1019001]else if r==20 then [1020001]else if r==23 then [1023003,1023005,1023007,1023009,1011]else if r==24 then [1003]else if r==25 then [1025001]else if r==28 then [1028001]else if r==29 then [1029001]else if r==32 then [1032001]else if r==33 then [1033004,1006]else if r==34 then [1003]else if r==35 then [1035001]else if r==38 then [1038003,1038005,1038007,1038009,1038011,1038013,1015]else []) (by with_unfolding_all rfl)) (nl Z) ?_
 unfold Mo at h
 refine A7 (s0:=⟨T [(0,(.d _))],G []⟩) (E3 Z Z) ?_
 refine lr<|fun u1 _=>sm Z<|sv Z<|A1<|A3<|B8<|sv Z<|sd Z (Vs Z)<|sv Z<|sv Z<|gf Z (fun _=>Z)<|bs h fun _ hv1 h=>gf Z (fun w2=>(JU (A8 w2) Z (H4 w2 hv1)))<|gf Z (fun w3=>(FD (A8 w3) Z))<|sd Z (X6 Z Z<|fun hc=>A8<|O7 hc)<|A1<|cc Z h (fun c1 h=> ?_)<|fun c1 h=> ?_
 refine B8<|sv Z<|V6 Z G_hit [(di 0),(.d .nilS),(.d .nilS),(.d .nilS),(.d .nilS)] Z (sv Z<|A1<|B9 ?_)
 cases h
 exact B4 (.inr Z) (My (L0 Z G_hit (nl Z) Z) (C0 Z) D4 D4) (.tup (.cons (.agg (ca Z<|.cons ⟨DLe.nil,Z⟩ (.cons ⟨DLe.nil,Z⟩ (.cons ⟨DLe.nil,Z⟩ (.cons ⟨DLe.nil,Z⟩ .nil))))) A6))
 refine B3<|lr<|fun u4 _=>sv Z<|bs h fun _ hv2 h=>sd Z (DJ Z Z hv2)<|sv Z<|sm Z<|sq Z<|A1<|lr<|fun u5 _=>sq Z<|bs h fun v3 hv3 h=>V5 (v:= .d (i64 v3.1)) (us:= [(30,u4)]) (R9 (I0 _ _ hv3) [(30,u4)] [(30,u4)] _ (((30,u4),some<|.box 187 [(.d (O0 v3.2.s)),(.d (bo v3.2.bad))])::_) Z F3 (D3 (F9 G_hit Z) G0) (C9 G_hit E2) ⟨⟨_,G_hit, .of Z⟩,trivial⟩ (fun _ h=>h) nd1 Z Z Z) (sv Z<|sm Z<|V6 Z G_hit [(di v3.1),(.d .nilS),(.d .nilS),(.d .nilS),(.d .nilS)] Z (A1<|A3<|A3<|A7 (s0:=⟨T [(2,(.ptr _ _)),(4,(.ptr _ _)),(5,(.ptr _ _))],G [((2,u1),some<|.box 27 _),((30,u4),some<|.box 187 _),((5,u5),some<|.box 27 _)]⟩) (E3 Z Z) ?_))
 refine B5<|sq Z<|bs h fun v4 hv4 h=>V5 (v:= .d (i64 v4.1)) (us:= [(30,u4)]) (R9 (I6 _ _ _ hv4) [(30,u4)] [(30,u4)] _ (((30,u4),some<|.box 187 [(.d (O0 v4.2.s)),(.d (bo v4.2.bad))])::_) Z F3 (D3 (F9 (A9 Z G_hit) Z)<|D3 Ts G0) (C9 (A9 Z G_hit) E2) ⟨⟨_,(A9 Z G_hit), .of Z⟩,trivial⟩ (fun _ h=>h) nd1 Z Z Z) (sv Z<|A1<|bs h fun y1 hy1 h=>D0 (fun s=> ∃g1:Nat,Sb ⟨T [(2,(.ptr (2,u1) 0)),(4,(.ptr (30,u4) 0)),(5,(.ptr (5,u5) 0))],G [((2,u1),some<|.box 27 [(di 0),(.d .nilS),(.d .nilS),(.d .nilS),(.d .nilS)]),((30,u4),some<|.box 187 [(.d (O0 y1.1.s)),(.d (bo y1.1.bad))]),((5,u5),some<|.box 27 [(di y1.2.Version),(oS y1.2.Lanes (73,g1)),(.d .nilS),(.d .nilS),(.d .nilS)]),((73,g1),oB 42 5 J7 y1.2.Lanes)]⟩ s) ?_ ?_)
 refine A5<|D2 (Fo) (fun (x1:(Int×Ref03Reader×Map)) (g2:Nat)=>⟨T [(2,(.ptr (2,u1) 0)),(4,(.ptr (30,u4) 0)),(5,(.ptr (5,u5) 0)),(6,(di x1.1))],G [((2,u1),some<|.box 27 [(di 0),(.d .nilS),(.d .nilS),(.d .nilS),(.d .nilS)]),((30,u4),some<|.box 187 [(.d (O0 x1.2.1.s)),(.d (bo x1.2.1.bad))]),((5,u5),some<|.box 27 [(di x1.2.2.Version),(oS x1.2.2.Lanes (73,g2)),(.d .nilS),(.d .nilS),(.d .nilS)]),((73,g2),oB 42 5 J7 x1.2.2.Lanes)]⟩) (v4.1,v4.2,(Map.mk v3.1 [] [] [] [])) 0 _ hy1 (B7 (K8 Z)<|sg Z<|A2 G_hit (.of Z)<|sg Z<|O6 trivial) ?_
 intro x1 g2 z1 hz1 ez1
 unfold Fo at hz1
 refine A3<|B8<|sv Z<|sv Z<|A1<|cc Z hz1 (fun c2 hz1=> ?_)<|fun c2 hz1=> ?_
 refine B3<|A3<|A5<|lr<|fun u8 _=>sq Z<|bs hz1 fun v5 hv5 hz1=>V5 (v:= .d (i64 v5.1)) (us:= [(30,u4)]) (R9 (I6 _ _ _ hv5) [(30,u4)] [(30,u4)] _ (((30,u4),some<|.box 187 [(.d (O0 v5.2.s)),(.d (bo v5.2.bad))])::_) Z F3 (D3 (F9 (A9 Z G_hit) Z)<|D3 Ts G0) (C9 (A9 Z G_hit) E2) ⟨⟨_,(A9 Z G_hit), .of Z⟩,trivial⟩ (fun _ h=>h) nd1 Z Z Z) (sq Z<|bs hz1 fun v6 hv6 hz1=>V5 (v:= .d (i64 v6.1)) (us:= [(30,u4)]) (R9 (I0 _ _ hv6) [(30,u4)] [(30,u4)] _ (((30,u4),some<|.box 187 [(.d (O0 v6.2.s)),(.d (bo v6.2.bad))])::_) Z F3 (D3 (F9 G_hit Z) G0) (C9 G_hit E2) ⟨⟨_,G_hit, .of Z⟩,trivial⟩ (fun _ h=>h) nd1 Z Z Z) (sq Z<|bs hz1 fun v7 hv7 hz1=>V5 (v:= .d (i64 v7.1)) (us:= [(30,u4)]) (R9 (I0 _ _ hv7) [(30,u4)] [(30,u4)] _ (((30,u4),some<|.box 187 [(.d (O0 v7.2.s)),(.d (bo v7.2.bad))])::_) Z F3 (D3 (F9 G_hit Z) G0) (C9 G_hit E2) ⟨⟨_,G_hit, .of Z⟩,trivial⟩ (fun _ h=>h) nd1 Z Z Z) (sv Z<|sm Z<|V6 Z G_hit [(di v5.1),(.d .nilS),(di v6.1),(di v7.1),(.d .nilS)] Z (A1<|A3<|A3<|A7 (s0:=⟨T [(2,(.ptr (2,u1) 0)),(4,(.ptr (30,u4) 0)),(5,(.ptr (5,u5) 0)),(6,(di x1.1)),(7,(.ptr (7,u8) 0))],G [((2,u1),some<|.box 27 [(di 0),(.d .nilS),(.d .nilS),(.d .nilS),(.d .nilS)]),((30,u4),some<|.box 187 [(.d (O0 v7.2.s)),(.d (bo v7.2.bad))]),((5,u5),some<|.box 27 [(di x1.2.2.Version),(oS x1.2.2.Lanes (73,g2)),(.d .nilS),(.d .nilS),(.d .nilS)]),((73,g2),oB 42 5 J7 x1.2.2.Lanes),((7,u8),some<|.box 42 [(di v5.1),(.d .nilS),(di v6.1),(di v7.1),(.d .nilS)])]⟩) (B7 (K8 Z)<|sg Z<|sg Z<|sg Z<|B0 (gq Z)<|A2 G_hit (.of Z) trivial) ?_))))
 refine B5<|sq Z<|bs hz1 fun v8 hv8 hz1=>V5 (v:= .d (i64 v8.1)) (us:= [(30,u4)]) (R9 (I6 _ _ _ hv8) [(30,u4)] [(30,u4)] _ (((30,u4),some<|.box 187 [(.d (O0 v8.2.s)),(.d (bo v8.2.bad))])::_) Z F3 (D3 (F9 (A9 Z G_hit) Z)<|D3 Ts G0) (C9 (A9 Z G_hit) E2) ⟨⟨_,(A9 Z G_hit), .of Z⟩,trivial⟩ (fun _ h=>h) nd1 Z Z Z) (sv Z<|A1<|bs hz1 fun y2 hy2 hz1=>D0 (fun s=> ∃g3:Nat,Sb ⟨T [(2,(.ptr (2,u1) 0)),(4,(.ptr (30,u4) 0)),(5,(.ptr (5,u5) 0)),(6,(di x1.1)),(7,(.ptr (7,u8) 0))],G [((2,u1),some<|.box 27 [(di 0),(.d .nilS),(.d .nilS),(.d .nilS),(.d .nilS)]),((30,u4),some<|.box 187 [(.d (O0 y2.1.s)),(.d (bo y2.1.bad))]),((5,u5),some<|.box 27 [(di x1.2.2.Version),(oS x1.2.2.Lanes (73,g2)),(.d .nilS),(.d .nilS),(.d .nilS)]),((7,u8),some<|.box 42 (((T6 y2.2).set 1 (oS y2.2.Curve_.Pts (63,g3))).set 4 (.d .nilS))),((73,g2),oB 42 5 J7 x1.2.2.Lanes),((63,g3),oB 148 2 K4 y2.2.Curve_.Pts)]⟩ s) ?_ ?_)
 refine A5<|D2 (Ht) (fun (x2:(Int×Ref03Reader×Lane)) (g4:Nat)=>⟨T [(2,(.ptr (2,u1) 0)),(4,(.ptr (30,u4) 0)),(5,(.ptr (5,u5) 0)),(6,(di x1.1)),(7,(.ptr (7,u8) 0)),(8,(di x2.1))],G [((2,u1),some<|.box 27 [(di 0),(.d .nilS),(.d .nilS),(.d .nilS),(.d .nilS)]),((30,u4),some<|.box 187 [(.d (O0 x2.2.1.s)),(.d (bo x2.2.1.bad))]),((5,u5),some<|.box 27 [(di x1.2.2.Version),(oS x1.2.2.Lanes (73,g2)),(.d .nilS),(.d .nilS),(.d .nilS)]),((7,u8),some<|.box 42 (((T6 x2.2.2).set 1 (oS x2.2.2.Curve_.Pts (63,g4))).set 4 (.d .nilS))),((73,g2),oB 42 5 J7 x1.2.2.Lanes),((63,g4),oB 148 2 K4 x2.2.2.Curve_.Pts)]⟩) (v8.1,v8.2,(Lane.mk v5.1 (Curve.mk []) v6.1 v7.1 [])) 0 _ hy2 (B7 (K8 Z)<|sg Z<|A2 G_hit (.of Z)<|sg Z<|sg Z<|B0 (gq Z)<|O6 trivial) ?_
 intro x2 g4 z2 hz2 ez2
 unfold Ht at hz2
 refine A3<|B8<|sv Z<|sv Z<|A1<|cc Z hz2 (fun c3 hz2=> ?_)<|fun c3 hz2=> ?_
 refine B3<|A3<|A5<|B8<|sq Z<|bs hz2 fun v9 hv9 hz2=>V5 (v:= .d (i64 v9.1)) (us:= [(30,u4)]) (R9 (I0 _ _ hv9) [(30,u4)] [(30,u4)] _ (((30,u4),some<|.box 187 [(.d (O0 v9.2.s)),(.d (bo v9.2.bad))])::_) Z F3 (D3 (F9 (A9 Z G_hit) Z) G0) (C9 (A9 Z G_hit) E2) ⟨⟨_,(A9 Z G_hit), .of Z⟩,trivial⟩ (fun _ h=>h) nd1 Z Z Z) (sv Z<|A1<|Zh fun u12 hu12=>X8 (.ptr _ _) Z Z (X8 (.ptr _ _) Z Z (X8 (oS x2.2.2.Curve_.Pts (63,g4)) Z (U6 Z (gq Z) Z) (X8 (.d _) Z Z (X8 (.ptr _ _) Z Z (bs hz2 fun v10 hv10 hz2=>CN (v:= .d (i64 v10.1)) (us:= [(30,u4)]) (R9 (I0 _ _ hv10) [(30,u4)] [(30,u4)] _ (((30,u4),some<|.box 187 [(.d (O0 v10.2.s)),(.d (bo v10.2.bad))])::_) Z F3 (D3 (F9 G_hit Z) G0) (C9 G_hit E2) ⟨⟨_,G_hit, .of Z⟩,trivial⟩ (fun _ h=>h) nd1 Z Z Z) (X8 (.d _) Z Z (X8 (dl K4 [(Spot.mk v9.1 v10.1)]) Z Z (bs hz2 fun v11 hv11 hz2=>Wu K4 (63,g4) x2.2.2.Curve_.Pts [(Spot.mk v9.1 v10.1)] _ (E1<|fun _=>Z) Z (gq Z) hv11 (A9 Z<|Gm hu12) (X8 (.ptr _ _) Z Z (X8 (.ptr _ _) Z Z (Zi _ _ _ _ _ (Ps _ _) Z Z (gq Z) (nl Z) (((T6 x2.2.2).set 1 (oS v11 (63,u12))).set 4 (.d .nilS)) Z (MA<|MN (fun q=>⟨⟨by first|rfl|((generalize x2.2.2.Curve_.Pts=l0;cases l0)<;>(generalize v11=l1;cases l1)<;>rfl),q⟩,⟨by first|rfl|((generalize x2.2.2.Curve_.Pts=l0;cases l0)<;>(generalize v11=l1;cases l1)<;>rfl),q⟩,⟨by first|rfl|((generalize x2.2.2.Curve_.Pts=l0;cases l0)<;>(generalize v11=l1;cases l1)<;>rfl),q⟩⟩) ?_)))))))))))))
 refine E0<|A7 (s0:=⟨T [(2,(.ptr (2,u1) 0)),(4,(.ptr (30,u4) 0)),(5,(.ptr (5,u5) 0)),(6,(di x1.1)),(7,(.ptr (7,u8) 0)),(8,(di x2.1))],G [((2,u1),some<|.box 27 [(di 0),(.d .nilS),(.d .nilS),(.d .nilS),(.d .nilS)]),((30,u4),some<|.box 187 [(.d (O0 v10.2.s)),(.d (bo v10.2.bad))]),((5,u5),some<|.box 27 [(di x1.2.2.Version),(oS x1.2.2.Lanes (73,g2)),(.d .nilS),(.d .nilS),(.d .nilS)]),((73,g2),oB 42 5 J7 x1.2.2.Lanes),((7,u8),some<|.box 42 (((T6 x2.2.2).set 1 (oS v11 (63,u12))).set 4 (.d .nilS))),((63,u12),oB 148 2 K4 v11)]⟩) (B7 (K8 Z)<|sg Z<|sg Z<|sg Z<|B0 (gq Z)<|A2 G_hit (.of Z)<|B0 (gq Z) trivial) ?_
 refine B5<|sv Z<|sv Z<|sv Z<|A1<|D6 ?_
 cases hz2
 exact ⟨Z,u12,(B7 (K8 Z)<|A2 G_hit (.of Z)<|sg Z<|sg Z<|sg Z<|B0 (gq Z)<|B0 (gq Z) trivial)⟩
 refine C3 Z ?_
 cases hz2
 obtain rfl:=ez2 _ rfl
 refine ⟨nofun,C2 Z<|T4 ?_⟩
 exact ⟨g4,(B7 (K8 Z)<|A2 G_hit (.of Z)<|sg Z<|sg Z<|sg Z<|B0 (gq Z)<|B0 (gq Z) trivial)⟩
 rintro _ ⟨g3,q1⟩
 refine A7 q1<|B8<|sq Z<|bs hz1 fun v12 hv12 hz1=>V5 (v:= .d (.list (List.map A4 v12.1))) (us:= [(30,u4)]) (R9 (Lr _ _ hv12) [(30,u4)] [(30,u4)] _ (((30,u4),some<|.box 187 [(.d (O0 v12.2.s)),(.d (bo v12.2.bad))])::_) Z F3 (D3 (F9 (A9 Z G_hit) Z) G0) (C9 (A9 Z G_hit) E2) ⟨⟨_,(A9 Z G_hit), .of Z⟩,trivial⟩ (fun _ h=>h) nd1 Z Z Z) (sq Z<|V6 Z (gq Z) (((T6 y2.2).set 1 (oS y2.2.Curve_.Pts (63,g3))).set 4 (dl A4 v12.1)) Z (A1<|XM [(63,g3)] [(2,(.ptr (2,u1) 0)),(4,(.ptr (30,u4) 0)),(5,(.ptr (5,u5) 0)),(6,(di x1.1)),(7,(.ptr (7,u8) 0)),(66,(.ptr (30,u4) 0)),(67,(dl A4 v12.1)),(68,(.ptr (7,u8) 4))] [((7,u8),some<|.box 42 ((T6 y2.2).set 4 (dl A4 v12.1))),((30,u4),some<|.box 187 [(.d (O0 v12.2.s)),(.d (bo v12.2.bad))]),((2,u1),some<|.box 27 [(di 0),(.d .nilS),(.d .nilS),(.d .nilS),(.d .nilS)]),((5,u5),some<|.box 27 [(di x1.2.2.Version),(oS x1.2.2.Lanes (73,g2)),(.d .nilS),(.d .nilS),(.d .nilS)]),((73,g2),oB 42 5 J7 x1.2.2.Lanes)] ⟨Hc Z,Hc Z,Hc Z,Hc Z,Hc Z,Hc Z,Hc Z,Hc Z,trivial⟩ (DI G_hit (Ct (Ec Z) Gn) (.cons (Hc Z) (.cons (XN (U9<|Qd (.head _)<|gq Z) U8) (.cons (Hc Z) (.cons (Hc Z) (.cons (Hc Z) .nil))))) (Tt (gq Z) (Ct (Ec Z) Gn) (Tt (gq Z) (Ct (Ec Z) Gn) (Tt (gq Z) (Ct (Ec Z) Gn) (BA (gq Z) (Ct (Ec Z) Gn) trivial))))) (M6 fun u15 _=>sq Z<|B6 (oS x1.2.2.Lanes (73,g2)) Z (U6 Z (gq Z) Z) (sd Z (C6 Z G_hit Z Z)<|B6 (dl J7 [(Lane.mk y2.2.Kind y2.2.Curve_ y2.2.Half y2.2.Limit v12.1)]) Z Z (bs hz1 fun _ hv13 hz1=>G7 J7 (73,g2) x1.2.2.Lanes (Lane.mk y2.2.Kind y2.2.Curve_ y2.2.Half y2.2.Limit v12.1) [] _ (E1<|fun _=>Z) Z (gq Z) hv13 (sq Z<|V6 Z (gq Z) [(di x1.2.2.Version),(.sl (73,u15)),(.d .nilS),(.d .nilS),(.d .nilS)] Z (A1<|E0<|B5<|sv Z<|sv Z<|sv Z<|A1<|D6 ?_)))))))
 cases hz1
 exact ⟨Z,u15,(B7 (K8 Z)<|sg Z<|sg Z<|A2 G_hit (.box (cv<|.cons (.of (T1<|K5 hv13).symm) cw))<|K9 (gq Z) trivial)⟩
 refine C3 Z ?_
 cases hz1
 obtain rfl:=ez1 _ rfl
 refine ⟨nofun,C2 Z<|T4 ?_⟩
 exact ⟨g2,(B7 (K8 Z)<|A2 G_hit (.of Z)<|sg Z<|sg Z<|B0 (gq Z) trivial)⟩
 rintro _ ⟨g1,q2⟩
 refine A7 q2<|A3<|B8<|sq Z<|bs h fun v14 hv14 h=>V5 (v:= .d (i64 v14.1)) (us:= [(30,u4)]) (R9 (I6 _ _ _ hv14) [(30,u4)] [(30,u4)] _ (((30,u4),some<|.box 187 [(.d (O0 v14.2.s)),(.d (bo v14.2.bad))])::_) Z F3 (D3 (F9 (A9 Z G_hit) Z)<|D3 Ts G0) (C9 (A9 Z G_hit) E2) ⟨⟨_,(A9 Z G_hit), .of Z⟩,trivial⟩ (fun _ h=>h) nd1 Z Z Z) (sv Z<|A1<|bs h fun y3 hy3 h=>D0 (fun s=> ∃g5:(Nat×Nat),Sb ⟨T [(2,(.ptr (2,u1) 0)),(4,(.ptr (30,u4) 0)),(5,(.ptr (5,u5) 0))],G [((2,u1),some<|.box 27 [(di 0),(.d .nilS),(.d .nilS),(.d .nilS),(.d .nilS)]),((30,u4),some<|.box 187 [(.d (O0 y3.1.s)),(.d (bo y3.1.bad))]),((5,u5),some<|.box 27 [(di y3.2.Version),(oS y3.2.Lanes (73,g5.1)),(oS y3.2.Zones (108,g5.2)),(.d .nilS),(.d .nilS)]),((73,g5.1),oB 42 5 J7 y3.2.Lanes),((108,g5.2),oB 45 2 J2 y3.2.Zones)]⟩ s) ?_ ?_)
 refine A5<|D2 (Fm) (fun (x3:(Int×Ref03Reader×Map)) (g6:(Nat×Nat))=>⟨T [(2,(.ptr (2,u1) 0)),(4,(.ptr (30,u4) 0)),(5,(.ptr (5,u5) 0)),(10,(di x3.1))],G [((2,u1),some<|.box 27 [(di 0),(.d .nilS),(.d .nilS),(.d .nilS),(.d .nilS)]),((30,u4),some<|.box 187 [(.d (O0 x3.2.1.s)),(.d (bo x3.2.1.bad))]),((5,u5),some<|.box 27 [(di x3.2.2.Version),(oS x3.2.2.Lanes (73,g6.1)),(oS x3.2.2.Zones (108,g6.2)),(.d .nilS),(.d .nilS)]),((73,g6.1),oB 42 5 J7 x3.2.2.Lanes),((108,g6.2),oB 45 2 J2 x3.2.2.Zones)]⟩) (v14.1,v14.2,(Map.mk y1.2.Version y1.2.Lanes [] [] [])) (g1,0) _ hy3 (B7 (K8 Z)<|sg Z<|A2 G_hit (.of Z)<|sg Z<|B0 (gq Z)<|O6 trivial) ?_
 intro x3 g6 z3 hz3 ez3
 unfold Fm at hz3
 refine A3<|B8<|sv Z<|sv Z<|A1<|cc Z hz3 (fun c4 hz3=> ?_)<|fun c4 hz3=> ?_
 refine B3<|A3<|A5<|lr<|fun u19 _=>sq Z<|bs hz3 fun v15 hv15 hz3=>V5 (v:= .d (i64 v15.1)) (us:= [(30,u4)]) (R9 (I6 _ _ _ hv15) [(30,u4)] [(30,u4)] _ (((30,u4),some<|.box 187 [(.d (O0 v15.2.s)),(.d (bo v15.2.bad))])::_) Z F3 (D3 (F9 (A9 Z G_hit) Z)<|D3 Ts G0) (C9 (A9 Z G_hit) E2) ⟨⟨_,(A9 Z G_hit), .of Z⟩,trivial⟩ (fun _ h=>h) nd1 Z Z Z) (sv Z<|sm Z<|V6 Z G_hit [(.d .nilS),(di v15.1)] Z (A1<|A3<|B8<|sq Z<|bs hz3 fun v16 hv16 hz3=>V5 (v:= .d (i64 v16.1)) (us:= [(30,u4)]) (R9 (I6 _ _ _ hv16) [(30,u4)] [(30,u4)] _ (((30,u4),some<|.box 187 [(.d (O0 v16.2.s)),(.d (bo v16.2.bad))])::_) Z F3 (D3 (F9 (A9 Z<|A9 Z G_hit) Z)<|D3 Ts G0) (C9 (A9 Z<|A9 Z G_hit) E2) ⟨⟨_,(A9 Z<|A9 Z G_hit), .of Z⟩,trivial⟩ (fun _ h=>h) nd1 Z Z Z) (sv Z<|A1<|bs hz3 fun y4 hy4 hz3=>D0 (fun s=> ∃g7:Nat,Sb ⟨T [(2,(.ptr (2,u1) 0)),(4,(.ptr (30,u4) 0)),(5,(.ptr (5,u5) 0)),(10,(di x3.1)),(11,(.ptr (11,u19) 0))],G [((2,u1),some<|.box 27 [(di 0),(.d .nilS),(.d .nilS),(.d .nilS),(.d .nilS)]),((30,u4),some<|.box 187 [(.d (O0 y4.1.s)),(.d (bo y4.1.bad))]),((5,u5),some<|.box 27 [(di x3.2.2.Version),(oS x3.2.2.Lanes (73,g6.1)),(oS x3.2.2.Zones (108,g6.2)),(.d .nilS),(.d .nilS)]),((11,u19),some<|.box 45 [(oS y4.2.Parts (102,g7)),(di y4.2.Signal_)]),((73,g6.1),oB 42 5 J7 x3.2.2.Lanes),((108,g6.2),oB 45 2 J2 x3.2.2.Zones),((102,g7),oB 91 4 G8 y4.2.Parts)]⟩ s) ?_ ?_)))
 refine A5<|D2 (Hr) (fun (x4:(Int×Ref03Reader×Zone)) (g8:Nat)=>⟨T [(2,(.ptr (2,u1) 0)),(4,(.ptr (30,u4) 0)),(5,(.ptr (5,u5) 0)),(10,(di x3.1)),(11,(.ptr (11,u19) 0)),(12,(di x4.1))],G [((2,u1),some<|.box 27 [(di 0),(.d .nilS),(.d .nilS),(.d .nilS),(.d .nilS)]),((30,u4),some<|.box 187 [(.d (O0 x4.2.1.s)),(.d (bo x4.2.1.bad))]),((5,u5),some<|.box 27 [(di x3.2.2.Version),(oS x3.2.2.Lanes (73,g6.1)),(oS x3.2.2.Zones (108,g6.2)),(.d .nilS),(.d .nilS)]),((11,u19),some<|.box 45 [(oS x4.2.2.Parts (102,g8)),(di x4.2.2.Signal_)]),((73,g6.1),oB 42 5 J7 x3.2.2.Lanes),((108,g6.2),oB 45 2 J2 x3.2.2.Zones),((102,g8),oB 91 4 G8 x4.2.2.Parts)]⟩) (v16.1,v16.2,(Zone.mk [] v15.1)) 0 _ hy4 (B7 (K8 Z)<|sg Z<|A2 G_hit (.of Z)<|sg Z<|sg Z<|B0 (gq Z)<|B0 (gq Z)<|O6 trivial) ?_
 intro x4 g8 z4 hz4 ez4
 unfold Hr at hz4
 refine A3<|B8<|sv Z<|sv Z<|A1<|cc Z hz4 (fun c5 hz4=> ?_)<|fun c5 hz4=> ?_
 refine B3<|A3<|A5<|Zh fun u22 hu22=>X8 (.ptr _ _) Z Z (X8 (oS x4.2.2.Parts (102,g8)) Z (U6 Z (gq Z) Z) (X8 (.ptr _ _) Z Z (bs hz4 fun v17 hv17 hz4=>CN (v:= .d (i64 v17.1)) (us:= [(30,u4)]) (R9 (I6 _ _ _ hv17) [(30,u4)] [(30,u4)] _ (((30,u4),some<|.box 187 [(.d (O0 v17.2.s)),(.d (bo v17.2.bad))])::_) Z F3 (D3 (F9 (A9 Z G_hit) Z)<|D3 Ts G0) (C9 (A9 Z G_hit) E2) ⟨⟨_,(A9 Z G_hit), .of Z⟩,trivial⟩ (fun _ h=>h) nd1 Z Z Z) (X8 (.ptr _ _) Z Z (bs hz4 fun v18 hv18 hz4=>CN (v:= .d (i64 v18.1)) (us:= [(30,u4)]) (R9 (I0 _ _ hv18) [(30,u4)] [(30,u4)] _ (((30,u4),some<|.box 187 [(.d (O0 v18.2.s)),(.d (bo v18.2.bad))])::_) Z F3 (D3 (F9 G_hit Z) G0) (C9 G_hit E2) ⟨⟨_,G_hit, .of Z⟩,trivial⟩ (fun _ h=>h) nd1 Z Z Z) (X8 (.ptr _ _) Z Z (bs hz4 fun v19 hv19 hz4=>CN (v:= .d (i64 v19.1)) (us:= [(30,u4)]) (R9 (I0 _ _ hv19) [(30,u4)] [(30,u4)] _ (((30,u4),some<|.box 187 [(.d (O0 v19.2.s)),(.d (bo v19.2.bad))])::_) Z F3 (D3 (F9 G_hit Z) G0) (C9 G_hit E2) ⟨⟨_,G_hit, .of Z⟩,trivial⟩ (fun _ h=>h) nd1 Z Z Z) (X8 (.ptr _ _) Z Z (bs hz4 fun v20 hv20 hz4=>CN (v:= .d (i64 v20.1)) (us:= [(30,u4)]) (R9 (I6 _ _ _ hv20) [(30,u4)] [(30,u4)] _ (((30,u4),some<|.box 187 [(.d (O0 v20.2.s)),(.d (bo v20.2.bad))])::_) Z F3 (D3 (F9 G_hit Z)<|D3 Ts G0) (C9 G_hit E2) ⟨⟨_,G_hit, .of Z⟩,trivial⟩ (fun _ h=>h) nd1 Z Z Z) (X8 (.d _) Z Z (X8 (dl G8 [(Part.mk v17.1 v18.1 v19.1 v20.1)]) Z Z (bs hz4 fun v21 hv21 hz4=>Wu G8 (102,g8) x4.2.2.Parts [(Part.mk v17.1 v18.1 v19.1 v20.1)] _ (E1<|fun _=>Z) Z (gq Z) hv21 (A9 Z<|A9 Z<|A9 Z<|A9 Z<|Gm hu22) (X8 (.ptr _ _) Z Z (Zi _ _ _ _ _ (Ps _ _) Z Z (gq Z) (nl Z) [(oS v21 (102,u22)),(di x4.2.2.Signal_)] Z (MA<|MN (fun q=>⟨⟨by first|rfl|((generalize x4.2.2.Parts=l0;cases l0)<;>(generalize v21=l1;cases l1)<;>rfl),q⟩,⟨by first|rfl|((generalize x4.2.2.Parts=l0;cases l0)<;>(generalize v21=l1;cases l1)<;>rfl),q⟩,⟨by first|rfl|((generalize x4.2.2.Parts=l0;cases l0)<;>(generalize v21=l1;cases l1)<;>rfl),q⟩⟩) ?_)))))))))))))))
 refine E0<|A7 (s0:=⟨T [(2,(.ptr (2,u1) 0)),(4,(.ptr (30,u4) 0)),(5,(.ptr (5,u5) 0)),(10,(di x3.1)),(11,(.ptr (11,u19) 0)),(12,(di x4.1))],G [((2,u1),some<|.box 27 [(di 0),(.d .nilS),(.d .nilS),(.d .nilS),(.d .nilS)]),((30,u4),some<|.box 187 [(.d (O0 v20.2.s)),(.d (bo v20.2.bad))]),((5,u5),some<|.box 27 [(di x3.2.2.Version),(oS x3.2.2.Lanes (73,g6.1)),(oS x3.2.2.Zones (108,g6.2)),(.d .nilS),(.d .nilS)]),((73,g6.1),oB 42 5 J7 x3.2.2.Lanes),((108,g6.2),oB 45 2 J2 x3.2.2.Zones),((11,u19),some<|.box 45 [(oS v21 (102,u22)),(di x4.2.2.Signal_)]),((102,u22),oB 91 4 G8 v21)]⟩) (B7 (K8 Z)<|sg Z<|sg Z<|sg Z<|B0 (gq Z)<|B0 (gq Z)<|A2 G_hit (.of Z)<|B0 (gq Z) trivial) ?_
 refine B5<|sv Z<|sv Z<|sv Z<|A1<|D6 ?_
 cases hz4
 exact ⟨Z,u22,(B7 (K8 Z)<|A2 G_hit (.of Z)<|sg Z<|sg Z<|sg Z<|B0 (gq Z)<|B0 (gq Z)<|B0 (gq Z) trivial)⟩
 refine C3 Z ?_
 cases hz4
 obtain rfl:=ez4 _ rfl
 refine ⟨nofun,C2 Z<|T4 ?_⟩
 exact ⟨g8,(B7 (K8 Z)<|A2 G_hit (.of Z)<|sg Z<|sg Z<|sg Z<|B0 (gq Z)<|B0 (gq Z)<|B0 (gq Z) trivial)⟩
 rintro _ ⟨g7,q3⟩
 refine A7 q3<|XM [(102,g7)] [(2,(.ptr (2,u1) 0)),(4,(.ptr (30,u4) 0)),(5,(.ptr (5,u5) 0)),(10,(di x3.1)),(11,(.ptr (11,u19) 0))] [((2,u1),some<|.box 27 [(di 0),(.d .nilS),(.d .nilS),(.d .nilS),(.d .nilS)]),((30,u4),some<|.box 187 [(.d (O0 y4.1.s)),(.d (bo y4.1.bad))]),((5,u5),some<|.box 27 [(di x3.2.2.Version),(oS x3.2.2.Lanes (73,g6.1)),(oS x3.2.2.Zones (108,g6.2)),(.d .nilS),(.d .nilS)]),((11,u19),some<|.box 45 [(dl G8 y4.2.Parts),(di y4.2.Signal_)]),((73,g6.1),oB 42 5 J7 x3.2.2.Lanes),((108,g6.2),oB 45 2 J2 x3.2.2.Zones)] ⟨Hc Z,Hc Z,Hc Z,Hc Z,Hc Z,trivial⟩ (Tt G_hit (Ct (Ec Z) Gn)<|Tt (gq Z) (Ct (Ec Z) Gn) (Tt (gq Z) (Ct (Ec Z) Gn) (DI (gq Z) (Ct (Ec Z) Gn) (.cons (XN (U9<|Qd (.head _)<|gq Z) U8) (.cons (Hc Z) .nil)) (BA (gq Z) (Ct (Ec Z) Gn) (BA (gq Z) (Ct (Ec Z) Gn) trivial))))) (M6 fun u24 _=>sq Z<|B6 (oS x3.2.2.Zones (108,g6.2)) Z (U6 Z (gq Z) Z) (sd Z (C6 Z (gq Z) Z Z)<|B6 (dl J2 [y4.2]) Z Z (bs hz3 fun _ hv22 hz3=>G7 J2 (108,g6.2) x3.2.2.Zones y4.2 [] _ (E1<|fun _=>Z) Z (gq Z) hv22 (sq Z<|V6 Z (gq Z) [(di x3.2.2.Version),(oS x3.2.2.Lanes (73,g6.1)),(.sl (108,u24)),(.d .nilS),(.d .nilS)] Z (A1<|E0<|B5<|sv Z<|sv Z<|sv Z<|A1<|D6 ?_)))))
 cases hz3
 exact ⟨Z,(g6.1,u24),(B7 (K8 Z)<|sg Z<|sg Z<|A2 G_hit (.box (cv<|cv<|.cons (.of (T1<|K5 hv22).symm) cw))<|B0 (gq Z)<|K9 (gq Z) trivial)⟩
 refine C3 Z ?_
 cases hz3
 obtain rfl:=ez3 _ rfl
 refine ⟨nofun,C2 Z<|T4 ?_⟩
 exact ⟨(g6.1,g6.2),(B7 (K8 Z)<|A2 G_hit (.of Z)<|sg Z<|sg Z<|B0 (gq Z)<|B0 (gq Z) trivial)⟩
 rintro _ ⟨g5,q4⟩
 refine A7 q4<|A3<|B8<|sq Z<|bs h fun v23 hv23 h=>V5 (v:= .d (i64 v23.1)) (us:= [(30,u4)]) (R9 (I6 _ _ _ hv23) [(30,u4)] [(30,u4)] _ (((30,u4),some<|.box 187 [(.d (O0 v23.2.s)),(.d (bo v23.2.bad))])::_) Z F3 (D3 (F9 (A9 Z G_hit) Z)<|D3 Ts G0) (C9 (A9 Z G_hit) E2) ⟨⟨_,(A9 Z G_hit), .of Z⟩,trivial⟩ (fun _ h=>h) nd1 Z Z Z) (sv Z<|A1<|bs h fun y5 hy5 h=>D0 (fun s=> ∃g9:(Nat×Nat×Nat),Sb ⟨T [(2,(.ptr (2,u1) 0)),(4,(.ptr (30,u4) 0)),(5,(.ptr (5,u5) 0))],G [((2,u1),some<|.box 27 [(di 0),(.d .nilS),(.d .nilS),(.d .nilS),(.d .nilS)]),((30,u4),some<|.box 187 [(.d (O0 y5.1.s)),(.d (bo y5.1.bad))]),((5,u5),some<|.box 27 [(di y5.2.Version),(oS y5.2.Lanes (73,g9.1)),(oS y5.2.Zones (108,g9.2.1)),(oS y5.2.Signals (140,g9.2.2)),(.d .nilS)]),((73,g9.1),oB 42 5 J7 y5.2.Lanes),((108,g9.2.1),oB 45 2 J2 y5.2.Zones),((140,g9.2.2),oB 48 2 J9 y5.2.Signals)]⟩ s) ?_ ?_)
 refine A5<|D2 (Fl) (fun (x5:(Int×Ref03Reader×Map)) (g10:(Nat×Nat×Nat))=>⟨T [(2,(.ptr (2,u1) 0)),(4,(.ptr (30,u4) 0)),(5,(.ptr (5,u5) 0)),(13,(di x5.1))],G [((2,u1),some<|.box 27 [(di 0),(.d .nilS),(.d .nilS),(.d .nilS),(.d .nilS)]),((30,u4),some<|.box 187 [(.d (O0 x5.2.1.s)),(.d (bo x5.2.1.bad))]),((5,u5),some<|.box 27 [(di x5.2.2.Version),(oS x5.2.2.Lanes (73,g10.1)),(oS x5.2.2.Zones (108,g10.2.1)),(oS x5.2.2.Signals (140,g10.2.2)),(.d .nilS)]),((73,g10.1),oB 42 5 J7 x5.2.2.Lanes),((108,g10.2.1),oB 45 2 J2 x5.2.2.Zones),((140,g10.2.2),oB 48 2 J9 x5.2.2.Signals)]⟩) (v23.1,v23.2,(Map.mk y3.2.Version y3.2.Lanes y3.2.Zones [] [])) (g5.1,g5.2,0) _ hy5 (B7 (K8 Z)<|sg Z<|A2 G_hit (.of Z)<|sg Z<|B0 (gq Z)<|B0 (gq Z)<|O6 trivial) ?_
 intro x5 g10 z5 hz5 ez5
 unfold Fl at hz5
 refine A3<|B8<|sv Z<|sv Z<|A1<|cc Z hz5 (fun c6 hz5=> ?_)<|fun c6 hz5=> ?_
 refine B3<|A3<|A5<|lr<|fun u28 _=>sq Z<|bs hz5 fun v24 hv24 hz5=>V5 (v:= .d (i64 v24.1)) (us:= [(30,u4)]) (R9 (I0 _ _ hv24) [(30,u4)] [(30,u4)] _ (((30,u4),some<|.box 187 [(.d (O0 v24.2.s)),(.d (bo v24.2.bad))])::_) Z F3 (D3 (F9 (A9 Z G_hit) Z) G0) (C9 (A9 Z G_hit) E2) ⟨⟨_,(A9 Z G_hit), .of Z⟩,trivial⟩ (fun _ h=>h) nd1 Z Z Z) (sv Z<|sm Z<|V6 Z G_hit [(di v24.1),(.d .nilS)] Z (A1<|A3<|B8<|sq Z<|bs hz5 fun v25 hv25 hz5=>V5 (v:= .d (i64 v25.1)) (us:= [(30,u4)]) (R9 (I6 _ _ _ hv25) [(30,u4)] [(30,u4)] _ (((30,u4),some<|.box 187 [(.d (O0 v25.2.s)),(.d (bo v25.2.bad))])::_) Z F3 (D3 (F9 (A9 Z<|A9 Z G_hit) Z)<|D3 Ts G0) (C9 (A9 Z<|A9 Z G_hit) E2) ⟨⟨_,(A9 Z<|A9 Z G_hit), .of Z⟩,trivial⟩ (fun _ h=>h) nd1 Z Z Z) (sv Z<|A1<|bs hz5 fun y6 hy6 hz5=>D0 (fun s=> ∃g11:Nat,Sb ⟨T [(2,(.ptr (2,u1) 0)),(4,(.ptr (30,u4) 0)),(5,(.ptr (5,u5) 0)),(13,(di x5.1)),(14,(.ptr (14,u28) 0))],G [((2,u1),some<|.box 27 [(di 0),(.d .nilS),(.d .nilS),(.d .nilS),(.d .nilS)]),((30,u4),some<|.box 187 [(.d (O0 y6.1.s)),(.d (bo y6.1.bad))]),((5,u5),some<|.box 27 [(di x5.2.2.Version),(oS x5.2.2.Lanes (73,g10.1)),(oS x5.2.2.Zones (108,g10.2.1)),(oS x5.2.2.Signals (140,g10.2.2)),(.d .nilS)]),((14,u28),some<|.box 48 [(di y6.2.Offset),(oS y6.2.Phases (134,g11))]),((73,g10.1),oB 42 5 J7 x5.2.2.Lanes),((108,g10.2.1),oB 45 2 J2 x5.2.2.Zones),((140,g10.2.2),oB 48 2 J9 x5.2.2.Signals),((134,g11),oB 97 2 G2 y6.2.Phases)]⟩ s) ?_ ?_)))
 refine A5<|D2 (Hq) (fun (x6:(Int×Ref03Reader×Signal)) (g12:Nat)=>⟨T [(2,(.ptr (2,u1) 0)),(4,(.ptr (30,u4) 0)),(5,(.ptr (5,u5) 0)),(13,(di x5.1)),(14,(.ptr (14,u28) 0)),(15,(di x6.1))],G [((2,u1),some<|.box 27 [(di 0),(.d .nilS),(.d .nilS),(.d .nilS),(.d .nilS)]),((30,u4),some<|.box 187 [(.d (O0 x6.2.1.s)),(.d (bo x6.2.1.bad))]),((5,u5),some<|.box 27 [(di x5.2.2.Version),(oS x5.2.2.Lanes (73,g10.1)),(oS x5.2.2.Zones (108,g10.2.1)),(oS x5.2.2.Signals (140,g10.2.2)),(.d .nilS)]),((14,u28),some<|.box 48 [(di x6.2.2.Offset),(oS x6.2.2.Phases (134,g12))]),((73,g10.1),oB 42 5 J7 x5.2.2.Lanes),((108,g10.2.1),oB 45 2 J2 x5.2.2.Zones),((140,g10.2.2),oB 48 2 J9 x5.2.2.Signals),((134,g12),oB 97 2 G2 x6.2.2.Phases)]⟩) (v25.1,v25.2,(Signal.mk v24.1 [])) 0 _ hy6 (B7 (K8 Z)<|sg Z<|A2 G_hit (.of Z)<|sg Z<|sg Z<|B0 (gq Z)<|B0 (gq Z)<|B0 (gq Z)<|O6 trivial) ?_
 intro x6 g12 z6 hz6 ez6
 unfold Hq at hz6
 refine A3<|B8<|sv Z<|sv Z<|A1<|cc Z hz6 (fun c7 hz6=> ?_)<|fun c7 hz6=> ?_
 refine B3<|A3<|A5<|B8<|sq Z<|bs hz6 fun v26 hv26 hz6=>V5 (v:= .d (i64 v26.1)) (us:= [(30,u4)]) (R9 (I0 _ _ hv26) [(30,u4)] [(30,u4)] _ (((30,u4),some<|.box 187 [(.d (O0 v26.2.s)),(.d (bo v26.2.bad))])::_) Z F3 (D3 (F9 (A9 Z G_hit) Z) G0) (C9 (A9 Z G_hit) E2) ⟨⟨_,(A9 Z G_hit), .of Z⟩,trivial⟩ (fun _ h=>h) nd1 Z Z Z) (sv Z<|A1<|Zh fun u32 hu32=>X8 (.ptr _ _) Z Z (X8 (oS x6.2.2.Phases (134,g12)) Z (U6 Z (gq Z) Z) (X8 (.d _) Z Z (X8 (.ptr _ _) Z Z (bs hz6 fun v27 hv27 hz6=>CN (v:= .d (.list (List.map A4 v27.1))) (us:= [(30,u4)]) (R9 (Lr _ _ hv27) [(30,u4)] [(30,u4)] _ (((30,u4),some<|.box 187 [(.d (O0 v27.2.s)),(.d (bo v27.2.bad))])::_) Z F3 (D3 (F9 G_hit Z) G0) (C9 G_hit E2) ⟨⟨_,G_hit, .of Z⟩,trivial⟩ (fun _ h=>h) nd1 Z Z Z) (X8 (.d _) Z Z (X8 (dl G2 [(Phase.mk v26.1 v27.1)]) Z Z (bs hz6 fun v28 hv28 hz6=>Wu G2 (134,g12) x6.2.2.Phases [(Phase.mk v26.1 v27.1)] _ (E1<|fun _=>Z) Z (gq Z) hv28 (A9 Z<|Gm hu32) (X8 (.ptr _ _) Z Z (Zi _ _ _ _ _ (Ps _ _) Z Z (gq Z) (nl Z) [(di x6.2.2.Offset),(oS v28 (134,u32))] Z (MA<|MN (fun q=>⟨⟨by first|rfl|((generalize x6.2.2.Phases=l0;cases l0)<;>(generalize v28=l1;cases l1)<;>rfl),q⟩,⟨by first|rfl|((generalize x6.2.2.Phases=l0;cases l0)<;>(generalize v28=l1;cases l1)<;>rfl),q⟩,⟨by first|rfl|((generalize x6.2.2.Phases=l0;cases l0)<;>(generalize v28=l1;cases l1)<;>rfl),q⟩⟩) ?_)))))))))))
 refine E0<|A7 (s0:=⟨T [(2,(.ptr (2,u1) 0)),(4,(.ptr (30,u4) 0)),(5,(.ptr (5,u5) 0)),(13,(di x5.1)),(14,(.ptr (14,u28) 0)),(15,(di x6.1))],G [((2,u1),some<|.box 27 [(di 0),(.d .nilS),(.d .nilS),(.d .nilS),(.d .nilS)]),((30,u4),some<|.box 187 [(.d (O0 v27.2.s)),(.d (bo v27.2.bad))]),((5,u5),some<|.box 27 [(di x5.2.2.Version),(oS x5.2.2.Lanes (73,g10.1)),(oS x5.2.2.Zones (108,g10.2.1)),(oS x5.2.2.Signals (140,g10.2.2)),(.d .nilS)]),((73,g10.1),oB 42 5 J7 x5.2.2.Lanes),((108,g10.2.1),oB 45 2 J2 x5.2.2.Zones),((140,g10.2.2),oB 48 2 J9 x5.2.2.Signals),((14,u28),some<|.box 48 [(di x6.2.2.Offset),(oS v28 (134,u32))]),((134,u32),oB 97 2 G2 v28)]⟩) (B7 (K8 Z)<|sg Z<|sg Z<|sg Z<|B0 (gq Z)<|B0 (gq Z)<|B0 (gq Z)<|A2 G_hit (.of Z)<|B0 (gq Z) trivial) ?_
 refine B5<|sv Z<|sv Z<|sv Z<|A1<|D6 ?_
 cases hz6
 exact ⟨Z,u32,(B7 (K8 Z)<|A2 G_hit (.of Z)<|sg Z<|sg Z<|sg Z<|B0 (gq Z)<|B0 (gq Z)<|B0 (gq Z)<|B0 (gq Z) trivial)⟩
 refine C3 Z ?_
 cases hz6
 obtain rfl:=ez6 _ rfl
 refine ⟨nofun,C2 Z<|T4 ?_⟩
 exact ⟨g12,(B7 (K8 Z)<|A2 G_hit (.of Z)<|sg Z<|sg Z<|sg Z<|B0 (gq Z)<|B0 (gq Z)<|B0 (gq Z)<|B0 (gq Z) trivial)⟩
 rintro _ ⟨g11,q5⟩
 refine A7 q5<|XM [(134,g11)] [(2,(.ptr (2,u1) 0)),(4,(.ptr (30,u4) 0)),(5,(.ptr (5,u5) 0)),(13,(di x5.1)),(14,(.ptr (14,u28) 0))] [((2,u1),some<|.box 27 [(di 0),(.d .nilS),(.d .nilS),(.d .nilS),(.d .nilS)]),((30,u4),some<|.box 187 [(.d (O0 y6.1.s)),(.d (bo y6.1.bad))]),((5,u5),some<|.box 27 [(di x5.2.2.Version),(oS x5.2.2.Lanes (73,g10.1)),(oS x5.2.2.Zones (108,g10.2.1)),(oS x5.2.2.Signals (140,g10.2.2)),(.d .nilS)]),((14,u28),some<|.box 48 [(di y6.2.Offset),(dl G2 y6.2.Phases)]),((73,g10.1),oB 42 5 J7 x5.2.2.Lanes),((108,g10.2.1),oB 45 2 J2 x5.2.2.Zones),((140,g10.2.2),oB 48 2 J9 x5.2.2.Signals)] ⟨Hc Z,Hc Z,Hc Z,Hc Z,Hc Z,trivial⟩ (Tt G_hit (Ct (Ec Z) Gn)<|Tt (gq Z) (Ct (Ec Z) Gn) (Tt (gq Z) (Ct (Ec Z) Gn) (DI (gq Z) (Ct (Ec Z) Gn) (.cons (Hc Z) (.cons (XN (U9<|Qd (.head _)<|gq Z) U8) .nil)) (BA (gq Z) (Ct (Ec Z) Gn) (BA (gq Z) (Ct (Ec Z) Gn) (BA (gq Z) (Ct (Ec Z) Gn) trivial)))))) (M6 fun u34 _=>sq Z<|B6 (oS x5.2.2.Signals (140,g10.2.2)) Z (U6 Z (gq Z) Z) (sd Z (C6 Z (gq Z) Z Z)<|B6 (dl J9 [y6.2]) Z Z (bs hz5 fun _ hv29 hz5=>G7 J9 (140,g10.2.2) x5.2.2.Signals y6.2 [] _ (E1<|fun _=>Z) Z (gq Z) hv29 (sq Z<|V6 Z (gq Z) [(di x5.2.2.Version),(oS x5.2.2.Lanes (73,g10.1)),(oS x5.2.2.Zones (108,g10.2.1)),(.sl (140,u34)),(.d .nilS)] Z (A1<|E0<|B5<|sv Z<|sv Z<|sv Z<|A1<|D6 ?_)))))
 cases hz5
 exact ⟨Z,(g10.1,g10.2.1,u34),(B7 (K8 Z)<|sg Z<|sg Z<|A2 G_hit (.box (cv<|cv<|cv<|.cons (.of (T1<|K5 hv29).symm) cw))<|B0 (gq Z)<|B0 (gq Z)<|K9 (gq Z) trivial)⟩
 refine C3 Z ?_
 cases hz5
 obtain rfl:=ez5 _ rfl
 refine ⟨nofun,C2 Z<|T4 ?_⟩
 exact ⟨(g10.1,g10.2.1,g10.2.2),(B7 (K8 Z)<|A2 G_hit (.of Z)<|sg Z<|sg Z<|B0 (gq Z)<|B0 (gq Z)<|B0 (gq Z) trivial)⟩
 rintro _ ⟨g9,q6⟩
 refine A7 q6<|A3<|B8<|sq Z<|bs h fun v30 hv30 h=>V5 (v:= .d (i64 v30.1)) (us:= [(30,u4)]) (R9 (I6 _ _ _ hv30) [(30,u4)] [(30,u4)] _ (((30,u4),some<|.box 187 [(.d (O0 v30.2.s)),(.d (bo v30.2.bad))])::_) Z F3 (D3 (F9 (A9 Z G_hit) Z)<|D3 Ts G0) (C9 (A9 Z G_hit) E2) ⟨⟨_,(A9 Z G_hit), .of Z⟩,trivial⟩ (fun _ h=>h) nd1 Z Z Z) (sv Z<|A1<|bs h fun y7 hy7 h=>D0 (fun s=> ∃g13:(Nat×Nat×Nat×Nat),Sb ⟨T [(2,(.ptr (2,u1) 0)),(4,(.ptr (30,u4) 0)),(5,(.ptr (5,u5) 0))],G [((2,u1),some<|.box 27 [(di 0),(.d .nilS),(.d .nilS),(.d .nilS),(.d .nilS)]),((30,u4),some<|.box 187 [(.d (O0 y7.1.s)),(.d (bo y7.1.bad))]),((5,u5),some<|.box 27 [(di y7.2.Version),(oS y7.2.Lanes (73,g13.1)),(oS y7.2.Zones (108,g13.2.1)),(oS y7.2.Signals (140,g13.2.2.1)),(oS y7.2.Works (164,g13.2.2.2))]),((73,g13.1),oB 42 5 J7 y7.2.Lanes),((108,g13.2.1),oB 45 2 J2 y7.2.Zones),((140,g13.2.2.1),oB 48 2 J9 y7.2.Signals),((164,g13.2.2.2),oB 50 6 R1 y7.2.Works)]⟩ s) ?_ ?_)
 refine A5<|D2 (Fk) (fun (x7:(Int×Ref03Reader×Map)) (g14:(Nat×Nat×Nat×Nat))=>⟨T [(2,(.ptr (2,u1) 0)),(4,(.ptr (30,u4) 0)),(5,(.ptr (5,u5) 0)),(17,(di x7.1))],G [((2,u1),some<|.box 27 [(di 0),(.d .nilS),(.d .nilS),(.d .nilS),(.d .nilS)]),((30,u4),some<|.box 187 [(.d (O0 x7.2.1.s)),(.d (bo x7.2.1.bad))]),((5,u5),some<|.box 27 [(di x7.2.2.Version),(oS x7.2.2.Lanes (73,g14.1)),(oS x7.2.2.Zones (108,g14.2.1)),(oS x7.2.2.Signals (140,g14.2.2.1)),(oS x7.2.2.Works (164,g14.2.2.2))]),((73,g14.1),oB 42 5 J7 x7.2.2.Lanes),((108,g14.2.1),oB 45 2 J2 x7.2.2.Zones),((140,g14.2.2.1),oB 48 2 J9 x7.2.2.Signals),((164,g14.2.2.2),oB 50 6 R1 x7.2.2.Works)]⟩) (v30.1,v30.2,(Map.mk y5.2.Version y5.2.Lanes y5.2.Zones y5.2.Signals [])) (g9.1,g9.2.1,g9.2.2,0) _ hy7 (B7 (K8 Z)<|sg Z<|A2 G_hit (.of Z)<|sg Z<|B0 (gq Z)<|B0 (gq Z)<|B0 (gq Z)<|O6 trivial) ?_
 intro x7 g14 z7 hz7 ez7
 unfold Fk at hz7
 refine A3<|B8<|sv Z<|sv Z<|A1<|cc Z hz7 (fun c8 hz7=> ?_)<|fun c8 hz7=> ?_
 refine B3<|A3<|A5<|Zh fun u38 hu38=>X8 (.ptr _ _) Z Z (X8 (oS x7.2.2.Works (164,g14.2.2.2)) Z (U6 Z (gq Z) Z) (X8 (.ptr _ _) Z Z (bs hz7 fun v31 hv31 hz7=>CN (v:= .d (i64 v31.1)) (us:= [(30,u4)]) (R9 (I6 _ _ _ hv31) [(30,u4)] [(30,u4)] _ (((30,u4),some<|.box 187 [(.d (O0 v31.2.s)),(.d (bo v31.2.bad))])::_) Z F3 (D3 (F9 (A9 Z G_hit) Z)<|D3 Ts G0) (C9 (A9 Z G_hit) E2) ⟨⟨_,(A9 Z G_hit), .of Z⟩,trivial⟩ (fun _ h=>h) nd1 Z Z Z) (X8 (.ptr _ _) Z Z (bs hz7 fun v32 hv32 hz7=>CN (v:= .d (i64 v32.1)) (us:= [(30,u4)]) (R9 (I0 _ _ hv32) [(30,u4)] [(30,u4)] _ (((30,u4),some<|.box 187 [(.d (O0 v32.2.s)),(.d (bo v32.2.bad))])::_) Z F3 (D3 (F9 G_hit Z) G0) (C9 G_hit E2) ⟨⟨_,G_hit, .of Z⟩,trivial⟩ (fun _ h=>h) nd1 Z Z Z) (X8 (.ptr _ _) Z Z (bs hz7 fun v33 hv33 hz7=>CN (v:= .d (i64 v33.1)) (us:= [(30,u4)]) (R9 (I0 _ _ hv33) [(30,u4)] [(30,u4)] _ (((30,u4),some<|.box 187 [(.d (O0 v33.2.s)),(.d (bo v33.2.bad))])::_) Z F3 (D3 (F9 G_hit Z) G0) (C9 G_hit E2) ⟨⟨_,G_hit, .of Z⟩,trivial⟩ (fun _ h=>h) nd1 Z Z Z) (X8 (.ptr _ _) Z Z (bs hz7 fun v34 hv34 hz7=>CN (v:= .d (i64 v34.1)) (us:= [(30,u4)]) (R9 (I0 _ _ hv34) [(30,u4)] [(30,u4)] _ (((30,u4),some<|.box 187 [(.d (O0 v34.2.s)),(.d (bo v34.2.bad))])::_) Z F3 (D3 (F9 G_hit Z) G0) (C9 G_hit E2) ⟨⟨_,G_hit, .of Z⟩,trivial⟩ (fun _ h=>h) nd1 Z Z Z) (X8 (.ptr _ _) Z Z (bs hz7 fun v35 hv35 hz7=>CN (v:= .d (i64 v35.1)) (us:= [(30,u4)]) (R9 (I0 _ _ hv35) [(30,u4)] [(30,u4)] _ (((30,u4),some<|.box 187 [(.d (O0 v35.2.s)),(.d (bo v35.2.bad))])::_) Z F3 (D3 (F9 G_hit Z) G0) (C9 G_hit E2) ⟨⟨_,G_hit, .of Z⟩,trivial⟩ (fun _ h=>h) nd1 Z Z Z) (X8 (.ptr _ _) Z Z (bs hz7 fun v36 hv36 hz7=>CN (v:= .d (i64 v36.1)) (us:= [(30,u4)]) (R9 (I0 _ _ hv36) [(30,u4)] [(30,u4)] _ (((30,u4),some<|.box 187 [(.d (O0 v36.2.s)),(.d (bo v36.2.bad))])::_) Z F3 (D3 (F9 G_hit Z) G0) (C9 G_hit E2) ⟨⟨_,G_hit, .of Z⟩,trivial⟩ (fun _ h=>h) nd1 Z Z Z) (X8 (.d _) Z Z (X8 (dl R1 [(Work.mk v31.1 v32.1 v33.1 v34.1 v35.1 v36.1)]) Z Z (bs hz7 fun v37 hv37 hz7=>Wu R1 (164,g14.2.2.2) x7.2.2.Works [(Work.mk v31.1 v32.1 v33.1 v34.1 v35.1 v36.1)] _ (E1<|fun _=>Z) Z (gq Z) hv37 (A9 Z<|A9 Z<|A9 Z<|A9 Z<|A9 Z<|A9 Z<|Gm hu38) (X8 (.ptr _ _) Z Z (Zi _ _ _ _ _ (Ps _ _) Z Z (gq Z) (nl Z) [(di x7.2.2.Version),(oS x7.2.2.Lanes (73,g14.1)),(oS x7.2.2.Zones (108,g14.2.1)),(oS x7.2.2.Signals (140,g14.2.2.1)),(oS v37 (164,u38))] Z (MA<|MN (fun q=>⟨⟨by first|rfl|((generalize x7.2.2.Works=l0;cases l0)<;>(generalize v37=l1;cases l1)<;>rfl),q⟩,⟨by first|rfl|((generalize x7.2.2.Works=l0;cases l0)<;>(generalize v37=l1;cases l1)<;>rfl),q⟩,⟨by first|rfl|((generalize x7.2.2.Works=l0;cases l0)<;>(generalize v37=l1;cases l1)<;>rfl),q⟩⟩) ?_)))))))))))))))))))
 refine E0<|A7 (s0:=⟨T [(2,(.ptr (2,u1) 0)),(4,(.ptr (30,u4) 0)),(5,(.ptr (5,u5) 0)),(17,(di x7.1))],G [((2,u1),some<|.box 27 [(di 0),(.d .nilS),(.d .nilS),(.d .nilS),(.d .nilS)]),((30,u4),some<|.box 187 [(.d (O0 v36.2.s)),(.d (bo v36.2.bad))]),((5,u5),some<|.box 27 [(di x7.2.2.Version),(oS x7.2.2.Lanes (73,g14.1)),(oS x7.2.2.Zones (108,g14.2.1)),(oS x7.2.2.Signals (140,g14.2.2.1)),(oS v37 (164,u38))]),((73,g14.1),oB 42 5 J7 x7.2.2.Lanes),((108,g14.2.1),oB 45 2 J2 x7.2.2.Zones),((140,g14.2.2.1),oB 48 2 J9 x7.2.2.Signals),((164,u38),oB 50 6 R1 v37)]⟩) (B7 (K8 Z)<|sg Z<|sg Z<|A2 G_hit (.of Z)<|B0 (gq Z)<|B0 (gq Z)<|B0 (gq Z)<|B0 (gq Z) trivial) ?_
 refine B5<|sv Z<|sv Z<|sv Z<|A1<|D6 ?_
 cases hz7
 exact ⟨Z,(g14.1,g14.2.1,g14.2.2.1,u38),(B7 (K8 Z)<|A2 G_hit (.of Z)<|sg Z<|sg Z<|B0 (gq Z)<|B0 (gq Z)<|B0 (gq Z)<|B0 (gq Z) trivial)⟩
 refine C3 Z ?_
 cases hz7
 obtain rfl:=ez7 _ rfl
 refine ⟨nofun,C2 Z<|T4 ?_⟩
 exact ⟨(g14.1,g14.2.1,g14.2.2.1,g14.2.2.2),(B7 (K8 Z)<|A2 G_hit (.of Z)<|sg Z<|sg Z<|B0 (gq Z)<|B0 (gq Z)<|B0 (gq Z)<|B0 (gq Z) trivial)⟩
 rintro _ ⟨g13,q7⟩
 refine A7 q7<|A3<|B8<|sq Z<|sp Z Z<|sq Z<|sl Z (gq Z) Z (sv Z<|gp Z (N7 Z) (fun _=>Z) ?_)
 refine T3 _ (.ptr _ _) Z (N7 Z) (fun w5=>(by simp only [A8 w5];rfl)) ?_
 refine T3 _ (.ptr _ _) Z (N7 Z) (fun w6=>(by simp only [A8 w6];rfl)) ?_
 refine gf Z (vl Z (gq Z) Z)<|gf Z (fun w8=>(FD (A8 w8) Z))<|sd Z (X6 Z Z<|fun hc=>A8<|O7 hc)<|sv Z<|T3 _ (Df [(di y7.2.Version),(oS y7.2.Lanes (73,g13.1)),(oS y7.2.Zones (108,g13.2.1)),(oS y7.2.Signals (140,g13.2.2.1)),(oS y7.2.Works (164,g13.2.2.2))]) Z (N7 Z) (fun _=>(C6 Z (gq Z) Z Z)) (bs h fun v38 hv38 h=> ?_)
 refine N0 _ (i64 v38) (N7 Z) (fun w10=>⟨_,[(Df [(di y7.2.Version),(oS y7.2.Lanes (73,g13.1)),(oS y7.2.Zones (108,g13.2.1)),(oS y7.2.Signals (140,g13.2.2.1)),(oS y7.2.Works (164,g13.2.2.2))])],_,_,(by simp only [A8 w10];rfl),(L9 (Lh<|rD<|L9 (U9<|gq Z)<|L9 (U9<|gq Z)<|L9 (U9<|gq Z)<|L9 (U9<|gq Z) N1) N1),(.cons (.agg (ca Z<|.cons ⟨U8,Z⟩ (.cons ⟨U8,Z⟩ (.cons ⟨U8,Z⟩ (.cons ⟨U8,Z⟩ .nil))))) .nil),Wd _ _<|H4 w10 hv38,(.inr Z)⟩) ?_
 refine gf Z (vb Z Z Z)<|sd Z (X6 Z Z<|fun hc=>A8<|O7 hc)<|A1<|cc Z h (fun c9 h=> ?_)<|fun c9 h=> ?_
 refine A3<|A7 (s0:=⟨T [(2,(.ptr _ _))],G [((2,u1),some<|.box 27 _)]⟩) (E3 Z Z) ?_
 refine B5<|sv Z<|V6 Z G_hit [(di 0),(.d .nilS),(.d .nilS),(.d .nilS),(.d .nilS)] Z (sv Z<|A1<|B9 ?_)
 cases h
 exact B4 (.inr Z) (My (L0 Z G_hit (nl Z) Z) (C0 Z) D4 D4) (.tup (.cons (.agg (ca Z<|.cons ⟨DLe.nil,Z⟩ (.cons ⟨DLe.nil,Z⟩ (.cons ⟨DLe.nil,Z⟩ (.cons ⟨DLe.nil,Z⟩ .nil))))) A6))
 refine B3<|A3<|A7 (s0:=⟨T [(2,(.ptr (2,u1) 0)),(5,(.ptr (5,u5) 0))],G [((2,u1),some<|.box 27 [(di 0),(.d .nilS),(.d .nilS),(.d .nilS),(.d .nilS)]),((5,u5),some<|.box 27 [(di y7.2.Version),(oS y7.2.Lanes (73,g13.1)),(oS y7.2.Zones (108,g13.2.1)),(oS y7.2.Signals (140,g13.2.2.1)),(oS y7.2.Works (164,g13.2.2.2))]),((73,g13.1),oB 42 5 J7 y7.2.Lanes),((108,g13.2.1),oB 45 2 J2 y7.2.Zones),((140,g13.2.2.1),oB 48 2 J9 y7.2.Signals),((164,g13.2.2.2),oB 50 6 R1 y7.2.Works)]⟩) (B7 (K8 Z)<|A2 G_hit (.of Z)<|sg Z<|B0 (gq Z)<|B0 (gq Z)<|B0 (gq Z)<|B0 (gq Z) trivial) ?_
 refine B5<|B6 (Df [(di y7.2.Version),(oS y7.2.Lanes (73,g13.1)),(oS y7.2.Zones (108,g13.2.1)),(oS y7.2.Signals (140,g13.2.2.1)),(oS y7.2.Works (164,g13.2.2.2))]) Z (C6 Z (gq Z) Z Z) (U7 _ _ _ _ _ (Cs _) Z Z G_hit (nl Z) [(di y7.2.Version),(oS y7.2.Lanes (73,g13.1)),(oS y7.2.Zones (108,g13.2.1)),(oS y7.2.Signals (140,g13.2.2.1)),(oS y7.2.Works (164,g13.2.2.2))] Z (sv Z<|A1<|B9 ?_))
 cases h
 exact B4 (.inr Z) (My (L0 Z G_hit (nl Z) Z) (C0 Z) (Lh<|rD<|L9 (U9<|gq Z)<|L9 (U9<|gq Z)<|L9 (U9<|gq Z)<|L9 (U9<|gq Z) N1) D4) (.tup (.cons (.agg (ca Z<|.cons ⟨U8,Z⟩ (.cons ⟨U8,Z⟩ (.cons ⟨U8,Z⟩ (.cons ⟨U8,Z⟩ .nil))))) A6))
def Kh (p1:Map)(p2:Int):Option Int:=
  (F0 [(p1.Lanes.length:Int),(p1.Zones.length:Int),(p1.Signals.length:Int),(p1.Works.length:Int)] (K2 (p2 - 1))).bind fun v1=>some v1
theorem Sn(p1 p2 r)(h:Kh p1 p2=some r):PCall prog 84 [(.agg (N8 p1)),(i64 p2)] (i64 r):=by
 refine D7 (fk func84 ntmps84 (fun r=>if r==1 then [1012]else []) (by with_unfolding_all rfl)) (nl Z) ?_
 unfold Kh at h
 refine A7 (s0:=⟨T [(0,(.d _)),(1,(.d _))],G []⟩) (E3 Z Z) ?_
 refine B8<|sm Z<|sv Z<|A1<|B8<|sq Z<|sl Z G_hit Z<|sd Z (C8 Z)<|sq Z<|sl Z G_hit Z<|sd Z (C8 Z)<|sq Z<|sl Z G_hit Z<|sd Z (C8 Z)<|sq Z<|sl Z G_hit Z<|sd Z (C8 Z)<|B6 (dl A4 [(p1.Lanes.length:Int),(p1.Zones.length:Int),(p1.Signals.length:Int),(p1.Works.length:Int)]) Z Z (sv Z<|sv Z<|bs h fun _ hv1 h=>sd Z (D8 Z Z hv1 Z)<|sd Z (E9 Z hv1 Z)<|sv Z<|A1<|B9 ?_)
 cases h
 exact B4 (.inr Z) (C5 (C0 Z) D4) (.refl _)
def Jt (p1:Curve)(p2:Curve)(x1:Int):Option (Stp Int (Sum Unit Bool)):=
  cond (decide (x1< (p1.Pts.length:Int))) ((F0 p1.Pts x1).bind fun v1=>(F0 p2.Pts x1).bind fun v2=>cond (!(v1.X==v2.X&& (v1.Y==v2.Y&&true))) (some (.out (.inr false))) (some (.go (K2 (x1+1))))) (some (.out (.inl ())))
def Ub [Lp](p1:Curve)(p2:Curve):Option Bool:=
  cond ((p1.Pts.length:Int) !=(p2.Pts.length:Int)) (some false) (thenS (loop (Jt p1 p2) 0) (fun _=>some true) (fun r=>some r))
theorem GU(p1 p2 r)(h:Ub p1 p2=some r):PCall prog 204 [(.agg [(.list (List.map K4 p1.Pts))]),(.agg [(.list (List.map K4 p2.Pts))])] (bo r):=by
 refine D7 (fk func204 ntmps204 m0 (by with_unfolding_all rfl)) (nl Z) ?_
 unfold Ub at h
 refine A7 (s0:=⟨T [(0,(.d _)),(1,(.d _))],G []⟩) (E3 Z Z) ?_
 refine lr<|fun u1 _=>sm Z<|sm Z<|sv Z<|A1<|A3<|B8<|sq Z<|sl Z (gq Z) Z (sd Z (C8 Z)<|sq Z<|sl Z G_hit Z<|sd Z (C8 Z)<|sv Z<|A1<|cc Z h (fun c1 h=> ?_)<|fun c1 h=> ?_)
 refine B8<|sv Z<|A1<|B9 ?_
 cases h
 exact B4 (.inr Z) (C5 (C0 Z) D4) (.refl _)
 refine B3<|A3<|B8<|sv Z<|A1<|js h fun z1 hz1 h=>D0 (fun s=> ∃(y1:Unit) (g1:Unit),z1= .inl y1∧Sb ⟨T [],G []⟩ s) ?_ ?_
 refine A5<|D2 (Jt p1 p2) (fun (x1:Int) (g2:Unit)=>⟨T [(2,(.ptr (2,u1) 0)),(3,(.ptr (3,u1) 0)),(5,(di x1))],G [((2,u1),some<|.box 39 [(dl K4 p1.Pts)]),((3,u1),some<|.box 39 [(dl K4 p2.Pts)])]⟩) 0 () _ hz1 (E3 Z Z) ?_
 intro x1 g2 z2 hz2 ez2
 unfold Jt at hz2
 refine A3<|B8<|sv Z<|sq Z<|sl Z G_hit Z<|sd Z (C8 Z)<|sv Z<|A1<|cc Z hz2 (fun c2 hz2=> ?_)<|fun c2 hz2=> ?_
 refine B3<|A3<|A5<|A3<|M8 Z<|sq Z<|sl Z G_hit Z<|sv Z<|bs hz2 fun v1 hv1 hz2=>sd Z (D8 Z Z hv1 Z)<|sd Z (D9 Z hv1 Z Z)<|sq Z<|sl Z (gq Z) Z (sv Z<|bs hz2 fun v2 hv2 hz2=>sd Z (D8 Z Z hv2 Z)<|sd Z (D9 Z hv2 Z Z)<|B6 (.d (bo (!(v1.X==v2.X&& (v1.Y==v2.Y&&true))))) Z Z (A1<|cc Z hz2 (fun c3 hz2=> ?_)<|fun c3 hz2=> ?_))
 refine B8<|sv Z<|A1<|B9 ?_
 cases hz2
 obtain rfl:=ez2 _ rfl
 refine ⟨nofun,F8 ?_⟩
 rw [bN]at h
 cases h
 exact B4 (.inr Z) (C5 (C0 Z) D4) (.refl _)
 refine B3<|E0<|B5<|sv Z<|sv Z<|sv Z<|A1<|D6 ?_
 cases hz2
 exact ⟨Z,(),(E3 Z Z)⟩
 refine C3 Z ?_
 cases hz2
 obtain rfl:=ez2 _ rfl
 refine ⟨nofun,C2 Z<|T4 ?_⟩
 exact ⟨_,(),Z,(E3 Z Z)⟩
 rintro _ ⟨y1,g1,rfl,q1⟩
 rw [bM]at h
 refine A7 q1<|B8<|sv Z<|A1<|B9 ?_
 cases h
 exact B4 (.inr Z) (C5 (C0 Z) D4) (.refl _)
def Bx (p1:(List Int))(p2:(List Int))(x1:Int):Option (Stp Int (Sum Unit Bool)):=
  cond ((decide (x1< (p1.length:Int)))&& (decide (x1< (p2.length:Int)))) ((F0 p1 x1).bind fun v1=>(F0 p2 x1).bind fun v2=>cond (v1 !=v2) (some (.out (.inr false))) (some (.go (K2 (x1+1))))) (some (.out (.inl ())))
def Iq [Lp](p1:(List Int))(p2:(List Int)):Option Bool:=
  thenS (loop (Bx p1 p2) 0) (fun _=>some ((p1.length:Int)==(p2.length:Int))) (fun r=>some r)
theorem Ru(p1 p2 r)(h:Iq p1 p2=some r):PCall prog 205 [(.list (List.map A4 p1)),(.list (List.map A4 p2))] (bo r):=by
 refine D7 (fk func205 ntmps205 m0 (by with_unfolding_all rfl)) (nl Z) ?_
 unfold Iq at h
 refine A7 (s0:=⟨T [(0,(.d _)),(1,(.d _))],G []⟩) (E3 Z Z) ?_
 refine B8<|sv Z<|A1<|A3<|B8<|sv Z<|A1<|js h fun z1 hz1 h=>D0 (fun s=> ∃(y1:Unit) (g1:Unit),z1= .inl y1∧Sb ⟨T [(0,(dl A4 p1)),(1,(dl A4 p2))],G []⟩ s) ?_ ?_
 refine A5<|D2 (Bx p1 p2) (fun (x1:Int) (g2:Unit)=>⟨T [(0,(dl A4 p1)),(1,(dl A4 p2)),(5,(di x1))],G []⟩) 0 () _ hz1 (E3 Z Z) ?_
 intro x1 g2 z2 hz2 ez2
 unfold Bx at hz2
 refine A3<|B8<|sv Z<|sv Z<|sd Z (C8 Z)<|sv Z<|sv Z<|gt Z (fun _=>Z)<|gt Z (fun _=>Z)<|gt Z (fun w3=>(C8<|A8 w3))<|gt Z (fun w4=>(An (A8 w4) (A8 w4) Z))<|sa Z Z Z<|A1<|cc Z hz2 (fun c1 hz2=> ?_)<|fun c1 hz2=> ?_
 refine B3<|A3<|A5<|A3<|M8 Z<|sv Z<|sv Z<|bs hz2 fun _ hv1 hz2=>sd Z (D8 Z Z hv1 Z)<|sd Z (E9 Z hv1 Z)<|sv Z<|sv Z<|bs hz2 fun _ hv2 hz2=>sd Z (D8 Z Z hv2 Z)<|sd Z (E9 Z hv2 Z)<|sv Z<|A1<|cc Z hz2 (fun c2 hz2=> ?_)<|fun c2 hz2=> ?_
 refine B8<|sv Z<|A1<|B9 ?_
 cases hz2
 obtain rfl:=ez2 _ rfl
 refine ⟨nofun,F8 ?_⟩
 rw [bN]at h
 cases h
 exact B4 (.inr Z) (C5 (C0 Z) D4) (.refl _)
 refine B3<|E0<|B5<|sv Z<|sv Z<|sv Z<|A1<|D6 ?_
 cases hz2
 exact ⟨Z,(),(E3 Z Z)⟩
 refine C3 Z ?_
 cases hz2
 obtain rfl:=ez2 _ rfl
 refine ⟨nofun,C2 Z<|T4 ?_⟩
 exact ⟨_,(),Z,(E3 Z Z)⟩
 rintro _ ⟨y1,g1,rfl,q1⟩
 rw [bM]at h
 refine A7 q1<|B8<|sv Z<|sd Z (C8 Z)<|sv Z<|sd Z (C8 Z)<|sv Z<|sv Z<|A1<|B9 ?_
 cases h
 exact B4 (.inr Z) (C5 (C0 Z) D4) (.refl _)
end
end Go.Abs.Roadsz
