/-
  The functions, part 4.
-/
import Derived.Test.YtimbepcdlehjjaaGreatFns3
set_option maxRecDepth 20000
set_option maxHeartbeats 4000000
set_option linter.unusedVariables false
namespace Go.Abs.Roadsz
noncomputable section
open Go Go.Abs Go.Proofs Tryz
attribute [local irreducible] K3 Cw Dw
def V7 [Lp](p1:Map)(x1:((List Clash)×Int))(x2:((List Clash)×Int))(v6:(List Cross))(x3:(Bool×Int)):Option (Stp (Bool×Int) Bool):=
  cond (decide (x3.2< (v6.length:Int))) (((cond x3.1 (E5 v6 x3.2) (some default))).bind fun v7=>((cond x3.1 (Hv p1 x1.2 x2.2 v7) (some default))).bind fun v8=>some (.go ((x3.1&&v8),(C8 (x3.2+1))))) (some (.out x3.1))
def Ai [Lp](p1:Map)(x1:((List Clash)×Int))(x2:((List Clash)×Int)):Option (Stp ((List Clash)×Int) (List Clash)):=
  cond (decide (x2.2< (p1.Lanes.length:Int))) ((Mk p1 x1.2 x2.2).bind fun v1=>cond v1 (some (.go (x2.1,(C8 (x2.2+1))))) ((E5 p1.Lanes x1.2).bind fun v2=>(E5 p1.Lanes x1.2).bind fun v3=>(E5 p1.Lanes x2.2).bind fun v4=>(E5 p1.Lanes x2.2).bind fun v5=>(Fc v2.Curve_ v3.Half v4.Curve_ v5.Half).bind fun v6=>(loop (V7 p1 x1 x2 v6) (true,0)).bind fun y3=>cond (!y3) ((Cj x2.1 [(Clash.mk 5 (-1) x1.2 x2.2)]).bind fun v9=>some (.go (v9,(C8 (x2.2+1))))) (some (.go (x2.1,(C8 (x2.2+1))))))) (some (.out x2.1))
def Cu [Lp](p1:Map)(x1:((List Clash)×Int)):Option (Stp ((List Clash)×Int) (List Clash)):=
  cond (decide (x1.2< (p1.Lanes.length:Int))) ((loop (Ai p1 x1) (x1.1,(C8 (x1.2+1)))).bind fun y2=>some (.go (y2,(C8 (x1.2+1))))) (some (.out x1.1))
def Gq [Lp](p1:Map):Option (List Clash):=
  (loop (Cu p1) ([],0)).bind fun y1=>some y1
theorem Vg(p1 r)(h:Gq p1=some r):PCall prog 114 [(.agg (L8 p1))] (.list (List.map B8 r)):=by
 refine C5 (fk func114 ntmps114 (fun r=>if r==16 then [1004]else []) (by with_unfolding_all rfl)) (nl Z) ?_
 unfold Gq at h
 refine A5 (s0:=⟨T [(0,(.d _))],G []⟩) (C9 Z Z) ?_
 refine lr<|fun u1 _=>sm Z<|sv Z<|A1<|B7<|sv Z<|A1<|A4<|B7<|sv Z<|A1<|bs h fun y1 hy1 h=>D2 (fun s=> ∃g1:Nat,Sb ⟨T [(3,(oS y1 (78,g1)))],G [((78,g1),oB 93 4 B8 y1)]⟩ s) ?_ ?_
 refine A6<|E7 (Cu p1) (fun (x1:((List Clash)×Int)) (g2:Nat)=>⟨T [(1,(.ptr (1,u1) 0)),(3,(oS x1.1 (78,g2))),(4,(di x1.2))],G [((1,u1),some<|.box 27 (I7 p1)),((78,g2),oB 93 4 B8 x1.1)]⟩) ([],0) 0 _ hy1 (C0 (T3 Z)<|B2 G_hit (.of Z)<|U9 trivial) ?_
 intro x1 g2 z1 hz1 ez1
 unfold Cu at hz1
 refine A4<|B7<|sv Z<|sq Z<|sl Z G_hit Z<|sd Z (D0 Z)<|sv Z<|A1<|cc Z hz1 (fun c1 hz1=> ?_)<|fun c1 hz1=> ?_
 refine B1<|A4<|A6<|B7<|sv Z<|sv Z<|sv Z<|A1<|bs hz1 fun y2 hy2 hz1=>D2 (fun s=> ∃g3:Nat,Sb ⟨T [(1,(.ptr (1,u1) 0)),(3,(oS y2 (78,g3))),(4,(di x1.2))],G [((1,u1),some<|.box 27 (I7 p1)),((78,g3),oB 93 4 B8 y2)]⟩ s) ?_ ?_
 refine A6<|E7 (Ai p1 x1) (fun (x2:((List Clash)×Int)) (g4:Nat)=>⟨T [(1,(.ptr (1,u1) 0)),(3,(oS x2.1 (78,g4))),(4,(di x1.2)),(5,(di x2.2))],G [((1,u1),some<|.box 27 (I7 p1)),((78,g4),oB 93 4 B8 x2.1)]⟩) (x1.1,(C8 (x1.2+1))) g2 _ hy2 (C0 (T3 Z)<|B2 G_hit (.of Z)<|C2 (gq Z) trivial) ?_
 intro x2 g4 z2 hz2 ez2
 unfold Ai at hz2
 refine A4<|B7<|sv Z<|sq Z<|sl Z G_hit Z<|sd Z (D0 Z)<|sv Z<|A1<|cc Z hz2 (fun c2 hz2=> ?_)<|fun c2 hz2=> ?_
 refine B1<|A4<|A6<|A4<|B7<|sd Z (A7 Z G_hit Z Z)<|sv Z<|sv Z<|bs hz2 fun _ hv1 hz2=>B3 Z Z A2 (CJ _ _ _ _ hv1) (.inl Z) (A1<|cc Z hz2 (fun c3 hz2=> ?_)<|fun c3 hz2=> ?_)
 refine EV Z<|B0<|sv Z<|sv Z<|sv Z<|A1<|F2 ?_
 cases hz2
 exact ⟨Z,g4,(C0 (T3 Z)<|B2 G_hit (.of Z)<|C2 (gq Z) trivial)⟩
 refine B1<|A4<|J2 Z<|sq Z<|sl Z G_hit Z<|sv Z<|bs hz2 fun _ hv2 hz2=>sd Z (C7 Z Z hv2 Z)<|sv Z<|sd Z (D5 Z hv2 Z Z)<|sq Z<|sl Z G_hit Z<|sv Z<|bs hz2 fun _ hv3 hz2=>sd Z (C7 Z Z hv3 Z)<|sv Z<|sd Z (D9 Z hv3 Z)<|sq Z<|sl Z G_hit Z<|sv Z<|bs hz2 fun _ hv4 hz2=>sd Z (C7 Z Z hv4 Z)<|sv Z<|sd Z (D5 Z hv4 Z Z)<|sq Z<|sl Z G_hit Z<|sv Z<|bs hz2 fun _ hv5 hz2=>sd Z (C7 Z Z hv5 Z)<|sv Z<|sd Z (D9 Z hv5 Z)<|bs hz2 fun v6 hv6 hz2=>B3 Z Z A2 (Tq _ _ _ _ _ hv6) (.inl Z) (sv Z<|A1<|A4<|A5 (s0:=⟨T [(1,(.ptr (1,u1) 0)),(3,(oS x2.1 (78,g4))),(4,(di x1.2)),(5,(di x2.2)),(6,(dl Q6 v6))],G [((1,u1),some<|.box 27 (I7 p1)),((78,g4),oB 93 4 B8 x2.1)]⟩) (C0 (T3 Z)<|B2 G_hit (.of Z)<|C2 (gq Z) trivial) ?_)
 refine B0<|sv Z<|A1<|A4<|B7<|sv Z<|A1<|bs hz2 fun y3 hy3 hz2=>D2 (fun s=> ∃g5:Unit,Sb ⟨T [(1,(.ptr (1,u1) 0)),(3,(oS x2.1 (78,g4))),(4,(di x1.2)),(5,(di x2.2)),(7,(.d (bo y3)))],G [((1,u1),some<|.box 27 (I7 p1)),((78,g4),oB 93 4 B8 x2.1)]⟩ s) ?_ ?_
 refine A6<|E7 (V7 p1 x1 x2 v6) (fun (x3:(Bool×Int)) (g6:Unit)=>⟨T [(1,(.ptr (1,u1) 0)),(3,(oS x2.1 (78,g4))),(4,(di x1.2)),(5,(di x2.2)),(6,(dl Q6 v6)),(7,(.d (bo x3.1))),(8,(di x3.2))],G [((1,u1),some<|.box 27 (I7 p1)),((78,g4),oB 93 4 B8 x2.1)]⟩) (true,0) () _ hy3 (C0 (T3 Z)<|B2 G_hit (.of Z)<|C2 (gq Z) trivial) ?_
 intro x3 g6 z3 hz3 ez3
 unfold V7 at hz3
 refine A4<|B7<|sv Z<|sv Z<|sd Z (D0 Z)<|sv Z<|A1<|cc Z hz3 (fun c4 hz3=> ?_)<|fun c4 hz3=> ?_
 refine B1<|A4<|A6<|J2 Z<|sv Z<|sv Z<|gt Z (fun _=>(A7 Z G_hit Z Z))<|gt Z (fun _=>Z)<|gt Z (fun _=>Z)<|gt Z (fun _=>Z)<|gt Z (fun _=>Z)<|bs hz3 fun v7 hv7 hz3=>gt Z (fun w6=>(C7 (A3 w6) (A3 w6) (D7 w6 hv7) Z))<|gt Z (fun w7=>(D5 (A3 w7) (D7 w7 hv7) Z Z))<|bs hz3 fun v8 hv8 hz3=> ?_
 refine K7 x3.1 (bo v8) (Q0 Z) (fun w8=>⟨_,[(.d (.agg (L8 p1))),(di x1.2),(di x2.2),(.d (.agg (Q6 v7)))],_,_,(by simp only [A3 w8];rfl),Z,A2,Wl _ _ _ _ _<|D7 w8 hv8,(.inl Z)⟩) ?_
 refine sa Z Z Z<|sv Z<|A1<|E6<|A5 (s0:=⟨T [(1,(.ptr (1,u1) 0)),(3,(oS x2.1 (78,g4))),(4,(di x1.2)),(5,(di x2.2)),(6,(dl Q6 v6)),(7,(.d (bo (x3.1&&v8)))),(8,(di x3.2))],G [((1,u1),some<|.box 27 (I7 p1)),((78,g4),oB 93 4 B8 x2.1)]⟩) (C0 (T3 Z)<|B2 G_hit (.of Z)<|C2 (gq Z) trivial) ?_
 refine B0<|sv Z<|sv Z<|sv Z<|A1<|F2 ?_
 cases hz3
 exact ⟨Z,(),(C0 (T3 Z)<|B2 G_hit (.of Z)<|C2 (gq Z) trivial)⟩
 refine C3 Z ?_
 cases hz3
 obtain rfl:=ez3 _ rfl
 refine ⟨nofun,B9 Z<|U0 ?_⟩
 exact ⟨(),(C0 (T3 Z)<|B2 G_hit (.of Z)<|C2 (gq Z) trivial)⟩
 rintro _ ⟨g5,q1⟩
 refine A5 q1<|B7<|sv Z<|C1 (.d (bo (!y3))) Z Z (A1<|cc Z hz2 (fun c5 hz2=> ?_)<|fun c5 hz2=> ?_)
 refine Bw fun u16 _=>C1 (oS x2.1 (78,g4)) Z Z (sv Z<|sv Z<|sv Z<|C1 (dl B8 [(Clash.mk 5 (-1) x1.2 x2.2)]) Z Z (bs hz2 fun _ hv9 hz2=>N9 B8 (78,g4) x2.1 (Clash.mk 5 (-1) x1.2 x2.2) [] _ (J7<|fun _=>Z) Z (gq Z) hv9 (ss Z<|A1<|E6<|B0<|sv Z<|sv Z<|sv Z<|A1<|F2 ?_)))
 cases hz2
 exact ⟨Z,u16,(C0 ⟨.of Z,(.of (Dy<|T1 hv9).symm), .of Z, .of Z,trivial⟩<|sg Z<|U8 G_hit trivial)⟩
 refine B1<|E6<|B0<|sv Z<|sv Z<|sv Z<|A1<|F2 ?_
 cases hz2
 exact ⟨Z,g4,(C0 (T3 Z)<|B2 G_hit (.of Z)<|C2 (gq Z) trivial)⟩
 refine C3 Z ?_
 cases hz2
 obtain rfl:=ez2 _ rfl
 refine ⟨nofun,B9 Z<|U0 ?_⟩
 exact ⟨g4,(C0 (T3 Z)<|B2 G_hit (.of Z)<|C2 (gq Z) trivial)⟩
 rintro _ ⟨g3,q2⟩
 refine E6<|A5 q2<|B0<|sv Z<|sv Z<|sv Z<|A1<|F2 ?_
 cases hz1
 exact ⟨Z,g3,(C0 (T3 Z)<|B2 G_hit (.of Z)<|C2 (gq Z) trivial)⟩
 refine C3 Z ?_
 cases hz1
 obtain rfl:=ez1 _ rfl
 refine ⟨nofun,B9 Z<|U0 ?_⟩
 exact ⟨g2,(C0 ⟨.of Z,trivial⟩<|C2 (gq Z) trivial)⟩
 rintro _ ⟨g1,q3⟩
 refine A5 q3<|B7<|C1 (oS y1 (78,g1)) Z Z (C1 (oS y1 (78,g1)) Z Z (A1<|B5 ?_))
 cases h
 exact A9 (.inr Z) (B6 (B4 Z)<|Ea G_hit) Dz
def Hy [Lp](p1:Map):Option (List Clash):=
  (Kk p1).bind fun v1=>cond (v1 !=0) (some []) ((Ia p1).bind fun v2=>(Jl p1).bind fun v3=>(Cj v2 v3).bind fun v4=>(Is p1 3).bind fun v5=>(Cj v4 v5).bind fun v6=>(Is p1 4).bind fun v7=>(Cj v6 v7).bind fun v8=>(Gq p1).bind fun v9=>(Cj v8 v9).bind fun v10=>some v10)
theorem Wm(p1 r)(h:Hy p1=some r):PCall prog 28 [(.agg (L8 p1))] (.list (List.map B8 r)):=by
 refine C5 (fk func28 ntmps28 (fun r=>if r==3 then [1003001]else []) (by with_unfolding_all rfl)) (nl Z) ?_
 unfold Hy at h
 refine A5 (s0:=⟨T [(0,(.d _))],G []⟩) (C9 Z Z) ?_
 refine lr<|fun u1 _=>sm Z<|sv Z<|A1<|A4<|B7<|sd Z (A7 Z G_hit Z Z)<|bs h fun _ hv1 h=>B3 Z Z A2 (AY _ _ hv1) (.inl Z) (sv Z<|A1<|cc Z h (fun c1 h=> ?_)<|fun c1 h=> ?_)
 refine B7<|sv Z<|A1<|B5 ?_
 cases h
 exact A9 (.inr Z) (B6 (B4 Z) C6) DLe.nil
 refine B1<|A4<|EX fun u4 hu4=>Kg (.d _) Z (A7 Z G_hit Z Z) (bs h fun v2 hv2 h=> ?_)
 refine ZC (v:=oS v2 (10030010,u4)) (us:= [(10030010,u4)]) (YA (Tp _ _ hv2) [] [] _ (((10030010,u4),oB 93 4 B8 v2)::_) Z Oy Z Ma trivial (fun _ h=>h) List.nodup_nil (by generalize v2=x1;cases x1<;>rfl) Z (WV (Z)) Z) ?_
 refine Kg (.d _) Z (A7 Z (gq Z) Z Z) (bs h fun v3 hv3 h=>WM Z Z A2 (Yf _ _ hv3) (.inl Z) (bs h fun v4 hv4 h=>MU B8 (10030010,u4) v2 v3 _ (J7<|fun _=>Z) Z G_hit hv4 (N4 Z<|Ly hu4) (Kg (oS v4 (11,u4)) Z Z (PY<|YG (fun q=>⟨⟨by first|rfl|((generalize v2=l0;cases l0)<;>(generalize v4=l1;cases l1)<;>rfl),q⟩,⟨by first|rfl|((generalize v2=l0;cases l0)<;>(generalize v4=l1;cases l1)<;>rfl),q⟩,⟨by first|rfl|((generalize v2=l0;cases l0)<;>(generalize v4=l1;cases l1)<;>rfl),q⟩⟩) ?_))))
 refine lr<|fun u5 hu5=>C1 (oS v4 (11,u4)) Z Z (sd Z (A7 Z (gq Z) Z Z)<|bs h fun v5 hv5 h=>B3 Z Z A2 (Ri _ _ _ hv5) (.inl Z) (bs h fun v6 hv6 h=>Rz B8 (11,u4) v4 v5 _ (J7<|fun _=>Z) Z G_hit hv6 (Ly hu5) (C1 (oS v6 (15,u5)) Z Z (A1<|lr<|fun u6 hu6=>C1 (oS v6 (15,u5)) Z Z (sd Z (A7 Z (gq Z) Z Z)<|bs h fun v7 hv7 h=>B3 Z Z A2 (Ri _ _ _ hv7) (.inl Z) (bs h fun v8 hv8 h=>Rz B8 (15,u5) v6 v7 _ (J7<|fun _=>Z) Z G_hit hv8 (Ly hu6) (C1 (oS v8 (19,u6)) Z Z (A1<|A4<|A5 (s0:=⟨T [(1,(.ptr (1,u1) 0)),(3,(oS v8 (19,u6)))],G [((1,u1),some<|.box 27 (I7 p1)),((19,u6),oB 93 4 B8 v8)]⟩) (C0 (T3 Z)<|sg Z<|C2 G_hit trivial) ?_))))))))
 refine Bw fun u7 hu7=>C1 (oS v8 (19,u6)) Z Z (sd Z (A7 Z G_hit Z Z)<|bs h fun v9 hv9 h=>B3 Z Z A2 (Vg _ _ hv9) (.inl Z) (bs h fun v10 hv10 h=>Rz B8 (19,u6) v8 v9 _ (J7<|fun _=>Z) Z (gq Z) hv10 (Ly hu7) (C1 (oS v10 (23,u7)) Z Z (A1<|B5 ?_))))
 cases h
 exact A9 (.inr Z) (B6 (B4 Z)<|Ea G_hit) Dz
def Y9 (p1:(List Clash))(p2:(List Clash))(x1:Int):Option (Stp Int (Sum Unit Bool)):=
  cond ((decide (x1< (p1.length:Int)))&& (decide (x1< (p2.length:Int)))) ((E5 p1 x1).bind fun v1=>(E5 p2 x1).bind fun v2=>cond (!(v1.Kind==v2.Kind&& (v1.Zone_==v2.Zone_&& (v1.A==v2.A&& (v1.B==v2.B&&true))))) (some (.out (.inr false))) (some (.go (C8 (x1+1))))) (some (.out (.inl ())))
def Fd [Lp](p1:(List Clash))(p2:(List Clash)):Option Bool:=
  thenS (loop (Y9 p1 p2) 0) (fun _=>some ((p1.length:Int)==(p2.length:Int))) (fun r=>some r)
theorem Ts(p1 p2 r)(h:Fd p1 p2=some r):PCall prog 26 [(.list (List.map B8 p1)),(.list (List.map B8 p2))] (bo r):=by
 refine C5 (fk func26 ntmps26 m0 (by with_unfolding_all rfl)) (nl Z) ?_
 unfold Fd at h
 refine A5 (s0:=⟨T [(0,(.d _)),(1,(.d _))],G []⟩) (C9 Z Z) ?_
 refine B7<|sv Z<|A1<|A4<|B7<|sv Z<|A1<|js h fun z1 hz1 h=>D2 (fun s=> ∃(y1:Unit) (g1:Unit),z1= .inl y1∧Sb ⟨T [(0,(dl B8 p1)),(1,(dl B8 p2))],G []⟩ s) ?_ ?_
 refine A6<|E7 (Y9 p1 p2) (fun (x1:Int) (g2:Unit)=>⟨T [(0,(dl B8 p1)),(1,(dl B8 p2)),(5,(di x1))],G []⟩) 0 () _ hz1 (C9 Z Z) ?_
 intro x1 g2 z2 hz2 ez2
 unfold Y9 at hz2
 refine A4<|B7<|sv Z<|sv Z<|sd Z (D0 Z)<|sv Z<|sv Z<|gt Z (fun _=>Z)<|gt Z (fun _=>Z)<|gt Z (fun w3=>(D0<|A3 w3))<|gt Z (fun w4=>(Q1 (A3 w4) (A3 w4) Z))<|sa Z Z Z<|A1<|cc Z hz2 (fun c1 hz2=> ?_)<|fun c1 hz2=> ?_
 refine B1<|A4<|A6<|A4<|J2 Z<|sv Z<|sv Z<|bs hz2 fun v1 hv1 hz2=>sd Z (C7 Z Z hv1 Z)<|sd Z (D5 Z hv1 Z Z)<|sv Z<|sv Z<|bs hz2 fun v2 hv2 hz2=>sd Z (C7 Z Z hv2 Z)<|sd Z (D5 Z hv2 Z Z)<|C1 (.d (bo (!(v1.Kind==v2.Kind&& (v1.Zone_==v2.Zone_&& (v1.A==v2.A&& (v1.B==v2.B&&true))))))) Z Z (A1<|cc Z hz2 (fun c2 hz2=> ?_)<|fun c2 hz2=> ?_)
 refine B7<|sv Z<|A1<|B5 ?_
 cases hz2
 obtain rfl:=ez2 _ rfl
 refine ⟨nofun,F6 ?_⟩
 rw [bL]at h
 cases h
 exact A9 (.inr Z) (B6 (B4 Z) C6) (.refl _)
 refine B1<|E6<|B0<|sv Z<|sv Z<|sv Z<|A1<|F2 ?_
 cases hz2
 exact ⟨Z,(),(C9 Z Z)⟩
 refine C3 Z ?_
 cases hz2
 obtain rfl:=ez2 _ rfl
 refine ⟨nofun,B9 Z<|U0 ?_⟩
 exact ⟨_,(),Z,(C9 Z Z)⟩
 rintro _ ⟨y1,g1,rfl,q1⟩
 rw [bK]at h
 refine A5 q1<|B7<|sv Z<|sd Z (D0 Z)<|sv Z<|sd Z (D0 Z)<|sv Z<|sv Z<|A1<|B5 ?_
 cases h
 exact A9 (.inr Z) (B6 (B4 Z) C6) (.refl _)
def Ej [Lp](p1:Map):Option Bool:=
  (Nw p1).bind fun v1=>cond (!v1) ((Ec).bind fun v2=>some v2) ((Hp p1).bind fun v3=>(Hy p1).bind fun v4=>(Fd v3 v4).bind fun v5=>((cond v5 (Ec) (some default))).bind fun v6=>some (v5&&v6))
theorem Px(p1 r)(h:Ej p1=some r):PCall prog 6 [(.agg (L8 p1))] (bo r):=by
 refine C5 (fk func6 ntmps6 m0 (by with_unfolding_all rfl)) (nl Z) ?_
 unfold Ej at h
 refine A5 (s0:=⟨T [(0,(.d _))],G []⟩) (C9 Z Z) ?_
 refine B7<|sm Z<|sv Z<|A1<|A4<|B7<|sd Z (A7 Z G_hit Z Z)<|bs h fun v1 hv1 h=>B3 Z Z A2 (FA _ _ hv1) (.inl Z) (C1 (.d (bo (!v1))) Z Z (A1<|cc Z h (fun c1 h=> ?_)<|fun c1 h=> ?_))
 refine B7<|bs h fun _ hv2 h=>B3 Z Z A2 (Rc _ hv2) (.inl Z) (sv Z<|A1<|B5 ?_)
 cases h
 exact A9 (.inr Z) (B6 (B4 Z) C6) (.refl _)
 refine B1<|A4<|J2 Z<|sd Z (A7 Z G_hit Z Z)<|bs h fun _ hv3 h=>B3 Z Z A2 (Wi _ _ hv3) (.inl Z) (sd Z (A7 Z G_hit Z Z)<|bs h fun _ hv4 h=>B3 Z Z A2 (Wm _ _ hv4) (.inl Z) (bs h fun v5 hv5 h=>B3 Z Z A2 (Ts _ _ _ hv5) (.inl Z) (sv Z<|bs h fun v6 hv6 h=>K7 v5 (bo v6) (Q0 Z) (fun w1=>⟨_,_,_,_,Z,Z,A2,Rc _<|D7 w1 hv6,(.inl Z)⟩) (sa Z Z Z<|sv Z<|A1<|B5 ?_))))
 cases h
 exact A9 (.inr Z) (B6 (B4 Z) C6) (.refl _)
end
end Go.Abs.Roadsz
