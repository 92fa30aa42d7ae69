/-
  The functions, part 3.
-/
import Derived.Test.YtimbepcdlehjjaaGreatFns2
set_option maxRecDepth 20000
set_option maxHeartbeats 4000000
set_option linter.unusedVariables false
namespace Go.Abs.Roadsz
noncomputable section
open Go Go.Abs Go.Proofs Tryz
attribute [local irreducible] J6 Lx Ea
def P2 [Lp](x1:((List Signal)×Int×RoadsReader)):Option (Stp ((List Signal)×Int×RoadsReader) ((List Signal)×RoadsReader)):=
  cond ((decide (x1.2.1>0))&& (!x1.2.2.short)) ((T3 x1.2.2).bind fun v2=>(Bx x1.1 [v2.1]).bind fun v3=>some (.go (v3,(I4 (x1.2.1 - 1)),v2.2))) (some (.out (x1.1,x1.2.2)))
def J7 [Lp](p1:RoadsReader):Option ((List Signal)×RoadsReader):=
  (B0 p1).bind fun v1=>(loop (P2) ([],v1.1,v1.2)).bind fun y1=>some (y1.1,y1.2)
theorem Cw(p1 r)(h:J7 p1=some r):MCall prog 125 [(.ptr (900000,0) 0),(.fn (.func 126) [(.ptr (900000,0) 0)] [])] [(.box 154 [(.d (X6 p1.s)),(.d (bo p1.short))])] (dl P3 r.1) [some (.box 154 [(.d (X6 r.2.s)),(.d (bo r.2.short))])] []:=by
 refine X8 (fk func125 ntmps125 (fun r=>if r==2 then [1002001]else if r==5 then [1005002,1003]else []) (by with_unfolding_all rfl)) Z (nl Z) ?_
 unfold J7 at h
 refine A8 (s0:=⟨T [(0,(.ptr _ _)),(1,(.fn _ _ _))],G [((900000,0),some<|.box 154 _)]⟩) (F5 Z Z) ?_
 refine C0<|sv Z<|A1<|C0<|sv Z<|A1<|A4<|C0<|sq Z<|bs h fun v1 hv1 h=>Aj (v:= .d (i64 v1.1)) (us:= [(900000,0)]) (Ai (C7 _ _ hv1) [(900000,0)] [(900000,0)] _ (((900000,0),some<|.box 154 [(.d (X6 v1.2.s)),(.d (bo v1.2.short))])::_) Z J0 (E0 (J1 G_hit Z) J2) (D5 G_hit G9) ⟨⟨_,G_hit, .of Z⟩,trivial⟩ (fun _ h=>h) nd1 Z Z Z) (sv Z<|A1<|bs h fun y1 hy1 h=>D3 (fun s=> ∃g1:Nat,Sb ⟨T [(0,(.ptr (900000,0) 0)),(5,(oS y1.1 (24,g1)))],G [((900000,0),some<|.box 154 [(.d (X6 y1.2.s)),(.d (bo y1.2.short))]),((24,g1),oB 48 2 P3 y1.1)]⟩ s) ?_ ?_)
 refine A5<|D6 (P2) (fun (x1:((List Signal)×Int×RoadsReader)) (g2:Nat)=>⟨T [(0,(.ptr (900000,0) 0)),(1,(.fn (.func 126) [(.ptr (900000,0) 0)] [])),(5,(oS x1.1 (24,g2))),(6,(di x1.2.1))],G [((900000,0),some<|.box 154 [(.d (X6 x1.2.2.s)),(.d (bo x1.2.2.short))]),((24,g2),oB 48 2 P3 x1.1)]⟩) ([],v1.1,v1.2) 0 _ hy1 (B8 (K6 Z)<|A2 G_hit (.of Z)<|Q5 trivial) ?_
 intro x1 g2 z1 hz1 ez1
 unfold P2 at hz1
 refine A4<|C0<|sv Z<|sv Z<|sv Z<|gp Z (K0 Z) (fun _=>Z) ?_
 refine R8 _ (.ptr _ _) Z (K0 Z) (fun w2=>(by simp only [A9 w2];rfl)) ?_
 refine R8 _ (.ptr _ _) Z (K0 Z) (fun w3=>(by simp only [A9 w3];rfl)) ?_
 refine gt Z (vl Z G_hit Z) ?_
 refine R8 _ (.d (bo (!x1.2.2.short))) Z (K0 Z) (fun w5=>(by simp only [A9 w5];rfl)) ?_
 refine sa Z Z Z<|A1<|cc Z hz1 (fun c1 hz1=> ?_)<|fun c1 hz1=> ?_
 refine B4<|A4<|A5<|T8 fun u5 _=>B6 (oS x1.1 (24,g2)) Z Z (B6 (.fn _ _ _) Z Z (bs hz1 fun v2 hv2 hz1=>Aj (v:= .d (.agg [(i64 v2.1.Offset),(.list (List.map L4 v2.1.Phases))])) (us:= [(900000,0)]) (Ai (Md _ _ hv2) [(900000,0)] [(900000,0)] _ (((900000,0),some<|.box 154 [(.d (X6 v2.2.s)),(.d (bo v2.2.short))])::_) Z J0 (E0 (J1 G_hit Z) J2) (D5 G_hit G9) ⟨⟨_,G_hit, .of Z⟩,trivial⟩ (fun _ h=>h) nd1 Z Z Z) (B6 (dl P3 [v2.1]) Z Z (bs hz1 fun _ hv3 hz1=>J3 P3 (24,g2) x1.1 v2.1 [] _ (I0<|fun _=>Z) Z (gq Z) hv3 (ss Z<|A1<|D8<|A8 (s0:=⟨T [(0,(.ptr _ _)),(1,(.fn _ _ _)),(5,(.sl _)),(6,(.d _))],G [((900000,0),some<|.box 154 _),((24,u5),some _)]⟩) (F5 Z Z) ?_)))))
 refine B5<|sv Z<|sv Z<|sv Z<|A1<|D9 ?_
 cases hz1
 exact ⟨Z,u5,(B8 ⟨.of Z, .of Z,(.of (Q3<|N5 hv3).symm), .of Z,trivial⟩<|A2 G_hit (.of Z)<|I7 (gq Z) trivial)⟩
 refine C4 Z ?_
 cases hz1
 obtain rfl:=ez1 _ rfl
 refine ⟨nofun,C3 Z<|V2 ?_⟩
 exact ⟨g2,(B8 (K6 Z)<|A2 G_hit (.of Z)<|B3 (gq Z) trivial)⟩
 rintro _ ⟨g1,q1⟩
 refine A8 q1<|C0<|B6 (oS y1.1 (24,g1)) Z Z (B6 (oS y1.1 (24,g1)) Z Z (A1<|C1 ?_))
 cases h
 exact Av (.inr Z) [(24,g1)] (Aw (C2 Z)<|Ct<|Ql (.head _)<|gq Z) Cs ⟨⟨_,_,_,G_hit,(Es Z G2),Z,X0,Z⟩,trivial⟩
def W2 [Lp](p1:RoadsReader):Option (Work×RoadsReader):=
  (E8 p1).bind fun v1=>(B0 v1.2).bind fun v2=>(B0 v2.2).bind fun v3=>(B0 v3.2).bind fun v4=>(B0 v4.2).bind fun v5=>(B0 v5.2).bind fun v6=>some ((Work.mk v1.1 v2.1 v3.1 v4.1 v5.1 v6.1),v6.2)
theorem No(p1 r)(h:W2 p1=some r):MCall prog 128 [(.ptr (900000,0) 0)] [(.box 154 [(.d (X6 p1.s)),(.d (bo p1.short))])] (.d (.agg (Ax r.1))) [some (.box 154 [(.d (X6 r.2.s)),(.d (bo r.2.short))])] []:=by
 refine X8 (fk func128 ntmps128 (fun r=>if r==1 then [1001001,1001003,1001005]else if r==2 then [1002001,1002003,1002005]else []) (by with_unfolding_all rfl)) Z (nl Z) ?_
 unfold W2 at h
 refine A8 (s0:=⟨T [(0,(.ptr _ _))],G [((900000,0),some<|.box 154 _)]⟩) (F5 Z Z) ?_
 refine lr<|fun u1 _=>sm Z<|A1<|C0<|sq Z<|bs h fun v1 hv1 h=>Aj (v:= .d (i64 v1.1)) (us:= [(900000,0)]) (Ai (P7 _ _ hv1) [(900000,0)] [(900000,0)] _ (((900000,0),some<|.box 154 [(.d (X6 v1.2.s)),(.d (bo v1.2.short))])::_) Z J0 (E0 (J1 (A7 Z G_hit) Z) J2) (D5 (A7 Z G_hit) G9) ⟨⟨_,(A7 Z G_hit), .of Z⟩,trivial⟩ (fun _ h=>h) nd1 Z Z Z) (sq Z<|bs h fun v2 hv2 h=>Aj (v:= .d (i64 v2.1)) (us:= [(900000,0)]) (Ai (C7 _ _ hv2) [(900000,0)] [(900000,0)] _ (((900000,0),some<|.box 154 [(.d (X6 v2.2.s)),(.d (bo v2.2.short))])::_) Z J0 (E0 (J1 G_hit Z) J2) (D5 G_hit G9) ⟨⟨_,G_hit, .of Z⟩,trivial⟩ (fun _ h=>h) nd1 Z Z Z) (sq Z<|bs h fun v3 hv3 h=>Aj (v:= .d (i64 v3.1)) (us:= [(900000,0)]) (Ai (C7 _ _ hv3) [(900000,0)] [(900000,0)] _ (((900000,0),some<|.box 154 [(.d (X6 v3.2.s)),(.d (bo v3.2.short))])::_) Z J0 (E0 (J1 G_hit Z) J2) (D5 G_hit G9) ⟨⟨_,G_hit, .of Z⟩,trivial⟩ (fun _ h=>h) nd1 Z Z Z) (sq Z<|X7 Z (gq Z) ([(di v1.1)]++ (zs 5)) Z (sq Z<|X7 Z G_hit ([(di v1.1),(di v2.1)]++ (zs 4)) Z (sq Z<|X7 Z G_hit [(di v1.1),(di v2.1),(di v3.1),(di 0),(di 0),(di 0)] Z (A1<|C0<|sq Z<|bs h fun v4 hv4 h=>Aj (v:= .d (i64 v4.1)) (us:= [(900000,0)]) (Ai (C7 _ _ hv4) [(900000,0)] [(900000,0)] _ (((900000,0),some<|.box 154 [(.d (X6 v4.2.s)),(.d (bo v4.2.short))])::_) Z J0 (E0 (J1 (A7 Z<|A7 Z<|A7 Z G_hit) Z) J2) (D5 (A7 Z<|A7 Z<|A7 Z G_hit) G9) ⟨⟨_,(A7 Z<|A7 Z<|A7 Z G_hit), .of Z⟩,trivial⟩ (fun _ h=>h) nd1 Z Z Z) (sq Z<|bs h fun v5 hv5 h=>Aj (v:= .d (i64 v5.1)) (us:= [(900000,0)]) (Ai (C7 _ _ hv5) [(900000,0)] [(900000,0)] _ (((900000,0),some<|.box 154 [(.d (X6 v5.2.s)),(.d (bo v5.2.short))])::_) Z J0 (E0 (J1 G_hit Z) J2) (D5 G_hit G9) ⟨⟨_,G_hit, .of Z⟩,trivial⟩ (fun _ h=>h) nd1 Z Z Z) (sq Z<|bs h fun v6 hv6 h=>Aj (v:= .d (i64 v6.1)) (us:= [(900000,0)]) (Ai (C7 _ _ hv6) [(900000,0)] [(900000,0)] _ (((900000,0),some<|.box 154 [(.d (X6 v6.2.s)),(.d (bo v6.2.short))])::_) Z J0 (E0 (J1 G_hit Z) J2) (D5 G_hit G9) ⟨⟨_,G_hit, .of Z⟩,trivial⟩ (fun _ h=>h) nd1 Z Z Z) (sq Z<|X7 Z (gq Z) [(di v1.1),(di v2.1),(di v3.1),(di v4.1),(di 0),(di 0)] Z (sq Z<|X7 Z G_hit [(di v1.1),(di v2.1),(di v3.1),(di v4.1),(di v5.1),(di 0)] Z (sq Z<|X7 Z G_hit [(di v1.1),(di v2.1),(di v3.1),(di v4.1),(di v5.1),(di v6.1)] Z (A1<|A4<|A8 (s0:=⟨T [(0,(.ptr _ _)),(2,(.ptr _ _))],G [((900000,0),some<|.box 154 _),((2,u1),some<|.box 50 _)]⟩) (F5 Z Z) ?_))))))))))))
 refine B5<|sd Z (C6 Z (gq Z) Z Z)<|X7 Z (gq Z) [(di v1.1),(di v2.1),(di v3.1),(di v4.1),(di v5.1),(di v6.1)] Z (A1<|C1 ?_)
 cases h
 exact Av (.inr Z) [] (Aw (O8 Z G_hit (Nat.le_of_ble_eq_true Z) Z) D7) (.refl _) ⟨⟨_,_,_,(gq Z),G2,Z,X0,Z⟩,trivial⟩
def R1 [Lp](x1:((List Work)×Int×RoadsReader)):Option (Stp ((List Work)×Int×RoadsReader) ((List Work)×RoadsReader)):=
  cond ((decide (x1.2.1>0))&& (!x1.2.2.short)) ((W2 x1.2.2).bind fun v2=>(Bx x1.1 [v2.1]).bind fun v3=>some (.go (v3,(I4 (x1.2.1 - 1)),v2.2))) (some (.out (x1.1,x1.2.2)))
def L0 [Lp](p1:RoadsReader):Option ((List Work)×RoadsReader):=
  (B0 p1).bind fun v1=>(loop (R1) ([],v1.1,v1.2)).bind fun y1=>some (y1.1,y1.2)
theorem Dx(p1 r)(h:L0 p1=some r):MCall prog 127 [(.ptr (900000,0) 0),(.fn (.func 128) [(.ptr (900000,0) 0)] [])] [(.box 154 [(.d (X6 p1.s)),(.d (bo p1.short))])] (dl Ax r.1) [some (.box 154 [(.d (X6 r.2.s)),(.d (bo r.2.short))])] []:=by
 refine X8 (fk func127 ntmps127 (fun r=>if r==2 then [1002001]else if r==5 then [1005002,1003]else []) (by with_unfolding_all rfl)) Z (nl Z) ?_
 unfold L0 at h
 refine A8 (s0:=⟨T [(0,(.ptr _ _)),(1,(.fn _ _ _))],G [((900000,0),some<|.box 154 _)]⟩) (F5 Z Z) ?_
 refine C0<|sv Z<|A1<|C0<|sv Z<|A1<|A4<|C0<|sq Z<|bs h fun v1 hv1 h=>Aj (v:= .d (i64 v1.1)) (us:= [(900000,0)]) (Ai (C7 _ _ hv1) [(900000,0)] [(900000,0)] _ (((900000,0),some<|.box 154 [(.d (X6 v1.2.s)),(.d (bo v1.2.short))])::_) Z J0 (E0 (J1 G_hit Z) J2) (D5 G_hit G9) ⟨⟨_,G_hit, .of Z⟩,trivial⟩ (fun _ h=>h) nd1 Z Z Z) (sv Z<|A1<|bs h fun y1 hy1 h=>D3 (fun s=> ∃g1:Nat,Sb ⟨T [(0,(.ptr (900000,0) 0)),(5,(oS y1.1 (24,g1)))],G [((900000,0),some<|.box 154 [(.d (X6 y1.2.s)),(.d (bo y1.2.short))]),((24,g1),oB 50 6 Ax y1.1)]⟩ s) ?_ ?_)
 refine A5<|D6 (R1) (fun (x1:((List Work)×Int×RoadsReader)) (g2:Nat)=>⟨T [(0,(.ptr (900000,0) 0)),(1,(.fn (.func 128) [(.ptr (900000,0) 0)] [])),(5,(oS x1.1 (24,g2))),(6,(di x1.2.1))],G [((900000,0),some<|.box 154 [(.d (X6 x1.2.2.s)),(.d (bo x1.2.2.short))]),((24,g2),oB 50 6 Ax x1.1)]⟩) ([],v1.1,v1.2) 0 _ hy1 (B8 (K6 Z)<|A2 G_hit (.of Z)<|Q5 trivial) ?_
 intro x1 g2 z1 hz1 ez1
 unfold R1 at hz1
 refine A4<|C0<|sv Z<|sv Z<|sv Z<|gp Z (K0 Z) (fun _=>Z) ?_
 refine R8 _ (.ptr _ _) Z (K0 Z) (fun w2=>(by simp only [A9 w2];rfl)) ?_
 refine R8 _ (.ptr _ _) Z (K0 Z) (fun w3=>(by simp only [A9 w3];rfl)) ?_
 refine gt Z (vl Z G_hit Z) ?_
 refine R8 _ (.d (bo (!x1.2.2.short))) Z (K0 Z) (fun w5=>(by simp only [A9 w5];rfl)) ?_
 refine sa Z Z Z<|A1<|cc Z hz1 (fun c1 hz1=> ?_)<|fun c1 hz1=> ?_
 refine B4<|A4<|A5<|T8 fun u5 _=>B6 (oS x1.1 (24,g2)) Z Z (B6 (.fn _ _ _) Z Z (bs hz1 fun v2 hv2 hz1=>Aj (v:= .d (.agg (Ax v2.1))) (us:= [(900000,0)]) (Ai (No _ _ hv2) [(900000,0)] [(900000,0)] _ (((900000,0),some<|.box 154 [(.d (X6 v2.2.s)),(.d (bo v2.2.short))])::_) Z J0 (E0 (J1 G_hit Z) J2) (D5 G_hit G9) ⟨⟨_,G_hit, .of Z⟩,trivial⟩ (fun _ h=>h) nd1 Z Z Z) (B6 (dl Ax [v2.1]) Z Z (bs hz1 fun _ hv3 hz1=>J3 Ax (24,g2) x1.1 v2.1 [] _ (I0<|fun _=>Z) Z (gq Z) hv3 (ss Z<|A1<|D8<|A8 (s0:=⟨T [(0,(.ptr _ _)),(1,(.fn _ _ _)),(5,(.sl _)),(6,(.d _))],G [((900000,0),some<|.box 154 _),((24,u5),some _)]⟩) (F5 Z Z) ?_)))))
 refine B5<|sv Z<|sv Z<|sv Z<|A1<|D9 ?_
 cases hz1
 exact ⟨Z,u5,(B8 ⟨.of Z, .of Z,(.of (Q3<|N5 hv3).symm), .of Z,trivial⟩<|A2 G_hit (.of Z)<|I7 (gq Z) trivial)⟩
 refine C4 Z ?_
 cases hz1
 obtain rfl:=ez1 _ rfl
 refine ⟨nofun,C3 Z<|V2 ?_⟩
 exact ⟨g2,(B8 (K6 Z)<|A2 G_hit (.of Z)<|B3 (gq Z) trivial)⟩
 rintro _ ⟨g1,q1⟩
 refine A8 q1<|C0<|B6 (oS y1.1 (24,g1)) Z Z (B6 (oS y1.1 (24,g1)) Z Z (A1<|C1 ?_))
 cases h
 exact Av (.inr Z) [(24,g1)] (Aw (C2 Z)<|Ct<|Ql (.head _)<|gq Z) Cs ⟨⟨_,_,_,G_hit,(Es Z G2),Z,X0,Z⟩,trivial⟩
def Ba [Lp](p1:ByteArray):Option (Map×Int):=
  (Ce p1 (ByteArray.mk #[107,98,109,49])).bind fun v1=>cond (!v1.2) (some ((Map.mk 0 [] [] [] []),3)) ((B0 (RoadsReader.mk v1.1 false)).bind fun v2=>(K8 v2.2).bind fun v3=>(K9 v3.2).bind fun v4=>(J7 v4.2).bind fun v5=>(L0 v5.2).bind fun v6=>((cond (!(v6.2.short||(!(v6.2.s.toList==ByteArray.empty.toList)))) (R6 (Map.mk v2.1 v3.1 v4.1 v5.1 v6.1)) (some default))).bind fun v7=>cond ((v6.2.short||(!(v6.2.s.toList==ByteArray.empty.toList)))||(v7 !=0)) (some ((Map.mk 0 [] [] [] []),3)) ((Cd (Map.mk v2.1 v3.1 v4.1 v5.1 v6.1)).bind fun v8=>cond (!(v8.1.toList==p1.toList)) (some ((Map.mk 0 [] [] [] []),3)) (some ((Map.mk v2.1 v3.1 v4.1 v5.1 v6.1),0))))
theorem Me(p1 r)(h:Ba p1=some r):PCall prog 31 [(X6 p1)] (.tup [(.agg (Q2 r.1)),(i64 r.2)]):=by
 refine E3 (fk func31 ntmps31 (fun r=>if r==5 then [1005001]else if r==6 then [1006003]else if r==7 then [1007003]else if r==8 then [1008003]else if r==9 then [1009003]else []) (by with_unfolding_all rfl)) (nl Z) ?_
 unfold Ba at h
 refine A8 (s0:=⟨T [(0,(.d _))],G []⟩) (F5 Z Z) ?_
 refine lr<|fun u1 _=>sm Z<|sv Z<|A1<|C0<|sv Z<|bs h fun v1 hv1 h=>D1 Z Z A6 (Pi _ _ _ hv1) (.inl Z) (sv Z<|sv Z<|sv Z<|sv Z<|sv Z<|A1<|A4<|C0<|sv Z<|B6 (.d (bo (!v1.2))) Z Z (A1<|cc Z h (fun c1 h=> ?_)<|fun c1 h=> ?_))
 refine C0<|sv Z<|X7 Z G_hit [(di 0),(.d .nilS),(.d .nilS),(.d .nilS),(.d .nilS)] Z (sv Z<|A1<|C1 ?_)
 cases h
 exact B9 (.inr Z) (Nw (O8 Z G_hit (nl Z) Z) (C2 Z) D7 D7) (.tup (.cons (.agg (ca Z<|.cons ⟨DLe.nil,Z⟩ (.cons ⟨DLe.nil,Z⟩ (.cons ⟨DLe.nil,Z⟩ (.cons ⟨DLe.nil,Z⟩ .nil))))) A6))
 refine B4<|lr<|fun u5 _=>sv Z<|sv Z<|sm Z<|sq Z<|A1<|lr<|fun u6 _=>sq Z<|bs h fun v2 hv2 h=>Aj (v:= .d (i64 v2.1)) (us:= [(20,u5)]) (Ai (C7 _ _ hv2) [(20,u5)] [(20,u5)] _ (((20,u5),some<|.box 154 [(.d (X6 v2.2.s)),(.d (bo v2.2.short))])::_) Z J0 (E0 (J1 G_hit Z) J2) (D5 G_hit G9) ⟨⟨_,G_hit, .of Z⟩,trivial⟩ (fun _ h=>h) nd1 Z Z Z) (sv Z<|sm Z<|X7 Z G_hit [(di v2.1),(.d .nilS),(.d .nilS),(.d .nilS),(.d .nilS)] Z (A1<|A4<|A8 (s0:=⟨T [(0,(.d _)),(2,(.ptr _ _)),(6,(.ptr _ _)),(7,(.ptr _ _))],G [((2,u1),some<|.box 27 _),((20,u5),some<|.box 154 _),((7,u6),some<|.box 27 _)]⟩) (F5 Z Z) ?_))
 refine B5<|sq Z<|sq Z<|B6 (.fn _ _ _) Z Z (bs h fun v3 hv3 h=> ?_)
 refine Aj (v:= .d (.list (List.map O1 v3.1))) (us:= [(20,u5)]) (Ai (Du _ _ hv3) [(20,u5)] [(20,u5),(20,u5)] _ (((20,u5),some<|.box 154 [(.d (X6 v3.2.s)),(.d (bo v3.2.short))])::_) Z J0 (E0 (J1 (A7 Z G_hit) Z)<|E0 (Nx (E0 (J1 (A7 Z G_hit) Z) J2) Z) J2) (D5 (A7 Z G_hit)<|D5 (A7 Z G_hit) G9) ⟨⟨_,(A7 Z G_hit), .of Z⟩,trivial⟩ (by simp) nd1 Z Z Z) ?_
 refine sp Z Z<|X7 Z (gq Z) [(di v2.1),(dl O1 v3.1),(.d .nilS),(.d .nilS),(.d .nilS)] Z (A1<|C0<|sq Z<|sp Z Z<|B6 (.fn _ _ _) Z Z (bs h fun v4 hv4 h=> ?_))
 refine Aj (v:= .d (.list (List.map K4 v4.1))) (us:= [(20,u5)]) (Ai (Dw _ _ hv4) [(20,u5)] [(20,u5),(20,u5)] _ (((20,u5),some<|.box 154 [(.d (X6 v4.2.s)),(.d (bo v4.2.short))])::_) Z J0 (E0 (J1 (A7 Z G_hit) Z)<|E0 (Nx (E0 (J1 (A7 Z G_hit) Z) J2) Z) J2) (D5 (A7 Z G_hit)<|D5 (A7 Z G_hit) G9) ⟨⟨_,(A7 Z G_hit), .of Z⟩,trivial⟩ (by simp) nd1 Z Z Z) ?_
 refine sp Z Z<|X7 Z (gq Z) [(di v2.1),(dl O1 v3.1),(dl K4 v4.1),(.d .nilS),(.d .nilS)] Z (A1<|C0<|sq Z<|sp Z Z<|B6 (.fn _ _ _) Z Z (bs h fun v5 hv5 h=> ?_))
 refine Aj (v:= .d (.list (List.map P3 v5.1))) (us:= [(20,u5)]) (Ai (Cw _ _ hv5) [(20,u5)] [(20,u5),(20,u5)] _ (((20,u5),some<|.box 154 [(.d (X6 v5.2.s)),(.d (bo v5.2.short))])::_) Z J0 (E0 (J1 (A7 Z G_hit) Z)<|E0 (Nx (E0 (J1 (A7 Z G_hit) Z) J2) Z) J2) (D5 (A7 Z G_hit)<|D5 (A7 Z G_hit) G9) ⟨⟨_,(A7 Z G_hit), .of Z⟩,trivial⟩ (by simp) nd1 Z Z Z) ?_
 refine sp Z Z<|X7 Z (gq Z) [(di v2.1),(dl O1 v3.1),(dl K4 v4.1),(dl P3 v5.1),(.d .nilS)] Z (A1<|A4<|A8 (s0:=⟨T [(0,(.d _)),(2,(.ptr _ _)),(6,(.ptr _ _)),(7,(.ptr _ _))],G [((2,u1),some<|.box 27 _),((20,u5),some<|.box 154 _),((7,u6),some<|.box 27 _)]⟩) (F5 Z Z) ?_)
 refine B5<|sq Z<|sq Z<|B6 (.fn _ _ _) Z Z (bs h fun v6 hv6 h=> ?_)
 refine Aj (v:= .d (.list (List.map Ax v6.1))) (us:= [(20,u5)]) (Ai (Dx _ _ hv6) [(20,u5)] [(20,u5),(20,u5)] _ (((20,u5),some<|.box 154 [(.d (X6 v6.2.s)),(.d (bo v6.2.short))])::_) Z J0 (E0 (J1 (A7 Z G_hit) Z)<|E0 (Nx (E0 (J1 (A7 Z G_hit) Z) J2) Z) J2) (D5 (A7 Z G_hit)<|D5 (A7 Z G_hit) G9) ⟨⟨_,(A7 Z G_hit), .of Z⟩,trivial⟩ (by simp) nd1 Z Z Z) ?_
 refine sp Z Z<|X7 Z (gq Z) [(di v2.1),(dl O1 v3.1),(dl K4 v4.1),(dl P3 v5.1),(dl Ax v6.1)] Z (A1<|A4<|C0<|sq Z<|sp Z Z<|sq Z<|sl Z (gq Z) Z (sv Z<|gp Z (T9 Z) (fun _=>Z) ?_))
 refine R8 _ (.ptr _ _) Z (T9 Z) (fun w2=>(by simp only [A9 w2];rfl)) ?_
 refine R8 _ (.ptr _ _) Z (T9 Z) (fun w3=>(by simp only [A9 w3];rfl)) ?_
 refine gf Z (vl Z (gq Z) Z)<|gf Z (fun w5=>(NQ (A9 w5) Z))<|sd Z (Ed Z Z<|fun hc=>A9<|Y1 hc)<|sv Z<|gf Z (fun _=>(C6 Z G_hit Z Z))<|bs h fun v7 hv7 h=> ?_
 refine P4 _ (i64 v7) (T9 Z) (fun w7=>⟨_,[(.d (.agg [(i64 v2.1),(.list (List.map O1 v3.1)),(.list (List.map K4 v4.1)),(.list (List.map P3 v5.1)),(.list (List.map Ax v6.1))]))],_,_,(by simp only [A9 w7];rfl),Z,A6,Cv _ _<|K2 w7 hv7,(.inl Z)⟩) ?_
 refine gf Z (vb Z Z Z)<|sd Z (Ed Z Z<|fun hc=>A9<|Y1 hc)<|A1<|cc Z h (fun c2 h=> ?_)<|fun c2 h=> ?_
 refine A4<|A8 (s0:=⟨T [(2,(.ptr _ _))],G [((2,u1),some<|.box 27 _)]⟩) (F5 Z Z) ?_
 refine B5<|sv Z<|X7 Z G_hit [(di 0),(.d .nilS),(.d .nilS),(.d .nilS),(.d .nilS)] Z (sv Z<|A1<|C1 ?_)
 cases h
 exact B9 (.inr Z) (Nw (O8 Z G_hit (nl Z) Z) (C2 Z) D7 D7) (.tup (.cons (.agg (ca Z<|.cons ⟨DLe.nil,Z⟩ (.cons ⟨DLe.nil,Z⟩ (.cons ⟨DLe.nil,Z⟩ (.cons ⟨DLe.nil,Z⟩ .nil))))) A6))
 refine B4<|A4<|A4<|A8 (s0:=⟨T [(0,(.d _)),(2,(.ptr _ _)),(7,(.ptr _ _))],G [((2,u1),some<|.box 27 _),((7,u6),some<|.box 27 _)]⟩) (F5 Z Z) ?_
 refine B5<|sd Z (C6 Z (gq Z) Z Z)<|bs h fun _ hv8 h=>D1 Z Z A6 (Ph _ _ hv8) (.inl Z) (sv Z<|sv Z<|sv Z<|sv Z<|sv Z<|A1<|C0<|sv Z<|sv Z<|sd Z (NQ Z Z)<|A1<|cc Z h (fun c3 h=> ?_)<|fun c3 h=> ?_)
 refine C0<|sv Z<|X7 Z G_hit [(di 0),(.d .nilS),(.d .nilS),(.d .nilS),(.d .nilS)] Z (sv Z<|A1<|C1 ?_)
 cases h
 exact B9 (.inr Z) (Nw (O8 Z G_hit (nl Z) Z) (C2 Z) D7 D7) (.tup (.cons (.agg (ca Z<|.cons ⟨DLe.nil,Z⟩ (.cons ⟨DLe.nil,Z⟩ (.cons ⟨DLe.nil,Z⟩ (.cons ⟨DLe.nil,Z⟩ .nil))))) A6))
 refine B4<|C0<|sd Z (C6 Z (gq Z) Z Z)<|X7 Z G_hit [(di v2.1),(dl O1 v3.1),(dl K4 v4.1),(dl P3 v5.1),(dl Ax v6.1)] Z (sv Z<|A1<|C1 ?_)
 cases h
 exact B9 (.inr Z) (Nw (O8 Z G_hit (nl Z) Z) (C2 Z) D7 D7) (.refl _)
def S6 (p1:(List Spot))(p2:(List Spot))(x1:Int):Option (Stp Int (Sum Unit Bool)):=
  cond (decide (x1< (p1.length:Int))) ((F6 p1 x1).bind fun v1=>(F6 p2 x1).bind fun v2=>cond (!(v1.X==v2.X&& (v1.Y==v2.Y&&true))) (some (.out (.inr false))) (some (.go (I4 (x1+1))))) (some (.out (.inl ())))
def Al [Lp](p1:(List Spot))(p2:(List Spot)):Option Bool:=
  cond ((p1.length:Int) !=(p2.length:Int)) (some false) (thenS (loop (S6 p1 p2) 0) (fun _=>some true) (fun r=>some r))
theorem Ld(p1 p2 r)(h:Al p1 p2=some r):PCall prog 251 [(.list (List.map Q6 p1)),(.list (List.map Q6 p2))] (bo r):=by
 refine E3 (fk func251 ntmps251 m0 (by with_unfolding_all rfl)) (nl Z) ?_
 unfold Al at h
 refine A8 (s0:=⟨T [(0,(.d _)),(1,(.d _))],G []⟩) (F5 Z Z) ?_
 refine C0<|sv Z<|A1<|A4<|C0<|sv Z<|sd Z (D2 Z)<|sv Z<|sd Z (D2 Z)<|sv Z<|A1<|cc Z h (fun c1 h=> ?_)<|fun c1 h=> ?_
 refine C0<|sv Z<|A1<|C1 ?_
 cases h
 exact B9 (.inr Z) (C5 (C2 Z) D7) (.refl _)
 refine B4<|A4<|C0<|sv Z<|sd Z (D2 Z)<|sv Z<|A1<|js h fun z1 hz1 h=>D3 (fun s=> ∃(y1:Unit) (g1:Unit),z1= .inl y1∧Sb ⟨T [],G []⟩ s) ?_ ?_
 refine A5<|D6 (S6 p1 p2) (fun (x1:Int) (g2:Unit)=>⟨T [(0,(dl Q6 p1)),(1,(dl Q6 p2)),(12,(di (p1.length:Int))),(13,(di x1))],G []⟩) 0 () _ hz1 (F5 Z Z) ?_
 intro x1 g2 z2 hz2 ez2
 unfold S6 at hz2
 refine C0<|sv Z<|A1<|A4<|cc Z hz2 (fun c2 hz2=> ?_)<|fun c2 hz2=> ?_
 refine B4<|A4<|A5<|C0<|sv Z<|sv Z<|A1<|A4<|T7 Z<|sv Z<|sv Z<|bs hz2 fun v1 hv1 hz2=>sd Z (E7 Z Z hv1 Z)<|sd Z (E4 Z hv1 Z Z)<|sv Z<|sv Z<|bs hz2 fun v2 hv2 hz2=>sd Z (E7 Z Z hv2 Z)<|sd Z (E4 Z hv2 Z Z)<|B6 (.d (bo (!(v1.X==v2.X&& (v1.Y==v2.Y&&true))))) Z Z (A1<|cc Z hz2 (fun c3 hz2=> ?_)<|fun c3 hz2=> ?_)
 refine C0<|sv Z<|A1<|C1 ?_
 cases hz2
 obtain rfl:=ez2 _ rfl
 refine ⟨nofun,H7 ?_⟩
 rw [bP]at h
 cases h
 exact B9 (.inr Z) (C5 (C2 Z) D7) (.refl _)
 refine B4<|D8<|B5<|sv Z<|sv Z<|A1<|D9 ?_
 cases hz2
 exact ⟨Z,(),(F5 Z Z)⟩
 refine C4 Z ?_
 cases hz2
 obtain rfl:=ez2 _ rfl
 refine ⟨nofun,C3 Z<|V2 ?_⟩
 exact ⟨_,(),Z,(F5 Z Z)⟩
 rintro _ ⟨y1,g1,rfl,q1⟩
 rw [bO]at h
 refine A8 q1<|C0<|sv Z<|A1<|C1 ?_
 cases h
 exact B9 (.inr Z) (C5 (C2 Z) D7) (.refl _)
def Np [Lp](p1:Curve)(p2:Curve):Option Bool:=
  (Al p1.Pts p2.Pts).bind fun v1=>some v1
theorem Yh(p1 p2 r)(h:Np p1 p2=some r):PCall prog 198 [(.agg [(.list (List.map Q6 p1.Pts))]),(.agg [(.list (List.map Q6 p2.Pts))])] (bo r):=by
 refine E3 (fk func198 ntmps198 m0 (by with_unfolding_all rfl)) (nl Z) ?_
 unfold Np at h
 refine A8 (s0:=⟨T [(0,(.d _)),(1,(.d _))],G []⟩) (F5 Z Z) ?_
 refine C0<|sm Z<|sn Z Z<|sv Z<|A1<|C0<|sq Z<|sl Z (gq Z) Z (sq Z<|sl Z G_hit Z<|bs h fun _ hv1 h=>D1 Z Z A6 (Ld _ _ _ hv1) (.inl Z) (sv Z<|A1<|C1 ?_))
 cases h
 exact B9 (.inr Z) (C5 (C2 Z) D7) (.refl _)
def U1 (p1:(List Int))(p2:(List Int))(x1:Int):Option (Stp Int (Sum Unit Bool)):=
  cond (decide (x1< (p1.length:Int))) ((F6 p1 x1).bind fun v1=>(F6 p2 x1).bind fun v2=>cond (v1 !=v2) (some (.out (.inr false))) (some (.go (I4 (x1+1))))) (some (.out (.inl ())))
def Y4 [Lp](p1:(List Int))(p2:(List Int)):Option Bool:=
  cond ((p1.length:Int) !=(p2.length:Int)) (some false) (thenS (loop (U1 p1 p2) 0) (fun _=>some true) (fun r=>some r))
theorem Fx(p1 p2 r)(h:Y4 p1 p2=some r):PCall prog 199 [(.list (List.map A3 p1)),(.list (List.map A3 p2))] (bo r):=by
 refine E3 (fk func199 ntmps199 m0 (by with_unfolding_all rfl)) (nl Z) ?_
 unfold Y4 at h
 refine A8 (s0:=⟨T [(0,(.d _)),(1,(.d _))],G []⟩) (F5 Z Z) ?_
 refine C0<|sv Z<|A1<|A4<|C0<|sv Z<|sd Z (D2 Z)<|sv Z<|sd Z (D2 Z)<|sv Z<|A1<|cc Z h (fun c1 h=> ?_)<|fun c1 h=> ?_
 refine C0<|sv Z<|A1<|C1 ?_
 cases h
 exact B9 (.inr Z) (C5 (C2 Z) D7) (.refl _)
 refine B4<|A4<|C0<|sv Z<|sd Z (D2 Z)<|sv Z<|A1<|js h fun z1 hz1 h=>D3 (fun s=> ∃(y1:Unit) (g1:Unit),z1= .inl y1∧Sb ⟨T [],G []⟩ s) ?_ ?_
 refine A5<|D6 (U1 p1 p2) (fun (x1:Int) (g2:Unit)=>⟨T [(0,(dl A3 p1)),(1,(dl A3 p2)),(12,(di (p1.length:Int))),(13,(di x1))],G []⟩) 0 () _ hz1 (F5 Z Z) ?_
 intro x1 g2 z2 hz2 ez2
 unfold U1 at hz2
 refine C0<|sv Z<|A1<|A4<|cc Z hz2 (fun c2 hz2=> ?_)<|fun c2 hz2=> ?_
 refine B4<|A4<|A5<|C0<|sv Z<|sv Z<|A1<|A4<|T7 Z<|sv Z<|sv Z<|bs hz2 fun _ hv1 hz2=>sd Z (E7 Z Z hv1 Z)<|sd Z (G7 Z hv1 Z)<|sv Z<|sv Z<|bs hz2 fun _ hv2 hz2=>sd Z (E7 Z Z hv2 Z)<|sd Z (G7 Z hv2 Z)<|sv Z<|A1<|cc Z hz2 (fun c3 hz2=> ?_)<|fun c3 hz2=> ?_
 refine C0<|sv Z<|A1<|C1 ?_
 cases hz2
 obtain rfl:=ez2 _ rfl
 refine ⟨nofun,H7 ?_⟩
 rw [bP]at h
 cases h
 exact B9 (.inr Z) (C5 (C2 Z) D7) (.refl _)
 refine B4<|D8<|B5<|sv Z<|sv Z<|A1<|D9 ?_
 cases hz2
 exact ⟨Z,(),(F5 Z Z)⟩
 refine C4 Z ?_
 cases hz2
 obtain rfl:=ez2 _ rfl
 refine ⟨nofun,C3 Z<|V2 ?_⟩
 exact ⟨_,(),Z,(F5 Z Z)⟩
 rintro _ ⟨y1,g1,rfl,q1⟩
 rw [bO]at h
 refine A8 q1<|C0<|sv Z<|A1<|C1 ?_
 cases h
 exact B9 (.inr Z) (C5 (C2 Z) D7) (.refl _)
def Eg [Lp](p1:Lane)(p2:Lane):Option Bool:=
  ((cond (((p1.Kind==p2.Kind)&& (p1.Half==p2.Half))&& (p1.Limit==p2.Limit)) (Np p1.Curve_ p2.Curve_) (some default))).bind fun v1=>((cond ((((p1.Kind==p2.Kind)&& (p1.Half==p2.Half))&& (p1.Limit==p2.Limit))&&v1) (Y4 p1.Next p2.Next) (some default))).bind fun v2=>some (((((p1.Kind==p2.Kind)&& (p1.Half==p2.Half))&& (p1.Limit==p2.Limit))&&v1)&&v2)
theorem Sn(p1 p2 r)(h:Eg p1 p2=some r):PCall prog 96 [(.agg (O1 p1)),(.agg (O1 p2))] (bo r):=by
 refine E3 (fk func96 ntmps96 m0 (by with_unfolding_all rfl)) (nl Z) ?_
 unfold Eg at h
 refine A8 (s0:=⟨T [(0,(.d _)),(1,(.d _))],G []⟩) (F5 Z Z) ?_
 refine C0<|sm Z<|sn Z Z<|sv Z<|A1<|C0<|sq Z<|sl Z (gq Z) Z (sq Z<|sl Z G_hit Z<|sv Z<|sv Z<|gp Z (K0 Z) (fun _=>Z) (gt Z (vl Z (gq Z) Z)<|gp Z (K0 Z) (fun _=>Z) (gt Z (vl Z G_hit Z)<|gt Z (fun w5=>(Cu (A9 w5) (A9 w5) Z))<|sa Z Z Z<|sv Z<|gp Z (K0 Z) (fun _=>Z) (gt Z (vl Z (gq Z) Z)<|gp Z (K0 Z) (fun _=>Z) (gt Z (vl Z G_hit Z)<|gt Z (fun w10=>(Cu (A9 w10) (A9 w10) Z))<|sa Z Z Z<|sv Z<|gp Z (K0 Z) (fun _=>Z) (gt Z (fun w12=>(C6 (A9 w12) (gq Z) Z Z))<|gp Z (K0 Z) (fun _=>Z) (gt Z (fun w14=>(C6 (A9 w14) G_hit Z Z))<|bs h fun v1 hv1 h=> ?_)))))))
 refine P4 _ (bo v1) (K0 Z) (fun w15=>⟨_,[(.d (.agg [(.list (List.map Q6 p1.Curve_.Pts))])),(.d (.agg [(.list (List.map Q6 p2.Curve_.Pts))]))],_,_,(by simp only [A9 w15];rfl),Z,A6,Yh _ _ _<|K2 w15 hv1,(.inl Z)⟩) ?_
 refine sa Z Z Z<|sv Z<|gp Z (K0 Z) (fun _=>Z) (gt Z (vl Z (gq Z) Z)<|gp Z (K0 Z) (fun _=>Z) (gt Z (vl Z G_hit Z)<|bs h fun v2 hv2 h=> ?_))
 refine P4 _ (bo v2) (K0 Z) (fun w20=>⟨_,[(dl A3 p1.Next),(dl A3 p2.Next)],_,_,(by simp only [A9 w20];rfl),Z,A6,Fx _ _ _<|K2 w20 hv2,(.inl Z)⟩) ?_
 refine sa Z Z Z<|sv Z<|A1<|C1 ?_
 cases h
 exact B9 (.inr Z) (C5 (C2 Z) D7) (.refl _)
def G0 [Lp](p1:(List Lane))(p2:(List Lane))(x1:Int):Option (Stp Int (Sum Unit Bool)):=
  cond (decide (x1< (p1.length:Int))) ((F6 p1 x1).bind fun v1=>(F6 p2 x1).bind fun v2=>(Eg v1 v2).bind fun v3=>cond (!v3) (some (.out (.inr false))) (some (.go (I4 (x1+1))))) (some (.out (.inl ())))
def J4 [Lp](p1:(List Lane))(p2:(List Lane)):Option Bool:=
  cond ((p1.length:Int) !=(p2.length:Int)) (some false) (thenS (loop (G0 p1 p2) 0) (fun _=>some true) (fun r=>some r))
theorem Aa(p1 p2 r)(h:J4 p1 p2=some r):PCall prog 129 [(.list (List.map O1 p1)),(.list (List.map O1 p2)),(.fn (.func 96) [] [])] (bo r):=by
 refine E3 (fk func129 ntmps129 m0 (by with_unfolding_all rfl)) (nl Z) ?_
 unfold J4 at h
 refine A8 (s0:=⟨T [(0,(.d _)),(1,(.d _)),(2,(.d _))],G []⟩) (F5 Z Z) ?_
 refine C0<|sv Z<|A1<|A4<|C0<|sv Z<|sd Z (D2 Z)<|sv Z<|sd Z (D2 Z)<|sv Z<|A1<|cc Z h (fun c1 h=> ?_)<|fun c1 h=> ?_
 refine C0<|sv Z<|A1<|C1 ?_
 cases h
 exact B9 (.inr Z) (C5 (C2 Z) D7) (.refl _)
 refine B4<|A4<|C0<|sv Z<|sd Z (D2 Z)<|sv Z<|A1<|js h fun z1 hz1 h=>D3 (fun s=> ∃(y1:Unit) (g1:Unit),z1= .inl y1∧Sb ⟨T [],G []⟩ s) ?_ ?_
 refine A5<|D6 (G0 p1 p2) (fun (x1:Int) (g2:Unit)=>⟨T [(1,(dl O1 p2)),(2,(.d (.fn (.func 96) [] []))),(15,(dl O1 p1)),(16,(di (p1.length:Int))),(17,(di x1))],G []⟩) 0 () _ hz1 (F5 Z Z) ?_
 intro x1 g2 z2 hz2 ez2
 unfold G0 at hz2
 refine C0<|sv Z<|A1<|A4<|cc Z hz2 (fun c2 hz2=> ?_)<|fun c2 hz2=> ?_
 refine B4<|A4<|A5<|C0<|sv Z<|bs hz2 fun v1 hv1 hz2=>sd Z (E7 Z Z hv1 Z)<|sd Z (E4 Z hv1 Z Z)<|sm Z<|sv Z<|X7 Z G_hit (Bz v1) Z (A1<|C0<|sv Z<|sv Z<|bs hz2 fun v2 hv2 hz2=>sd Z (E7 Z Z hv2 Z)<|sd Z (E4 Z hv2 Z Z)<|sm Z<|X7 Z G_hit (Bz v2) Z (A1<|C0<|sv Z<|sd Z (C6 Z (gq Z) Z Z)<|sd Z (C6 Z G_hit Z Z)<|bs hz2 fun v3 hv3 hz2=>D1 Z Z A6 (Sn _ _ _ hv3) (.inl Z) (B6 (.d (bo (!v3))) Z Z (A1<|cc Z hz2 (fun c3 hz2=> ?_)<|fun c3 hz2=> ?_))))
 refine A4<|A8 (s0:=⟨T [],G []⟩) (F5 Z Z) ?_
 refine B5<|sv Z<|A1<|C1 ?_
 cases hz2
 obtain rfl:=ez2 _ rfl
 refine ⟨nofun,H7 ?_⟩
 rw [bP]at h
 cases h
 exact B9 (.inr Z) (C5 (C2 Z) D7) (.refl _)
 refine B4<|D8<|A8 (s0:=⟨T [(1,(.d _)),(2,(.d _)),(15,(.d _)),(16,(.d _)),(17,(.d _))],G []⟩) (F5 Z Z) ?_
 refine B5<|sv Z<|sv Z<|A1<|D9 ?_
 cases hz2
 exact ⟨Z,(),(F5 Z Z)⟩
 refine C4 Z ?_
 cases hz2
 obtain rfl:=ez2 _ rfl
 refine ⟨nofun,C3 Z<|V2 ?_⟩
 exact ⟨_,(),Z,(F5 Z Z)⟩
 rintro _ ⟨y1,g1,rfl,q1⟩
 rw [bO]at h
 refine A8 q1<|C0<|sv Z<|A1<|C1 ?_
 cases h
 exact B9 (.inr Z) (C5 (C2 Z) D7) (.refl _)
def S7 (p1:(List Part))(p2:(List Part))(x1:Int):Option (Stp Int (Sum Unit Bool)):=
  cond (decide (x1< (p1.length:Int))) ((F6 p1 x1).bind fun v1=>(F6 p2 x1).bind fun v2=>cond (!(v1.Lane_==v2.Lane_&& (v1.From==v2.From&& (v1.To==v2.To&& (v1.Rank==v2.Rank&&true))))) (some (.out (.inr false))) (some (.go (I4 (x1+1))))) (some (.out (.inl ())))
def Am [Lp](p1:(List Part))(p2:(List Part)):Option Bool:=
  cond ((p1.length:Int) !=(p2.length:Int)) (some false) (thenS (loop (S7 p1 p2) 0) (fun _=>some true) (fun r=>some r))
theorem Lf(p1 p2 r)(h:Am p1 p2=some r):PCall prog 200 [(.list (List.map H5 p1)),(.list (List.map H5 p2))] (bo r):=by
 refine E3 (fk func200 ntmps200 m0 (by with_unfolding_all rfl)) (nl Z) ?_
 unfold Am at h
 refine A8 (s0:=⟨T [(0,(.d _)),(1,(.d _))],G []⟩) (F5 Z Z) ?_
 refine C0<|sv Z<|A1<|A4<|C0<|sv Z<|sd Z (D2 Z)<|sv Z<|sd Z (D2 Z)<|sv Z<|A1<|cc Z h (fun c1 h=> ?_)<|fun c1 h=> ?_
 refine C0<|sv Z<|A1<|C1 ?_
 cases h
 exact B9 (.inr Z) (C5 (C2 Z) D7) (.refl _)
 refine B4<|A4<|C0<|sv Z<|sd Z (D2 Z)<|sv Z<|A1<|js h fun z1 hz1 h=>D3 (fun s=> ∃(y1:Unit) (g1:Unit),z1= .inl y1∧Sb ⟨T [],G []⟩ s) ?_ ?_
 refine A5<|D6 (S7 p1 p2) (fun (x1:Int) (g2:Unit)=>⟨T [(0,(dl H5 p1)),(1,(dl H5 p2)),(12,(di (p1.length:Int))),(13,(di x1))],G []⟩) 0 () _ hz1 (F5 Z Z) ?_
 intro x1 g2 z2 hz2 ez2
 unfold S7 at hz2
 refine C0<|sv Z<|A1<|A4<|cc Z hz2 (fun c2 hz2=> ?_)<|fun c2 hz2=> ?_
 refine B4<|A4<|A5<|C0<|sv Z<|sv Z<|A1<|A4<|T7 Z<|sv Z<|sv Z<|bs hz2 fun v1 hv1 hz2=>sd Z (E7 Z Z hv1 Z)<|sd Z (E4 Z hv1 Z Z)<|sv Z<|sv Z<|bs hz2 fun v2 hv2 hz2=>sd Z (E7 Z Z hv2 Z)<|sd Z (E4 Z hv2 Z Z)<|B6 (.d (bo (!(v1.Lane_==v2.Lane_&& (v1.From==v2.From&& (v1.To==v2.To&& (v1.Rank==v2.Rank&&true))))))) Z Z (A1<|cc Z hz2 (fun c3 hz2=> ?_)<|fun c3 hz2=> ?_)
 refine C0<|sv Z<|A1<|C1 ?_
 cases hz2
 obtain rfl:=ez2 _ rfl
 refine ⟨nofun,H7 ?_⟩
 rw [bP]at h
 cases h
 exact B9 (.inr Z) (C5 (C2 Z) D7) (.refl _)
 refine B4<|D8<|B5<|sv Z<|sv Z<|A1<|D9 ?_
 cases hz2
 exact ⟨Z,(),(F5 Z Z)⟩
 refine C4 Z ?_
 cases hz2
 obtain rfl:=ez2 _ rfl
 refine ⟨nofun,C3 Z<|V2 ?_⟩
 exact ⟨_,(),Z,(F5 Z Z)⟩
 rintro _ ⟨y1,g1,rfl,q1⟩
 rw [bO]at h
 refine A8 q1<|C0<|sv Z<|A1<|C1 ?_
 cases h
 exact B9 (.inr Z) (C5 (C2 Z) D7) (.refl _)
def Eh [Lp](p1:Zone)(p2:Zone):Option Bool:=
  ((cond (p1.Signal_==p2.Signal_) (Am p1.Parts p2.Parts) (some default))).bind fun v1=>some ((p1.Signal_==p2.Signal_)&&v1)
theorem So(p1 p2 r)(h:Eh p1 p2=some r):PCall prog 99 [(.agg [(.list (List.map H5 p1.Parts)),(i64 p1.Signal_)]),(.agg [(.list (List.map H5 p2.Parts)),(i64 p2.Signal_)])] (bo r):=by
 refine E3 (fk func99 ntmps99 m0 (by with_unfolding_all rfl)) (nl Z) ?_
 unfold Eh at h
 refine A8 (s0:=⟨T [(0,(.d _)),(1,(.d _))],G []⟩) (F5 Z Z) ?_
 refine C0<|sm Z<|sn Z Z<|sv Z<|A1<|C0<|sq Z<|sl Z (gq Z) Z (sq Z<|sl Z G_hit Z<|sv Z<|sv Z<|gp Z (K0 Z) (fun _=>Z) (gt Z (vl Z (gq Z) Z)<|gp Z (K0 Z) (fun _=>Z) (gt Z (vl Z G_hit Z)<|bs h fun v1 hv1 h=> ?_)))
 refine P4 _ (bo v1) (K0 Z) (fun w5=>⟨_,[(dl H5 p1.Parts),(dl H5 p2.Parts)],_,_,(by simp only [A9 w5];rfl),Z,A6,Lf _ _ _<|K2 w5 hv1,(.inl Z)⟩) ?_
 refine sa Z Z Z<|sv Z<|A1<|C1 ?_
 cases h
 exact B9 (.inr Z) (C5 (C2 Z) D7) (.refl _)
def G1 [Lp](p1:(List Zone))(p2:(List Zone))(x1:Int):Option (Stp Int (Sum Unit Bool)):=
  cond (decide (x1< (p1.length:Int))) ((F6 p1 x1).bind fun v1=>(F6 p2 x1).bind fun v2=>(Eh v1 v2).bind fun v3=>cond (!v3) (some (.out (.inr false))) (some (.go (I4 (x1+1))))) (some (.out (.inl ())))
def J5 [Lp](p1:(List Zone))(p2:(List Zone)):Option Bool:=
  cond ((p1.length:Int) !=(p2.length:Int)) (some false) (thenS (loop (G1 p1 p2) 0) (fun _=>some true) (fun r=>some r))
theorem Ab(p1 p2 r)(h:J5 p1 p2=some r):PCall prog 130 [(.list (List.map K4 p1)),(.list (List.map K4 p2)),(.fn (.func 99) [] [])] (bo r):=by
 refine E3 (fk func130 ntmps130 m0 (by with_unfolding_all rfl)) (nl Z) ?_
 unfold J5 at h
 refine A8 (s0:=⟨T [(0,(.d _)),(1,(.d _)),(2,(.d _))],G []⟩) (F5 Z Z) ?_
 refine C0<|sv Z<|A1<|A4<|C0<|sv Z<|sd Z (D2 Z)<|sv Z<|sd Z (D2 Z)<|sv Z<|A1<|cc Z h (fun c1 h=> ?_)<|fun c1 h=> ?_
 refine C0<|sv Z<|A1<|C1 ?_
 cases h
 exact B9 (.inr Z) (C5 (C2 Z) D7) (.refl _)
 refine B4<|A4<|C0<|sv Z<|sd Z (D2 Z)<|sv Z<|A1<|js h fun z1 hz1 h=>D3 (fun s=> ∃(y1:Unit) (g1:Unit),z1= .inl y1∧Sb ⟨T [],G []⟩ s) ?_ ?_
 refine A5<|D6 (G1 p1 p2) (fun (x1:Int) (g2:Unit)=>⟨T [(1,(dl K4 p2)),(2,(.d (.fn (.func 99) [] []))),(15,(dl K4 p1)),(16,(di (p1.length:Int))),(17,(di x1))],G []⟩) 0 () _ hz1 (F5 Z Z) ?_
 intro x1 g2 z2 hz2 ez2
 unfold G1 at hz2
 refine C0<|sv Z<|A1<|A4<|cc Z hz2 (fun c2 hz2=> ?_)<|fun c2 hz2=> ?_
 refine B4<|A4<|A5<|C0<|sv Z<|bs hz2 fun v1 hv1 hz2=>sd Z (E7 Z Z hv1 Z)<|sd Z (E4 Z hv1 Z Z)<|sm Z<|sv Z<|X7 Z G_hit [(dl H5 v1.Parts),(di v1.Signal_)] Z (A1<|C0<|sv Z<|sv Z<|bs hz2 fun v2 hv2 hz2=>sd Z (E7 Z Z hv2 Z)<|sd Z (E4 Z hv2 Z Z)<|sm Z<|X7 Z G_hit [(dl H5 v2.Parts),(di v2.Signal_)] Z (A1<|C0<|sv Z<|sd Z (C6 Z (gq Z) Z Z)<|sd Z (C6 Z G_hit Z Z)<|bs hz2 fun v3 hv3 hz2=>D1 Z Z A6 (So _ _ _ hv3) (.inl Z) (B6 (.d (bo (!v3))) Z Z (A1<|cc Z hz2 (fun c3 hz2=> ?_)<|fun c3 hz2=> ?_))))
 refine A4<|A8 (s0:=⟨T [],G []⟩) (F5 Z Z) ?_
 refine B5<|sv Z<|A1<|C1 ?_
 cases hz2
 obtain rfl:=ez2 _ rfl
 refine ⟨nofun,H7 ?_⟩
 rw [bP]at h
 cases h
 exact B9 (.inr Z) (C5 (C2 Z) D7) (.refl _)
 refine B4<|D8<|A8 (s0:=⟨T [(1,(.d _)),(2,(.d _)),(15,(.d _)),(16,(.d _)),(17,(.d _))],G []⟩) (F5 Z Z) ?_
 refine B5<|sv Z<|sv Z<|A1<|D9 ?_
 cases hz2
 exact ⟨Z,(),(F5 Z Z)⟩
 refine C4 Z ?_
 cases hz2
 obtain rfl:=ez2 _ rfl
 refine ⟨nofun,C3 Z<|V2 ?_⟩
 exact ⟨_,(),Z,(F5 Z Z)⟩
 rintro _ ⟨y1,g1,rfl,q1⟩
 rw [bO]at h
 refine A8 q1<|C0<|sv Z<|A1<|C1 ?_
 cases h
 exact B9 (.inr Z) (C5 (C2 Z) D7) (.refl _)
def Bb [Lp](p1:Phase)(p2:Phase):Option Bool:=
  ((cond (p1.Ticks==p2.Ticks) (Y4 p1.Green p2.Green) (some default))).bind fun v1=>some ((p1.Ticks==p2.Ticks)&&v1)
theorem Of(p1 p2 r)(h:Bb p1 p2=some r):PCall prog 202 [(.agg [(i64 p1.Ticks),(.list (List.map A3 p1.Green))]),(.agg [(i64 p2.Ticks),(.list (List.map A3 p2.Green))])] (bo r):=by
 refine E3 (fk func202 ntmps202 m0 (by with_unfolding_all rfl)) (nl Z) ?_
 unfold Bb at h
 refine A8 (s0:=⟨T [(0,(.d _)),(1,(.d _))],G []⟩) (F5 Z Z) ?_
 refine C0<|sm Z<|sn Z Z<|sv Z<|A1<|C0<|sq Z<|sl Z (gq Z) Z (sq Z<|sl Z G_hit Z<|sv Z<|sv Z<|gp Z (K0 Z) (fun _=>Z) (gt Z (vl Z (gq Z) Z)<|gp Z (K0 Z) (fun _=>Z) (gt Z (vl Z G_hit Z)<|bs h fun v1 hv1 h=> ?_)))
 refine P4 _ (bo v1) (K0 Z) (fun w5=>⟨_,[(dl A3 p1.Green),(dl A3 p2.Green)],_,_,(by simp only [A9 w5];rfl),Z,A6,Fx _ _ _<|K2 w5 hv1,(.inl Z)⟩) ?_
 refine sa Z Z Z<|sv Z<|A1<|C1 ?_
 cases h
 exact B9 (.inr Z) (C5 (C2 Z) D7) (.refl _)
def E9 [Lp](p1:(List Phase))(p2:(List Phase))(x1:Int):Option (Stp Int (Sum Unit Bool)):=
  cond (decide (x1< (p1.length:Int))) ((F6 p1 x1).bind fun v1=>(F6 p2 x1).bind fun v2=>(Bb v1 v2).bind fun v3=>cond (!v3) (some (.out (.inr false))) (some (.go (I4 (x1+1))))) (some (.out (.inl ())))
def H9 [Lp](p1:(List Phase))(p2:(List Phase)):Option Bool:=
  cond ((p1.length:Int) !=(p2.length:Int)) (some false) (thenS (loop (E9 p1 p2) 0) (fun _=>some true) (fun r=>some r))
theorem V5(p1 p2 r)(h:H9 p1 p2=some r):PCall prog 201 [(.list (List.map L4 p1)),(.list (List.map L4 p2)),(.fn (.func 202) [] [])] (bo r):=by
 refine E3 (fk func201 ntmps201 m0 (by with_unfolding_all rfl)) (nl Z) ?_
 unfold H9 at h
 refine A8 (s0:=⟨T [(0,(.d _)),(1,(.d _)),(2,(.d _))],G []⟩) (F5 Z Z) ?_
 refine C0<|sv Z<|A1<|A4<|C0<|sv Z<|sd Z (D2 Z)<|sv Z<|sd Z (D2 Z)<|sv Z<|A1<|cc Z h (fun c1 h=> ?_)<|fun c1 h=> ?_
 refine C0<|sv Z<|A1<|C1 ?_
 cases h
 exact B9 (.inr Z) (C5 (C2 Z) D7) (.refl _)
 refine B4<|A4<|C0<|sv Z<|sd Z (D2 Z)<|sv Z<|A1<|js h fun z1 hz1 h=>D3 (fun s=> ∃(y1:Unit) (g1:Unit),z1= .inl y1∧Sb ⟨T [],G []⟩ s) ?_ ?_
 refine A5<|D6 (E9 p1 p2) (fun (x1:Int) (g2:Unit)=>⟨T [(1,(dl L4 p2)),(2,(.d (.fn (.func 202) [] []))),(15,(dl L4 p1)),(16,(di (p1.length:Int))),(17,(di x1))],G []⟩) 0 () _ hz1 (F5 Z Z) ?_
 intro x1 g2 z2 hz2 ez2
 unfold E9 at hz2
 refine C0<|sv Z<|A1<|A4<|cc Z hz2 (fun c2 hz2=> ?_)<|fun c2 hz2=> ?_
 refine B4<|A4<|A5<|C0<|sv Z<|bs hz2 fun v1 hv1 hz2=>sd Z (E7 Z Z hv1 Z)<|sd Z (E4 Z hv1 Z Z)<|sm Z<|sv Z<|X7 Z G_hit [(di v1.Ticks),(dl A3 v1.Green)] Z (A1<|C0<|sv Z<|sv Z<|bs hz2 fun v2 hv2 hz2=>sd Z (E7 Z Z hv2 Z)<|sd Z (E4 Z hv2 Z Z)<|sm Z<|X7 Z G_hit [(di v2.Ticks),(dl A3 v2.Green)] Z (A1<|C0<|sv Z<|sd Z (C6 Z (gq Z) Z Z)<|sd Z (C6 Z G_hit Z Z)<|bs hz2 fun v3 hv3 hz2=>D1 Z Z A6 (Of _ _ _ hv3) (.inl Z) (B6 (.d (bo (!v3))) Z Z (A1<|cc Z hz2 (fun c3 hz2=> ?_)<|fun c3 hz2=> ?_))))
 refine A4<|A8 (s0:=⟨T [],G []⟩) (F5 Z Z) ?_
 refine B5<|sv Z<|A1<|C1 ?_
 cases hz2
 obtain rfl:=ez2 _ rfl
 refine ⟨nofun,H7 ?_⟩
 rw [bP]at h
 cases h
 exact B9 (.inr Z) (C5 (C2 Z) D7) (.refl _)
 refine B4<|D8<|A8 (s0:=⟨T [(1,(.d _)),(2,(.d _)),(15,(.d _)),(16,(.d _)),(17,(.d _))],G []⟩) (F5 Z Z) ?_
 refine B5<|sv Z<|sv Z<|A1<|D9 ?_
 cases hz2
 exact ⟨Z,(),(F5 Z Z)⟩
 refine C4 Z ?_
 cases hz2
 obtain rfl:=ez2 _ rfl
 refine ⟨nofun,C3 Z<|V2 ?_⟩
 exact ⟨_,(),Z,(F5 Z Z)⟩
 rintro _ ⟨y1,g1,rfl,q1⟩
 rw [bO]at h
 refine A8 q1<|C0<|sv Z<|A1<|C1 ?_
 cases h
 exact B9 (.inr Z) (C5 (C2 Z) D7) (.refl _)
def Cx [Lp](p1:Signal)(p2:Signal):Option Bool:=
  ((cond (p1.Offset==p2.Offset) (H9 p1.Phases p2.Phases) (some default))).bind fun v1=>some ((p1.Offset==p2.Offset)&&v1)
theorem Qb(p1 p2 r)(h:Cx p1 p2=some r):PCall prog 102 [(.agg [(i64 p1.Offset),(.list (List.map L4 p1.Phases))]),(.agg [(i64 p2.Offset),(.list (List.map L4 p2.Phases))])] (bo r):=by
 refine E3 (fk func102 ntmps102 m0 (by with_unfolding_all rfl)) (nl Z) ?_
 unfold Cx at h
 refine A8 (s0:=⟨T [(0,(.d _)),(1,(.d _))],G []⟩) (F5 Z Z) ?_
 refine C0<|sm Z<|sn Z Z<|sv Z<|A1<|C0<|sq Z<|sl Z (gq Z) Z (sq Z<|sl Z G_hit Z<|sv Z<|sv Z<|gp Z (K0 Z) (fun _=>Z) (gt Z (vl Z (gq Z) Z)<|gp Z (K0 Z) (fun _=>Z) (gt Z (vl Z G_hit Z)<|bs h fun v1 hv1 h=> ?_)))
 refine P4 _ (bo v1) (K0 Z) (fun w5=>⟨_,[(dl L4 p1.Phases),(dl L4 p2.Phases),(.d (.fn (.func 202) [] []))],_,_,(by simp only [A9 w5];rfl),Z,A6,V5 _ _ _<|K2 w5 hv1,(.inl Z)⟩) ?_
 refine sa Z Z Z<|sv Z<|A1<|C1 ?_
 cases h
 exact B9 (.inr Z) (C5 (C2 Z) D7) (.refl _)
def E5 [Lp](p1:(List Signal))(p2:(List Signal))(x1:Int):Option (Stp Int (Sum Unit Bool)):=
  cond (decide (x1< (p1.length:Int))) ((F6 p1 x1).bind fun v1=>(F6 p2 x1).bind fun v2=>(Cx v1 v2).bind fun v3=>cond (!v3) (some (.out (.inr false))) (some (.go (I4 (x1+1))))) (some (.out (.inl ())))
def H4 [Lp](p1:(List Signal))(p2:(List Signal)):Option Bool:=
  cond ((p1.length:Int) !=(p2.length:Int)) (some false) (thenS (loop (E5 p1 p2) 0) (fun _=>some true) (fun r=>some r))
theorem U8(p1 p2 r)(h:H4 p1 p2=some r):PCall prog 131 [(.list (List.map P3 p1)),(.list (List.map P3 p2)),(.fn (.func 102) [] [])] (bo r):=by
 refine E3 (fk func131 ntmps131 m0 (by with_unfolding_all rfl)) (nl Z) ?_
 unfold H4 at h
 refine A8 (s0:=⟨T [(0,(.d _)),(1,(.d _)),(2,(.d _))],G []⟩) (F5 Z Z) ?_
 refine C0<|sv Z<|A1<|A4<|C0<|sv Z<|sd Z (D2 Z)<|sv Z<|sd Z (D2 Z)<|sv Z<|A1<|cc Z h (fun c1 h=> ?_)<|fun c1 h=> ?_
 refine C0<|sv Z<|A1<|C1 ?_
 cases h
 exact B9 (.inr Z) (C5 (C2 Z) D7) (.refl _)
 refine B4<|A4<|C0<|sv Z<|sd Z (D2 Z)<|sv Z<|A1<|js h fun z1 hz1 h=>D3 (fun s=> ∃(y1:Unit) (g1:Unit),z1= .inl y1∧Sb ⟨T [],G []⟩ s) ?_ ?_
 refine A5<|D6 (E5 p1 p2) (fun (x1:Int) (g2:Unit)=>⟨T [(1,(dl P3 p2)),(2,(.d (.fn (.func 102) [] []))),(15,(dl P3 p1)),(16,(di (p1.length:Int))),(17,(di x1))],G []⟩) 0 () _ hz1 (F5 Z Z) ?_
 intro x1 g2 z2 hz2 ez2
 unfold E5 at hz2
 refine C0<|sv Z<|A1<|A4<|cc Z hz2 (fun c2 hz2=> ?_)<|fun c2 hz2=> ?_
 refine B4<|A4<|A5<|C0<|sv Z<|bs hz2 fun v1 hv1 hz2=>sd Z (E7 Z Z hv1 Z)<|sd Z (E4 Z hv1 Z Z)<|sm Z<|sv Z<|X7 Z G_hit [(di v1.Offset),(dl L4 v1.Phases)] Z (A1<|C0<|sv Z<|sv Z<|bs hz2 fun v2 hv2 hz2=>sd Z (E7 Z Z hv2 Z)<|sd Z (E4 Z hv2 Z Z)<|sm Z<|X7 Z G_hit [(di v2.Offset),(dl L4 v2.Phases)] Z (A1<|C0<|sv Z<|sd Z (C6 Z (gq Z) Z Z)<|sd Z (C6 Z G_hit Z Z)<|bs hz2 fun v3 hv3 hz2=>D1 Z Z A6 (Qb _ _ _ hv3) (.inl Z) (B6 (.d (bo (!v3))) Z Z (A1<|cc Z hz2 (fun c3 hz2=> ?_)<|fun c3 hz2=> ?_))))
 refine A4<|A8 (s0:=⟨T [],G []⟩) (F5 Z Z) ?_
 refine B5<|sv Z<|A1<|C1 ?_
 cases hz2
 obtain rfl:=ez2 _ rfl
 refine ⟨nofun,H7 ?_⟩
 rw [bP]at h
 cases h
 exact B9 (.inr Z) (C5 (C2 Z) D7) (.refl _)
 refine B4<|D8<|A8 (s0:=⟨T [(1,(.d _)),(2,(.d _)),(15,(.d _)),(16,(.d _)),(17,(.d _))],G []⟩) (F5 Z Z) ?_
 refine B5<|sv Z<|sv Z<|A1<|D9 ?_
 cases hz2
 exact ⟨Z,(),(F5 Z Z)⟩
 refine C4 Z ?_
 cases hz2
 obtain rfl:=ez2 _ rfl
 refine ⟨nofun,C3 Z<|V2 ?_⟩
 exact ⟨_,(),Z,(F5 Z Z)⟩
 rintro _ ⟨y1,g1,rfl,q1⟩
 rw [bO]at h
 refine A8 q1<|C0<|sv Z<|A1<|C1 ?_
 cases h
 exact B9 (.inr Z) (C5 (C2 Z) D7) (.refl _)
def S8 (p1:(List Work))(p2:(List Work))(x1:Int):Option (Stp Int (Sum Unit Bool)):=
  cond (decide (x1< (p1.length:Int))) ((F6 p1 x1).bind fun v1=>(F6 p2 x1).bind fun v2=>cond (!(v1.Lane_==v2.Lane_&& (v1.From==v2.From&& (v1.To==v2.To&& (v1.Begin==v2.Begin&& (v1.End==v2.End&& (v1.Limit==v2.Limit&&true))))))) (some (.out (.inr false))) (some (.go (I4 (x1+1))))) (some (.out (.inl ())))
def An [Lp](p1:(List Work))(p2:(List Work)):Option Bool:=
  cond ((p1.length:Int) !=(p2.length:Int)) (some false) (thenS (loop (S8 p1 p2) 0) (fun _=>some true) (fun r=>some r))
theorem Lg(p1 p2 r)(h:An p1 p2=some r):PCall prog 132 [(.list (List.map Ax p1)),(.list (List.map Ax p2))] (bo r):=by
 refine E3 (fk func132 ntmps132 m0 (by with_unfolding_all rfl)) (nl Z) ?_
 unfold An at h
 refine A8 (s0:=⟨T [(0,(.d _)),(1,(.d _))],G []⟩) (F5 Z Z) ?_
 refine C0<|sv Z<|A1<|A4<|C0<|sv Z<|sd Z (D2 Z)<|sv Z<|sd Z (D2 Z)<|sv Z<|A1<|cc Z h (fun c1 h=> ?_)<|fun c1 h=> ?_
 refine C0<|sv Z<|A1<|C1 ?_
 cases h
 exact B9 (.inr Z) (C5 (C2 Z) D7) (.refl _)
 refine B4<|A4<|C0<|sv Z<|sd Z (D2 Z)<|sv Z<|A1<|js h fun z1 hz1 h=>D3 (fun s=> ∃(y1:Unit) (g1:Unit),z1= .inl y1∧Sb ⟨T [],G []⟩ s) ?_ ?_
 refine A5<|D6 (S8 p1 p2) (fun (x1:Int) (g2:Unit)=>⟨T [(0,(dl Ax p1)),(1,(dl Ax p2)),(12,(di (p1.length:Int))),(13,(di x1))],G []⟩) 0 () _ hz1 (F5 Z Z) ?_
 intro x1 g2 z2 hz2 ez2
 unfold S8 at hz2
 refine C0<|sv Z<|A1<|A4<|cc Z hz2 (fun c2 hz2=> ?_)<|fun c2 hz2=> ?_
 refine B4<|A4<|A5<|C0<|sv Z<|sv Z<|A1<|A4<|T7 Z<|sv Z<|sv Z<|bs hz2 fun v1 hv1 hz2=>sd Z (E7 Z Z hv1 Z)<|sd Z (E4 Z hv1 Z Z)<|sv Z<|sv Z<|bs hz2 fun v2 hv2 hz2=>sd Z (E7 Z Z hv2 Z)<|sd Z (E4 Z hv2 Z Z)<|B6 (.d (bo (!(v1.Lane_==v2.Lane_&& (v1.From==v2.From&& (v1.To==v2.To&& (v1.Begin==v2.Begin&& (v1.End==v2.End&& (v1.Limit==v2.Limit&&true))))))))) Z Z (A1<|cc Z hz2 (fun c3 hz2=> ?_)<|fun c3 hz2=> ?_)
 refine C0<|sv Z<|A1<|C1 ?_
 cases hz2
 obtain rfl:=ez2 _ rfl
 refine ⟨nofun,H7 ?_⟩
 rw [bP]at h
 cases h
 exact B9 (.inr Z) (C5 (C2 Z) D7) (.refl _)
 refine B4<|D8<|B5<|sv Z<|sv Z<|A1<|D9 ?_
 cases hz2
 exact ⟨Z,(),(F5 Z Z)⟩
 refine C4 Z ?_
 cases hz2
 obtain rfl:=ez2 _ rfl
 refine ⟨nofun,C3 Z<|V2 ?_⟩
 exact ⟨_,(),Z,(F5 Z Z)⟩
 rintro _ ⟨y1,g1,rfl,q1⟩
 rw [bO]at h
 refine A8 q1<|C0<|sv Z<|A1<|C1 ?_
 cases h
 exact B9 (.inr Z) (C5 (C2 Z) D7) (.refl _)
def Kq [Lp](p1:Map)(p2:Map):Option Bool:=
  ((cond (p1.Version==p2.Version) (J4 p1.Lanes p2.Lanes) (some default))).bind fun v1=>((cond ((p1.Version==p2.Version)&&v1) (J5 p1.Zones p2.Zones) (some default))).bind fun v2=>((cond (((p1.Version==p2.Version)&&v1)&&v2) (H4 p1.Signals p2.Signals) (some default))).bind fun v3=>((cond ((((p1.Version==p2.Version)&&v1)&&v2)&&v3) (An p1.Works p2.Works) (some default))).bind fun v4=>some (((((p1.Version==p2.Version)&&v1)&&v2)&&v3)&&v4)
theorem Yi(p1 p2 r)(h:Kq p1 p2=some r):PCall prog 32 [(.agg (Q2 p1)),(.agg (Q2 p2))] (bo r):=by
 refine E3 (fk func32 ntmps32 m0 (by with_unfolding_all rfl)) (nl Z) ?_
 unfold Kq at h
 refine A8 (s0:=⟨T [(0,(.d _)),(1,(.d _))],G []⟩) (F5 Z Z) ?_
 refine C0<|sm Z<|sn Z Z<|sv Z<|A1<|C0<|sq Z<|sl Z (gq Z) Z (sq Z<|sl Z G_hit Z<|sv Z<|sv Z<|gp Z (K0 Z) (fun _=>Z) (gt Z (vl Z (gq Z) Z)<|gp Z (K0 Z) (fun _=>Z) (gt Z (vl Z G_hit Z)<|bs h fun v1 hv1 h=> ?_)))
 refine P4 _ (bo v1) (K0 Z) (fun w5=>⟨_,[(dl O1 p1.Lanes),(dl O1 p2.Lanes),(.d (.fn (.func 96) [] []))],_,_,(by simp only [A9 w5];rfl),Z,A6,Aa _ _ _<|K2 w5 hv1,(.inl Z)⟩) ?_
 refine sa Z Z Z<|sv Z<|gp Z (K0 Z) (fun _=>Z) (gt Z (vl Z (gq Z) Z)<|gp Z (K0 Z) (fun _=>Z) (gt Z (vl Z G_hit Z)<|bs h fun v2 hv2 h=> ?_))
 refine P4 _ (bo v2) (K0 Z) (fun w10=>⟨_,[(dl K4 p1.Zones),(dl K4 p2.Zones),(.d (.fn (.func 99) [] []))],_,_,(by simp only [A9 w10];rfl),Z,A6,Ab _ _ _<|K2 w10 hv2,(.inl Z)⟩) ?_
 refine sa Z Z Z<|sv Z<|gp Z (K0 Z) (fun _=>Z) (gt Z (vl Z (gq Z) Z)<|gp Z (K0 Z) (fun _=>Z) (gt Z (vl Z G_hit Z)<|bs h fun v3 hv3 h=> ?_))
 refine P4 _ (bo v3) (K0 Z) (fun w15=>⟨_,[(dl P3 p1.Signals),(dl P3 p2.Signals),(.d (.fn (.func 102) [] []))],_,_,(by simp only [A9 w15];rfl),Z,A6,U8 _ _ _<|K2 w15 hv3,(.inl Z)⟩) ?_
 refine sa Z Z Z<|sv Z<|gp Z (K0 Z) (fun _=>Z) (gt Z (vl Z (gq Z) Z)<|gp Z (K0 Z) (fun _=>Z) (gt Z (vl Z G_hit Z)<|bs h fun v4 hv4 h=> ?_))
 refine P4 _ (bo v4) (K0 Z) (fun w20=>⟨_,[(dl Ax p1.Works),(dl Ax p2.Works)],_,_,(by simp only [A9 w20];rfl),Z,A6,Lg _ _ _<|K2 w20 hv4,(.inl Z)⟩) ?_
 refine sa Z Z Z<|sv Z<|A1<|C1 ?_
 cases h
 exact B9 (.inr Z) (C5 (C2 Z) D7) (.refl _)
def Fq (p1:Map)(p2:Int):Option Int:=
  (F6 [(p1.Lanes.length:Int),(p1.Zones.length:Int),(p1.Signals.length:Int),(p1.Works.length:Int)] (I4 (p2 - 1))).bind fun v1=>some v1
theorem Mf(p1 p2 r)(h:Fq p1 p2=some r):PCall prog 84 [(.agg (Q2 p1)),(i64 p2)] (i64 r):=by
 refine E3 (fk func84 ntmps84 (fun r=>if r==1 then [1012]else []) (by with_unfolding_all rfl)) (nl Z) ?_
 unfold Fq at h
 refine A8 (s0:=⟨T [(0,(.d _)),(1,(.d _))],G []⟩) (F5 Z Z) ?_
 refine C0<|sm Z<|sv Z<|A1<|C0<|sq Z<|sl Z G_hit Z<|sd Z (D2 Z)<|sq Z<|sl Z G_hit Z<|sd Z (D2 Z)<|sq Z<|sl Z G_hit Z<|sd Z (D2 Z)<|sq Z<|sl Z G_hit Z<|sd Z (D2 Z)<|B6 (dl A3 [(p1.Lanes.length:Int),(p1.Zones.length:Int),(p1.Signals.length:Int),(p1.Works.length:Int)]) Z Z (sv Z<|sv Z<|bs h fun _ hv1 h=>sd Z (E7 Z Z hv1 Z)<|sd Z (G7 Z hv1 Z)<|sv Z<|A1<|C1 ?_)
 cases h
 exact B9 (.inr Z) (C5 (C2 Z) D7) (.refl _)
def Fi (p1:Curve)(p2:Curve)(x1:Int):Option (Stp Int (Sum Unit Bool)):=
  cond (decide (x1< (p1.Pts.length:Int))) ((F6 p1.Pts x1).bind fun v1=>(F6 p2.Pts x1).bind fun v2=>cond (!(v1.X==v2.X&& (v1.Y==v2.Y&&true))) (some (.out (.inr false))) (some (.go (I4 (x1+1))))) (some (.out (.inl ())))
def Nq [Lp](p1:Curve)(p2:Curve):Option Bool:=
  cond ((p1.Pts.length:Int) !=(p2.Pts.length:Int)) (some false) (thenS (loop (Fi p1 p2) 0) (fun _=>some true) (fun r=>some r))
theorem Yj(p1 p2 r)(h:Nq p1 p2=some r):PCall prog 204 [(.agg [(.list (List.map Q6 p1.Pts))]),(.agg [(.list (List.map Q6 p2.Pts))])] (bo r):=by
 refine E3 (fk func204 ntmps204 m0 (by with_unfolding_all rfl)) (nl Z) ?_
 unfold Nq at h
 refine A8 (s0:=⟨T [(0,(.d _)),(1,(.d _))],G []⟩) (F5 Z Z) ?_
 refine lr<|fun u1 _=>sm Z<|sm Z<|sv Z<|A1<|A4<|C0<|sq Z<|sl Z (gq Z) Z (sd Z (D2 Z)<|sq Z<|sl Z G_hit Z<|sd Z (D2 Z)<|sv Z<|A1<|cc Z h (fun c1 h=> ?_)<|fun c1 h=> ?_)
 refine C0<|sv Z<|A1<|C1 ?_
 cases h
 exact B9 (.inr Z) (C5 (C2 Z) D7) (.refl _)
 refine B4<|A4<|C0<|sv Z<|A1<|js h fun z1 hz1 h=>D3 (fun s=> ∃(y1:Unit) (g1:Unit),z1= .inl y1∧Sb ⟨T [],G []⟩ s) ?_ ?_
 refine A5<|D6 (Fi p1 p2) (fun (x1:Int) (g2:Unit)=>⟨T [(2,(.ptr (2,u1) 0)),(3,(.ptr (3,u1) 0)),(5,(di x1))],G [((2,u1),some<|.box 39 [(dl Q6 p1.Pts)]),((3,u1),some<|.box 39 [(dl Q6 p2.Pts)])]⟩) 0 () _ hz1 (F5 Z Z) ?_
 intro x1 g2 z2 hz2 ez2
 unfold Fi at hz2
 refine A4<|C0<|sv Z<|sq Z<|sl Z G_hit Z<|sd Z (D2 Z)<|sv Z<|A1<|cc Z hz2 (fun c2 hz2=> ?_)<|fun c2 hz2=> ?_
 refine B4<|A4<|A5<|A4<|T7 Z<|sq Z<|sl Z G_hit Z<|sv Z<|bs hz2 fun v1 hv1 hz2=>sd Z (E7 Z Z hv1 Z)<|sd Z (E4 Z hv1 Z Z)<|sq Z<|sl Z (gq Z) Z (sv Z<|bs hz2 fun v2 hv2 hz2=>sd Z (E7 Z Z hv2 Z)<|sd Z (E4 Z hv2 Z Z)<|B6 (.d (bo (!(v1.X==v2.X&& (v1.Y==v2.Y&&true))))) Z Z (A1<|cc Z hz2 (fun c3 hz2=> ?_)<|fun c3 hz2=> ?_))
 refine C0<|sv Z<|A1<|C1 ?_
 cases hz2
 obtain rfl:=ez2 _ rfl
 refine ⟨nofun,H7 ?_⟩
 rw [bP]at h
 cases h
 exact B9 (.inr Z) (C5 (C2 Z) D7) (.refl _)
 refine B4<|D8<|B5<|sv Z<|sv Z<|sv Z<|A1<|D9 ?_
 cases hz2
 exact ⟨Z,(),(F5 Z Z)⟩
 refine C4 Z ?_
 cases hz2
 obtain rfl:=ez2 _ rfl
 refine ⟨nofun,C3 Z<|V2 ?_⟩
 exact ⟨_,(),Z,(F5 Z Z)⟩
 rintro _ ⟨y1,g1,rfl,q1⟩
 rw [bO]at h
 refine A8 q1<|C0<|sv Z<|A1<|C1 ?_
 cases h
 exact B9 (.inr Z) (C5 (C2 Z) D7) (.refl _)
def Y8 (p1:(List Int))(p2:(List Int))(x1:Int):Option (Stp Int (Sum Unit Bool)):=
  cond ((decide (x1< (p1.length:Int)))&& (decide (x1< (p2.length:Int)))) ((F6 p1 x1).bind fun v1=>(F6 p2 x1).bind fun v2=>cond (v1 !=v2) (some (.out (.inr false))) (some (.go (I4 (x1+1))))) (some (.out (.inl ())))
def Ei [Lp](p1:(List Int))(p2:(List Int)):Option Bool:=
  thenS (loop (Y8 p1 p2) 0) (fun _=>some ((p1.length:Int)==(p2.length:Int))) (fun r=>some r)
theorem Lq(p1 p2 r)(h:Ei p1 p2=some r):PCall prog 205 [(.list (List.map A3 p1)),(.list (List.map A3 p2))] (bo r):=by
 refine E3 (fk func205 ntmps205 m0 (by with_unfolding_all rfl)) (nl Z) ?_
 unfold Ei at h
 refine A8 (s0:=⟨T [(0,(.d _)),(1,(.d _))],G []⟩) (F5 Z Z) ?_
 refine C0<|sv Z<|A1<|A4<|C0<|sv Z<|A1<|js h fun z1 hz1 h=>D3 (fun s=> ∃(y1:Unit) (g1:Unit),z1= .inl y1∧Sb ⟨T [(0,(dl A3 p1)),(1,(dl A3 p2))],G []⟩ s) ?_ ?_
 refine A5<|D6 (Y8 p1 p2) (fun (x1:Int) (g2:Unit)=>⟨T [(0,(dl A3 p1)),(1,(dl A3 p2)),(5,(di x1))],G []⟩) 0 () _ hz1 (F5 Z Z) ?_
 intro x1 g2 z2 hz2 ez2
 unfold Y8 at hz2
 refine A4<|C0<|sv Z<|sv Z<|sd Z (D2 Z)<|sv Z<|sv Z<|gt Z (fun _=>Z)<|gt Z (fun _=>Z)<|gt Z (fun w3=>(D2<|A9 w3))<|gt Z (fun w4=>(Cu (A9 w4) (A9 w4) Z))<|sa Z Z Z<|A1<|cc Z hz2 (fun c1 hz2=> ?_)<|fun c1 hz2=> ?_
 refine B4<|A4<|A5<|A4<|T7 Z<|sv Z<|sv Z<|bs hz2 fun _ hv1 hz2=>sd Z (E7 Z Z hv1 Z)<|sd Z (G7 Z hv1 Z)<|sv Z<|sv Z<|bs hz2 fun _ hv2 hz2=>sd Z (E7 Z Z hv2 Z)<|sd Z (G7 Z hv2 Z)<|sv Z<|A1<|cc Z hz2 (fun c2 hz2=> ?_)<|fun c2 hz2=> ?_
 refine C0<|sv Z<|A1<|C1 ?_
 cases hz2
 obtain rfl:=ez2 _ rfl
 refine ⟨nofun,H7 ?_⟩
 rw [bP]at h
 cases h
 exact B9 (.inr Z) (C5 (C2 Z) D7) (.refl _)
 refine B4<|D8<|B5<|sv Z<|sv Z<|sv Z<|A1<|D9 ?_
 cases hz2
 exact ⟨Z,(),(F5 Z Z)⟩
 refine C4 Z ?_
 cases hz2
 obtain rfl:=ez2 _ rfl
 refine ⟨nofun,C3 Z<|V2 ?_⟩
 exact ⟨_,(),Z,(F5 Z Z)⟩
 rintro _ ⟨y1,g1,rfl,q1⟩
 rw [bO]at h
 refine A8 q1<|C0<|sv Z<|sd Z (D2 Z)<|sv Z<|sd Z (D2 Z)<|sv Z<|sv Z<|A1<|C1 ?_
 cases h
 exact B9 (.inr Z) (C5 (C2 Z) D7) (.refl _)
def Ej [Lp](p1:Lane)(p2:Lane):Option Bool:=
  ((cond (((p1.Kind==p2.Kind)&& (p1.Half==p2.Half))&& (p1.Limit==p2.Limit)) (Nq p1.Curve_ p2.Curve_) (some default))).bind fun v1=>((cond ((((p1.Kind==p2.Kind)&& (p1.Half==p2.Half))&& (p1.Limit==p2.Limit))&&v1) (Ei p1.Next p2.Next) (some default))).bind fun v2=>some (((((p1.Kind==p2.Kind)&& (p1.Half==p2.Half))&& (p1.Limit==p2.Limit))&&v1)&&v2)
theorem Sp(p1 p2 r)(h:Ej p1 p2=some r):PCall prog 109 [(.agg (O1 p1)),(.agg (O1 p2))] (bo r):=by
 refine E3 (fk func109 ntmps109 m0 (by with_unfolding_all rfl)) (nl Z) ?_
 unfold Ej at h
 refine A8 (s0:=⟨T [(0,(.d _)),(1,(.d _))],G []⟩) (F5 Z Z) ?_
 refine C0<|sm Z<|sn Z Z<|sv Z<|A1<|C0<|sq Z<|sl Z (gq Z) Z (sq Z<|sl Z G_hit Z<|sv Z<|sv Z<|gp Z (K0 Z) (fun _=>Z) (gt Z (vl Z (gq Z) Z)<|gp Z (K0 Z) (fun _=>Z) (gt Z (vl Z G_hit Z)<|gt Z (fun w5=>(Cu (A9 w5) (A9 w5) Z))<|sa Z Z Z<|sv Z<|gp Z (K0 Z) (fun _=>Z) (gt Z (vl Z (gq Z) Z)<|gp Z (K0 Z) (fun _=>Z) (gt Z (vl Z G_hit Z)<|gt Z (fun w10=>(Cu (A9 w10) (A9 w10) Z))<|sa Z Z Z<|sv Z<|gp Z (K0 Z) (fun _=>Z) (gt Z (fun w12=>(C6 (A9 w12) (gq Z) Z Z))<|gp Z (K0 Z) (fun _=>Z) (gt Z (fun w14=>(C6 (A9 w14) G_hit Z Z))<|bs h fun v1 hv1 h=> ?_)))))))
 refine P4 _ (bo v1) (K0 Z) (fun w15=>⟨_,[(.d (.agg [(.list (List.map Q6 p1.Curve_.Pts))])),(.d (.agg [(.list (List.map Q6 p2.Curve_.Pts))]))],_,_,(by simp only [A9 w15];rfl),Z,A6,Yj _ _ _<|K2 w15 hv1,(.inl Z)⟩) ?_
 refine sa Z Z Z<|sv Z<|gp Z (K0 Z) (fun _=>Z) (gt Z (vl Z (gq Z) Z)<|gp Z (K0 Z) (fun _=>Z) (gt Z (vl Z G_hit Z)<|bs h fun v2 hv2 h=> ?_))
 refine P4 _ (bo v2) (K0 Z) (fun w20=>⟨_,[(dl A3 p1.Next),(dl A3 p2.Next)],_,_,(by simp only [A9 w20];rfl),Z,A6,Lq _ _ _<|K2 w20 hv2,(.inl Z)⟩) ?_
 refine sa Z Z Z<|sv Z<|A1<|C1 ?_
 cases h
 exact B9 (.inr Z) (C5 (C2 Z) D7) (.refl _)
def Y9 (p1:Zone)(p2:Zone)(x1:Int):Option (Stp Int (Sum Unit Bool)):=
  cond ((decide (x1< (p1.Parts.length:Int)))&& (decide (x1< (p2.Parts.length:Int)))) ((F6 p1.Parts x1).bind fun v1=>(F6 p2.Parts x1).bind fun v2=>cond (!(v1.Lane_==v2.Lane_&& (v1.From==v2.From&& (v1.To==v2.To&& (v1.Rank==v2.Rank&&true))))) (some (.out (.inr false))) (some (.go (I4 (x1+1))))) (some (.out (.inl ())))
def Gn [Lp](p1:Zone)(p2:Zone):Option Bool:=
  thenS (loop (Y9 p1 p2) 0) (fun _=>some ((p1.Signal_==p2.Signal_)&& ((p1.Parts.length:Int)==(p2.Parts.length:Int)))) (fun r=>some r)
theorem Sq(p1 p2 r)(h:Gn p1 p2=some r):PCall prog 110 [(.agg [(.list (List.map H5 p1.Parts)),(i64 p1.Signal_)]),(.agg [(.list (List.map H5 p2.Parts)),(i64 p2.Signal_)])] (bo r):=by
 refine E3 (fk func110 ntmps110 m0 (by with_unfolding_all rfl)) (nl Z) ?_
 unfold Gn at h
 refine A8 (s0:=⟨T [(0,(.d _)),(1,(.d _))],G []⟩) (F5 Z Z) ?_
 refine lr<|fun u1 _=>sm Z<|sm Z<|sv Z<|A1<|A4<|C0<|sv Z<|A1<|js h fun z1 hz1 h=>D3 (fun s=> ∃(y1:Unit) (g1:Unit),z1= .inl y1∧Sb ⟨T [(2,(.ptr (2,u1) 0)),(3,(.ptr (3,u1) 0))],G [((2,u1),some<|.box 45 [(dl H5 p1.Parts),(di p1.Signal_)]),((3,u1),some<|.box 45 [(dl H5 p2.Parts),(di p2.Signal_)])]⟩ s) ?_ ?_
 refine A5<|D6 (Y9 p1 p2) (fun (x1:Int) (g2:Unit)=>⟨T [(2,(.ptr (2,u1) 0)),(3,(.ptr (3,u1) 0)),(5,(di x1))],G [((2,u1),some<|.box 45 [(dl H5 p1.Parts),(di p1.Signal_)]),((3,u1),some<|.box 45 [(dl H5 p2.Parts),(di p2.Signal_)])]⟩) 0 () _ hz1 (F5 Z Z) ?_
 intro x1 g2 z2 hz2 ez2
 unfold Y9 at hz2
 refine A4<|C0<|sv Z<|sq Z<|sl Z G_hit Z<|sd Z (D2 Z)<|sv Z<|sv Z<|gt Z (fun _=>Z)<|gp Z (K0 Z) (fun _=>Z) (gt Z (vl Z (gq Z) Z)<|gt Z (fun w4=>(D2<|A9 w4))<|gt Z (fun w5=>(Cu (A9 w5) (A9 w5) Z))<|sa Z Z Z<|A1<|cc Z hz2 (fun c1 hz2=> ?_)<|fun c1 hz2=> ?_)
 refine B4<|A4<|A5<|A4<|T7 Z<|sq Z<|sl Z G_hit Z<|sv Z<|bs hz2 fun v1 hv1 hz2=>sd Z (E7 Z Z hv1 Z)<|sd Z (E4 Z hv1 Z Z)<|sq Z<|sl Z (gq Z) Z (sv Z<|bs hz2 fun v2 hv2 hz2=>sd Z (E7 Z Z hv2 Z)<|sd Z (E4 Z hv2 Z Z)<|B6 (.d (bo (!(v1.Lane_==v2.Lane_&& (v1.From==v2.From&& (v1.To==v2.To&& (v1.Rank==v2.Rank&&true))))))) Z Z (A1<|cc Z hz2 (fun c2 hz2=> ?_)<|fun c2 hz2=> ?_))
 refine A4<|A8 (s0:=⟨T [],G []⟩) (F5 Z Z) ?_
 refine B5<|sv Z<|A1<|C1 ?_
 cases hz2
 obtain rfl:=ez2 _ rfl
 refine ⟨nofun,H7 ?_⟩
 rw [bP]at h
 cases h
 exact B9 (.inr Z) (C5 (C2 Z) D7) (.refl _)
 refine B4<|D8<|A8 (s0:=⟨T [(2,(.ptr _ _)),(3,(.ptr _ _)),(5,(.d _))],G [((2,u1),some<|.box 45 _),((3,u1),some<|.box 45 _)]⟩) (F5 Z Z) ?_
 refine B5<|sv Z<|sv Z<|sv Z<|A1<|D9 ?_
 cases hz2
 exact ⟨Z,(),(F5 Z Z)⟩
 refine C4 Z ?_
 cases hz2
 obtain rfl:=ez2 _ rfl
 refine ⟨nofun,C3 Z<|V2 ?_⟩
 exact ⟨_,(),Z,(F5 Z Z)⟩
 rintro _ ⟨y1,g1,rfl,q1⟩
 rw [bO]at h
 refine A8 q1<|C0<|sq Z<|sl Z G_hit Z<|sq Z<|sl Z (gq Z) Z (sv Z<|sv Z<|gp Z (K0 Z) (fun _=>Z) (gt Z (vl Z G_hit Z)<|gt Z (fun w8=>(D2<|A9 w8))<|gp Z (K0 Z) (fun _=>Z) (gt Z (vl Z (gq Z) Z)<|gt Z (fun w11=>(D2<|A9 w11))<|gt Z (fun w12=>(Cu (A9 w12) (A9 w12) Z))<|sa Z Z Z<|sv Z<|A1<|C1 ?_)))
 cases h
 exact B9 (.inr Z) (C5 (C2 Z) D7) (.refl _)
def W3 [Lp](p1:Signal)(p2:Signal)(x1:Int):Option (Stp Int (Sum Unit Bool)):=
  cond ((decide (x1< (p1.Phases.length:Int)))&& (decide (x1< (p2.Phases.length:Int)))) ((F6 p1.Phases x1).bind fun v1=>(F6 p2.Phases x1).bind fun v2=>((cond (!(v1.Ticks !=v2.Ticks)) (F6 p1.Phases x1) (some default))).bind fun v3=>((cond (!(v1.Ticks !=v2.Ticks)) (F6 p2.Phases x1) (some default))).bind fun v4=>((cond (!(v1.Ticks !=v2.Ticks)) (Ei v3.Green v4.Green) (some default))).bind fun v5=>cond ((v1.Ticks !=v2.Ticks)||(!v5)) (some (.out (.inr false))) (some (.go (I4 (x1+1))))) (some (.out (.inl ())))
def Ew [Lp](p1:Signal)(p2:Signal):Option Bool:=
  thenS (loop (W3 p1 p2) 0) (fun _=>some ((p1.Offset==p2.Offset)&& ((p1.Phases.length:Int)==(p2.Phases.length:Int)))) (fun r=>some r)
theorem Qc(p1 p2 r)(h:Ew p1 p2=some r):PCall prog 111 [(.agg [(i64 p1.Offset),(.list (List.map L4 p1.Phases))]),(.agg [(i64 p2.Offset),(.list (List.map L4 p2.Phases))])] (bo r):=by
 refine E3 (fk func111 ntmps111 m0 (by with_unfolding_all rfl)) (nl Z) ?_
 unfold Ew at h
 refine A8 (s0:=⟨T [(0,(.d _)),(1,(.d _))],G []⟩) (F5 Z Z) ?_
 refine lr<|fun u1 _=>sm Z<|sm Z<|sv Z<|A1<|A4<|C0<|sv Z<|A1<|js h fun z1 hz1 h=>D3 (fun s=> ∃(y1:Unit) (g1:Unit),z1= .inl y1∧Sb ⟨T [(2,(.ptr (2,u1) 0)),(3,(.ptr (3,u1) 0))],G [((2,u1),some<|.box 48 [(di p1.Offset),(dl L4 p1.Phases)]),((3,u1),some<|.box 48 [(di p2.Offset),(dl L4 p2.Phases)])]⟩ s) ?_ ?_
 refine A5<|D6 (W3 p1 p2) (fun (x1:Int) (g2:Unit)=>⟨T [(2,(.ptr (2,u1) 0)),(3,(.ptr (3,u1) 0)),(5,(di x1))],G [((2,u1),some<|.box 48 [(di p1.Offset),(dl L4 p1.Phases)]),((3,u1),some<|.box 48 [(di p2.Offset),(dl L4 p2.Phases)])]⟩) 0 () _ hz1 (F5 Z Z) ?_
 intro x1 g2 z2 hz2 ez2
 unfold W3 at hz2
 refine A4<|C0<|sv Z<|sq Z<|sl Z G_hit Z<|sd Z (D2 Z)<|sv Z<|sv Z<|gt Z (fun _=>Z)<|gp Z (K0 Z) (fun _=>Z) (gt Z (vl Z (gq Z) Z)<|gt Z (fun w4=>(D2<|A9 w4))<|gt Z (fun w5=>(Cu (A9 w5) (A9 w5) Z))<|sa Z Z Z<|A1<|cc Z hz2 (fun c1 hz2=> ?_)<|fun c1 hz2=> ?_)
 refine B4<|A4<|A5<|A4<|T7 Z<|sq Z<|sl Z G_hit Z<|sv Z<|bs hz2 fun _ hv1 hz2=>sd Z (E7 Z Z hv1 Z)<|sv Z<|sd Z (G7 Z hv1 Z)<|sq Z<|sl Z (gq Z) Z (sv Z<|bs hz2 fun _ hv2 hz2=>sd Z (E7 Z Z hv2 Z)<|sv Z<|sd Z (G7 Z hv2 Z)<|sv Z<|sv Z<|gp Z (T9 Z) (fun _=>Z) (gf Z (vl Z G_hit Z)<|gf Z (fun _=>Z)<|bs hz2 fun v3 hv3 hz2=>gf Z (fun w9=>(E7 (A9 w9) (A9 w9) (K2 w9 hv3) Z)) ?_))
 refine gf Z (fun w10=>(by simp only [A9 w10];rfl)) ?_
 refine gf Z (fun w11=>(G7 (A9 w11) (K2 w11 hv3) Z))<|gp Z (T9 Z) (fun _=>Z) (gf Z (vl Z (gq Z) Z)<|gf Z (fun _=>Z)<|bs hz2 fun v4 hv4 hz2=>gf Z (fun w15=>(E7 (A9 w15) (A9 w15) (K2 w15 hv4) Z)) ?_)
 refine gf Z (fun w16=>(by simp only [A9 w16];rfl)) ?_
 refine gf Z (fun w17=>(G7 (A9 w17) (K2 w17 hv4) Z))<|bs hz2 fun v5 hv5 hz2=> ?_
 refine P4 _ (bo v5) (T9 Z) (fun w18=>⟨_,[(dl A3 v3.Green),(dl A3 v4.Green)],_,_,(by simp only [A9 w18];rfl),Z,A6,Lq _ _ _<|K2 w18 hv5,(.inl Z)⟩) ?_
 refine R8 _ (.d (bo (!v5))) Z (T9 Z) (fun w19=>(by simp only [A9 w19];rfl)) ?_
 refine sd Z (Ed Z Z<|fun hc=>A9<|Y1 hc)<|A1<|cc Z hz2 (fun c2 hz2=> ?_)<|fun c2 hz2=> ?_
 refine A4<|A8 (s0:=⟨T [],G []⟩) (F5 Z Z) ?_
 refine B5<|sv Z<|A1<|C1 ?_
 cases hz2
 obtain rfl:=ez2 _ rfl
 refine ⟨nofun,H7 ?_⟩
 rw [bP]at h
 cases h
 exact B9 (.inr Z) (C5 (C2 Z) D7) (.refl _)
 refine B4<|D8<|A8 (s0:=⟨T [(2,(.ptr _ _)),(3,(.ptr _ _)),(5,(.d _))],G [((2,u1),some<|.box 48 _),((3,u1),some<|.box 48 _)]⟩) (F5 Z Z) ?_
 refine B5<|sv Z<|sv Z<|sv Z<|A1<|D9 ?_
 cases hz2
 exact ⟨Z,(),(F5 Z Z)⟩
 refine C4 Z ?_
 cases hz2
 obtain rfl:=ez2 _ rfl
 refine ⟨nofun,C3 Z<|V2 ?_⟩
 exact ⟨_,(),Z,(F5 Z Z)⟩
 rintro _ ⟨y1,g1,rfl,q1⟩
 rw [bO]at h
 refine A8 q1<|C0<|sq Z<|sl Z G_hit Z<|sq Z<|sl Z (gq Z) Z (sv Z<|sv Z<|gp Z (K0 Z) (fun _=>Z) (gt Z (vl Z G_hit Z)<|gt Z (fun w22=>(D2<|A9 w22))<|gp Z (K0 Z) (fun _=>Z) (gt Z (vl Z (gq Z) Z)<|gt Z (fun w25=>(D2<|A9 w25))<|gt Z (fun w26=>(Cu (A9 w26) (A9 w26) Z))<|sa Z Z Z<|sv Z<|A1<|C1 ?_)))
 cases h
 exact B9 (.inr Z) (C5 (C2 Z) D7) (.refl _)
def Ap [Lp](p1:Map)(p2:Map)(p3:Int)(p4:Int):Option Bool:=
  cond (p3==1) ((F6 p1.Lanes p4).bind fun v1=>(F6 p2.Lanes p4).bind fun v2=>(Ej v1 v2).bind fun v3=>some v3) (cond (p3==2) ((F6 p1.Zones p4).bind fun v4=>(F6 p2.Zones p4).bind fun v5=>(Gn v4 v5).bind fun v6=>some v6) (cond (p3==3) ((F6 p1.Signals p4).bind fun v7=>(F6 p2.Signals p4).bind fun v8=>(Ew v7 v8).bind fun v9=>some v9) ((F6 p1.Works p4).bind fun v10=>(F6 p2.Works p4).bind fun v11=>some (v10.Lane_==v11.Lane_&& (v10.From==v11.From&& (v10.To==v11.To&& (v10.Begin==v11.Begin&& (v10.End==v11.End&& (v10.Limit==v11.Limit&&true)))))))))
theorem Tq(p1 p2 p3 p4 r)(h:Ap p1 p2 p3 p4=some r):PCall prog 85 [(.agg (Q2 p1)),(.agg (Q2 p2)),(i64 p3),(i64 p4)] (bo r):=by
 refine E3 (fk func85 ntmps85 m0 (by with_unfolding_all rfl)) (nl Z) ?_
 unfold Ap at h
 refine A8 (s0:=⟨T [(0,(.d _)),(1,(.d _)),(2,(.d _)),(3,(.d _))],G []⟩) (F5 Z Z) ?_
 refine C0<|sm Z<|sn Z Z<|sv Z<|A1<|A4<|C0<|sv Z<|A1<|A5<|C0<|sv Z<|sv Z<|A1<|cc Z h (fun c1 h=> ?_)<|fun c1 h=> ?_
 refine A4<|T7 Z<|sq Z<|sl Z (gq Z) Z (sv Z<|bs h fun _ hv1 h=>sd Z (E7 Z Z hv1 Z)<|sd Z (E4 Z hv1 Z Z)<|sq Z<|sl Z G_hit Z<|sv Z<|bs h fun _ hv2 h=>sd Z (E7 Z Z hv2 Z)<|sd Z (E4 Z hv2 Z Z)<|bs h fun _ hv3 h=>D1 Z Z A6 (Sp _ _ _ hv3) (.inl Z) (sv Z<|A1<|C1 ?_))
 cases h
 exact B9 (.inr Z) (C5 (C2 Z) D7) (.refl _)
 refine C0<|sv Z<|sv Z<|A1<|cc Z h (fun c2 h=> ?_)<|fun c2 h=> ?_
 refine A4<|T7 Z<|sq Z<|sl Z (gq Z) Z (sv Z<|bs h fun _ hv4 h=>sd Z (E7 Z Z hv4 Z)<|sd Z (E4 Z hv4 Z Z)<|sq Z<|sl Z G_hit Z<|sv Z<|bs h fun _ hv5 h=>sd Z (E7 Z Z hv5 Z)<|sd Z (E4 Z hv5 Z Z)<|bs h fun _ hv6 h=>D1 Z Z A6 (Sq _ _ _ hv6) (.inl Z) (sv Z<|A1<|C1 ?_))
 cases h
 exact B9 (.inr Z) (C5 (C2 Z) D7) (.refl _)
 refine C0<|sv Z<|sv Z<|A1<|cc Z h (fun c3 h=> ?_)<|fun c3 h=> ?_
 refine A4<|T7 Z<|sq Z<|sl Z (gq Z) Z (sv Z<|bs h fun _ hv7 h=>sd Z (E7 Z Z hv7 Z)<|sd Z (E4 Z hv7 Z Z)<|sq Z<|sl Z G_hit Z<|sv Z<|bs h fun _ hv8 h=>sd Z (E7 Z Z hv8 Z)<|sd Z (E4 Z hv8 Z Z)<|bs h fun _ hv9 h=>D1 Z Z A6 (Qc _ _ _ hv9) (.inl Z) (sv Z<|A1<|C1 ?_))
 cases h
 exact B9 (.inr Z) (C5 (C2 Z) D7) (.refl _)
 refine B4<|D8<|A4<|T7 Z<|sq Z<|sl Z (gq Z) Z (sv Z<|bs h fun v10 hv10 h=>sd Z (E7 Z Z hv10 Z)<|sd Z (E4 Z hv10 Z Z)<|sq Z<|sl Z G_hit Z<|sv Z<|bs h fun v11 hv11 h=>sd Z (E7 Z Z hv11 Z)<|sd Z (E4 Z hv11 Z Z)<|B6 (.d (bo (v10.Lane_==v11.Lane_&& (v10.From==v11.From&& (v10.To==v11.To&& (v10.Begin==v11.Begin&& (v10.End==v11.End&& (v10.Limit==v11.Limit&&true)))))))) Z Z (sv Z<|A1<|C1 ?_))
 cases h
 exact B9 (.inr Z) (C5 (C2 Z) D7) (.refl _)
def Fj [Lp](p1:Map)(p2:Map)(x1:Int)(x2:Int):Option (Stp Int (Sum Unit Bool)):=
  (Fq p1 x1).bind fun v3=>cond (decide (x2<v3)) ((Ap p1 p2 x1 x2).bind fun v4=>cond (!v4) (some (.out (.inr false))) (some (.go (I4 (x2+1))))) (some (.out (.inl ())))
def Fk [Lp](p1:Map)(p2:Map)(x1:Int):Option (Stp Int (Sum Unit Bool)):=
  cond (decide (x1≤4)) ((Fq p1 x1).bind fun v1=>(Fq p2 x1).bind fun v2=>cond (v1 !=v2) (some (.out (.inr false))) (thenS (loop (Fj p1 p2 x1) 0) (fun _=>some (.go (I4 (x1+1)))) (fun r=>some (.out (.inr r))))) (some (.out (.inl ())))
def Kr [Lp](p1:Map)(p2:Map):Option Bool:=
  thenS (loop (Fk p1 p2) 1) (fun _=>some (p1.Version==p2.Version)) (fun r=>some r)
theorem Yk(p1 p2 r)(h:Kr p1 p2=some r):PCall prog 20 [(.agg (Q2 p1)),(.agg (Q2 p2))] (bo r):=by
 refine E3 (fk func20 ntmps20 m0 (by with_unfolding_all rfl)) (nl Z) ?_
 unfold Kr at h
 refine A8 (s0:=⟨T [(0,(.d _)),(1,(.d _))],G []⟩) (F5 Z Z) ?_
 refine lr<|fun u1 _=>sm Z<|sm Z<|sv Z<|A1<|A4<|C0<|sv Z<|A1<|js h fun z1 hz1 h=>D3 (fun s=> ∃(y1:Unit) (g1:Unit),z1= .inl y1∧Sb ⟨T [(2,(.ptr (2,u1) 0)),(3,(.ptr (3,u1) 0))],G [((2,u1),some<|.box 27 (F1 p1)),((3,u1),some<|.box 27 (F1 p2))]⟩ s) ?_ ?_
 refine A5<|D6 (Fk p1 p2) (fun (x1:Int) (g2:Unit)=>⟨T [(2,(.ptr (2,u1) 0)),(3,(.ptr (3,u1) 0)),(5,(di x1))],G [((2,u1),some<|.box 27 (F1 p1)),((3,u1),some<|.box 27 (F1 p2))]⟩) 1 () _ hz1 (F5 Z Z) ?_
 intro x1 g2 z2 hz2 ez2
 unfold Fk at hz2
 refine A4<|C0<|sv Z<|sv Z<|A1<|cc Z hz2 (fun c1 hz2=> ?_)<|fun c1 hz2=> ?_
 refine B4<|A4<|A5<|A4<|A4<|T7 Z<|sd Z (C6 Z G_hit Z Z)<|sv Z<|bs hz2 fun _ hv1 hz2=>D1 Z Z A6 (Mf _ _ _ hv1) (.inl Z) (sd Z (C6 Z (gq Z) Z Z)<|sv Z<|bs hz2 fun _ hv2 hz2=>D1 Z Z A6 (Mf _ _ _ hv2) (.inl Z) (sv Z<|A1<|cc Z hz2 (fun c2 hz2=> ?_)<|fun c2 hz2=> ?_))
 refine C0<|sv Z<|A1<|C1 ?_
 cases hz2
 obtain rfl:=ez2 _ rfl
 refine ⟨nofun,H7 ?_⟩
 rw [bP]at h
 cases h
 exact B9 (.inr Z) (C5 (C2 Z) D7) (.refl _)
 refine B4<|C0<|sv Z<|A1<|js hz2 fun z3 hz3 hz2=>D3 (fun s=> ∃(y2:Unit) (g3:Unit),z3= .inl y2∧Sb ⟨T [(2,(.ptr (2,u1) 0)),(3,(.ptr (3,u1) 0)),(5,(di x1))],G [((2,u1),some<|.box 27 (F1 p1)),((3,u1),some<|.box 27 (F1 p2))]⟩ s) ?_ ?_
 refine A5<|D6 (Fj p1 p2 x1) (fun (x2:Int) (g4:Unit)=>⟨T [(2,(.ptr (2,u1) 0)),(3,(.ptr (3,u1) 0)),(5,(di x1)),(6,(di x2))],G [((2,u1),some<|.box 27 (F1 p1)),((3,u1),some<|.box 27 (F1 p2))]⟩) 0 () _ hz3 (F5 Z Z) ?_
 intro x2 g4 z4 hz4 ez4
 unfold Fj at hz4
 refine A4<|C0<|sv Z<|sd Z (C6 Z G_hit Z Z)<|sv Z<|bs hz4 fun _ hv3 hz4=>D1 Z Z A6 (Mf _ _ _ hv3) (.inl Z) (sv Z<|A1<|cc Z hz4 (fun c3 hz4=> ?_)<|fun c3 hz4=> ?_)
 refine B4<|A4<|A5<|C0<|sd Z (C6 Z G_hit Z Z)<|sd Z (C6 Z (gq Z) Z Z)<|sv Z<|sv Z<|bs hz4 fun v4 hv4 hz4=>D1 Z Z A6 (Tq _ _ _ _ _ hv4) (.inl Z) (B6 (.d (bo (!v4))) Z Z (A1<|cc Z hz4 (fun c4 hz4=> ?_)<|fun c4 hz4=> ?_))
 refine C0<|sv Z<|A1<|C1 ?_
 cases hz4
 obtain rfl:=ez4 _ rfl
 refine ⟨nofun,H7 ?_⟩
 rw [bP]at hz2
 cases hz2
 obtain rfl:=ez2 _ rfl
 refine ⟨nofun,H7 ?_⟩
 rw [bP]at h
 cases h
 exact B9 (.inr Z) (C5 (C2 Z) D7) (.refl _)
 refine B4<|D8<|B5<|sv Z<|sv Z<|sv Z<|A1<|D9 ?_
 cases hz4
 exact ⟨Z,(),(F5 Z Z)⟩
 refine C4 Z ?_
 cases hz4
 obtain rfl:=ez4 _ rfl
 refine ⟨nofun,C3 Z<|V2 ?_⟩
 exact ⟨_,(),Z,(F5 Z Z)⟩
 rintro _ ⟨y2,g3,rfl,q1⟩
 rw [bO]at hz2
 refine D8<|A8 q1<|B5<|sv Z<|sv Z<|sv Z<|A1<|D9 ?_
 cases hz2
 exact ⟨Z,(),(F5 Z Z)⟩
 refine C4 Z ?_
 cases hz2
 obtain rfl:=ez2 _ rfl
 refine ⟨nofun,C3 Z<|V2 ?_⟩
 exact ⟨_,(),Z,(F5 Z Z)⟩
 rintro _ ⟨y1,g1,rfl,q2⟩
 rw [bO]at h
 refine A8 q2<|C0<|sq Z<|sl Z G_hit Z<|sq Z<|sl Z (gq Z) Z (sv Z<|sv Z<|A1<|C1 ?_)
 cases h
 exact B9 (.inr Z) (C5 (C2 Z) D7) (.refl _)
def Jx [Lp]:Option Map:=
  (Q4 1 1500 [] [0,0,100000,0]).bind fun v1=>(Q4 1 1500 [] [50000,(-50000),50000,50000]).bind fun v2=>some (Map.mk 0 [v1,v2] [(Zone.mk [(Part.mk 0 48000 52000 1),(Part.mk 1 48000 52000 0)] 0)] [] [])
theorem AZ(r)(h:Jx=some r):PCall prog 58 [] (.agg (Q2 r)):=by
 refine E3 (fk func58 ntmps58 (fun r=>if r==1 then [1000,1002,1004,1007,1009]else []) (by with_unfolding_all rfl)) (nl Z) ?_
 unfold Jx at h
 refine A8 (s0:=⟨T [],G []⟩) (F5 Z Z) ?_
 refine C0<|sm Z<|A1<|C0<|B6 (dl A3 [0,0,100000,0]) Z Z (bs h fun v1 hv1 h=>D1 Z Z (.cons (.refl _) (.cons (.refl _) (.cons DLe.nil A6))) (O5 _ _ _ _ _ hv1) (.inl Z) (B6 (dl A3 [50000,(-50000),50000,50000]) Z Z (bs h fun v2 hv2 h=>D1 Z Z (.cons (.refl _) (.cons (.refl _) (.cons DLe.nil A6))) (O5 _ _ _ _ _ hv2) (.inl Z) (B6 (dl O1 [v1,v2]) Z (Zk O1 ([v1,v2]:List Lane) (fun _=>Z) Z Z ⟨Z,Z,Z,Z,Z,Z,trivial⟩ (fun _=>Z)) (sv Z<|sv Z<|B6 (dl H5 [(Part.mk 0 48000 52000 1),(Part.mk 1 48000 52000 0)]) Z Z (sv Z<|B6 (dl K4 [(Zone.mk [(Part.mk 0 48000 52000 1),(Part.mk 1 48000 52000 0)] 0)]) Z Z (sv Z<|X7 Z G_hit [(di 0),(dl O1 [v1,v2]),(dl K4 [(Zone.mk [(Part.mk 0 48000 52000 1),(Part.mk 1 48000 52000 0)] 0)]),(.d .nilS),(.d .nilS)] Z (A1<|C1 ?_))))))))
 cases h
 exact B9 (.inr Z) (C5 (O8 Z G_hit (nl Z) Z) D7) (.agg (ca Z<|ca Z<|ca Z<|.cons ⟨DLe.nil,Z⟩ (.cons ⟨DLe.nil,Z⟩ .nil)))
def Cy (p1:(List Int))(p2:Int)(x1:Int):Option (Stp Int (Sum Unit Int)):=
  cond (decide (x1< (p1.length:Int))) ((F6 p1 x1).bind fun v1=>cond (p2==v1) (some (.out (.inr x1))) (some (.go (I4 (x1+1))))) (some (.out (.inl ())))
def U2 [Lp](p1:(List Int))(p2:Int):Option Int:=
  thenS (loop (Cy p1 p2) 0) (fun _=>some (-1)) (fun r=>some r)
theorem Ms(p1 p2 r)(h:U2 p1 p2=some r):PCall prog 224 [(.list (List.map A3 p1)),(i64 p2)] (i64 r):=by
 refine E3 (fk func224 ntmps224 m0 (by with_unfolding_all rfl)) (nl Z) ?_
 unfold U2 at h
 refine A8 (s0:=⟨T [(0,(.d _)),(1,(.d _))],G []⟩) (F5 Z Z) ?_
 refine C0<|sv Z<|A1<|A4<|C0<|sv Z<|sd Z (D2 Z)<|sv Z<|A1<|js h fun z1 hz1 h=>D3 (fun s=> ∃(y1:Unit) (g1:Unit),z1= .inl y1∧Sb ⟨T [],G []⟩ s) ?_ ?_
 refine A5<|D6 (Cy p1 p2) (fun (x1:Int) (g2:Unit)=>⟨T [(0,(dl A3 p1)),(1,(di p2)),(7,(di (p1.length:Int))),(8,(di x1))],G []⟩) 0 () _ hz1 (F5 Z Z) ?_
 intro x1 g2 z2 hz2 ez2
 unfold Cy at hz2
 refine C0<|sv Z<|A1<|A4<|cc Z hz2 (fun c1 hz2=> ?_)<|fun c1 hz2=> ?_
 refine B4<|A4<|A5<|C0<|sv Z<|sv Z<|A1<|C0<|sv Z<|sv Z<|sv Z<|bs hz2 fun _ hv1 hz2=>sd Z (E7 Z Z hv1 Z)<|sd Z (G7 Z hv1 Z)<|sv Z<|A1<|cc Z hz2 (fun c2 hz2=> ?_)<|fun c2 hz2=> ?_
 refine C0<|sv Z<|sv Z<|A1<|C1 ?_
 cases hz2
 obtain rfl:=ez2 _ rfl
 refine ⟨nofun,H7 ?_⟩
 rw [bP]at h
 cases h
 exact B9 (.inr Z) (C5 (C2 Z) D7) (.refl _)
 refine B4<|D8<|B5<|sv Z<|sv Z<|A1<|D9 ?_
 cases hz2
 exact ⟨Z,(),(F5 Z Z)⟩
 refine C4 Z ?_
 cases hz2
 obtain rfl:=ez2 _ rfl
 refine ⟨nofun,C3 Z<|V2 ?_⟩
 exact ⟨_,(),Z,(F5 Z Z)⟩
 rintro _ ⟨y1,g1,rfl,q1⟩
 rw [bO]at h
 refine A8 q1<|C0<|sv Z<|A1<|C1 ?_
 cases h
 exact B9 (.inr Z) (C5 (C2 Z) D7) (.refl _)
def L3 [Lp](p1:(List Int))(p2:Int):Option Bool:=
  (U2 p1 p2).bind fun v1=>some (decide (v1≥0))
theorem V6(p1 p2 r)(h:L3 p1 p2=some r):PCall prog 136 [(.list (List.map A3 p1)),(i64 p2)] (bo r):=by
 refine E3 (fk func136 ntmps136 m0 (by with_unfolding_all rfl)) (nl Z) ?_
 unfold L3 at h
 refine A8 (s0:=⟨T [(0,(.d _)),(1,(.d _))],G []⟩) (F5 Z Z) ?_
 refine C0<|sv Z<|A1<|C0<|sv Z<|sv Z<|bs h fun _ hv1 h=>D1 Z Z A6 (Ms _ _ _ hv1) (.inl Z) (sv Z<|sv Z<|A1<|C1 ?_)
 cases h
 exact B9 (.inr Z) (C5 (C2 Z) D7) (.refl _)
def Bo [Lp](p1:Map)(p2:Int)(x1:((List Int)×Int)):Option (Stp ((List Int)×Int) (List Int)):=
  cond (decide (x1.2< (p1.Lanes.length:Int))) ((F6 p1.Lanes x1.2).bind fun v1=>(L3 v1.Next p2).bind fun v2=>cond v2 ((Bx x1.1 [x1.2]).bind fun v3=>some (.go (v3,(I4 (x1.2+1))))) (some (.go (x1.1,(I4 (x1.2+1)))))) (some (.out x1.1))
def Cf [Lp](p1:Map)(p2:Int):Option (List Int):=
  (loop (Bo p1 p2) ([],0)).bind fun y1=>some y1
theorem Jl(p1 p2 r)(h:Cf p1 p2=some r):PCall prog 135 [(.agg (Q2 p1)),(i64 p2)] (.list (List.map A3 r)):=by
 refine E3 (fk func135 ntmps135 (fun r=>if r==6 then [1002]else []) (by with_unfolding_all rfl)) (nl Z) ?_
 unfold Cf at h
 refine A8 (s0:=⟨T [(0,(.d _)),(1,(.d _))],G []⟩) (F5 Z Z) ?_
 refine C0<|sm Z<|sv Z<|A1<|C0<|sv Z<|A1<|A4<|C0<|sq Z<|sl Z G_hit Z<|sd Z (D2 Z)<|sv Z<|A1<|bs h fun y1 hy1 h=>D3 (fun s=> ∃g1:Nat,Sb ⟨T [(5,(oS y1 (23,g1)))],G [((23,g1),oB 3 1 A3 y1)]⟩ s) ?_ ?_
 refine A5<|D6 (Bo p1 p2) (fun (x1:((List Int)×Int)) (g2:Nat)=>⟨T [(1,(di p2)),(5,(oS x1.1 (23,g2))),(9,(dl O1 p1.Lanes)),(10,(di (p1.Lanes.length:Int))),(11,(di x1.2))],G [((23,g2),oB 3 1 A3 x1.1)]⟩) ([],0) 0 _ hy1 (B8 (K6 Z)<|Q5 trivial) ?_
 intro x1 g2 z1 hz1 ez1
 unfold Bo at hz1
 refine C0<|sv Z<|A1<|A4<|cc Z hz1 (fun c1 hz1=> ?_)<|fun c1 hz1=> ?_
 refine B4<|A4<|A5<|C0<|sv Z<|bs hz1 fun v1 hv1 hz1=>sd Z (E7 Z Z hv1 Z)<|sd Z (E4 Z hv1 Z Z)<|sm Z<|sv Z<|X7 Z G_hit (Bz v1) Z (A1<|C0<|sq Z<|sl Z G_hit Z<|sv Z<|bs hz1 fun _ hv2 hz1=>D1 Z Z A6 (V6 _ _ _ hv2) (.inl Z) (A1<|cc Z hz1 (fun c2 hz1=> ?_)<|fun c2 hz1=> ?_))
 refine T8 fun u7 _=>B6 (oS x1.1 (23,g2)) Z Z (sv Z<|B6 (dl A3 [x1.2]) Z Z (bs hz1 fun _ hv3 hz1=>J3 A3 (23,g2) x1.1 x1.2 [] _ (I0<|fun _=>Z) Z (gq Z) hv3 (ss Z<|A1<|D8<|A8 (s0:=⟨T [(1,(.d _)),(5,(.sl _)),(9,(.d _)),(10,(.d _)),(11,(.d _))],G [((23,u7),some _)]⟩) (F5 Z Z) ?_)))
 refine B5<|sv Z<|sv Z<|A1<|D9 ?_
 cases hz1
 exact ⟨Z,u7,(B8 ⟨.of Z,(.of (Q3<|N5 hv3).symm), .of Z, .of Z, .of Z,trivial⟩<|I7 G_hit trivial)⟩
 refine B4<|D8<|B5<|sv Z<|sv Z<|A1<|D9 ?_
 cases hz1
 exact ⟨Z,g2,(B8 (K6 Z)<|B3 (gq Z) trivial)⟩
 refine C4 Z ?_
 cases hz1
 obtain rfl:=ez1 _ rfl
 refine ⟨nofun,C3 Z<|V2 ?_⟩
 exact ⟨g2,(B8 ⟨.of Z,trivial⟩<|B3 G_hit trivial)⟩
 rintro _ ⟨g1,q1⟩
 refine A8 q1<|C0<|B6 (oS y1 (23,g1)) Z Z (B6 (oS y1 (23,g1)) Z Z (A1<|C1 ?_))
 cases h
 exact B9 (.inr Z) (C5 (C2 Z)<|Ct G_hit) Cs
def W4 [Lp](p1:Map)(v7:List Int)(x1:(Int×Int)):Option (Stp (Int×Int) (Sum Unit Int)):=
  cond (decide (x1.2< (v7.length:Int))) ((F6 v7 x1.2).bind fun v8=>(F6 p1.Lanes x1.1).bind fun v9=>(L3 v9.Next v8).bind fun v10=>cond (!v10) (some (.out (.inr 13))) (some (.go (v8,(I4 (x1.2+1)))))) (some (.out (.inl ())))
def Ar [Lp](p1:Map)(p2:(List Int)):Option Int:=
  (R6 p1).bind fun v1=>cond (v1 !=0) (some v1) (((cond (!(((p2.length:Int)==0)||(decide ((p2.length:Int)>8)))) (F6 p2 0) (some default))).bind fun v2=>((cond (!((((p2.length:Int)==0)||(decide ((p2.length:Int)>8)))||(decide (v2<0)))) (F6 p2 0) (some default))).bind fun v3=>((cond (!(((((p2.length:Int)==0)||(decide ((p2.length:Int)>8)))||(decide (v2<0)))||(decide (v3≥(p1.Lanes.length:Int))))) (F6 p2 0) (some default))).bind fun v4=>((cond (!(((((p2.length:Int)==0)||(decide ((p2.length:Int)>8)))||(decide (v2<0)))||(decide (v3≥(p1.Lanes.length:Int))))) (Cf p1 v4) (some default))).bind fun v5=>cond ((((((p2.length:Int)==0)||(decide ((p2.length:Int)>8)))||(decide (v2<0)))||(decide (v3≥(p1.Lanes.length:Int))))||(decide ((v5.length:Int)>0))) (some 13) ((F6 p2 0).bind fun v6=>(CX p2 1 (p2.length:Int)).bind fun v7=>thenS (loop (W4 p1 v7) (v6,0)) (fun _=>some 0) (fun r=>some r)))
theorem Qd(p1 p2 r)(h:Ar p1 p2=some r):PCall prog 36 [(.agg (Q2 p1)),(.list (List.map A3 p2))] (i64 r):=by
 refine E3 (fk func36 ntmps36 m0 (by with_unfolding_all rfl)) (nl Z) ?_
 unfold Ar at h
 refine A8 (s0:=⟨T [(0,(.d _)),(1,(.d _))],G []⟩) (F5 Z Z) ?_
 refine lr<|fun u1 _=>sm Z<|sv Z<|A1<|A4<|C0<|sd Z (C6 Z G_hit Z Z)<|bs h fun _ hv1 h=>D1 Z Z A6 (Cv _ _ hv1) (.inl Z) (sv Z<|A1<|C0<|sv Z<|sv Z<|A1<|cc Z h (fun c1 h=> ?_)<|fun c1 h=> ?_)
 refine C0<|sv Z<|sv Z<|A1<|C1 ?_
 cases h
 exact B9 (.inr Z) (C5 (C2 Z) D7) (.refl _)
 refine B4<|A4<|A4<|T7 Z<|sv Z<|sd Z (D2 Z)<|sv Z<|sv Z<|gf Z (fun _=>Z)<|gf Z (fun w2=>(D2<|A9 w2))<|gf Z (vb Z Z Z)<|sd Z (Ed Z Z<|fun hc=>A9<|Y1 hc)<|sv Z<|gf Z (fun _=>Z)<|bs h fun _ hv2 h=>gf Z (fun w5=>(E7 (A9 w5) Z (K2 w5 hv2) Z))<|gf Z (fun w6=>(G7 (A9 w6) (K2 w6 hv2) Z))<|gf Z (vb Z Z Z)<|sd Z (Ed Z Z<|fun hc=>A9<|Y1 hc)<|sv Z<|gf Z (fun _=>Z)<|bs h fun _ hv3 h=>gf Z (fun w9=>(E7 (A9 w9) Z (K2 w9 hv3) Z))<|gf Z (fun w10=>(G7 (A9 w10) (K2 w10 hv3) Z))<|gp Z (T9 Z) (fun _=>Z) (gf Z (vl Z G_hit Z)<|gf Z (fun w13=>(D2<|A9 w13))<|gf Z (fun w14=>(Cu (A9 w14) (A9 w14) Z))<|sd Z (Ed Z Z<|fun hc=>A9<|Y1 hc)<|sv Z<|gf Z (fun _=>(C6 Z G_hit Z Z))<|gf Z (fun _=>Z)<|bs h fun v4 hv4 h=>gf Z (fun w17=>(E7 (A9 w17) Z (K2 w17 hv4) Z))<|gf Z (fun w18=>(G7 (A9 w18) (K2 w18 hv4) Z))<|bs h fun v5 hv5 h=> ?_)
 refine P4 _ (.list (List.map A3 v5)) (T9 Z) (fun w19=>⟨_,[(.d (.agg (Q2 p1))),(di v4)],_,_,(by simp only [A9 w19];rfl),Z,A6,Jl _ _ _<|K2 w19 hv5,(.inl Z)⟩) ?_
 refine gf Z (fun w20=>(D2<|A9 w20))<|gf Z (vb Z Z Z)<|sd Z (Ed Z Z<|fun hc=>A9<|Y1 hc)<|A1<|cc Z h (fun c2 h=> ?_)<|fun c2 h=> ?_
 refine A4<|A8 (s0:=⟨T [],G []⟩) (F5 Z Z) ?_
 refine B5<|sv Z<|A1<|C1 ?_
 cases h
 exact B9 (.inr Z) (C5 (C2 Z) D7) (.refl _)
 refine B4<|A4<|A8 (s0:=⟨T [(1,(.d _)),(2,(.ptr _ _))],G [((2,u1),some<|.box 27 _)]⟩) (F5 Z Z) ?_
 refine B5<|sv Z<|bs h fun v6 hv6 h=>sd Z (E7 Z Z hv6 Z)<|sd Z (G7 Z hv6 Z)<|sv Z<|A1<|A4<|C0<|sv Z<|bs h fun v7 hv7 h=>sd Z (HK Z (fun _=>Z) (QV Z) AP hv7)<|sd Z (D2 Z)<|sv Z<|A1<|js h fun z1 hz1 h=>D3 (fun s=> ∃(y1:Unit) (g1:Unit),z1= .inl y1∧Sb ⟨T [],G []⟩ s) ?_ ?_
 refine A5<|D6 (W4 p1 v7) (fun (x1:(Int×Int)) (g2:Unit)=>⟨T [(2,(.ptr (2,u1) 0)),(6,(di x1.1)),(50,(dl A3 v7)),(51,(di (v7.length:Int))),(52,(di x1.2))],G [((2,u1),some<|.box 27 (F1 p1))]⟩) (v6,0) () _ hz1 (F5 Z Z) ?_
 intro x1 g2 z2 hz2 ez2
 unfold W4 at hz2
 refine C0<|sv Z<|A1<|A4<|cc Z hz2 (fun c3 hz2=> ?_)<|fun c3 hz2=> ?_
 refine B4<|A4<|A5<|C0<|bs hz2 fun _ hv8 hz2=>sd Z (E7 Z Z hv8 Z)<|sd Z (G7 Z hv8 Z)<|sv Z<|A1<|A4<|C0<|sq Z<|sl Z G_hit Z<|sv Z<|bs hz2 fun _ hv9 hz2=>sd Z (E7 Z Z hv9 Z)<|sv Z<|sd Z (G7 Z hv9 Z)<|sv Z<|bs hz2 fun v10 hv10 hz2=>D1 Z Z A6 (V6 _ _ _ hv10) (.inl Z) (B6 (.d (bo (!v10))) Z Z (A1<|cc Z hz2 (fun c4 hz2=> ?_)<|fun c4 hz2=> ?_))
 refine C0<|sv Z<|A1<|C1 ?_
 cases hz2
 obtain rfl:=ez2 _ rfl
 refine ⟨nofun,H7 ?_⟩
 rw [bP]at h
 cases h
 exact B9 (.inr Z) (C5 (C2 Z) D7) (.refl _)
 refine B4<|B5<|sv Z<|sv Z<|A1<|D8<|B5<|sv Z<|sv Z<|A1<|D9 ?_
 cases hz2
 exact ⟨Z,(),(F5 Z Z)⟩
 refine C4 Z ?_
 cases hz2
 obtain rfl:=ez2 _ rfl
 refine ⟨nofun,C3 Z<|V2 ?_⟩
 exact ⟨_,(),Z,(F5 Z Z)⟩
 rintro _ ⟨y1,g1,rfl,q1⟩
 rw [bO]at h
 refine A8 q1<|C0<|sv Z<|A1<|C1 ?_
 cases h
 exact B9 (.inr Z) (C5 (C2 Z) D7) (.refl _)
def Bp [Lp](p1:Map)(p2:(List Int))(x1:(Int×RoadsWay)):Option (Stp (Int×RoadsWay) RoadsWay):=
  cond (decide (x1.1< (p2.length:Int))) ((F6 p2 x1.1).bind fun v2=>(Bx x1.2.starts [x1.2.length]).bind fun v3=>(V3 p1 v2).bind fun v4=>some (.go ((I4 (x1.1+1)),(RoadsWay.mk x1.2.Map_ x1.2.lanes v3 (I4 (x1.2.length+v4)))))) (some (.out x1.2))
def Ey [Lp](p1:Map)(p2:(List Int)):Option RoadsWay:=
  (Ar p1 p2).bind fun v1=>cond (v1 !=0) (some (RoadsWay.mk (Map.mk 0 [] [] [] []) [] [] 0)) ((loop (Bp p1 p2) (0,(RoadsWay.mk p1 p2 [] 0))).bind fun y1=>some y1)
theorem Uz(p1 p2 r)(h:Ey p1 p2=some r):PCall prog 133 [(.agg (Q2 p1)),(.list (List.map A3 p2))] (.agg (JM r)):=by
 refine E3 (fk func133 ntmps133 (fun r=>if r==7 then [1004]else []) (by with_unfolding_all rfl)) (nl Z) ?_
 unfold Ey at h
 refine A8 (s0:=⟨T [(0,(.d _)),(1,(.d _))],G []⟩) (F5 Z Z) ?_
 refine lr<|fun u1 _=>sm Z<|sm Z<|A1<|A4<|C0<|sd Z (C6 Z (gq Z) Z Z)<|sv Z<|bs h fun _ hv1 h=>D1 Z Z A6 (Qd _ _ _ hv1) (.inl Z) (sv Z<|A1<|cc Z h (fun c1 h=> ?_)<|fun c1 h=> ?_)
 refine C0<|sv Z<|X7 Z G_hit [(di 0),(.d .nilS),(.d .nilS),(.d .nilS),(.d .nilS),(.d .nilS),(.d .nilS),(di 0)] Z (A1<|C1 ?_)
 cases h
 exact B9 (.inr Z) (C5 (O8 Z G_hit (nl Z) Z) D7) (.agg (ca Z<|.cons ⟨DLe.nil,Z⟩ (.cons ⟨DLe.nil,Z⟩ (.cons ⟨DLe.nil,Z⟩ (.cons ⟨DLe.nil,Z⟩ (.cons ⟨DLe.nil,Z⟩ (.cons ⟨DLe.nil,Z⟩ (cz Z))))))))
 refine B4<|lr<|fun u4 _=>sd Z (C6 Z (gq Z) Z Z)<|sv Z<|sv Z<|sm Z<|X7 Z G_hit ((F1 p1)++ [(dl A3 p2),(.d .nilS),(di 0)]) Z (A1<|A4<|C0<|sv Z<|sd Z (D2 Z)<|sv Z<|A1<|bs h fun y1 hy1 h=>D3 (fun s=> ∃g1:Nat,Sb ⟨T [(4,(.ptr (4,u1) 0)),(5,(.ptr (5,u4) 0))],G [((4,u1),some<|.box 169 [(di 0),(.d .nilS),(.d .nilS),(.d .nilS),(.d .nilS),(.d .nilS),(.d .nilS),(di 0)]),((5,u4),some<|.box 169 ((Eu y1).set 6 (oS y1.starts (27,g1)))),((27,g1),oB 2 1 A3 y1.starts)]⟩ s) ?_ ?_)
 refine A5<|D6 (Bp p1 p2) (fun (x1:(Int×RoadsWay)) (g2:Nat)=>⟨T [(2,(.ptr (2,u1) 0)),(4,(.ptr (4,u1) 0)),(5,(.ptr (5,u4) 0)),(16,(dl A3 p2)),(17,(di (p2.length:Int))),(18,(di x1.1))],G [((2,u1),some<|.box 27 (F1 p1)),((4,u1),some<|.box 169 [(di 0),(.d .nilS),(.d .nilS),(.d .nilS),(.d .nilS),(.d .nilS),(.d .nilS),(di 0)]),((5,u4),some<|.box 169 ((Eu x1.2).set 6 (oS x1.2.starts (27,g2)))),((27,g2),oB 2 1 A3 x1.2.starts)]⟩) (0,(RoadsWay.mk p1 p2 [] 0)) 0 _ hy1 (B8 (K6 Z)<|sg Z<|sg Z<|A2 G_hit (.of Z)<|Q5 trivial) ?_
 intro x1 g2 z1 hz1 ez1
 unfold Bp at hz1
 refine C0<|sv Z<|A1<|A4<|cc Z hz1 (fun c2 hz1=> ?_)<|fun c2 hz1=> ?_
 refine B4<|A4<|A5<|C0<|bs hz1 fun _ hv2 hz1=>sd Z (E7 Z Z hv2 Z)<|sd Z (G7 Z hv2 Z)<|sv Z<|A1<|lr<|fun u8 _=>sq Z<|B6 (oS x1.2.starts (27,g2)) Z (Ag Z (gq Z) Z) (sq Z<|sl Z (gq Z) Z (B6 (dl A3 [x1.2.length]) Z Z (bs hz1 fun _ hv3 hz1=>J3 A3 (27,g2) x1.2.starts x1.2.length [] _ (I0<|fun _=>Z) Z (gq Z) hv3 (sq Z<|X7 Z (gq Z) ((Eu x1.2).set 6 (.sl (27,u8))) Z (A1<|A8 (s0:=⟨T [(2,(.ptr _ _)),(4,(.ptr _ _)),(5,(.ptr _ _)),(7,(.d _)),(16,(.d _)),(17,(.d _)),(18,(.d _))],G [((2,u1),some<|.box 27 _),((4,u1),some<|.box 169 _),((5,u4),some<|.box 169 _),((27,u8),some _)]⟩) (F5 Z Z) ?_)))))
 refine T7 Z<|sq Z<|sl Z (gq Z) Z (sd Z (C6 Z G_hit Z Z)<|sv Z<|bs hz1 fun v4 hv4 hz1=>D1 Z Z A6 (Dr _ _ _ hv4) (.inl Z) (sv Z<|sq Z<|X7 Z (gq Z) (((Eu x1.2).set 6 (.sl (27,u8))).set 7 (di<|I4 (x1.2.length+v4))) Z (A1<|D8<|B5<|sv Z<|sv Z<|A1<|D9 ?_)))
 cases hz1
 exact ⟨Z,u8,(B8 (K6 Z)<|sg Z<|sg Z<|A2 G_hit (.box (cv<|cv<|cv<|cv<|cv<|cv<|.cons (.of (Q3<|N5 hv3).symm) cw))<|I7 (gq Z) trivial)⟩
 refine C4 Z ?_
 cases hz1
 obtain rfl:=ez1 _ rfl
 refine ⟨nofun,C3 Z<|V2 ?_⟩
 exact ⟨g2,(B8 (K6 Z)<|sg Z<|sg Z<|B3 (gq Z) trivial)⟩
 rintro _ ⟨g1,q1⟩
 refine A8 q1<|C0<|B6 (Dm ((Eu y1).set 6 (oS y1.starts (27,g1)))) Z (C6 Z (gq Z) Z Z) (W8 _ _ _ _ _ (Gk _) Z Z G_hit (nl Z) ((Eu y1).set 6 (oS y1.starts (27,g1))) Z (A1<|C1 ?_))
 cases h
 exact B9 (.inr Z) (C5 (O8 Z G_hit (nl Z) Z)<|Pa<|rD<|rD<|rD<|rD<|rD<|rD<|O7 (Ct<|gq Z)<|rD N4) (.agg (ca Z<|ca Z<|ca Z<|ca Z<|ca Z<|ca Z<|.cons ⟨Cs,Z⟩ (cz Z)))
def Ks (p3:Int)(v1:RoadsWay)(x1:Int):Option (Stp Int Int):=
  (F6 v1.starts x1).bind fun v3=>cond (decide (v3>p3)) (some (.go (I4 (x1 - 1)))) (some (.out x1))
def Fy [Lp](p1:Map)(p2:(List Int))(p3:Int):Option (Int×Int×Bool):=
  (Ey p1 p2).bind fun v1=>((cond (!((v1.lanes.length:Int)==0)) (S3 p3 0 v1.length) (some default))).bind fun v2=>cond (((v1.lanes.length:Int)==0)||(!v2)) (some (0,0,false)) ((loop (Ks p3 v1) (I4 ((v1.lanes.length:Int) - 1))).bind fun y1=>(F6 v1.lanes y1).bind fun v4=>(F6 v1.starts y1).bind fun v5=>some (v4,(I4 (p3 - v5)),true))
theorem Wz(p1 p2 p3 r)(h:Fy p1 p2 p3=some r):PCall prog 34 [(.agg (Q2 p1)),(.list (List.map A3 p2)),(i64 p3)] (.tup [(i64 r.1),(i64 r.2.1),(bo r.2.2)]):=by
 refine E3 (fk func34 ntmps34 m0 (by with_unfolding_all rfl)) (nl Z) ?_
 unfold Fy at h
 refine A8 (s0:=⟨T [(0,(.d _)),(1,(.d _)),(2,(.d _))],G []⟩) (F5 Z Z) ?_
 refine C0<|sm Z<|sv Z<|sv Z<|sv Z<|A1<|lr<|fun u2 _=>sd Z (C6 Z G_hit Z Z)<|sv Z<|bs h fun v1 hv1 h=>D1 Z Z A6 (Uz _ _ _ hv1) (.inl Z) (sm Z<|X7 Z G_hit (Eu v1) Z (A1<|A4<|C0<|sq Z<|sl Z G_hit Z<|sd Z (D2 Z)<|sv Z<|sv Z<|gf Z (fun _=>Z)<|gp Z (T9 Z) (fun _=>Z) (gf Z (vl Z G_hit Z)<|bs h fun v2 hv2 h=> ?_)))
 refine P4 _ (bo v2) (T9 Z) (fun w4=>⟨_,[(di p3),(di 0),(di v1.length)],_,_,(by simp only [A9 w4];rfl),Z,A6,R7 _ _ _ _<|K2 w4 hv2,(.inl Z)⟩) ?_
 refine R8 _ (.d (bo (!v2))) Z (T9 Z) (fun w5=>(by simp only [A9 w5];rfl)) ?_
 refine sd Z (Ed Z Z<|fun hc=>A9<|Y1 hc)<|A1<|cc Z h (fun c1 h=> ?_)<|fun c1 h=> ?_
 refine A4<|A8 (s0:=⟨T [],G []⟩) (F5 Z Z) ?_
 refine B5<|sv Z<|sv Z<|sv Z<|A1<|C1 ?_
 cases h
 exact B9 (.inr Z) (HJ (C2 Z) (C2 Z) (C2 Z) D7 D7 D7) (.refl _)
 refine B4<|A4<|A8 (s0:=⟨T [(2,(.d _)),(9,(.ptr _ _))],G [((9,u2),some<|.box 169 _)]⟩) (F5 Z Z) ?_
 refine B5<|sq Z<|sl Z G_hit Z<|sd Z (D2 Z)<|sv Z<|sv Z<|A1<|A4<|bs h fun y1 hy1 h=>D3 (fun s=> ∃g1:Unit,Sb ⟨T [(2,(di p3)),(9,(.ptr (9,u2) 0)),(10,(di y1))],G [((9,u2),some<|.box 169 (Eu v1))]⟩ s) ?_ ?_
 refine A5<|D6 (Ks p3 v1) (fun (x1:Int) (g2:Unit)=>⟨T [(2,(di p3)),(9,(.ptr (9,u2) 0)),(10,(di x1))],G [((9,u2),some<|.box 169 (Eu v1))]⟩) (I4 ((v1.lanes.length:Int) - 1)) () _ hy1 (F5 Z Z) ?_
 intro x1 g2 z1 hz1 ez1
 unfold Ks at hz1
 refine A4<|C0<|sq Z<|sl Z G_hit Z<|sv Z<|bs hz1 fun _ hv3 hz1=>sd Z (E7 Z Z hv3 Z)<|sd Z (G7 Z hv3 Z)<|sv Z<|sv Z<|A1<|cc Z hz1 (fun c2 hz1=> ?_)<|fun c2 hz1=> ?_
 refine B4<|A5<|B5<|sv Z<|sv Z<|sv Z<|A1<|D8<|D9 ?_
 cases hz1
 exact ⟨Z,(),(F5 Z Z)⟩
 refine C4 Z ?_
 cases hz1
 obtain rfl:=ez1 _ rfl
 refine ⟨nofun,C3 Z<|V2 ?_⟩
 exact ⟨(),(F5 Z Z)⟩
 rintro _ ⟨g1,q1⟩
 refine A8 q1<|A4<|T7 Z<|sq Z<|sl Z G_hit Z<|sv Z<|bs h fun _ hv4 h=>sd Z (E7 Z Z hv4 Z)<|sd Z (G7 Z hv4 Z)<|sv Z<|sq Z<|sl Z G_hit Z<|sv Z<|bs h fun _ hv5 h=>sd Z (E7 Z Z hv5 Z)<|sd Z (G7 Z hv5 Z)<|sv Z<|sv Z<|sv Z<|sv Z<|A1<|C1 ?_
 cases h
 exact B9 (.inr Z) (HJ (C2 Z) (C2 Z) (C2 Z) D7 D7 D7) (.refl _)
def Kt (p1:Part)(p2:Int):Option Bool:=
  some (p1.Lane_==p2)
theorem Sr(p1 p2 r)(h:Kt p1 p2=some r):PCall prog 229 [(.agg (H5 p1)),(.bp [(i64 p2)] 0)] (bo r):=by
 refine E3 (fk func229 ntmps229 m0 (by with_unfolding_all rfl)) (nl Z) ?_
 unfold Kt at h
 refine A8 (s0:=⟨T [(0,(.d _)),(1,(.d _))],G []⟩) (F5 Z Z) ?_
 refine C0<|sm Z<|sv Z<|A1<|C0<|sq Z<|sl Z G_hit Z<|sv Z<|sv Z<|sv Z<|A1<|C1 ?_
 cases h
 exact B9 (.inr Z) (C5 (C2 Z) D7) (.refl _)
def P5 (p1:(List Part))(p2:Int)(x1:Int):Option (Stp Int (Sum Unit Int)):=
  cond (decide (x1< (p1.length:Int))) ((F6 p1 x1).bind fun v1=>(Kt v1 p2).bind fun v2=>cond v2 (some (.out (.inr x1))) (some (.go (I4 (x1+1))))) (some (.out (.inl ())))
def I5 [Lp](p1:(List Part))(p2:Int):Option Int:=
  thenS (loop (P5 p1 p2) 0) (fun _=>some (-1)) (fun r=>some r)
theorem Db(p1 p2 r)(h:I5 p1 p2=some r):PCall prog 228 [(.list (List.map H5 p1)),(.fn (.func 229) [] [(.bp [(i64 p2)] 0)])] (i64 r):=by
 refine E3 (fk func228 ntmps228 m0 (by with_unfolding_all rfl)) (nl Z) ?_
 unfold I5 at h
 refine A8 (s0:=⟨T [(0,(.d _)),(1,(.d _))],G []⟩) (F5 Z Z) ?_
 refine C0<|sv Z<|A1<|A4<|C0<|sv Z<|sd Z (D2 Z)<|sv Z<|A1<|js h fun z1 hz1 h=>D3 (fun s=> ∃(y1:Unit) (g1:Unit),z1= .inl y1∧Sb ⟨T [],G []⟩ s) ?_ ?_
 refine A5<|D6 (P5 p1 p2) (fun (x1:Int) (g2:Unit)=>⟨T [(0,(dl H5 p1)),(1,(.d (.fn (.func 229) [] [(.bp [(i64 p2)] 0)]))),(7,(di (p1.length:Int))),(8,(di x1))],G []⟩) 0 () _ hz1 (F5 Z Z) ?_
 intro x1 g2 z2 hz2 ez2
 unfold P5 at hz2
 refine C0<|sv Z<|A1<|A4<|cc Z hz2 (fun c1 hz2=> ?_)<|fun c1 hz2=> ?_
 refine B4<|A4<|A5<|C0<|sv Z<|sv Z<|A1<|C0<|sv Z<|sv Z<|sv Z<|bs hz2 fun _ hv1 hz2=>sd Z (E7 Z Z hv1 Z)<|sd Z (E4 Z hv1 Z Z)<|bs hz2 fun _ hv2 hz2=>D1 Z Z A6 (Sr _ _ _ hv2) (.inl Z) (A1<|cc Z hz2 (fun c2 hz2=> ?_)<|fun c2 hz2=> ?_)
 refine C0<|sv Z<|sv Z<|A1<|C1 ?_
 cases hz2
 obtain rfl:=ez2 _ rfl
 refine ⟨nofun,H7 ?_⟩
 rw [bP]at h
 cases h
 exact B9 (.inr Z) (C5 (C2 Z) D7) (.refl _)
 refine B4<|D8<|B5<|sv Z<|sv Z<|A1<|D9 ?_
 cases hz2
 exact ⟨Z,(),(F5 Z Z)⟩
 refine C4 Z ?_
 cases hz2
 obtain rfl:=ez2 _ rfl
 refine ⟨nofun,C3 Z<|V2 ?_⟩
 exact ⟨_,(),Z,(F5 Z Z)⟩
 rintro _ ⟨y1,g1,rfl,q1⟩
 rw [bO]at h
 refine A8 q1<|C0<|sv Z<|A1<|C1 ?_
 cases h
 exact B9 (.inr Z) (C5 (C2 Z) D7) (.refl _)
def Dh [Lp](p1:Zone)(p2:Int):Option (Part×Bool):=
  (I5 p1.Parts p2).bind fun v1=>cond (decide (v1<0)) (some ((Part.mk 0 0 0 0),false)) ((F6 p1.Parts v1).bind fun v2=>some (v2,true))
theorem Hf(p1 p2 r)(h:Dh p1 p2=some r):PCall prog 147 [(.agg [(.list (List.map H5 p1.Parts)),(i64 p1.Signal_)]),(i64 p2)] (.tup [(.agg (H5 r.1)),(bo r.2)]):=by
 refine E3 (fk func147 ntmps147 m0 (by with_unfolding_all rfl)) (nl Z) ?_
 unfold Dh at h
 refine A8 (s0:=⟨T [(0,(.d _)),(1,(.d _))],G []⟩) (F5 Z Z) ?_
 refine C0<|sm Z<|sn Z Z<|sm Z<|sv Z<|A1<|C0<|sq Z<|sl Z (gq Z) Z (B6 (.fn _ _ _) Z Z (bs h fun _ hv1 h=>D1 Z (rD<|O7 (Zd N4<|O7 (Lz (gq Z)<|rD N4) N4) N4) A6 (Db _ _ _ hv1) (.inr Z) (sv Z<|A1<|A4<|C0<|sv Z<|sv Z<|A1<|cc Z h (fun c1 h=> ?_)<|fun c1 h=> ?_)))
 refine C0<|sv Z<|X7 Z G_hit (zs 4) Z (sv Z<|A1<|C1 ?_)
 cases h
 exact B9 (.inr Z) (Nw (O8 Z G_hit (nl Z) Z) (C2 Z) D7 D7) (.refl _)
 refine B4<|C0<|sq Z<|sl Z (gq Z) Z (sv Z<|bs h fun v2 hv2 h=>sd Z (E7 Z Z hv2 Z)<|sd Z (E4 Z hv2 Z Z)<|X7 Z G_hit (Pb v2) Z (sv Z<|A1<|C1 ?_))
 cases h
 exact B9 (.inr Z) (Nw (O8 Z G_hit (nl Z) Z) (C2 Z) D7 D7) (.refl _)
def Bq [Lp](p1:Map)(p2:Zone)(v2:(List Int))(x1:Int):Option (Stp Int (Sum Unit Bool)):=
  cond (decide (x1< (v2.length:Int))) ((F6 v2 x1).bind fun v3=>(Dh p2 v3).bind fun v4=>((cond (!(!v4.2)) (V3 p1 v3) (some default))).bind fun v5=>cond ((!v4.2)||(v4.1.To !=v5)) (some (.out (.inr false))) (some (.go (I4 (x1+1))))) (some (.out (.inl ())))
def Di [Lp](p1:Map)(p2:Zone)(p3:Int):Option Bool:=
  (Dh p2 p3).bind fun v1=>cond ((!v1.2)||(v1.1.From !=0)) (some false) ((Cf p1 p3).bind fun v2=>thenS (loop (Bq p1 p2 v2) 0) (fun _=>some true) (fun r=>some r))
theorem Oa(p1 p2 p3 r)(h:Di p1 p2 p3=some r):PCall prog 181 [(.agg (Q2 p1)),(.agg [(.list (List.map H5 p2.Parts)),(i64 p2.Signal_)]),(i64 p3)] (bo r):=by
 refine E3 (fk func181 ntmps181 m0 (by with_unfolding_all rfl)) (nl Z) ?_
 unfold Di at h
 refine A8 (s0:=⟨T [(0,(.d _)),(1,(.d _)),(2,(.d _))],G []⟩) (F5 Z Z) ?_
 refine lr<|fun u1 _=>sm Z<|sm Z<|sv Z<|A1<|C0<|sd Z (C6 Z G_hit Z Z)<|sv Z<|bs h fun v1 hv1 h=>D1 Z Z A6 (Hf _ _ _ hv1) (.inl Z) (sv Z<|sv Z<|sv Z<|sm Z<|X7 Z G_hit (Pb v1.1) Z (sv Z<|A1<|A4<|C0<|sv Z<|B6 (.d (bo (!v1.2))) Z Z (sv Z<|gp Z (T9 Z) (fun _=>Z) (gf Z (vl Z G_hit Z)<|gf Z (vb Z Z Z)<|sd Z (Ed Z Z<|fun hc=>A9<|Y1 hc)<|A1<|cc Z h (fun c1 h=> ?_)<|fun c1 h=> ?_))))
 refine A4<|A8 (s0:=⟨T [],G []⟩) (F5 Z Z) ?_
 refine B5<|sv Z<|A1<|C1 ?_
 cases h
 exact B9 (.inr Z) (C5 (C2 Z) D7) (.refl _)
 refine B4<|A4<|A4<|A8 (s0:=⟨T [(2,(.d _)),(3,(.ptr _ _)),(4,(.ptr _ _))],G [((3,u1),some<|.box 27 _),((4,u1),some<|.box 45 _)]⟩) (F5 Z Z) ?_
 refine B5<|sd Z (C6 Z G_hit Z Z)<|sv Z<|bs h fun v2 hv2 h=>D1 Z Z A6 (Jl _ _ _ hv2) (.inl Z) (sd Z (D2 Z)<|sv Z<|A1<|js h fun z1 hz1 h=>D3 (fun s=> ∃(y1:Unit) (g1:Unit),z1= .inl y1∧Sb ⟨T [],G []⟩ s) ?_ ?_)
 refine A5<|D6 (Bq p1 p2 v2) (fun (x1:Int) (g2:Unit)=>⟨T [(3,(.ptr (3,u1) 0)),(4,(.ptr (4,u1) 0)),(28,(dl A3 v2)),(29,(di (v2.length:Int))),(30,(di x1))],G [((3,u1),some<|.box 27 (F1 p1)),((4,u1),some<|.box 45 [(dl H5 p2.Parts),(di p2.Signal_)])]⟩) 0 () _ hz1 (F5 Z Z) ?_
 intro x1 g2 z2 hz2 ez2
 unfold Bq at hz2
 refine C0<|sv Z<|A1<|A4<|cc Z hz2 (fun c2 hz2=> ?_)<|fun c2 hz2=> ?_
 refine B4<|A4<|A5<|C0<|bs hz2 fun v3 hv3 hz2=>sd Z (E7 Z Z hv3 Z)<|sd Z (G7 Z hv3 Z)<|sv Z<|A1<|C0<|sd Z (C6 Z (gq Z) Z Z)<|sv Z<|bs hz2 fun v4 hv4 hz2=>D1 Z Z A6 (Hf _ _ _ hv4) (.inl Z) (sv Z<|sv Z<|sv Z<|sm Z<|X7 Z G_hit (Pb v4.1) Z (sv Z<|A1<|A4<|T7 Z<|sv Z<|B6 (.d (bo (!v4.2))) Z Z (sv Z<|gp Z (T9 Z) (fun _=>Z) (gf Z (vl Z G_hit Z)<|gf Z (fun _=>(C6 Z (gq Z) Z Z))<|gf Z (fun _=>Z)<|bs hz2 fun v5 hv5 hz2=> ?_))))
 refine P4 _ (i64 v5) (T9 Z) (fun w8=>⟨_,[(.d (.agg (Q2 p1))),(di v3)],_,_,(by simp only [A9 w8];rfl),Z,A6,Dr _ _ _<|K2 w8 hv5,(.inl Z)⟩) ?_
 refine gf Z (fun w9=>(Cu (A9 w9) (A9 w9) Z))<|sd Z (Ed Z Z<|fun hc=>A9<|Y1 hc)<|A1<|cc Z hz2 (fun c3 hz2=> ?_)<|fun c3 hz2=> ?_
 refine A4<|A8 (s0:=⟨T [],G []⟩) (F5 Z Z) ?_
 refine B5<|sv Z<|A1<|C1 ?_
 cases hz2
 obtain rfl:=ez2 _ rfl
 refine ⟨nofun,H7 ?_⟩
 rw [bP]at h
 cases h
 exact B9 (.inr Z) (C5 (C2 Z) D7) (.refl _)
 refine B4<|D8<|A8 (s0:=⟨T [(3,(.ptr _ _)),(4,(.ptr _ _)),(28,(.d _)),(29,(.d _)),(30,(.d _))],G [((3,u1),some<|.box 27 _),((4,u1),some<|.box 45 _)]⟩) (F5 Z Z) ?_
 refine B5<|sv Z<|sv Z<|A1<|D9 ?_
 cases hz2
 exact ⟨Z,(),(F5 Z Z)⟩
 refine C4 Z ?_
 cases hz2
 obtain rfl:=ez2 _ rfl
 refine ⟨nofun,C3 Z<|V2 ?_⟩
 exact ⟨_,(),Z,(F5 Z Z)⟩
 rintro _ ⟨y1,g1,rfl,q1⟩
 rw [bO]at h
 refine A8 q1<|C0<|sv Z<|A1<|C1 ?_
 cases h
 exact B9 (.inr Z) (C5 (C2 Z) D7) (.refl _)
def Ku (x1:(Int× (Int×Int×Int×Int×Int×Int×Int×Int×Int×Int×Int×Int)))(v1:Lane)(x2:(Int× (Int×Int×Int×Int×Int×Int×Int×Int×Int×Int×Int×Int))):Option (Stp (Int× (Int×Int×Int×Int×Int×Int×Int×Int×Int×Int×Int×Int)) (Int×Int×Int×Int×Int×Int×Int×Int×Int×Int×Int×Int)):=
  cond (decide (x2.1< (v1.Next.length:Int))) ((F6 v1.Next x2.1).bind fun v2=>(F6 ([x2.2.1,x2.2.2.1,x2.2.2.2.1,x2.2.2.2.2.1,x2.2.2.2.2.2.1,x2.2.2.2.2.2.2.1,x2.2.2.2.2.2.2.2.1,x2.2.2.2.2.2.2.2.2.1,x2.2.2.2.2.2.2.2.2.2.1,x2.2.2.2.2.2.2.2.2.2.2.1,x2.2.2.2.2.2.2.2.2.2.2.2.1,x2.2.2.2.2.2.2.2.2.2.2.2.2]:List Int) x1.1).bind fun v3=>(F6 ([x2.2.1,x2.2.2.1,x2.2.2.2.1,x2.2.2.2.2.1,x2.2.2.2.2.2.1,x2.2.2.2.2.2.2.1,x2.2.2.2.2.2.2.2.1,x2.2.2.2.2.2.2.2.2.1,x2.2.2.2.2.2.2.2.2.2.1,x2.2.2.2.2.2.2.2.2.2.2.1,x2.2.2.2.2.2.2.2.2.2.2.2.1,x2.2.2.2.2.2.2.2.2.2.2.2.2]:List Int) v2).bind fun v4=>(UZ .u32 1 (IntKind.wrap .u64 v2)).bind fun v5=>(F6 ([x2.2.1,x2.2.2.1,x2.2.2.2.1,x2.2.2.2.2.1,x2.2.2.2.2.2.1,x2.2.2.2.2.2.2.1,x2.2.2.2.2.2.2.2.1,x2.2.2.2.2.2.2.2.2.1,x2.2.2.2.2.2.2.2.2.2.1,x2.2.2.2.2.2.2.2.2.2.2.1,x2.2.2.2.2.2.2.2.2.2.2.2.1,x2.2.2.2.2.2.2.2.2.2.2.2.2]:List Int) x1.1).bind fun v6=>(NJ ([x2.2.1,x2.2.2.1,x2.2.2.2.1,x2.2.2.2.2.1,x2.2.2.2.2.2.1,x2.2.2.2.2.2.2.1,x2.2.2.2.2.2.2.2.1,x2.2.2.2.2.2.2.2.2.1,x2.2.2.2.2.2.2.2.2.2.1,x2.2.2.2.2.2.2.2.2.2.2.1,x2.2.2.2.2.2.2.2.2.2.2.2.1,x2.2.2.2.2.2.2.2.2.2.2.2.2]:List Int) x1.1 (IntKind.wrap .u32 (((BitVec.ofInt (IntKind.bits .u32) v3|||(BitVec.ofInt (IntKind.bits .u32) (IntKind.wrap .u32 (((BitVec.ofInt (IntKind.bits .u32) v4|||(BitVec.ofInt (IntKind.bits .u32) v5)).toNat:Nat))))).toNat:Nat)))).bind fun v7=>some (.go ((I4 (x2.1+1)),((v7.getD 0 0),(v7.getD 1 0),(v7.getD 2 0),(v7.getD 3 0),(v7.getD 4 0),(v7.getD 5 0),(v7.getD 6 0),(v7.getD 7 0),(v7.getD 8 0),(v7.getD 9 0),(v7.getD 10 0),(v7.getD 11 0))))) (some (.out x2.2))
def Cz [Lp](p1:Map)(x1:(Int× (Int×Int×Int×Int×Int×Int×Int×Int×Int×Int×Int×Int))):Option (Stp (Int× (Int×Int×Int×Int×Int×Int×Int×Int×Int×Int×Int×Int)) (Int×Int×Int×Int×Int×Int×Int×Int×Int×Int×Int×Int)):=
  cond (decide (x1.1≥0)) ((F6 p1.Lanes x1.1).bind fun v1=>(loop (Ku x1 v1) (0,x1.2)).bind fun y2=>some (.go ((I4 (x1.1 - 1)),y2))) (some (.out x1.2))
def Fz [Lp](p1:Map):Option (Int×Int×Int×Int×Int×Int×Int×Int×Int×Int×Int×Int):=
  (loop (Cz p1) ((I4 ((p1.Lanes.length:Int) - 1)),(0,0,0,0,0,0,0,0,0,0,0,0))).bind fun y1=>some y1
theorem Xa(p1 r)(h:Fz p1=some r):PCall prog 244 [(.agg (Q2 p1))] (.agg [(.v (.int .u32 r.1)),(.v (.int .u32 r.2.1)),(.v (.int .u32 r.2.2.1)),(.v (.int .u32 r.2.2.2.1)),(.v (.int .u32 r.2.2.2.2.1)),(.v (.int .u32 r.2.2.2.2.2.1)),(.v (.int .u32 r.2.2.2.2.2.2.1)),(.v (.int .u32 r.2.2.2.2.2.2.2.1)),(.v (.int .u32 r.2.2.2.2.2.2.2.2.1)),(.v (.int .u32 r.2.2.2.2.2.2.2.2.2.1)),(.v (.int .u32 r.2.2.2.2.2.2.2.2.2.2.1)),(.v (.int .u32 r.2.2.2.2.2.2.2.2.2.2.2))]):=by
 refine E3 (fk func244 ntmps244 m0 (by with_unfolding_all rfl)) (nl Z) ?_
 unfold Fz at h
 refine A8 (s0:=⟨T [(0,(.d _))],G []⟩) (F5 Z Z) ?_
 refine lr<|fun u1 _=>sm Z<|sm Z<|A1<|lr<|fun u2 _=>sm Z<|A1<|A4<|C0<|sq Z<|sl Z (gq Z) Z (sd Z (D2 Z)<|sv Z<|sv Z<|A1<|bs h fun y1 hy1 h=>D3 (fun s=> ∃g1:Unit,Sb ⟨T [(2,(.ptr (2,u1) 0)),(3,(.ptr (3,u2) 0))],G [((2,u1),some<|.box 267 [(.d (.v (.int .u32 0))),(.d (.v (.int .u32 0))),(.d (.v (.int .u32 0))),(.d (.v (.int .u32 0))),(.d (.v (.int .u32 0))),(.d (.v (.int .u32 0))),(.d (.v (.int .u32 0))),(.d (.v (.int .u32 0))),(.d (.v (.int .u32 0))),(.d (.v (.int .u32 0))),(.d (.v (.int .u32 0))),(.d (.v (.int .u32 0)))]),((3,u2),some<|.box 267 [(.d (.v (.int .u32 y1.1))),(.d (.v (.int .u32 y1.2.1))),(.d (.v (.int .u32 y1.2.2.1))),(.d (.v (.int .u32 y1.2.2.2.1))),(.d (.v (.int .u32 y1.2.2.2.2.1))),(.d (.v (.int .u32 y1.2.2.2.2.2.1))),(.d (.v (.int .u32 y1.2.2.2.2.2.2.1))),(.d (.v (.int .u32 y1.2.2.2.2.2.2.2.1))),(.d (.v (.int .u32 y1.2.2.2.2.2.2.2.2.1))),(.d (.v (.int .u32 y1.2.2.2.2.2.2.2.2.2.1))),(.d (.v (.int .u32 y1.2.2.2.2.2.2.2.2.2.2.1))),(.d (.v (.int .u32 y1.2.2.2.2.2.2.2.2.2.2.2)))])]⟩ s) ?_ ?_)
 refine A5<|D6 (Cz p1) (fun (x1:(Int× (Int×Int×Int×Int×Int×Int×Int×Int×Int×Int×Int×Int))) (g2:Unit)=>⟨T [(1,(.ptr (1,u1) 0)),(2,(.ptr (2,u1) 0)),(3,(.ptr (3,u2) 0)),(4,(di x1.1))],G [((1,u1),some<|.box 27 (F1 p1)),((2,u1),some<|.box 267 [(.d (.v (.int .u32 0))),(.d (.v (.int .u32 0))),(.d (.v (.int .u32 0))),(.d (.v (.int .u32 0))),(.d (.v (.int .u32 0))),(.d (.v (.int .u32 0))),(.d (.v (.int .u32 0))),(.d (.v (.int .u32 0))),(.d (.v (.int .u32 0))),(.d (.v (.int .u32 0))),(.d (.v (.int .u32 0))),(.d (.v (.int .u32 0)))]),((3,u2),some<|.box 267 [(.d (.v (.int .u32 x1.2.1))),(.d (.v (.int .u32 x1.2.2.1))),(.d (.v (.int .u32 x1.2.2.2.1))),(.d (.v (.int .u32 x1.2.2.2.2.1))),(.d (.v (.int .u32 x1.2.2.2.2.2.1))),(.d (.v (.int .u32 x1.2.2.2.2.2.2.1))),(.d (.v (.int .u32 x1.2.2.2.2.2.2.2.1))),(.d (.v (.int .u32 x1.2.2.2.2.2.2.2.2.1))),(.d (.v (.int .u32 x1.2.2.2.2.2.2.2.2.2.1))),(.d (.v (.int .u32 x1.2.2.2.2.2.2.2.2.2.2.1))),(.d (.v (.int .u32 x1.2.2.2.2.2.2.2.2.2.2.2.1))),(.d (.v (.int .u32 x1.2.2.2.2.2.2.2.2.2.2.2.2)))])]⟩) ((I4 ((p1.Lanes.length:Int) - 1)),(0,0,0,0,0,0,0,0,0,0,0,0)) () _ hy1 (F5 Z Z) ?_
 intro x1 g2 z1 hz1 ez1
 unfold Cz at hz1
 refine A4<|C0<|sv Z<|sv Z<|A1<|cc Z hz1 (fun c1 hz1=> ?_)<|fun c1 hz1=> ?_
 refine B4<|A4<|A5<|C0<|sq Z<|sl Z G_hit Z<|sv Z<|bs hz1 fun v1 hv1 hz1=>sd Z (E7 Z Z hv1 Z)<|sv Z<|sd Z (G7 Z hv1 Z)<|sd Z (D2 Z)<|sv Z<|A1<|bs hz1 fun y2 hy2 hz1=>D3 (fun s=> ∃g3:Unit,Sb ⟨T [(1,(.ptr (1,u1) 0)),(2,(.ptr (2,u1) 0)),(3,(.ptr (3,u2) 0)),(4,(di x1.1))],G [((1,u1),some<|.box 27 (F1 p1)),((2,u1),some<|.box 267 [(.d (.v (.int .u32 0))),(.d (.v (.int .u32 0))),(.d (.v (.int .u32 0))),(.d (.v (.int .u32 0))),(.d (.v (.int .u32 0))),(.d (.v (.int .u32 0))),(.d (.v (.int .u32 0))),(.d (.v (.int .u32 0))),(.d (.v (.int .u32 0))),(.d (.v (.int .u32 0))),(.d (.v (.int .u32 0))),(.d (.v (.int .u32 0)))]),((3,u2),some<|.box 267 [(.d (.v (.int .u32 y2.1))),(.d (.v (.int .u32 y2.2.1))),(.d (.v (.int .u32 y2.2.2.1))),(.d (.v (.int .u32 y2.2.2.2.1))),(.d (.v (.int .u32 y2.2.2.2.2.1))),(.d (.v (.int .u32 y2.2.2.2.2.2.1))),(.d (.v (.int .u32 y2.2.2.2.2.2.2.1))),(.d (.v (.int .u32 y2.2.2.2.2.2.2.2.1))),(.d (.v (.int .u32 y2.2.2.2.2.2.2.2.2.1))),(.d (.v (.int .u32 y2.2.2.2.2.2.2.2.2.2.1))),(.d (.v (.int .u32 y2.2.2.2.2.2.2.2.2.2.2.1))),(.d (.v (.int .u32 y2.2.2.2.2.2.2.2.2.2.2.2)))])]⟩ s) ?_ ?_
 refine A5<|D6 (Ku x1 v1) (fun (x2:(Int× (Int×Int×Int×Int×Int×Int×Int×Int×Int×Int×Int×Int))) (g4:Unit)=>⟨T [(1,(.ptr (1,u1) 0)),(2,(.ptr (2,u1) 0)),(3,(.ptr (3,u2) 0)),(4,(di x1.1)),(20,(dl A3 v1.Next)),(21,(di (v1.Next.length:Int))),(22,(di x2.1))],G [((1,u1),some<|.box 27 (F1 p1)),((2,u1),some<|.box 267 [(.d (.v (.int .u32 0))),(.d (.v (.int .u32 0))),(.d (.v (.int .u32 0))),(.d (.v (.int .u32 0))),(.d (.v (.int .u32 0))),(.d (.v (.int .u32 0))),(.d (.v (.int .u32 0))),(.d (.v (.int .u32 0))),(.d (.v (.int .u32 0))),(.d (.v (.int .u32 0))),(.d (.v (.int .u32 0))),(.d (.v (.int .u32 0)))]),((3,u2),some<|.box 267 [(.d (.v (.int .u32 x2.2.1))),(.d (.v (.int .u32 x2.2.2.1))),(.d (.v (.int .u32 x2.2.2.2.1))),(.d (.v (.int .u32 x2.2.2.2.2.1))),(.d (.v (.int .u32 x2.2.2.2.2.2.1))),(.d (.v (.int .u32 x2.2.2.2.2.2.2.1))),(.d (.v (.int .u32 x2.2.2.2.2.2.2.2.1))),(.d (.v (.int .u32 x2.2.2.2.2.2.2.2.2.1))),(.d (.v (.int .u32 x2.2.2.2.2.2.2.2.2.2.1))),(.d (.v (.int .u32 x2.2.2.2.2.2.2.2.2.2.2.1))),(.d (.v (.int .u32 x2.2.2.2.2.2.2.2.2.2.2.2.1))),(.d (.v (.int .u32 x2.2.2.2.2.2.2.2.2.2.2.2.2)))])]⟩) (0,x1.2) () _ hy2 (F5 Z Z) ?_
 intro x2 g4 z2 hz2 ez2
 unfold Ku at hz2
 refine C0<|sv Z<|A1<|A4<|cc Z hz2 (fun c2 hz2=> ?_)<|fun c2 hz2=> ?_
 refine B4<|A4<|A5<|C0<|bs hz2 fun _ hv2 hz2=>sd Z (E7 Z Z hv2 Z)<|sd Z (G7 Z hv2 Z)<|sv Z<|A1<|T7 Z<|sv Z<|bs hz2 fun _ hv3 hz2=>sp Z (Sk Z Z hv3 Z)<|sd Z (Wv (f:=fun x=>(.v (.int .u32 x))) Z (gq Z) hv3 Z)<|sv Z<|bs hz2 fun _ hv4 hz2=>sp Z (Sk Z Z hv4 Z)<|sd Z (Wv (f:=fun x=>(.v (.int .u32 x))) Z (gq Z) hv4 Z)<|sv Z<|sv Z<|bs hz2 fun _ hv5 hz2=>sd Z (WS Z Z hv5)<|sv Z<|sv Z<|bs hz2 fun _ hv6 hz2=>sp Z (Sk Z Z hv6 Z)<|bs hz2 fun v7 hv7 hz2=>W8 _ _ _ _ _ Z Z Z (gq Z) (WR (xs:=([x2.2.1,x2.2.2.1,x2.2.2.2.1,x2.2.2.2.2.1,x2.2.2.2.2.2.1,x2.2.2.2.2.2.2.1,x2.2.2.2.2.2.2.2.1,x2.2.2.2.2.2.2.2.2.1,x2.2.2.2.2.2.2.2.2.2.1,x2.2.2.2.2.2.2.2.2.2.2.1,x2.2.2.2.2.2.2.2.2.2.2.2.1,x2.2.2.2.2.2.2.2.2.2.2.2.2]:List Int)) hv7 Z) [(.d (.v (.int .u32 (v7.getD 0 0)))),(.d (.v (.int .u32 (v7.getD 1 0)))),(.d (.v (.int .u32 (v7.getD 2 0)))),(.d (.v (.int .u32 (v7.getD 3 0)))),(.d (.v (.int .u32 (v7.getD 4 0)))),(.d (.v (.int .u32 (v7.getD 5 0)))),(.d (.v (.int .u32 (v7.getD 6 0)))),(.d (.v (.int .u32 (v7.getD 7 0)))),(.d (.v (.int .u32 (v7.getD 8 0)))),(.d (.v (.int .u32 (v7.getD 9 0)))),(.d (.v (.int .u32 (v7.getD 10 0)))),(.d (.v (.int .u32 (v7.getD 11 0))))] (UY (fun x=>(.v (.int .u32 x))) 0 hv7) (A1<|D8<|A8 (s0:=⟨T [(1,(.ptr _ _)),(2,(.ptr _ _)),(3,(.ptr _ _)),(4,(.d _)),(20,(.d _)),(21,(.d _)),(22,(.d _))],G [((1,u1),some<|.box 27 _),((2,u1),some<|.box 267 _),((3,u2),some<|.box 267 _)]⟩) (F5 Z Z) ?_)
 refine B5<|sv Z<|sv Z<|A1<|D9 ?_
 cases hz2
 exact ⟨Z,(),(F5 Z Z)⟩
 refine C4 Z ?_
 cases hz2
 obtain rfl:=ez2 _ rfl
 refine ⟨nofun,C3 Z<|V2 ?_⟩
 exact ⟨(),(F5 Z Z)⟩
 rintro _ ⟨g3,q1⟩
 refine D8<|A8 q1<|B5<|sv Z<|sv Z<|sv Z<|A1<|D9 ?_
 cases hz1
 exact ⟨Z,(),(F5 Z Z)⟩
 refine C4 Z ?_
 cases hz1
 obtain rfl:=ez1 _ rfl
 refine ⟨nofun,C3 Z<|V2 ?_⟩
 exact ⟨(),(F5 Z Z)⟩
 rintro _ ⟨g1,q2⟩
 refine A8 q2<|C0<|sd Z (C6 Z (gq Z) Z Z)<|X7 Z G_hit [(.d (.v (.int .u32 y1.1))),(.d (.v (.int .u32 y1.2.1))),(.d (.v (.int .u32 y1.2.2.1))),(.d (.v (.int .u32 y1.2.2.2.1))),(.d (.v (.int .u32 y1.2.2.2.2.1))),(.d (.v (.int .u32 y1.2.2.2.2.2.1))),(.d (.v (.int .u32 y1.2.2.2.2.2.2.1))),(.d (.v (.int .u32 y1.2.2.2.2.2.2.2.1))),(.d (.v (.int .u32 y1.2.2.2.2.2.2.2.2.1))),(.d (.v (.int .u32 y1.2.2.2.2.2.2.2.2.2.1))),(.d (.v (.int .u32 y1.2.2.2.2.2.2.2.2.2.2.1))),(.d (.v (.int .u32 y1.2.2.2.2.2.2.2.2.2.2.2)))] Z (A1<|C1 ?_)
 cases h
 exact B9 (.inr Z) (C5 (O8 Z G_hit (nl Z) Z) D7) (.refl _)
def Mg (p1:Int)(p2:Int):Option Bool:=
  (Ma .u32 p1 (IntKind.wrap .u64 p2)).bind fun v1=>some ((IntKind.wrap .u32 (((BitVec.ofInt (IntKind.bits .u32) v1&&&(BitVec.ofInt (IntKind.bits .u32) 1)).toNat:Nat)))==1)
theorem Ts(p1 p2 r)(h:Mg p1 p2=some r):PCall prog 247 [(.v (.int .u32 p1)),(i64 p2)] (bo r):=by
 refine E3 (fk func247 ntmps247 m0 (by with_unfolding_all rfl)) (nl Z) ?_
 unfold Mg at h
 refine A8 (s0:=⟨T [(0,(.d _)),(1,(.d _))],G []⟩) (F5 Z Z) ?_
 refine C0<|sv Z<|A1<|C0<|sv Z<|sv Z<|sv Z<|bs h fun _ hv1 h=>sd Z (Jo Z Z hv1)<|sv Z<|sv Z<|sv Z<|A1<|C1 ?_
 cases h
 exact B9 (.inr Z) (C5 (C2 Z) D7) (.refl _)
def Gp (p1:Part)(p2:(Int×Int×Int×Int×Int×Int×Int×Int×Int×Int×Int×Int))(p3:Int):Option Bool:=
  (F6 ([p2.1,p2.2.1,p2.2.2.1,p2.2.2.2.1,p2.2.2.2.2.1,p2.2.2.2.2.2.1,p2.2.2.2.2.2.2.1,p2.2.2.2.2.2.2.2.1,p2.2.2.2.2.2.2.2.2.1,p2.2.2.2.2.2.2.2.2.2.1,p2.2.2.2.2.2.2.2.2.2.2.1,p2.2.2.2.2.2.2.2.2.2.2.2]:List Int) p1.Lane_).bind fun v1=>(Mg v1 p3).bind fun v2=>some v2
theorem Pj(p1 p2 p3 r)(h:Gp p1 p2 p3=some r):MCall prog 246 [(.d (.agg (H5 p1))),(.ptr (900000,0) 0),(.ptr (900001,0) 0)] [(.box 267 [(.d (.v (.int .u32 p2.1))),(.d (.v (.int .u32 p2.2.1))),(.d (.v (.int .u32 p2.2.2.1))),(.d (.v (.int .u32 p2.2.2.2.1))),(.d (.v (.int .u32 p2.2.2.2.2.1))),(.d (.v (.int .u32 p2.2.2.2.2.2.1))),(.d (.v (.int .u32 p2.2.2.2.2.2.2.1))),(.d (.v (.int .u32 p2.2.2.2.2.2.2.2.1))),(.d (.v (.int .u32 p2.2.2.2.2.2.2.2.2.1))),(.d (.v (.int .u32 p2.2.2.2.2.2.2.2.2.2.1))),(.d (.v (.int .u32 p2.2.2.2.2.2.2.2.2.2.2.1))),(.d (.v (.int .u32 p2.2.2.2.2.2.2.2.2.2.2.2)))]),(.box 3 [(di p3)])] (.d (bo r)) [some (.box 267 [(.d (.v (.int .u32 p2.1))),(.d (.v (.int .u32 p2.2.1))),(.d (.v (.int .u32 p2.2.2.1))),(.d (.v (.int .u32 p2.2.2.2.1))),(.d (.v (.int .u32 p2.2.2.2.2.1))),(.d (.v (.int .u32 p2.2.2.2.2.2.1))),(.d (.v (.int .u32 p2.2.2.2.2.2.2.1))),(.d (.v (.int .u32 p2.2.2.2.2.2.2.2.1))),(.d (.v (.int .u32 p2.2.2.2.2.2.2.2.2.1))),(.d (.v (.int .u32 p2.2.2.2.2.2.2.2.2.2.1))),(.d (.v (.int .u32 p2.2.2.2.2.2.2.2.2.2.2.1))),(.d (.v (.int .u32 p2.2.2.2.2.2.2.2.2.2.2.2)))]),some (.box 3 [(di p3)])] []:=by
 refine X8 (fk func246 ntmps246 m0 (by with_unfolding_all rfl)) Z (nl Z) ?_
 unfold Gp at h
 refine A8 (s0:=⟨T [(0,(.d _)),(1,(.ptr _ _)),(2,(.ptr _ _))],G [((900000,0),some<|.box 267 _),((900001,0),some<|.box 3 _)]⟩) (F5 Z Z) ?_
 refine C0<|sm Z<|sv Z<|A1<|A4<|T7 Z<|sq Z<|sl Z G_hit Z<|bs h fun _ hv1 h=>sp Z (Sk Z Z hv1 Z)<|sd Z (Wv (f:=fun x=>(.v (.int .u32 x))) Z (gq Z) hv1 Z)<|sl Z (gq Z) Z (bs h fun _ hv2 h=>D1 Z Z A6 (Ts _ _ _ hv2) (.inl Z) (sv Z<|A1<|C1 ?_))
 obtain rfl:=(lC h)
 exact Av (.inr Z) [] (Aw (C2 Z) D7) (.refl _) ⟨⟨_,_,_,(gq Z),G2,Z,X0,Z⟩,⟨_,_,_,(gq Z),G2,Z,X0,Z⟩,trivial⟩
def O4 (p1:(List Part))(p2:(Int×Int×Int×Int×Int×Int×Int×Int×Int×Int×Int×Int))(p3:Int)(x1:Int):Option (Stp Int (Sum Unit Int)):=
  cond (decide (x1< (p1.length:Int))) ((F6 p1 x1).bind fun v1=>(Gp v1 p2 p3).bind fun v2=>cond v2 (some (.out (.inr x1))) (some (.go (I4 (x1+1))))) (some (.out (.inl ())))
def I3 [Lp](p1:(List Part))(p2:(Int×Int×Int×Int×Int×Int×Int×Int×Int×Int×Int×Int))(p3:Int):Option Int:=
  thenS (loop (O4 p1 p2 p3) 0) (fun _=>some (-1)) (fun r=>some r)
theorem Co(p1 p2 p3 r)(h:I3 p1 p2 p3=some r):MCall prog 228 [(dl H5 p1),(.fn (.func 246) [] [(.ptr (900000,0) 0),(.ptr (900001,0) 0)])] [(.box 267 [(.d (.v (.int .u32 p2.1))),(.d (.v (.int .u32 p2.2.1))),(.d (.v (.int .u32 p2.2.2.1))),(.d (.v (.int .u32 p2.2.2.2.1))),(.d (.v (.int .u32 p2.2.2.2.2.1))),(.d (.v (.int .u32 p2.2.2.2.2.2.1))),(.d (.v (.int .u32 p2.2.2.2.2.2.2.1))),(.d (.v (.int .u32 p2.2.2.2.2.2.2.2.1))),(.d (.v (.int .u32 p2.2.2.2.2.2.2.2.2.1))),(.d (.v (.int .u32 p2.2.2.2.2.2.2.2.2.2.1))),(.d (.v (.int .u32 p2.2.2.2.2.2.2.2.2.2.2.1))),(.d (.v (.int .u32 p2.2.2.2.2.2.2.2.2.2.2.2)))]),(.box 3 [(di p3)])] (di r) [some (.box 267 [(.d (.v (.int .u32 p2.1))),(.d (.v (.int .u32 p2.2.1))),(.d (.v (.int .u32 p2.2.2.1))),(.d (.v (.int .u32 p2.2.2.2.1))),(.d (.v (.int .u32 p2.2.2.2.2.1))),(.d (.v (.int .u32 p2.2.2.2.2.2.1))),(.d (.v (.int .u32 p2.2.2.2.2.2.2.1))),(.d (.v (.int .u32 p2.2.2.2.2.2.2.2.1))),(.d (.v (.int .u32 p2.2.2.2.2.2.2.2.2.1))),(.d (.v (.int .u32 p2.2.2.2.2.2.2.2.2.2.1))),(.d (.v (.int .u32 p2.2.2.2.2.2.2.2.2.2.2.1))),(.d (.v (.int .u32 p2.2.2.2.2.2.2.2.2.2.2.2)))]),some (.box 3 [(di p3)])] []:=by
 refine X8 (fk func228 ntmps228 (fun r=>if r==4 then [1004005]else []) (by with_unfolding_all rfl)) Z (nl Z) ?_
 unfold I3 at h
 refine A8 (s0:=⟨T [(0,(.d _)),(1,(.fn _ _ _))],G [((900000,0),some<|.box 267 _),((900001,0),some<|.box 3 _)]⟩) (F5 Z Z) ?_
 refine C0<|sv Z<|A1<|A4<|C0<|sv Z<|sd Z (D2 Z)<|sv Z<|A1<|js h fun z1 hz1 h=>D3 (fun s=> ∃(y1:Unit) (g1:Unit),z1= .inl y1∧Sb ⟨T [(1,(.fn (.func 246) [] [(.ptr (900000,0) 0),(.ptr (900001,0) 0)]))],G [((900000,0),some<|.box 267 [(.d (.v (.int .u32 p2.1))),(.d (.v (.int .u32 p2.2.1))),(.d (.v (.int .u32 p2.2.2.1))),(.d (.v (.int .u32 p2.2.2.2.1))),(.d (.v (.int .u32 p2.2.2.2.2.1))),(.d (.v (.int .u32 p2.2.2.2.2.2.1))),(.d (.v (.int .u32 p2.2.2.2.2.2.2.1))),(.d (.v (.int .u32 p2.2.2.2.2.2.2.2.1))),(.d (.v (.int .u32 p2.2.2.2.2.2.2.2.2.1))),(.d (.v (.int .u32 p2.2.2.2.2.2.2.2.2.2.1))),(.d (.v (.int .u32 p2.2.2.2.2.2.2.2.2.2.2.1))),(.d (.v (.int .u32 p2.2.2.2.2.2.2.2.2.2.2.2)))]),((900001,0),some<|.box 3 [(di p3)])]⟩ s) ?_ ?_
 refine A5<|D6 (O4 p1 p2 p3) (fun (x1:Int) (g2:Unit)=>⟨T [(0,(dl H5 p1)),(1,(.fn (.func 246) [] [(.ptr (900000,0) 0),(.ptr (900001,0) 0)])),(7,(di (p1.length:Int))),(8,(di x1))],G [((900000,0),some<|.box 267 [(.d (.v (.int .u32 p2.1))),(.d (.v (.int .u32 p2.2.1))),(.d (.v (.int .u32 p2.2.2.1))),(.d (.v (.int .u32 p2.2.2.2.1))),(.d (.v (.int .u32 p2.2.2.2.2.1))),(.d (.v (.int .u32 p2.2.2.2.2.2.1))),(.d (.v (.int .u32 p2.2.2.2.2.2.2.1))),(.d (.v (.int .u32 p2.2.2.2.2.2.2.2.1))),(.d (.v (.int .u32 p2.2.2.2.2.2.2.2.2.1))),(.d (.v (.int .u32 p2.2.2.2.2.2.2.2.2.2.1))),(.d (.v (.int .u32 p2.2.2.2.2.2.2.2.2.2.2.1))),(.d (.v (.int .u32 p2.2.2.2.2.2.2.2.2.2.2.2)))]),((900001,0),some<|.box 3 [(di p3)])]⟩) 0 () _ hz1 (F5 Z Z) ?_
 intro x1 g2 z2 hz2 ez2
 unfold O4 at hz2
 refine C0<|sv Z<|A1<|A4<|cc Z hz2 (fun c1 hz2=> ?_)<|fun c1 hz2=> ?_
 refine B4<|A4<|A5<|C0<|sv Z<|sv Z<|A1<|C0<|B6 (.fn _ _ _) Z Z (sv Z<|sv Z<|bs hz2 fun _ hv1 hz2=>sd Z (E7 Z Z hv1 Z)<|sd Z (E4 Z hv1 Z Z)<|bs hz2 fun v2 hv2 hz2=>Aj (v:= .d (bo v2)) (us:= [(900000,0),(900001,0)]) (Ai (Pj _ _ _ _ hv2) [(900000,0),(900001,0)] [(900000,0),(900001,0)] _ (((900001,0),some<|.box 3 [(di p3)])::(((900000,0),some<|.box 267 [(.d (.v (.int .u32 p2.1))),(.d (.v (.int .u32 p2.2.1))),(.d (.v (.int .u32 p2.2.2.1))),(.d (.v (.int .u32 p2.2.2.2.1))),(.d (.v (.int .u32 p2.2.2.2.2.1))),(.d (.v (.int .u32 p2.2.2.2.2.2.1))),(.d (.v (.int .u32 p2.2.2.2.2.2.2.1))),(.d (.v (.int .u32 p2.2.2.2.2.2.2.2.1))),(.d (.v (.int .u32 p2.2.2.2.2.2.2.2.2.1))),(.d (.v (.int .u32 p2.2.2.2.2.2.2.2.2.2.1))),(.d (.v (.int .u32 p2.2.2.2.2.2.2.2.2.2.2.1))),(.d (.v (.int .u32 p2.2.2.2.2.2.2.2.2.2.2.2)))])::_)) Z J0 (E0 NE<|E0 (J1 G_hit Z)<|E0 (J1 (A7 Z G_hit) Z) J2) (D5 G_hit<|D5 (A7 Z G_hit) G9) ⟨⟨_,G_hit, .of Z⟩,⟨_,(A7 Z G_hit), .of Z⟩,trivial⟩ (fun _ h=>h) (WN<|AT Z) Z Z Z) (A1<|cc Z hz2 (fun c2 hz2=> ?_)<|fun c2 hz2=> ?_))
 refine C0<|sv Z<|sv Z<|A1<|C1 ?_
 cases hz2
 obtain rfl:=ez2 _ rfl
 refine ⟨nofun,H7 ?_⟩
 rw [bP]at h
 cases h
 exact Av (.inr Z) [] (Aw (C2 Z) D7) (.refl _) ⟨⟨_,_,_,(gq Z),G2,Z,X0,Z⟩,⟨_,_,_,G_hit,G2,Z,X0,Z⟩,trivial⟩
 refine B4<|D8<|B5<|sv Z<|sv Z<|A1<|D9 ?_
 cases hz2
 exact ⟨Z,(),(F5 Z Z)⟩
 refine C4 Z ?_
 cases hz2
 obtain rfl:=ez2 _ rfl
 refine ⟨nofun,C3 Z<|V2 ?_⟩
 exact ⟨_,(),Z,(F5 Z Z)⟩
 rintro _ ⟨y1,g1,rfl,q1⟩
 rw [bO]at h
 refine A8 q1<|C0<|sv Z<|A1<|C1 ?_
 cases h
 exact Av (.inr Z) [] (Aw (C2 Z) D7) (.refl _) ⟨⟨_,_,_,G_hit,G2,Z,X0,Z⟩,⟨_,_,_,(gq Z),G2,Z,X0,Z⟩,trivial⟩
def G8 [Lp](p1:(List Part))(p2:(Int×Int×Int×Int×Int×Int×Int×Int×Int×Int×Int×Int))(p3:Int):Option Bool:=
  (I3 p1 p2 p3).bind fun v1=>some (decide (v1≥0))
theorem Bm(p1 p2 p3 r)(h:G8 p1 p2 p3=some r):MCall prog 245 [(dl H5 p1),(.fn (.func 246) [] [(.ptr (900000,0) 0),(.ptr (900001,0) 0)])] [(.box 267 [(.d (.v (.int .u32 p2.1))),(.d (.v (.int .u32 p2.2.1))),(.d (.v (.int .u32 p2.2.2.1))),(.d (.v (.int .u32 p2.2.2.2.1))),(.d (.v (.int .u32 p2.2.2.2.2.1))),(.d (.v (.int .u32 p2.2.2.2.2.2.1))),(.d (.v (.int .u32 p2.2.2.2.2.2.2.1))),(.d (.v (.int .u32 p2.2.2.2.2.2.2.2.1))),(.d (.v (.int .u32 p2.2.2.2.2.2.2.2.2.1))),(.d (.v (.int .u32 p2.2.2.2.2.2.2.2.2.2.1))),(.d (.v (.int .u32 p2.2.2.2.2.2.2.2.2.2.2.1))),(.d (.v (.int .u32 p2.2.2.2.2.2.2.2.2.2.2.2)))]),(.box 3 [(di p3)])] (.d (bo r)) [some (.box 267 [(.d (.v (.int .u32 p2.1))),(.d (.v (.int .u32 p2.2.1))),(.d (.v (.int .u32 p2.2.2.1))),(.d (.v (.int .u32 p2.2.2.2.1))),(.d (.v (.int .u32 p2.2.2.2.2.1))),(.d (.v (.int .u32 p2.2.2.2.2.2.1))),(.d (.v (.int .u32 p2.2.2.2.2.2.2.1))),(.d (.v (.int .u32 p2.2.2.2.2.2.2.2.1))),(.d (.v (.int .u32 p2.2.2.2.2.2.2.2.2.1))),(.d (.v (.int .u32 p2.2.2.2.2.2.2.2.2.2.1))),(.d (.v (.int .u32 p2.2.2.2.2.2.2.2.2.2.2.1))),(.d (.v (.int .u32 p2.2.2.2.2.2.2.2.2.2.2.2)))]),some (.box 3 [(di p3)])] []:=by
 refine X8 (fk func245 ntmps245 (fun r=>if r==1 then [1001002]else []) (by with_unfolding_all rfl)) Z (nl Z) ?_
 unfold G8 at h
 refine A8 (s0:=⟨T [(0,(.d _)),(1,(.fn _ _ _))],G [((900000,0),some<|.box 267 _),((900001,0),some<|.box 3 _)]⟩) (F5 Z Z) ?_
 refine C0<|sv Z<|A1<|C0<|sv Z<|B6 (.fn _ _ _) Z Z (bs h fun v1 hv1 h=>Aj (v:= .d (i64 v1)) (us:= [(900000,0),(900001,0)]) (Ai (Co _ _ _ _ hv1) [(900000,0),(900001,0)] [(900000,0),(900001,0)] _ (((900001,0),some<|.box 3 [(di p3)])::(((900000,0),some<|.box 267 [(.d (.v (.int .u32 p2.1))),(.d (.v (.int .u32 p2.2.1))),(.d (.v (.int .u32 p2.2.2.1))),(.d (.v (.int .u32 p2.2.2.2.1))),(.d (.v (.int .u32 p2.2.2.2.2.1))),(.d (.v (.int .u32 p2.2.2.2.2.2.1))),(.d (.v (.int .u32 p2.2.2.2.2.2.2.1))),(.d (.v (.int .u32 p2.2.2.2.2.2.2.2.1))),(.d (.v (.int .u32 p2.2.2.2.2.2.2.2.2.1))),(.d (.v (.int .u32 p2.2.2.2.2.2.2.2.2.2.1))),(.d (.v (.int .u32 p2.2.2.2.2.2.2.2.2.2.2.1))),(.d (.v (.int .u32 p2.2.2.2.2.2.2.2.2.2.2.2)))])::_)) Z J0 (E0 NE<|E0 (Nx Z<|E0 (J1 G_hit Z)<|E0 (J1 (A7 Z G_hit) Z) J2) J2) (D5 G_hit<|D5 (A7 Z G_hit) G9) ⟨⟨_,G_hit, .of Z⟩,⟨_,(A7 Z G_hit), .of Z⟩,trivial⟩ (fun _ h=>h) (WN<|AT Z) Z Z Z) (sv Z<|sv Z<|A1<|C1 ?_))
 cases h
 exact Av (.inr Z) [] (Aw (C2 Z) D7) (.refl _) ⟨⟨_,_,_,(gq Z),G2,Z,X0,Z⟩,⟨_,_,_,G_hit,G2,Z,X0,Z⟩,trivial⟩
def Dc [Lp](p1:Map)(p2:Zone)(p3:Int):Option Bool:=
  (Fz p1).bind fun v1=>(G8 p2.Parts v1 p3).bind fun v2=>some (!v2)
theorem Kv(p1 p2 p3 r)(h:Dc p1 p2 p3=some r):PCall prog 184 [(.agg (Q2 p1)),(.agg [(.list (List.map H5 p2.Parts)),(i64 p2.Signal_)]),(i64 p3)] (bo r):=by
 refine E3 (fk func184 ntmps184 (fun r=>if r==2 then [1002003]else []) (by with_unfolding_all rfl)) (nl Z) ?_
 unfold Dc at h
 refine A8 (s0:=⟨T [(0,(.d _)),(1,(.d _)),(2,(.d _))],G []⟩) (F5 Z Z) ?_
 refine lr<|fun u1 _=>sm Z<|sm Z<|sn Z Z<|sv Z<|A1<|lr<|fun u2 _=>sd Z (C6 Z (gq Z) Z Z)<|bs h fun v1 hv1 h=>D1 Z Z A6 (Xa _ _ hv1) (.inl Z) (sm Z<|X7 Z G_hit [(.d (.v (.int .u32 v1.1))),(.d (.v (.int .u32 v1.2.1))),(.d (.v (.int .u32 v1.2.2.1))),(.d (.v (.int .u32 v1.2.2.2.1))),(.d (.v (.int .u32 v1.2.2.2.2.1))),(.d (.v (.int .u32 v1.2.2.2.2.2.1))),(.d (.v (.int .u32 v1.2.2.2.2.2.2.1))),(.d (.v (.int .u32 v1.2.2.2.2.2.2.2.1))),(.d (.v (.int .u32 v1.2.2.2.2.2.2.2.2.1))),(.d (.v (.int .u32 v1.2.2.2.2.2.2.2.2.2.1))),(.d (.v (.int .u32 v1.2.2.2.2.2.2.2.2.2.2.1))),(.d (.v (.int .u32 v1.2.2.2.2.2.2.2.2.2.2.2)))] Z (A1<|C0<|sq Z<|sl Z (gq Z) Z (B6 (.fn _ _ _) Z Z (bs h fun v2 hv2 h=>Aj (v:= .d (bo v2)) (us:= [(7,u2),(5,u1)]) (Ai (Bm _ _ _ _ hv2) [(7,u2),(5,u1)] [(7,u2),(5,u1)] _ (((5,u1),some<|.box 3 [(di p3)])::(((7,u2),some<|.box 267 [(.d (.v (.int .u32 v1.1))),(.d (.v (.int .u32 v1.2.1))),(.d (.v (.int .u32 v1.2.2.1))),(.d (.v (.int .u32 v1.2.2.2.1))),(.d (.v (.int .u32 v1.2.2.2.2.1))),(.d (.v (.int .u32 v1.2.2.2.2.2.1))),(.d (.v (.int .u32 v1.2.2.2.2.2.2.1))),(.d (.v (.int .u32 v1.2.2.2.2.2.2.2.1))),(.d (.v (.int .u32 v1.2.2.2.2.2.2.2.2.1))),(.d (.v (.int .u32 v1.2.2.2.2.2.2.2.2.2.1))),(.d (.v (.int .u32 v1.2.2.2.2.2.2.2.2.2.2.1))),(.d (.v (.int .u32 v1.2.2.2.2.2.2.2.2.2.2.2)))])::_)) Z J0 (E0 NE<|E0 (Nx Z<|E0 (J1 G_hit Z)<|E0 (J1 (A7 Z<|A7 Z G_hit) Z) J2) J2) (D5 G_hit<|D5 (A7 Z<|A7 Z G_hit) G9) ⟨⟨_,G_hit, .of Z⟩,⟨_,(A7 Z<|A7 Z G_hit), .of Z⟩,trivial⟩ (fun _ h=>h) (WN<|AT Z) Z Z Z) (B6 (.d (bo (!v2))) Z Z (sv Z<|A1<|C1 ?_))))))
 cases h
 exact B9 (.inr Z) (C5 (C2 Z) D7) (.refl _)
def U3 [Lp](p1:Int)(p2:Map)(p3:Zone):Option Bool:=
  (Dc p2 p3 p1).bind fun v1=>some (!v1)
theorem Mt(p1 p2 p3 r)(h:U3 p1 p2 p3=some r):PCall prog 183 [(i64 p1),(.bp (Q2 p2) 0),(.bp [(.list (List.map H5 p3.Parts)),(i64 p3.Signal_)] 0)] (bo r):=by
 refine E3 (fk func183 ntmps183 m0 (by with_unfolding_all rfl)) (nl Z) ?_
 unfold U3 at h
 refine A8 (s0:=⟨T [(0,(.d _)),(1,(.d _)),(2,(.d _))],G []⟩) (F5 Z Z) ?_
 refine C0<|sv Z<|A1<|C0<|sv Z<|sv Z<|sv Z<|bs h fun v1 hv1 h=>D1 Z Z A6 (Kv _ _ _ _ hv1) (.inl Z) (B6 (.d (bo (!v1))) Z Z (sv Z<|A1<|C1 ?_))
 cases h
 exact B9 (.inr Z) (C5 (C2 Z) D7) (.refl _)
def G3 [Lp](p1:(List Int))(p2:Map)(p3:Zone)(x1:Int):Option (Stp Int (Sum Unit Int)):=
  cond (decide (x1< (p1.length:Int))) ((F6 p1 x1).bind fun v1=>(U3 v1 p2 p3).bind fun v2=>cond v2 (some (.out (.inr x1))) (some (.go (I4 (x1+1))))) (some (.out (.inl ())))
def H8 [Lp](p1:(List Int))(p2:Map)(p3:Zone):Option Int:=
  thenS (loop (G3 p1 p2 p3) 0) (fun _=>some (-1)) (fun r=>some r)
theorem Cn(p1 p2 p3 r)(h:H8 p1 p2 p3=some r):PCall prog 145 [(.list (List.map A3 p1)),(.fn (.func 183) [] [(.bp (Q2 p2) 0),(.bp [(.list (List.map H5 p3.Parts)),(i64 p3.Signal_)] 0)])] (i64 r):=by
 refine E3 (fk func145 ntmps145 m0 (by with_unfolding_all rfl)) (nl Z) ?_
 unfold H8 at h
 refine A8 (s0:=⟨T [(0,(.d _)),(1,(.d _))],G []⟩) (F5 Z Z) ?_
 refine C0<|sv Z<|A1<|A4<|C0<|sv Z<|sd Z (D2 Z)<|sv Z<|A1<|js h fun z1 hz1 h=>D3 (fun s=> ∃(y1:Unit) (g1:Unit),z1= .inl y1∧Sb ⟨T [],G []⟩ s) ?_ ?_
 refine A5<|D6 (G3 p1 p2 p3) (fun (x1:Int) (g2:Unit)=>⟨T [(0,(dl A3 p1)),(1,(.d (.fn (.func 183) [] [(.bp (Q2 p2) 0),(.bp [(.list (List.map H5 p3.Parts)),(i64 p3.Signal_)] 0)]))),(7,(di (p1.length:Int))),(8,(di x1))],G []⟩) 0 () _ hz1 (F5 Z Z) ?_
 intro x1 g2 z2 hz2 ez2
 unfold G3 at hz2
 refine C0<|sv Z<|A1<|A4<|cc Z hz2 (fun c1 hz2=> ?_)<|fun c1 hz2=> ?_
 refine B4<|A4<|A5<|C0<|sv Z<|sv Z<|A1<|C0<|sv Z<|sv Z<|sv Z<|bs hz2 fun _ hv1 hz2=>sd Z (E7 Z Z hv1 Z)<|sd Z (G7 Z hv1 Z)<|bs hz2 fun _ hv2 hz2=>D1 Z Z A6 (Mt _ _ _ _ hv2) (.inl Z) (A1<|cc Z hz2 (fun c2 hz2=> ?_)<|fun c2 hz2=> ?_)
 refine C0<|sv Z<|sv Z<|A1<|C1 ?_
 cases hz2
 obtain rfl:=ez2 _ rfl
 refine ⟨nofun,H7 ?_⟩
 rw [bP]at h
 cases h
 exact B9 (.inr Z) (C5 (C2 Z) D7) (.refl _)
 refine B4<|D8<|B5<|sv Z<|sv Z<|A1<|D9 ?_
 cases hz2
 exact ⟨Z,(),(F5 Z Z)⟩
 refine C4 Z ?_
 cases hz2
 obtain rfl:=ez2 _ rfl
 refine ⟨nofun,C3 Z<|V2 ?_⟩
 exact ⟨_,(),Z,(F5 Z Z)⟩
 rintro _ ⟨y1,g1,rfl,q1⟩
 rw [bO]at h
 refine A8 q1<|C0<|sv Z<|A1<|C1 ?_
 cases h
 exact B9 (.inr Z) (C5 (C2 Z) D7) (.refl _)
def G4 [Lp](p1:(List Int))(p2:Map)(p3:Zone):Option Bool:=
  (H8 p1 p2 p3).bind fun v1=>some (decide (v1≥0))
theorem Bi(p1 p2 p3 r)(h:G4 p1 p2 p3=some r):PCall prog 182 [(.list (List.map A3 p1)),(.fn (.func 183) [] [(.bp (Q2 p2) 0),(.bp [(.list (List.map H5 p3.Parts)),(i64 p3.Signal_)] 0)])] (bo r):=by
 refine E3 (fk func182 ntmps182 m0 (by with_unfolding_all rfl)) (nl Z) ?_
 unfold G4 at h
 refine A8 (s0:=⟨T [(0,(.d _)),(1,(.d _))],G []⟩) (F5 Z Z) ?_
 refine C0<|sv Z<|A1<|C0<|sv Z<|sv Z<|bs h fun _ hv1 h=>D1 Z Z A6 (Cn _ _ _ _ hv1) (.inl Z) (sv Z<|sv Z<|A1<|C1 ?_)
 cases h
 exact B9 (.inr Z) (C5 (C2 Z) D7) (.refl _)
def U4 [Lp](p1:Zone)(p2:Map)(p3:Int)(p4:(List Int)):Option Bool:=
  (Di p2 p1 p3).bind fun v1=>((cond v1 (G4 p4 p2 p1) (some default))).bind fun v2=>some (v1&& (!v2))
theorem Mu(p1 p2 p3 p4 r)(h:U4 p1 p2 p3 p4=some r):PCall prog 180 [(.agg [(.list (List.map H5 p1.Parts)),(i64 p1.Signal_)]),(.bp (Q2 p2) 0),(.bp [(i64 p3)] 0),(.bp [(.list (List.map A3 p4))] 0)] (bo r):=by
 refine E3 (fk func180 ntmps180 m0 (by with_unfolding_all rfl)) (nl Z) ?_
 unfold U4 at h
 refine A8 (s0:=⟨T [(0,(.d _)),(1,(.d _)),(2,(.d _)),(3,(.d _))],G []⟩) (F5 Z Z) ?_
 refine lr<|fun u1 _=>sm Z<|sv Z<|A1<|C0<|sv Z<|sd Z (C6 Z G_hit Z Z)<|sv Z<|bs h fun v1 hv1 h=>D1 Z Z A6 (Oa _ _ _ _ hv1) (.inl Z) (sv Z<|gt Z (fun _=>Z)<|R8 _ (.fn _ _ _) Z (K0 Z) (fun _=>Z) (bs h fun v2 hv2 h=> ?_))
 refine P4 v1 (bo v2) (K0 Z) (fun w3=>⟨_,[(dl A3 p4),(.fn (.func 183) [] [(.d (.bp (Q2 p2) 0)),(.ptr (4,u1) 0)])],_,_,(by simp only [A9 w3];rfl),(rD<|O7 (Zd N4<|rD<|O7 (Lz G_hit<|rD<|rD N4) N4) N4),A6,Bi _ _ _ _<|K2 w3 hv2,(.inr Z)⟩) ?_
 refine R8 _ (.d (bo (!v2))) Z (K0 Z) (fun w4=>(by simp only [A9 w4];rfl)) ?_
 refine sa Z Z Z<|sv Z<|A1<|C1 ?_
 cases h
 exact B9 (.inr Z) (C5 (C2 Z) D7) (.refl _)
def F7 [Lp](p1:(List Zone))(p2:Map)(p3:Int)(p4:(List Int))(x1:Int):Option (Stp Int (Sum Unit Int)):=
  cond (decide (x1< (p1.length:Int))) ((F6 p1 x1).bind fun v1=>(U4 v1 p2 p3 p4).bind fun v2=>cond v2 (some (.out (.inr x1))) (some (.go (I4 (x1+1))))) (some (.out (.inl ())))
def H6 [Lp](p1:(List Zone))(p2:Map)(p3:Int)(p4:(List Int)):Option Int:=
  thenS (loop (F7 p1 p2 p3 p4) 0) (fun _=>some (-1)) (fun r=>some r)
theorem Cg(p1 p2 p3 p4 r)(h:H6 p1 p2 p3 p4=some r):PCall prog 243 [(.list (List.map K4 p1)),(.fn (.func 180) [] [(.bp (Q2 p2) 0),(.bp [(i64 p3)] 0),(.bp [(.list (List.map A3 p4))] 0)])] (i64 r):=by
 refine E3 (fk func243 ntmps243 m0 (by with_unfolding_all rfl)) (nl Z) ?_
 unfold H6 at h
 refine A8 (s0:=⟨T [(0,(.d _)),(1,(.d _))],G []⟩) (F5 Z Z) ?_
 refine C0<|sv Z<|A1<|A4<|C0<|sv Z<|sd Z (D2 Z)<|sv Z<|A1<|js h fun z1 hz1 h=>D3 (fun s=> ∃(y1:Unit) (g1:Unit),z1= .inl y1∧Sb ⟨T [],G []⟩ s) ?_ ?_
 refine A5<|D6 (F7 p1 p2 p3 p4) (fun (x1:Int) (g2:Unit)=>⟨T [(0,(dl K4 p1)),(1,(.d (.fn (.func 180) [] [(.bp (Q2 p2) 0),(.bp [(i64 p3)] 0),(.bp [(.list (List.map A3 p4))] 0)]))),(7,(di (p1.length:Int))),(8,(di x1))],G []⟩) 0 () _ hz1 (F5 Z Z) ?_
 intro x1 g2 z2 hz2 ez2
 unfold F7 at hz2
 refine C0<|sv Z<|A1<|A4<|cc Z hz2 (fun c1 hz2=> ?_)<|fun c1 hz2=> ?_
 refine B4<|A4<|A5<|C0<|sv Z<|sv Z<|A1<|C0<|sv Z<|sv Z<|sv Z<|bs hz2 fun _ hv1 hz2=>sd Z (E7 Z Z hv1 Z)<|sd Z (E4 Z hv1 Z Z)<|bs hz2 fun _ hv2 hz2=>D1 Z Z A6 (Mu _ _ _ _ _ hv2) (.inl Z) (A1<|cc Z hz2 (fun c2 hz2=> ?_)<|fun c2 hz2=> ?_)
 refine C0<|sv Z<|sv Z<|A1<|C1 ?_
 cases hz2
 obtain rfl:=ez2 _ rfl
 refine ⟨nofun,H7 ?_⟩
 rw [bP]at h
 cases h
 exact B9 (.inr Z) (C5 (C2 Z) D7) (.refl _)
 refine B4<|D8<|B5<|sv Z<|sv Z<|A1<|D9 ?_
 cases hz2
 exact ⟨Z,(),(F5 Z Z)⟩
 refine C4 Z ?_
 cases hz2
 obtain rfl:=ez2 _ rfl
 refine ⟨nofun,C3 Z<|V2 ?_⟩
 exact ⟨_,(),Z,(F5 Z Z)⟩
 rintro _ ⟨y1,g1,rfl,q1⟩
 rw [bO]at h
 refine A8 q1<|C0<|sv Z<|A1<|C1 ?_
 cases h
 exact B9 (.inr Z) (C5 (C2 Z) D7) (.refl _)
def F8 [Lp](p1:(List Zone))(p2:Map)(p3:Int)(p4:(List Int)):Option Bool:=
  (H6 p1 p2 p3 p4).bind fun v1=>some (decide (v1≥0))
theorem Bc(p1 p2 p3 p4 r)(h:F8 p1 p2 p3 p4=some r):PCall prog 179 [(.list (List.map K4 p1)),(.fn (.func 180) [] [(.bp (Q2 p2) 0),(.bp [(i64 p3)] 0),(.bp [(.list (List.map A3 p4))] 0)])] (bo r):=by
 refine E3 (fk func179 ntmps179 m0 (by with_unfolding_all rfl)) (nl Z) ?_
 unfold F8 at h
 refine A8 (s0:=⟨T [(0,(.d _)),(1,(.d _))],G []⟩) (F5 Z Z) ?_
 refine C0<|sv Z<|A1<|C0<|sv Z<|sv Z<|bs h fun _ hv1 h=>D1 Z Z A6 (Cg _ _ _ _ _ hv1) (.inl Z) (sv Z<|sv Z<|A1<|C1 ?_)
 cases h
 exact B9 (.inr Z) (C5 (C2 Z) D7) (.refl _)
def Br [Lp](p1:Map)(x1:((List Clash)×Int)):Option (Stp ((List Clash)×Int) (List Clash)):=
  cond (decide (x1.2< (p1.Lanes.length:Int))) ((Cf p1 x1.2).bind fun v1=>(F8 p1.Zones p1 x1.2 v1).bind fun v2=>cond ((decide ((v1.length:Int)>1))&& (!v2)) ((Bx x1.1 [(Clash.mk 1 (-1) x1.2 (-1))]).bind fun v3=>some (.go (v3,(I4 (x1.2+1))))) (some (.go (x1.1,(I4 (x1.2+1)))))) (some (.out x1.1))
def Ez [Lp](p1:Map):Option (List Clash):=
  (loop (Br p1) ([],0)).bind fun y1=>some y1
theorem Va(p1 r)(h:Ez p1=some r):PCall prog 77 [(.agg (Q2 p1))] (.list (List.map J8 r)):=by
 refine E3 (fk func77 ntmps77 (fun r=>if r==7 then [1003]else []) (by with_unfolding_all rfl)) (nl Z) ?_
 unfold Ez at h
 refine A8 (s0:=⟨T [(0,(.d _))],G []⟩) (F5 Z Z) ?_
 refine lr<|fun u1 _=>sm Z<|sv Z<|A1<|A4<|C0<|sq Z<|sl Z G_hit Z<|sd Z (D2 Z)<|sv Z<|A1<|bs h fun y1 hy1 h=>D3 (fun s=> ∃g1:Nat,Sb ⟨T [(2,(oS y1 (30,g1)))],G [((30,g1),oB 93 4 J8 y1)]⟩ s) ?_ ?_
 refine A5<|D6 (Br p1) (fun (x1:((List Clash)×Int)) (g2:Nat)=>⟨T [(1,(.ptr (1,u1) 0)),(2,(oS x1.1 (30,g2))),(8,(di (p1.Lanes.length:Int))),(9,(di x1.2))],G [((1,u1),some<|.box 27 (F1 p1)),((30,g2),oB 93 4 J8 x1.1)]⟩) ([],0) 0 _ hy1 (B8 (K6 Z)<|A2 G_hit (.of Z)<|Q5 trivial) ?_
 intro x1 g2 z1 hz1 ez1
 unfold Br at hz1
 refine C0<|sv Z<|A1<|A4<|cc Z hz1 (fun c1 hz1=> ?_)<|fun c1 hz1=> ?_
 refine B4<|A4<|A5<|lr<|fun u4 _=>sv Z<|sm Z<|X7 Z G_hit [(di x1.2)] Z (A1<|C0<|sd Z (C6 Z (gq Z) Z Z)<|sl Z G_hit Z<|bs hz1 fun v1 hv1 hz1=>D1 Z Z A6 (Jl _ _ _ hv1) (.inl Z) (sm Z<|X7 Z G_hit [(dl A3 v1)] Z (A1<|C0<|sq Z<|sl Z (gq Z) Z (B6 (.fn _ _ _) Z Z (bs hz1 fun v2 hv2 hz1=>D1 Z (rD<|O7 (Zd N4<|O7 (Lz (gq Z)<|rD<|rD<|rD<|rD<|rD N4)<|O7 (Lz (gq Z)<|rD N4)<|O7 (Lz G_hit<|rD N4) N4) N4) A6 (Bc _ _ _ _ _ hv2) (.inr Z) (sv Z<|A1<|C0<|sl Z G_hit Z<|sd Z (D2 Z)<|sv Z<|sv Z<|gt Z (fun _=>Z) ?_))))))
 refine R8 _ (.d (bo (!v2))) Z (K0 Z) (fun w2=>(by simp only [A9 w2];rfl)) ?_
 refine sa Z Z Z<|A1<|cc Z hz1 (fun c2 hz1=> ?_)<|fun c2 hz1=> ?_
 refine A8 (s0:=⟨T [(1,(.ptr (1,u1) 0)),(2,(oS x1.1 (30,g2))),(3,(.ptr (3,u4) 0)),(8,(di (p1.Lanes.length:Int))),(9,(di x1.2))],G [((1,u1),some<|.box 27 (F1 p1)),((30,g2),oB 93 4 J8 x1.1),((3,u4),some<|.box 3 [(di x1.2)])]⟩) (B8 (K6 Z)<|sg Z<|B3 (gq Z)<|sg Z trivial) ?_
 refine T8 fun u8 _=>B6 (oS x1.1 (30,g2)) Z Z (sl Z (gq Z) Z (sv Z<|B6 (dl J8 [(Clash.mk 1 (-1) x1.2 (-1))]) Z Z (bs hz1 fun _ hv3 hz1=>J3 J8 (30,g2) x1.1 (Clash.mk 1 (-1) x1.2 (-1)) [] _ (I0<|fun _=>Z) Z (gq Z) hv3 (ss Z<|A1<|D8<|B5<|sv Z<|sv Z<|A1<|D9 ?_))))
 cases hz1
 exact ⟨Z,u8,(B8 ⟨.of Z,(.of (Q3<|N5 hv3).symm), .of Z, .of Z,trivial⟩<|sg Z<|I7 G_hit trivial)⟩
 refine B4<|D8<|A8 (s0:=⟨T [(1,(.ptr (1,u1) 0)),(2,(oS x1.1 (30,g2))),(8,(di (p1.Lanes.length:Int))),(9,(di x1.2))],G [((1,u1),some<|.box 27 (F1 p1)),((30,g2),oB 93 4 J8 x1.1)]⟩) (B8 (K6 Z)<|sg Z<|B3 (gq Z) trivial) ?_
 refine B5<|sv Z<|sv Z<|A1<|D9 ?_
 cases hz1
 exact ⟨Z,g2,(B8 (K6 Z)<|A2 G_hit (.of Z)<|B3 (gq Z) trivial)⟩
 refine C4 Z ?_
 cases hz1
 obtain rfl:=ez1 _ rfl
 refine ⟨nofun,C3 Z<|V2 ?_⟩
 exact ⟨g2,(B8 ⟨.of Z,trivial⟩<|B3 (gq Z) trivial)⟩
 rintro _ ⟨g1,q1⟩
 refine A8 q1<|C0<|B6 (oS y1 (30,g1)) Z Z (B6 (oS y1 (30,g1)) Z Z (A1<|C1 ?_))
 cases h
 exact B9 (.inr Z) (C5 (C2 Z)<|Ct G_hit) Cs
def Bs [Lp](p1:Map)(x1:((List Clash)×Int))(v1:Zone)(x2:((List Clash)×Int)):Option (Stp ((List Clash)×Int) (List Clash)):=
  cond (decide (x2.2< (v1.Parts.length:Int))) ((F6 v1.Parts x2.2).bind fun v2=>(Dc p1 v1 v2.Lane_).bind fun v3=>((cond (!v3) (Di p1 v1 v2.Lane_) (some default))).bind fun v4=>cond ((!v3)&& (!v4)) ((Bx x2.1 [(Clash.mk 2 x1.2 v2.Lane_ (-1))]).bind fun v5=>some (.go (v5,(I4 (x2.2+1))))) (some (.go (x2.1,(I4 (x2.2+1)))))) (some (.out x2.1))
def Bt [Lp](p1:Map)(x1:((List Clash)×Int)):Option (Stp ((List Clash)×Int) (List Clash)):=
  cond (decide (x1.2< (p1.Zones.length:Int))) ((F6 p1.Zones x1.2).bind fun v1=>(loop (Bs p1 x1 v1) (x1.1,0)).bind fun y2=>some (.go (y2,(I4 (x1.2+1))))) (some (.out x1.1))
def Fa [Lp](p1:Map):Option (List Clash):=
  (loop (Bt p1) ([],0)).bind fun y1=>some y1
theorem Vb(p1 r)(h:Fa p1=some r):PCall prog 78 [(.agg (Q2 p1))] (.list (List.map J8 r)):=by
 refine E3 (fk func78 ntmps78 (fun r=>if r==8 then [1005]else []) (by with_unfolding_all rfl)) (nl Z) ?_
 unfold Fa at h
 refine A8 (s0:=⟨T [(0,(.d _))],G []⟩) (F5 Z Z) ?_
 refine lr<|fun u1 _=>sm Z<|sv Z<|A1<|A4<|C0<|sq Z<|sl Z G_hit Z<|sd Z (D2 Z)<|sv Z<|A1<|bs h fun y1 hy1 h=>D3 (fun s=> ∃g1:Nat,Sb ⟨T [(2,(oS y1 (42,g1)))],G [((42,g1),oB 93 4 J8 y1)]⟩ s) ?_ ?_
 refine A5<|D6 (Bt p1) (fun (x1:((List Clash)×Int)) (g2:Nat)=>⟨T [(1,(.ptr (1,u1) 0)),(2,(oS x1.1 (42,g2))),(8,(dl K4 p1.Zones)),(9,(di (p1.Zones.length:Int))),(10,(di x1.2))],G [((1,u1),some<|.box 27 (F1 p1)),((42,g2),oB 93 4 J8 x1.1)]⟩) ([],0) 0 _ hy1 (B8 (K6 Z)<|A2 G_hit (.of Z)<|Q5 trivial) ?_
 intro x1 g2 z1 hz1 ez1
 unfold Bt at hz1
 refine C0<|sv Z<|A1<|A4<|cc Z hz1 (fun c1 hz1=> ?_)<|fun c1 hz1=> ?_
 refine B4<|A4<|A5<|lr<|fun u4 _=>sv Z<|bs hz1 fun v1 hv1 hz1=>sd Z (E7 Z Z hv1 Z)<|sd Z (E4 Z hv1 Z Z)<|sm Z<|sv Z<|X7 Z G_hit [(dl H5 v1.Parts),(di v1.Signal_)] Z (A1<|C0<|sq Z<|sl Z G_hit Z<|sd Z (D2 Z)<|sv Z<|A1<|bs hz1 fun y2 hy2 hz1=>D3 (fun s=> ∃g3:Nat,Sb ⟨T [(1,(.ptr (1,u1) 0)),(2,(oS y2 (42,g3))),(8,(dl K4 p1.Zones)),(9,(di (p1.Zones.length:Int))),(10,(di x1.2))],G [((1,u1),some<|.box 27 (F1 p1)),((42,g3),oB 93 4 J8 y2)]⟩ s) ?_ ?_)
 refine A5<|D6 (Bs p1 x1 v1) (fun (x2:((List Clash)×Int)) (g4:Nat)=>⟨T [(1,(.ptr (1,u1) 0)),(2,(oS x2.1 (42,g4))),(3,(di x1.2)),(4,(.ptr (4,u4) 0)),(8,(dl K4 p1.Zones)),(9,(di (p1.Zones.length:Int))),(10,(di x1.2)),(16,(dl H5 v1.Parts)),(17,(di (v1.Parts.length:Int))),(18,(di x2.2))],G [((1,u1),some<|.box 27 (F1 p1)),((4,u4),some<|.box 45 [(dl H5 v1.Parts),(di v1.Signal_)]),((42,g4),oB 93 4 J8 x2.1)]⟩) (x1.1,0) g2 _ hy2 (B8 (K6 Z)<|sg Z<|A2 G_hit (.of Z)<|B3 (gq Z) trivial) ?_
 intro x2 g4 z2 hz2 ez2
 unfold Bs at hz2
 refine C0<|sv Z<|A1<|A4<|cc Z hz2 (fun c2 hz2=> ?_)<|fun c2 hz2=> ?_
 refine B4<|A4<|A5<|lr<|fun u7 _=>bs hz2 fun v2 hv2 hz2=>sd Z (E7 Z Z hv2 Z)<|sd Z (E4 Z hv2 Z Z)<|sm Z<|X7 Z G_hit (Pb v2) Z (A1<|C0<|sd Z (C6 Z (gq Z) Z Z)<|sd Z (C6 Z (gq Z) Z Z)<|sq Z<|sl Z G_hit Z<|bs hz2 fun v3 hv3 hz2=>D1 Z Z A6 (Kv _ _ _ _ hv3) (.inl Z) (B6 (.d (bo (!v3))) Z Z (sv Z<|gt Z (fun _=>(C6 Z (gq Z) Z Z))<|gt Z (fun _=>(C6 Z (gq Z) Z Z))<|gp Z (K0 Z) (fun _=>Z) (gt Z (vl Z G_hit Z)<|bs hz2 fun v4 hv4 hz2=> ?_))))
 refine P4 _ (bo v4) (K0 Z) (fun w5=>⟨_,[(.d (.agg (Q2 p1))),(.d (.agg [(.list (List.map H5 v1.Parts)),(i64 v1.Signal_)])),(di v2.Lane_)],_,_,(by simp only [A9 w5];rfl),Z,A6,Oa _ _ _ _<|K2 w5 hv4,(.inl Z)⟩) ?_
 refine R8 _ (.d (bo (!v4))) Z (K0 Z) (fun w6=>(by simp only [A9 w6];rfl)) ?_
 refine sa Z Z Z<|A1<|cc Z hz2 (fun c3 hz2=> ?_)<|fun c3 hz2=> ?_
 refine A8 (s0:=⟨T [(1,(.ptr (1,u1) 0)),(2,(oS x2.1 (42,g4))),(3,(di x1.2)),(4,(.ptr (4,u4) 0)),(6,(.ptr (6,u7) 0)),(8,(dl K4 p1.Zones)),(9,(di (p1.Zones.length:Int))),(10,(di x1.2)),(16,(dl H5 v1.Parts)),(17,(di (v1.Parts.length:Int))),(18,(di x2.2))],G [((1,u1),some<|.box 27 (F1 p1)),((42,g4),oB 93 4 J8 x2.1),((4,u4),some<|.box 45 [(dl H5 v1.Parts),(di v1.Signal_)]),((6,u7),some<|.box 91 (Pb v2))]⟩) (B8 (K6 Z)<|sg Z<|B3 (gq Z)<|sg Z<|A2 G_hit (.of Z) trivial) ?_
 refine T8 fun u9 _=>B6 (oS x2.1 (42,g4)) Z Z (sv Z<|sq Z<|sl Z (gq Z) Z (sv Z<|B6 (dl J8 [(Clash.mk 2 x1.2 v2.Lane_ (-1))]) Z Z (bs hz2 fun _ hv5 hz2=>J3 J8 (42,g4) x2.1 (Clash.mk 2 x1.2 v2.Lane_ (-1)) [] _ (I0<|fun _=>Z) Z (gq Z) hv5 (ss Z<|A1<|D8<|A8 (s0:=⟨T [(1,(.ptr _ _)),(2,(.sl _)),(3,(.d _)),(4,(.ptr _ _)),(8,(.d _)),(9,(.d _)),(10,(.d _)),(16,(.d _)),(17,(.d _)),(18,(.d _))],G [((1,u1),some<|.box 27 _),((42,u9),some _),((4,u4),some<|.box 45 _)]⟩) (F5 Z Z) ?_))))
 refine B5<|sv Z<|sv Z<|A1<|D9 ?_
 cases hz2
 exact ⟨Z,u9,(B8 ⟨.of Z,(.of (Q3<|N5 hv5).symm), .of Z, .of Z, .of Z, .of Z, .of Z, .of Z, .of Z, .of Z,trivial⟩<|A2 G_hit (.of Z)<|sg Z<|I7 (gq Z) trivial)⟩
 refine B4<|D8<|A8 (s0:=⟨T [(1,(.ptr (1,u1) 0)),(2,(oS x2.1 (42,g4))),(3,(di x1.2)),(4,(.ptr (4,u4) 0)),(8,(dl K4 p1.Zones)),(9,(di (p1.Zones.length:Int))),(10,(di x1.2)),(16,(dl H5 v1.Parts)),(17,(di (v1.Parts.length:Int))),(18,(di x2.2))],G [((1,u1),some<|.box 27 (F1 p1)),((42,g4),oB 93 4 J8 x2.1),((4,u4),some<|.box 45 [(dl H5 v1.Parts),(di v1.Signal_)])]⟩) (B8 (K6 Z)<|sg Z<|B3 (gq Z)<|sg Z trivial) ?_
 refine B5<|sv Z<|sv Z<|A1<|D9 ?_
 cases hz2
 exact ⟨Z,g4,(B8 (K6 Z)<|A2 G_hit (.of Z)<|sg Z<|B3 (gq Z) trivial)⟩
 refine C4 Z ?_
 cases hz2
 obtain rfl:=ez2 _ rfl
 refine ⟨nofun,C3 Z<|V2 ?_⟩
 exact ⟨g4,(B8 (K6 Z)<|A2 G_hit (.of Z)<|B3 (gq Z) trivial)⟩
 rintro _ ⟨g3,q1⟩
 refine D8<|A8 q1<|B5<|sv Z<|sv Z<|A1<|D9 ?_
 cases hz1
 exact ⟨Z,g3,(B8 (K6 Z)<|A2 G_hit (.of Z)<|B3 (gq Z) trivial)⟩
 refine C4 Z ?_
 cases hz1
 obtain rfl:=ez1 _ rfl
 refine ⟨nofun,C3 Z<|V2 ?_⟩
 exact ⟨g2,(B8 ⟨.of Z,trivial⟩<|B3 (gq Z) trivial)⟩
 rintro _ ⟨g1,q2⟩
 refine A8 q2<|C0<|B6 (oS y1 (42,g1)) Z Z (B6 (oS y1 (42,g1)) Z Z (A1<|C1 ?_))
 cases h
 exact B9 (.inr Z) (C5 (C2 Z)<|Ct G_hit) Cs
def As [Lp](p1:Map)(p2:Zone)(x1:((List Int)×Int)):Option (Stp ((List Int)×Int) (List Int)):=
  cond (decide (x1.2< (p2.Parts.length:Int))) ((F6 p2.Parts x1.2).bind fun v1=>(Dc p1 p2 v1.Lane_).bind fun v2=>cond v2 ((Bx x1.1 [v1.Lane_]).bind fun v3=>some (.go (v3,(I4 (x1.2+1))))) (some (.go (x1.1,(I4 (x1.2+1)))))) (some (.out x1.1))
def Aq [Lp](p1:Map)(p2:Zone):Option (List Int):=
  (loop (As p1 p2) ([],0)).bind fun y1=>some y1
theorem Hb(p1 p2 r)(h:Aq p1 p2=some r):PCall prog 248 [(.agg (Q2 p1)),(.agg [(.list (List.map H5 p2.Parts)),(i64 p2.Signal_)])] (.list (List.map A3 r)):=by
 refine E3 (fk func248 ntmps248 (fun r=>if r==6 then [1003]else []) (by with_unfolding_all rfl)) (nl Z) ?_
 unfold Aq at h
 refine A8 (s0:=⟨T [(0,(.d _)),(1,(.d _))],G []⟩) (F5 Z Z) ?_
 refine lr<|fun u1 _=>sm Z<|sm Z<|sv Z<|A1<|C0<|sv Z<|A1<|A4<|C0<|sq Z<|sl Z G_hit Z<|sd Z (D2 Z)<|sv Z<|A1<|bs h fun y1 hy1 h=>D3 (fun s=> ∃g1:Nat,Sb ⟨T [(5,(oS y1 (24,g1)))],G [((24,g1),oB 3 1 A3 y1)]⟩ s) ?_ ?_
 refine A5<|D6 (As p1 p2) (fun (x1:((List Int)×Int)) (g2:Nat)=>⟨T [(2,(.ptr (2,u1) 0)),(3,(.ptr (3,u1) 0)),(5,(oS x1.1 (24,g2))),(9,(dl H5 p2.Parts)),(10,(di (p2.Parts.length:Int))),(11,(di x1.2))],G [((2,u1),some<|.box 27 (F1 p1)),((3,u1),some<|.box 45 [(dl H5 p2.Parts),(di p2.Signal_)]),((24,g2),oB 3 1 A3 x1.1)]⟩) ([],0) 0 _ hy1 (B8 (K6 Z)<|sg Z<|A2 G_hit (.of Z)<|Q5 trivial) ?_
 intro x1 g2 z1 hz1 ez1
 unfold As at hz1
 refine C0<|sv Z<|A1<|A4<|cc Z hz1 (fun c1 hz1=> ?_)<|fun c1 hz1=> ?_
 refine B4<|A4<|A5<|C0<|bs hz1 fun v1 hv1 hz1=>sd Z (E7 Z Z hv1 Z)<|sd Z (E4 Z hv1 Z Z)<|sm Z<|X7 Z G_hit (Pb v1) Z (A1<|C0<|sd Z (C6 Z (gq Z) Z Z)<|sd Z (C6 Z (gq Z) Z Z)<|sq Z<|sl Z G_hit Z<|bs hz1 fun _ hv2 hz1=>D1 Z Z A6 (Kv _ _ _ _ hv2) (.inl Z) (A1<|cc Z hz1 (fun c2 hz1=> ?_)<|fun c2 hz1=> ?_))
 refine T8 fun u7 _=>B6 (oS x1.1 (24,g2)) Z Z (sq Z<|sl Z G_hit Z<|B6 (dl A3 [v1.Lane_]) Z Z (bs hz1 fun _ hv3 hz1=>J3 A3 (24,g2) x1.1 v1.Lane_ [] _ (I0<|fun _=>Z) Z (gq Z) hv3 (ss Z<|A1<|D8<|A8 (s0:=⟨T [(2,(.ptr _ _)),(3,(.ptr _ _)),(5,(.sl _)),(9,(.d _)),(10,(.d _)),(11,(.d _))],G [((2,u1),some<|.box 27 _),((3,u1),some<|.box 45 _),((24,u7),some _)]⟩) (F5 Z Z) ?_)))
 refine B5<|sv Z<|sv Z<|A1<|D9 ?_
 cases hz1
 exact ⟨Z,u7,(B8 ⟨.of Z, .of Z,(.of (Q3<|N5 hv3).symm), .of Z, .of Z, .of Z,trivial⟩<|A2 G_hit (.of Z)<|sg Z<|I7 (gq Z) trivial)⟩
 refine B4<|D8<|B5<|sv Z<|sv Z<|A1<|D9 ?_
 cases hz1
 exact ⟨Z,g2,(B8 (K6 Z)<|sg Z<|sg Z<|B3 (gq Z) trivial)⟩
 refine C4 Z ?_
 cases hz1
 obtain rfl:=ez1 _ rfl
 refine ⟨nofun,C3 Z<|V2 ?_⟩
 exact ⟨g2,(B8 ⟨.of Z,trivial⟩<|B3 (gq Z) trivial)⟩
 rintro _ ⟨g1,q1⟩
 refine A8 q1<|C0<|B6 (oS y1 (24,g1)) Z Z (B6 (oS y1 (24,g1)) Z Z (A1<|C1 ?_))
 cases h
 exact B9 (.inr Z) (C5 (C2 Z)<|Ct G_hit) Cs
def Ds [Lp](p1:Zone)(p2:Int)(p3:Int):Option Bool:=
  (Dh p1 p2).bind fun v1=>(Dh p1 p3).bind fun v2=>some ((p1.Signal_==0)&& (v1.1.Rank==v2.1.Rank))
theorem Tt(p1 p2 p3 r)(h:Ds p1 p2 p3=some r):PCall prog 186 [(.agg [(.list (List.map H5 p1.Parts)),(i64 p1.Signal_)]),(i64 p2),(i64 p3)] (bo r):=by
 refine E3 (fk func186 ntmps186 m0 (by with_unfolding_all rfl)) (nl Z) ?_
 unfold Ds at h
 refine A8 (s0:=⟨T [(0,(.d _)),(1,(.d _)),(2,(.d _))],G []⟩) (F5 Z Z) ?_
 refine lr<|fun u1 _=>sm Z<|sv Z<|A1<|lr<|fun u2 _=>sd Z (C6 Z G_hit Z Z)<|sv Z<|bs h fun v1 hv1 h=>D1 Z Z A6 (Hf _ _ _ hv1) (.inl Z) (sv Z<|sv Z<|sv Z<|sm Z<|X7 Z G_hit (Pb v1.1) Z (sv Z<|A1<|lr<|fun u3 _=>sd Z (C6 Z (gq Z) Z Z)<|sv Z<|bs h fun v2 hv2 h=>D1 Z Z A6 (Hf _ _ _ hv2) (.inl Z) (sv Z<|sv Z<|sv Z<|sm Z<|X7 Z G_hit (Pb v2.1) Z (sv Z<|A1<|A4<|A8 (s0:=⟨T [(3,(.ptr _ _)),(7,(.ptr _ _)),(9,(.ptr _ _))],G [((3,u1),some<|.box 45 _),((7,u2),some<|.box 91 _),((9,u3),some<|.box 91 _)]⟩) (F5 Z Z) ?_))))
 refine B5<|sq Z<|sl Z G_hit Z<|sv Z<|sv Z<|gp Z (K0 Z) (fun _=>Z) (gt Z (vl Z (gq Z) Z)<|gp Z (K0 Z) (fun _=>Z) (gt Z (vl Z (gq Z) Z)<|gt Z (fun w5=>(Cu (A9 w5) (A9 w5) Z))<|sa Z Z Z<|sv Z<|A1<|C1 ?_))
 cases h
 exact B9 (.inr Z) (C5 (C2 Z) D7) (.refl _)
end
end Go.Abs.Roadsz
