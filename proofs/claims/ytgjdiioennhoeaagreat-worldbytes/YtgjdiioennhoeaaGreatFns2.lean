/-
  The functions, part 2.
-/
import Derived.Test.YtgjdiioennhoeaaGreatFns1
set_option maxRecDepth 20000
set_option maxHeartbeats 4000000
set_option linter.unusedVariables false
namespace Go.Abs.World
noncomputable section
open Go Go.Abs Go.Proofs Tryz
attribute [local irreducible] K1 Di Z9
def F5 [Lp](p2:Int)(x2:(Int× (List Pass))):Option (Stp (Int× (List Pass)) (List Pass)):=
  ((cond (decide (x2.1>p2)) (F2 x2.2 x2.1) (some default))).bind fun v1=>((cond (decide (x2.1>p2)) (F2 x2.2 (J6 (x2.1 - 1))) (some default))).bind fun v2=>((cond (decide (x2.1>p2)) (Dd v1 v2) (some default))).bind fun v3=>cond ((decide (x2.1>p2))&& (decide (v3<0))) ((F2 x2.2 (J6 (x2.1 - 1))).bind fun v4=>(F2 x2.2 x2.1).bind fun v5=>(F2 x2.2 x2.1).bind fun v6=>(F2 (Ww x2.2 x2.1 v4) (J6 (x2.1 - 1))).bind fun v7=>some (.go ((J6 (x2.1 - 1)),(Ww (Ww x2.2 x2.1 v4) (J6 (x2.1 - 1)) v5)))) (some (.out x2.2))
def F6 [Lp](p2:Int)(p3:Int)(x1:(Int× (List Pass))):Option (Stp (Int× (List Pass)) (List Pass)):=
  cond (decide (x1.1<p3)) ((loop (F5 p2) (x1.1,x1.2)).bind fun y1=>some (.go ((J6 (x1.1+1)),y1))) (some (.out (x1.2)))
def E8 [Lp](p1:(List Pass))(p2:Int)(p3:Int):Option (List Pass):=
  loop (F6 p2 p3) ((J6 (p2+1)),p1)
theorem R2(p1 p2 p3 r)(h:E8 p1 p2 p3=some r):MCall prog 282 [(.sl (900000,0)),(di p2),(di p3),(.d (.fn (.func 264) [] []))] [(.arr 229 4 (List.map V3 p1))] (.d (.tup [])) [some (.arr 229 4 (List.map V3 r))] []:=by
 refine Fv (fk func282 ntmps282 m0 (by with_unfolding_all rfl)) W (nl W) ?_
 unfold E8 at h
 refine B6 (s0:=⟨T [(0,(.sl _)),(1,(.d _)),(2,(.d _)),(3,(.d _))],G [((900000,0),some _)]⟩) (G0 W W) ?_
 refine B3<|sv W<|sv W<|sv W<|A1<|A7<|D7 (F6 p2 p3) (fun (x1:(Int× (List Pass))) (g1:Unit)=>⟨T [(0,(.sl (900000,0))),(1,(di p2)),(2,(di p3)),(3,(.d (.fn (.func 264) [] []))),(8,(di x1.1))],G [((900000,0),some<|.arr 229 4 (List.map V3 x1.2))]⟩) ((J6 (p2+1)),p1) () _ h (G0 W W) ?_
 intro x1 g1 z1 hz1 ez1
 unfold F6 at hz1
 refine A6<|B3<|sv W<|sv W<|sv W<|A1<|cc W hz1 (fun c1 hz1=> ?_)<|fun c1 hz1=> ?_
 refine B0<|A6<|A7<|B3<|sv W<|sv W<|A1<|bs hz1 fun y1 hy1 hz1=>D3 (fun s=> ∃g2:Unit,Sb ⟨T [(0,(.sl (900000,0))),(1,(di p2)),(2,(di p3)),(3,(.d (.fn (.func 264) [] []))),(8,(di x1.1))],G [((900000,0),some<|.arr 229 4 (List.map V3 y1))]⟩ s) ?_ ?_
 refine A7<|D7 (F5 p2) (fun (x2:(Int× (List Pass))) (g3:Unit)=>⟨T [(0,(.sl (900000,0))),(1,(di p2)),(2,(di p3)),(3,(.d (.fn (.func 264) [] []))),(8,(di x1.1)),(9,(di x2.1))],G [((900000,0),some<|.arr 229 4 (List.map V3 x2.2))]⟩) (x1.1,x1.2) () _ hy1 (G0 W W) ?_
 intro x2 g3 z2 hz2 ez2
 unfold F5 at hz2
 refine A6<|A6<|K6 W<|sv W<|sv W<|sv W<|sv W<|gt W (fun _=>W)<|P5 _ (.sl _) W (M4 W) (fun _=>W) (gt W (fun _=>W)<|bs hz2 fun v1 hv1 hz2=>P5 _ (.aptr _ _ _ _) W (M4 W) (fun w4=>(Jm (A5 w4) (A5 w4) A2 (D8 w4 hv1))) (gt W (fun w5=>(Pq (A5 w5) A2 (D8 w5 hv1) W W))<|P5 _ (.sl _) W (M4 W) (fun _=>W) (gt W (fun _=>W)<|gt W (vb W W W)<|bs hz2 fun v2 hv2 hz2=>P5 _ (.aptr _ _ _ _) W (M4 W) (fun w9=>(Jm (A5 w9) (A5 w9) A2 (D8 w9 hv2))) (gt W (fun w10=>(Pq (A5 w10) A2 (D8 w10 hv2) W W))<|bs hz2 fun v3 hv3 hz2=> ?_))))
 refine N8 _ (i64 v3) (M4 W) (fun w11=>⟨_,[(.d (.agg (V3 v1))),(.d (.agg (V3 v2)))],_,_,(by simp only [A5 w11];rfl),W,A3,Wc _ _ _<|D8 w11 hv3,(.inl W)⟩) ?_
 refine gt W (vb W W W)<|sa W W W<|A1<|cc W hz2 (fun c2 hz2=> ?_)<|fun c2 hz2=> ?_
 refine B0<|A6<|A7<|K6 W<|ss W<|sv W<|ss W<|sv W<|sv W<|ss W<|sv W<|sv W<|bs hz2 fun v4 hv4 hz2=>C2 (.aptr _ _ _ _) W (Jm W W A2 hv4) (sd W (Pq W A2 hv4 W W)<|ss W<|sv W<|bs hz2 fun v5 hv5 hz2=>C2 (.aptr _ _ _ _) W (Jm W W A2 hv5) (sd W (Pq W A2 hv5 W W)<|bs hz2 fun _ hv6 hz2=>C2 (.aptr _ _ _ _) W (Jm W W A2 hv6) (Sa V3 _ _ _ (x2.1) _ v4 (V3 v4) W W W A2 hv6 (nl W) W (bs hz2 fun _ hv7 hz2=>C2 (.aptr _ _ _ _) W (Jm W W A2 hv7) (Sa V3 _ _ _ ((J6 (x2.1 - 1))) _ v5 (V3 v5) W W W A2 hv7 (nl W) W (A1<|E5<|C3<|sv W<|sv W<|sv W<|A1<|E0 ?_))))))
 cases hz2
 exact ⟨W,(),(G0 W W)⟩
 refine D1 W ?_
 cases hz2
 obtain rfl:=ez2 _ rfl
 refine ⟨nofun,C5 W<|U6 ?_⟩
 exact ⟨(),(G0 W W)⟩
 rintro _ ⟨g2,q1⟩
 refine E5<|B6 q1<|C3<|sv W<|sv W<|sv W<|A1<|E0 ?_
 cases hz1
 exact ⟨W,(),(G0 W W)⟩
 refine D1 W ?_
 cases hz1
 obtain rfl:=ez1 _ rfl
 refine ⟨nofun,C5 W<|E0 ?_⟩
 exact Fd (.inl W) [] Ux (.refl _) ⟨⟨A2,N6⟩,trivial⟩
def P3 (p2:Int)(x3:(Int×Int)):Option (Stp (Int×Int) Int):=
  cond (decide (x3.2≤p2)) (none) (some (.out x3.1))
def I4 [Lp](p2:Int)(v2:(List Pass))(x2:Int):Option (Stp Int (List Pass)):=
  cond (decide (x2<p2)) ((loop (P3 p2) (0,(J6 (2*x2)))).bind fun y2=>cond (decide ((J6 (y2+x2))<p2)) (none) (some (.go (J6 (x2*2))))) (some (.out (v2)))
def I5 [Lp](p2:Int)(x1:(Int×Int× (List Pass))):Option (Stp (Int×Int× (List Pass)) (Int× (List Pass))):=
  cond (decide (x1.2.1≤p2)) ((E8 x1.2.2 x1.1 x1.2.1).bind fun v1=>some (.go (x1.2.1,(J6 (x1.2.1+20)),v1))) (some (.out (x1.1,x1.2.2)))
def J4 [Lp](p1:(List Pass))(p2:Int):Option (List Pass):=
  (loop (I5 p2) (0,20,p1)).bind fun y1=>(E8 y1.2 y1.1 p2).bind fun v2=>loop (I4 p2 v2) 20
theorem Cp(p1 p2 r)(h:J4 p1 p2=some r):MCall prog 270 [(.sl (900000,0)),(di p2),(.d (.fn (.func 264) [] []))] [(.arr 229 4 (List.map V3 p1))] (.d (.tup [])) [some (.arr 229 4 (List.map V3 r))] []:=by
 refine Fv (fk func270 ntmps270 (fun r=>if r==3 then [1003004]else if r==6 then [1006004]else []) (by with_unfolding_all rfl)) W (nl W) ?_
 unfold J4 at h
 refine B6 (s0:=⟨T [(0,(.sl _)),(1,(.d _)),(2,(.d _))],G [((900000,0),some _)]⟩) (G0 W W) ?_
 refine B3<|sv W<|A1<|B3<|sv W<|sv W<|sv W<|A1<|A6<|bs h fun y1 hy1 h=>D3 (fun s=> ∃g1:Unit,Sb ⟨T [(0,(.sl (900000,0))),(1,(di p2)),(2,(.d (.fn (.func 264) [] []))),(6,(di 20)),(7,(di y1.1))],G [((900000,0),some<|.arr 229 4 (List.map V3 y1.2))]⟩ s) ?_ ?_
 refine A7<|D7 (I5 p2) (fun (x1:(Int×Int× (List Pass))) (g2:Unit)=>⟨T [(0,(.sl (900000,0))),(1,(di p2)),(2,(.d (.fn (.func 264) [] []))),(6,(di 20)),(7,(di x1.1)),(8,(di x1.2.1))],G [((900000,0),some<|.arr 229 4 (List.map V3 x1.2.2))]⟩) (0,20,p1) () _ hy1 (G0 W W) ?_
 intro x1 g2 z1 hz1 ez1
 unfold I5 at hz1
 refine A6<|B3<|sv W<|sv W<|sv W<|A1<|cc W hz1 (fun c1 hz1=> ?_)<|fun c1 hz1=> ?_
 refine B0<|A7<|B3<|ss W<|sv W<|sv W<|sv W<|bs hz1 fun v1 hv1 hz1=>Ed (v:= .d (.tup [])) (us:= [(900000,0)]) (Bu (R2 _ _ _ _ hv1) [(900000,0)] [(900000,0)] _ (((900000,0),some<|.arr 229 4 (List.map V3 v1))::_) W M2 (G2 Xv<|G2 Mj<|G2 Mj<|G2 Mj P0) (H9 A2 J7) ⟨⟨_,A2, .of W⟩,trivial⟩ (fun _ h=>h) nd1 W W W) (A1<|B3<|sv W<|sv W<|A1<|C3<|sv W<|sv W<|sv W<|sv W<|A1<|E5<|E0 ?_)
 cases hz1
 exact ⟨W,(),(G0 W W)⟩
 refine D1 W ?_
 cases hz1
 obtain rfl:=ez1 _ rfl
 refine ⟨nofun,C5 W<|U6 ?_⟩
 exact ⟨(),(G0 W W)⟩
 rintro _ ⟨g1,q1⟩
 refine B6 q1<|B3<|ss W<|sv W<|sv W<|sv W<|bs h fun v2 hv2 h=>Ed (v:= .d (.tup [])) (us:= [(900000,0)]) (Bu (R2 _ _ _ _ hv2) [(900000,0)] [(900000,0)] _ (((900000,0),some<|.arr 229 4 (List.map V3 v2))::_) W M2 (G2 Xv<|G2 Mj<|G2 Mj<|G2 Mj P0) (H9 A2 J7) ⟨⟨_,A2, .of W⟩,trivial⟩ (fun _ h=>h) nd1 W W W) (A1<|A7<|D7 (I4 p2 v2) (fun (x2:Int) (g3:Unit)=>⟨T [(0,(.sl (900000,0))),(1,(di p2)),(2,(.d (.fn (.func 264) [] []))),(6,(di x2))],G [((900000,0),some<|.arr 229 4 (List.map V3 v2))]⟩) 20 () _ h (G0 W W) ?_)
 intro x2 g3 z2 hz2 ez2
 unfold I4 at hz2
 refine A6<|B3<|sv W<|sv W<|sv W<|A1<|cc W hz2 (fun c2 hz2=> ?_)<|fun c2 hz2=> ?_
 refine B0<|A7<|B3<|sv W<|sv W<|sv W<|sv W<|A1<|A6<|bs hz2 fun y2 hy2 hz2=>D3 (fun s=> ∃g4:Unit,Sb ⟨T [(0,(.sl (900000,0))),(1,(di p2)),(2,(.d (.fn (.func 264) [] []))),(6,(di x2)),(7,(di y2))],G [((900000,0),some<|.arr 229 4 (List.map V3 v2))]⟩ s) ?_ ?_
 refine A7<|D7 (P3 p2) (fun (x3:(Int×Int)) (g5:Unit)=>⟨T [(0,(.sl (900000,0))),(1,(di p2)),(2,(.d (.fn (.func 264) [] []))),(6,(di x2)),(7,(di x3.1)),(8,(di x3.2))],G [((900000,0),some<|.arr 229 4 (List.map V3 v2))]⟩) (0,(J6 (2*x2))) () _ hy2 (G0 W W) ?_
 intro x3 g5 z3 hz3 ez3
 unfold P3 at hz3
 refine A6<|B3<|sv W<|sv W<|sv W<|A1<|cc W hz3 (fun c3 hz3=> ?_)<|fun c3 hz3=> ?_
 refine B0<|A7<|B3<|ss W<|sv W<|sv W<|sv W<|sv W<|sv W<|sv W ?_
 cases hz3
 refine D1 W ?_
 cases hz3
 obtain rfl:=ez3 _ rfl
 refine ⟨nofun,C5 W<|U6 ?_⟩
 exact ⟨(),(G0 W W)⟩
 rintro _ ⟨g4,q2⟩
 refine B6 q2<|A6<|B3<|sv W<|sv W<|sv W<|sv W<|A1<|B3<|sv W<|sv W<|sv W<|A1<|cc W hz2 (fun c4 hz2=> ?_)<|fun c4 hz2=> ?_
 refine C3<|ss W<|sv W<|sv W<|sv W<|sv W ?_
 cases hz2
 refine B0<|C3<|sv W<|sv W<|sv W<|A1<|E5<|E0 ?_
 cases hz2
 exact ⟨W,(),(G0 W W)⟩
 refine D1 W ?_
 cases hz2
 obtain rfl:=ez2 _ rfl
 refine ⟨nofun,C5 W<|E0 ?_⟩
 exact Fd (.inl W) [] Ux (.refl _) ⟨⟨A2,N6⟩,trivial⟩
def G8 [Lp](p1:(List Pass)):Option (List Pass):=
  (J4 p1 (p1.length:Int)).bind fun v1=>some v1
theorem Aj(p1 r)(h:G8 p1=some r):MCall prog 263 [(.sl (900000,0)),(.d (.fn (.func 264) [] []))] [(.arr 229 4 (List.map V3 p1))] (.d (.tup [])) [some (.arr 229 4 (List.map V3 r))] []:=by
 refine Fv (fk func263 ntmps263 (fun r=>if r==0 then [1000004]else []) (by with_unfolding_all rfl)) W (nl W) ?_
 unfold G8 at h
 refine B6 (s0:=⟨T [(0,(.sl _)),(1,(.d _))],G [((900000,0),some _)]⟩) (G0 W W) ?_
 refine C3<|ss W<|ss W<|sd W (SF (f:=V3) W A2)<|sv W<|bs h fun v1 hv1 h=>Ed (v:= .d (.tup [])) (us:= [(900000,0)]) (Bu (Cp _ _ _ hv1) [(900000,0)] [(900000,0)] _ (((900000,0),some<|.arr 229 4 (List.map V3 v1))::_) W M2 (G2 Xv<|G2 Mj<|G2 Mj P0) (H9 A2 J7) ⟨⟨_,A2, .of W⟩,trivial⟩ (fun _ h=>h) nd1 W W W) (A1<|E0 ?_)
 obtain rfl:=(lC h)
 exact Fd (.inl W) [] Ux (.refl _) ⟨⟨A2,N6⟩,trivial⟩
def N4 (p1:Int)(x2:Int):Option (Stp Int Unit):=
  ((cond (decide (x2>p1)) ((none:Option Unit)) (some default))).bind fun v1=>cond ((decide (x2>p1))&&false) (none) (some (.out ()))
def F7 [Lp](p1:Int)(p2:Int)(x1:Int):Option (Stp Int Unit):=
  cond (decide (x1<p2)) ((loop (N4 p1) x1).bind fun _=>some (.go (J6 (x1+1)))) (some (.out (())))
def E9 [Lp](p1:Int)(p2:Int):Option Unit:=
  loop (F7 p1 p2) (J6 (p1+1))
theorem R3(p1 p2 r)(h:E9 p1 p2=some r):PCall prog 282 [.nilS,(i64 p1),(i64 p2),(.fn (.func 264) [] [])] (.tup []):=by
 refine C7 (fk func282 ntmps282 m0 (by with_unfolding_all rfl)) (nl W) ?_
 unfold E9 at h
 refine B6 (s0:=⟨T [(0,(.d _)),(1,(.d _)),(2,(.d _)),(3,(.d _))],G []⟩) (G0 W W) ?_
 refine B3<|sv W<|sv W<|sv W<|A1<|A7<|D7 (F7 p1 p2) (fun (x1:Int) (g1:Unit)=>⟨T [(0,(.d .nilS)),(1,(di p1)),(2,(di p2)),(3,(.d (.fn (.func 264) [] []))),(8,(di x1))],G []⟩) (J6 (p1+1)) () _ h (G0 W W) ?_
 intro x1 g1 z1 hz1 ez1
 unfold F7 at hz1
 refine A6<|B3<|sv W<|sv W<|sv W<|A1<|cc W hz1 (fun c1 hz1=> ?_)<|fun c1 hz1=> ?_
 refine B0<|A6<|A7<|B3<|sv W<|sv W<|A1<|bs hz1 fun _ hy1 hz1=>D3 (fun s=> ∃g2:Unit,Sb ⟨T [(0,(.d .nilS)),(1,(di p1)),(2,(di p2)),(3,(.d (.fn (.func 264) [] []))),(8,(di x1))],G []⟩ s) ?_ ?_
 refine A7<|D7 (N4 p1) (fun (x2:Int) (g3:Unit)=>⟨T [(0,(.d .nilS)),(1,(di p1)),(2,(di p2)),(3,(.d (.fn (.func 264) [] []))),(8,(di x1)),(9,(di x2))],G []⟩) x1 () _ hy1 (G0 W W) ?_
 intro x2 g3 z2 hz2 ez2
 unfold N4 at hz2
 refine A6<|A6<|K6 W<|sv W<|sv W<|sv W<|sv W<|gt W (fun _=>W)<|gt W (fun _=>W)<|gt W (fun _=>W)<|bs hz2 fun _ hv1 hz2=>P5 _ (.d (.tup [])) W (M4 W) (fun w4=>nomatch D8 w4 hv1) (P5 _ (.d (.tup [])) W (M4 W) (fun w5=>nomatch D8 w5 hv1) (P5 _ (.d (.tup [])) W (M4 W) (fun w6=>nomatch D8 w6 hv1) (P5 _ (di 0) W (M4 W) (fun w7=>nomatch D8 w7 hv1) (P5 _ (di 0) W (M4 W) (fun w8=>nomatch D8 w8 hv1) (P5 _ (.d (.tup [])) W (M4 W) (fun w9=>nomatch D8 w9 hv1) (P5 _ (.d (.tup [])) W (M4 W) (fun w10=>nomatch D8 w10 hv1) (N8 _ (i64 0) (M4 W) (fun w11=>nomatch D8 w11 hv1) (P5 _ (.d (bo false)) W (M4 W) (fun w12=>nomatch D8 w12 hv1) (sa W W W<|A1<|cc W hz2 (fun c2 hz2=> ?_)<|fun c2 hz2=> ?_)))))))))
 refine B0<|A6<|A7<|K6 W<|sv W<|sv W<|sv W<|sv W<|sv W<|sv W<|sv W<|sv W ?_
 cases hz2
 refine D1 W ?_
 cases hz2
 obtain rfl:=ez2 _ rfl
 refine ⟨nofun,C5 W<|U6 ?_⟩
 exact ⟨(),(G0 W W)⟩
 rintro _ ⟨g2,q1⟩
 refine E5<|B6 q1<|C3<|sv W<|sv W<|sv W<|A1<|E0 ?_
 cases hz1
 exact ⟨W,(),(G0 W W)⟩
 refine D1 W ?_
 cases hz1
 obtain rfl:=ez1 _ rfl
 refine ⟨nofun,C5 W<|E0 ?_⟩
 exact A9 (.inl W) W (.refl _)
def P4 (p1:Int)(x3:(Int×Int)):Option (Stp (Int×Int) Int):=
  cond (decide (x3.2≤p1)) (none) (some (.out x3.1))
def I6 [Lp](p1:Int)(x2:Int):Option (Stp Int Unit):=
  cond (decide (x2<p1)) ((loop (P4 p1) (0,(J6 (2*x2)))).bind fun y2=>cond (decide ((J6 (y2+x2))<p1)) (none) (some (.go (J6 (x2*2))))) (some (.out (())))
def I7 [Lp](p1:Int)(x1:(Int×Int)):Option (Stp (Int×Int) Int):=
  cond (decide (x1.2≤p1)) ((E9 x1.1 x1.2).bind fun v1=>some (.go (x1.2,(J6 (x1.2+20))))) (some (.out x1.1))
def J5 [Lp](p1:Int):Option Unit:=
  (loop (I7 p1) (0,20)).bind fun y1=>(E9 y1 p1).bind fun v2=>loop (I6 p1) 20
theorem Cq(p1 r)(h:J5 p1=some r):PCall prog 270 [.nilS,(i64 p1),(.fn (.func 264) [] [])] (.tup []):=by
 refine C7 (fk func270 ntmps270 m0 (by with_unfolding_all rfl)) (nl W) ?_
 unfold J5 at h
 refine B6 (s0:=⟨T [(0,(.d _)),(1,(.d _)),(2,(.d _))],G []⟩) (G0 W W) ?_
 refine B3<|sv W<|A1<|B3<|sv W<|sv W<|sv W<|A1<|A6<|bs h fun y1 hy1 h=>D3 (fun s=> ∃g1:Unit,Sb ⟨T [(0,(.d .nilS)),(1,(di p1)),(2,(.d (.fn (.func 264) [] []))),(6,(di 20)),(7,(di y1))],G []⟩ s) ?_ ?_
 refine A7<|D7 (I7 p1) (fun (x1:(Int×Int)) (g2:Unit)=>⟨T [(0,(.d .nilS)),(1,(di p1)),(2,(.d (.fn (.func 264) [] []))),(6,(di 20)),(7,(di x1.1)),(8,(di x1.2))],G []⟩) (0,20) () _ hy1 (G0 W W) ?_
 intro x1 g2 z1 hz1 ez1
 unfold I7 at hz1
 refine A6<|B3<|sv W<|sv W<|sv W<|A1<|cc W hz1 (fun c1 hz1=> ?_)<|fun c1 hz1=> ?_
 refine B0<|A7<|B3<|sv W<|sv W<|sv W<|sv W<|bs hz1 fun _ hv1 hz1=>B9 W W A3 (R3 _ _ _ hv1) (.inl W) (A1<|B3<|sv W<|sv W<|A1<|C3<|sv W<|sv W<|sv W<|sv W<|A1<|E5<|E0 ?_)
 cases hz1
 exact ⟨W,(),(G0 W W)⟩
 refine D1 W ?_
 cases hz1
 obtain rfl:=ez1 _ rfl
 refine ⟨nofun,C5 W<|U6 ?_⟩
 exact ⟨(),(G0 W W)⟩
 rintro _ ⟨g1,q1⟩
 refine B6 q1<|B3<|sv W<|sv W<|sv W<|sv W<|bs h fun _ hv2 h=>B9 W W A3 (R3 _ _ _ hv2) (.inl W) (A1<|A7<|D7 (I6 p1) (fun (x2:Int) (g3:Unit)=>⟨T [(0,(.d .nilS)),(1,(di p1)),(2,(.d (.fn (.func 264) [] []))),(6,(di x2))],G []⟩) 20 () _ h (G0 W W) ?_)
 intro x2 g3 z2 hz2 ez2
 unfold I6 at hz2
 refine A6<|B3<|sv W<|sv W<|sv W<|A1<|cc W hz2 (fun c2 hz2=> ?_)<|fun c2 hz2=> ?_
 refine B0<|A7<|B3<|sv W<|sv W<|sv W<|sv W<|A1<|A6<|bs hz2 fun y2 hy2 hz2=>D3 (fun s=> ∃g4:Unit,Sb ⟨T [(0,(.d .nilS)),(1,(di p1)),(2,(.d (.fn (.func 264) [] []))),(6,(di x2)),(7,(di y2))],G []⟩ s) ?_ ?_
 refine A7<|D7 (P4 p1) (fun (x3:(Int×Int)) (g5:Unit)=>⟨T [(0,(.d .nilS)),(1,(di p1)),(2,(.d (.fn (.func 264) [] []))),(6,(di x2)),(7,(di x3.1)),(8,(di x3.2))],G []⟩) (0,(J6 (2*x2))) () _ hy2 (G0 W W) ?_
 intro x3 g5 z3 hz3 ez3
 unfold P4 at hz3
 refine A6<|B3<|sv W<|sv W<|sv W<|A1<|cc W hz3 (fun c3 hz3=> ?_)<|fun c3 hz3=> ?_
 refine B0<|A7<|B3<|sv W<|sv W<|sv W<|sv W<|sv W<|sv W<|sv W ?_
 cases hz3
 refine D1 W ?_
 cases hz3
 obtain rfl:=ez3 _ rfl
 refine ⟨nofun,C5 W<|U6 ?_⟩
 exact ⟨(),(G0 W W)⟩
 rintro _ ⟨g4,q2⟩
 refine B6 q2<|A6<|B3<|sv W<|sv W<|sv W<|sv W<|A1<|B3<|sv W<|sv W<|sv W<|A1<|cc W hz2 (fun c4 hz2=> ?_)<|fun c4 hz2=> ?_
 refine C3<|sv W<|sv W<|sv W<|sv W<|sv W ?_
 cases hz2
 refine B0<|C3<|sv W<|sv W<|sv W<|A1<|E5<|E0 ?_
 cases hz2
 exact ⟨W,(),(G0 W W)⟩
 refine D1 W ?_
 cases hz2
 obtain rfl:=ez2 _ rfl
 refine ⟨nofun,C5 W<|E0 ?_⟩
 exact A9 (.inl W) W (.refl _)
def G9 [Lp]:Option Unit:=
  (J5 0).bind fun v1=>some ()
theorem Ak(r)(h:G9=some r):PCall prog 263 [.nilS,(.fn (.func 264) [] [])] (.tup []):=by
 refine C7 (fk func263 ntmps263 m0 (by with_unfolding_all rfl)) (nl W) ?_
 unfold G9 at h
 refine B6 (s0:=⟨T [(0,(.d _)),(1,(.d _))],G []⟩) (G0 W W) ?_
 refine C3<|sv W<|sv W<|sv W<|sv W<|bs h fun _ hv1 h=>B9 W W A3 (Cq _ _ hv1) (.inl W) (A1<|E0 ?_)
 cases h
 exact A9 (.inl W) W (.refl _)
def Lh (v1:RoadsWay)(x1:((List Pass)×Int))(v2:Int)(x2:((List Pass)×Int))(v3:Zone)(x3:((List Pass)×Int)):Option (Stp ((List Pass)×Int) (List Pass)):=
  cond (decide (x3.2< (v3.Parts.length:Int))) ((F2 v3.Parts x3.2).bind fun v4=>cond (v4.Lane_==v2) ((F2 v1.starts x1.2).bind fun v5=>(F2 v1.starts x1.2).bind fun v6=>(Y4 x3.1 [(Pass.mk x2.2 x3.2 (J6 (v5+v4.From)) (J6 (v6+v4.To)))]).bind fun v7=>some (.go (v7,(J6 (x3.2+1))))) (some (.go (x3.1,(J6 (x3.2+1)))))) (some (.out x3.1))
def Bl [Lp](p1:Map)(v1:RoadsWay)(x1:((List Pass)×Int))(v2:Int)(x2:((List Pass)×Int)):Option (Stp ((List Pass)×Int) (List Pass)):=
  cond (decide (x2.2< (p1.Zones.length:Int))) ((F2 p1.Zones x2.2).bind fun v3=>(loop (Lh v1 x1 v2 x2 v3) (x2.1,0)).bind fun y3=>some (.go (y3,(J6 (x2.2+1))))) (some (.out x2.1))
def Bm [Lp](p1:Map)(v1:RoadsWay)(x1:((List Pass)×Int)):Option (Stp ((List Pass)×Int) (List Pass)):=
  cond (decide (x1.2< (v1.lanes.length:Int))) ((F2 v1.lanes x1.2).bind fun v2=>(loop (Bl p1 v1 x1 v2) (x1.1,0)).bind fun y2=>some (.go (y2,(J6 (x1.2+1))))) (some (.out x1.1))
def Dw [Lp](p1:Map)(p2:(List Int)):Option (List Pass):=
  (Ac p1 p2).bind fun v1=>(loop (Bm p1 v1) ([],0)).bind fun y1=>cond (List.isEmpty y1) ((G9).bind fun v9=>some []) ((G8 y1).bind fun v8=>some v8)
theorem Yr(p1 p2 r)(h:Dw p1 p2=some r):PCall prog 246 [(.agg (Y6 p1)),(.list (List.map A4 p2))] (.list (List.map V3 r)):=by
 refine C7 (fk func246 ntmps246 (fun r=>if r==13 then [1020]else if r==17 then [1017001]else []) (by with_unfolding_all rfl)) (nl W) ?_
 unfold Dw at h
 refine B6 (s0:=⟨T [(0,(.d _)),(1,(.d _))],G []⟩) (G0 W W) ?_
 refine lr<|fun u1 _=>sm W<|sv W<|A1<|lr<|fun u2 _=>sd W (C1 W A2 W W)<|sv W<|bs h fun v1 hv1 h=>B9 W W A3 (Hm _ _ _ hv1) (.inl W) (sm W<|T6 W A2 (Jp v1) W (A1<|B3<|sv W<|A1<|A6<|B3<|sq W<|sl W A2 W<|sd W (E3 W)<|sv W<|A1<|bs h fun y1 hy1 h=>D3 (fun s=> ∃g1:Nat,Sb ⟨T [(6,(oS y1 (65,g1)))],G [((65,g1),oB 229 4 V3 y1)]⟩ s) ?_ ?_))
 refine A7<|D7 (Bm p1 v1) (fun (x1:((List Pass)×Int)) (g2:Nat)=>⟨T [(2,(.ptr (2,u1) 0)),(5,(.ptr (5,u2) 0)),(6,(oS x1.1 (65,g2))),(17,(dl A4 v1.lanes)),(18,(di (v1.lanes.length:Int))),(19,(di x1.2))],G [((2,u1),some<|.box 33 (Q9 p1)),((5,u2),some<|.box 260 (Jp v1)),((65,g2),oB 229 4 V3 x1.1)]⟩) ([],0) 0 _ hy1 (D0 (S5 W)<|sg W<|A8 A2 (.of W)<|Y5 trivial) ?_
 intro x1 g2 z1 hz1 ez1
 unfold Bm at hz1
 refine B3<|sv W<|A1<|A6<|cc W hz1 (fun c1 hz1=> ?_)<|fun c1 hz1=> ?_
 refine B0<|A6<|A7<|B3<|sv W<|bs hz1 fun v2 hv2 hz1=>sd W (E7 W W hv2 W)<|sd W (H8 W hv2 W)<|sv W<|sv W<|A1<|B3<|sq W<|sl W A2 W<|sd W (E3 W)<|sv W<|A1<|bs hz1 fun y2 hy2 hz1=>D3 (fun s=> ∃g3:Nat,Sb ⟨T [(2,(.ptr (2,u1) 0)),(5,(.ptr (5,u2) 0)),(6,(oS y2 (65,g3))),(17,(dl A4 v1.lanes)),(18,(di (v1.lanes.length:Int))),(19,(di x1.2))],G [((2,u1),some<|.box 33 (Q9 p1)),((5,u2),some<|.box 260 (Jp v1)),((65,g3),oB 229 4 V3 y2)]⟩ s) ?_ ?_
 refine A7<|D7 (Bl p1 v1 x1 v2) (fun (x2:((List Pass)×Int)) (g4:Nat)=>⟨T [(2,(.ptr (2,u1) 0)),(5,(.ptr (5,u2) 0)),(6,(oS x2.1 (65,g4))),(7,(di x1.2)),(8,(di v2)),(17,(dl A4 v1.lanes)),(18,(di (v1.lanes.length:Int))),(19,(di x1.2)),(25,(dl If p1.Zones)),(26,(di (p1.Zones.length:Int))),(27,(di x2.2))],G [((2,u1),some<|.box 33 (Q9 p1)),((5,u2),some<|.box 260 (Jp v1)),((65,g4),oB 229 4 V3 x2.1)]⟩) (x1.1,0) g2 _ hy2 (D0 (S5 W)<|A8 A2 (.of W)<|sg W<|B4 (gq W) trivial) ?_
 intro x2 g4 z2 hz2 ez2
 unfold Bl at hz2
 refine B3<|sv W<|A1<|A6<|cc W hz2 (fun c2 hz2=> ?_)<|fun c2 hz2=> ?_
 refine B0<|A6<|A7<|B3<|sv W<|bs hz2 fun v3 hv3 hz2=>sd W (E7 W W hv3 W)<|sd W (E6 W hv3 W W)<|sm W<|sv W<|T6 W A2 [(dl Gz v3.Parts),(di v3.Signal_)] W (A1<|B3<|sq W<|sl W A2 W<|sd W (E3 W)<|sv W<|A1<|bs hz2 fun y3 hy3 hz2=>D3 (fun s=> ∃g5:Nat,Sb ⟨T [(2,(.ptr (2,u1) 0)),(5,(.ptr (5,u2) 0)),(6,(oS y3 (65,g5))),(7,(di x1.2)),(8,(di v2)),(17,(dl A4 v1.lanes)),(18,(di (v1.lanes.length:Int))),(19,(di x1.2)),(25,(dl If p1.Zones)),(26,(di (p1.Zones.length:Int))),(27,(di x2.2))],G [((2,u1),some<|.box 33 (Q9 p1)),((5,u2),some<|.box 260 (Jp v1)),((65,g5),oB 229 4 V3 y3)]⟩ s) ?_ ?_)
 refine A7<|D7 (Lh v1 x1 v2 x2 v3) (fun (x3:((List Pass)×Int)) (g6:Nat)=>⟨T [(2,(.ptr (2,u1) 0)),(5,(.ptr (5,u2) 0)),(6,(oS x3.1 (65,g6))),(7,(di x1.2)),(8,(di v2)),(9,(di x2.2)),(17,(dl A4 v1.lanes)),(18,(di (v1.lanes.length:Int))),(19,(di x1.2)),(25,(dl If p1.Zones)),(26,(di (p1.Zones.length:Int))),(27,(di x2.2)),(33,(dl Gz v3.Parts)),(34,(di (v3.Parts.length:Int))),(35,(di x3.2))],G [((2,u1),some<|.box 33 (Q9 p1)),((5,u2),some<|.box 260 (Jp v1)),((65,g6),oB 229 4 V3 x3.1)]⟩) (x2.1,0) g4 _ hy3 (D0 (S5 W)<|sg W<|sg W<|B4 (gq W) trivial) ?_
 intro x3 g6 z3 hz3 ez3
 unfold Lh at hz3
 refine B3<|sv W<|A1<|A6<|cc W hz3 (fun c3 hz3=> ?_)<|fun c3 hz3=> ?_
 refine B0<|A6<|A7<|B3<|sv W<|bs hz3 fun v4 hv4 hz3=>sd W (E7 W W hv4 W)<|sd W (E6 W hv4 W W)<|sm W<|sv W<|T6 W A2 (DS v4) W (A1<|B3<|sq W<|sl W A2 W<|sv W<|sv W<|A1<|cc W hz3 (fun c4 hz3=> ?_)<|fun c4 hz3=> ?_)
 refine Na W fun u14 _=>C2 (oS x3.1 (65,g6)) W W (sv W<|sv W<|sq W<|sl W (gq W) W (sv W<|bs hz3 fun v5 hv5 hz3=>sd W (E7 W W hv5 W)<|sd W (H8 W hv5 W)<|sq W<|sl W A2 W<|sv W<|sq W<|sl W (gq W) W (sv W<|bs hz3 fun v6 hv6 hz3=>sd W (E7 W W hv6 W)<|sd W (H8 W hv6 W)<|sq W<|sl W A2 W<|sv W<|sv W<|C2 (dl V3 [(Pass.mk x2.2 x3.2 (J6 (v5+v4.From))<|J6 (v6+v4.To))]) W W (bs hz3 fun _ hv7 hz3=>P1 V3 (65,g6) x3.1 (Pass.mk x2.2 x3.2 (J6 (v5+v4.From))<|J6 (v6+v4.To)) [] _ (J9<|fun _=>W) W (gq W) hv7 (ss W<|A1<|E5<|C3<|sv W<|sv W<|A1<|E0 ?_)))))
 cases hz3
 exact ⟨W,u14,(D0 ⟨.of W, .of W,(.of (Ap<|S7 hv7).symm), .of W, .of W, .of W, .of W, .of W, .of W, .of W, .of W, .of W, .of W, .of W, .of W,trivial⟩<|sg W<|sg W<|U5 A2 trivial)⟩
 refine B0<|E5<|C3<|sv W<|sv W<|A1<|E0 ?_
 cases hz3
 exact ⟨W,g6,(D0 (S5 W)<|sg W<|sg W<|B4 (gq W) trivial)⟩
 refine D1 W ?_
 cases hz3
 obtain rfl:=ez3 _ rfl
 refine ⟨nofun,C5 W<|U6 ?_⟩
 exact ⟨g6,(D0 (S5 W)<|A8 A2 (.of W)<|sg W<|B4 (gq W) trivial)⟩
 rintro _ ⟨g5,q1⟩
 refine E5<|B6 q1<|C3<|sv W<|sv W<|A1<|E0 ?_
 cases hz2
 exact ⟨W,g5,(D0 (S5 W)<|A8 A2 (.of W)<|sg W<|B4 (gq W) trivial)⟩
 refine D1 W ?_
 cases hz2
 obtain rfl:=ez2 _ rfl
 refine ⟨nofun,C5 W<|U6 ?_⟩
 exact ⟨g4,(D0 (S5 W)<|A8 A2 (.of W)<|sg W<|B4 (gq W) trivial)⟩
 rintro _ ⟨g3,q2⟩
 refine E5<|B6 q2<|C3<|sv W<|sv W<|A1<|E0 ?_
 cases hz1
 exact ⟨W,g3,(D0 (S5 W)<|A8 A2 (.of W)<|sg W<|B4 (gq W) trivial)⟩
 refine D1 W ?_
 cases hz1
 obtain rfl:=ez1 _ rfl
 refine ⟨nofun,C5 W<|U6 ?_⟩
 exact ⟨g2,(D0 ⟨.of W,trivial⟩<|B4 (gq W) trivial)⟩
 rintro _ ⟨g1,q3⟩
 refine B6 q3<|A6 ?_
 rcases DR h with ⟨e1,h⟩|⟨e1,h⟩
 refine B6 (s0:=⟨T [(6,(.d .nilS))],G []⟩) (D0 ⟨.of (SU e1),trivial⟩ trivial) ?_
 refine C3<|sv W<|bs h fun _ hv9 h=>Ed (v:= .d (.tup [])) (us:= []) (ZX [] _ W W A3 (Ak _ hv9) W W) (A1<|B3<|sv W<|sv W<|A1<|B7 ?_)
 cases h
 exact A9 (.inr W) (C0 (B8 W) C6) DLe.nil
 refine B6 (s0:=⟨T [(6,(.sl (65,g1)))],G [((65,g1),some<|.arr 229 4 (List.map V3 y1))]⟩) (D0 ⟨.of (Ap e1),trivial⟩<|A8 (Tj A2 e1) (.of W) trivial) ?_
 refine C3<|ss W<|bs h fun v8 hv8 h=>Ed (v:= .d (.tup [])) (us:= [(65,g1)]) (Bu (Aj _ _ hv8) [(65,g1)] [(65,g1)] _ (((65,g1),some<|.arr 229 4 (List.map V3 v8))::_) W M2 (G2 Xv<|G2 Mj P0) (H9 A2 J7) ⟨⟨_,A2, .of W⟩,trivial⟩ (fun _ h=>h) nd1 W W W) (A1<|B3<|ss W<|ss W<|A1<|B7 ?_)
 cases h
 exact A9 (.inr W) (C0 (B8 W)<|HK A2) (.refl _)
def Gr (p1:Pass)(p2:Int)(p3:WorldSpan):Option Bool:=
  some (((p1.Zone_==p2)&& (decide (p1.From≤p3.to)))&& (decide (p3.from_≤p1.To)))
theorem Qp(p1 p2 p3 r)(h:Gr p1 p2 p3=some r):PCall prog 247 [(.agg (V3 p1)),(.bp [(i64 p2)] 0),(.bp [(i64 p3.from_),(i64 p3.to)] 0)] (bo r):=by
 refine C7 (fk func247 ntmps247 m0 (by with_unfolding_all rfl)) (nl W) ?_
 unfold Gr at h
 refine B6 (s0:=⟨T [(0,(.d _)),(1,(.d _)),(2,(.d _))],G []⟩) (G0 W W) ?_
 refine B3<|sm W<|sv W<|A1<|B3<|sq W<|sl W A2 W<|sv W<|sv W<|sv W<|gp W (M4 W) (fun _=>W) (gt W (vl W A2 W)<|gt W (fun _=>W) ?_)
 refine gt W (fun w4=>(by simp only [A5 w4];rfl)) ?_
 refine gt W (fun w5=>(R1 (A5 w5) (A5 w5) W))<|sa W W W<|sv W<|gt W (fun _=>W) ?_
 refine gt W (fun w7=>(by simp only [A5 w7];rfl)) ?_
 refine gp W (M4 W) (fun _=>W) (gt W (vl W A2 W)<|gt W (fun w10=>(R1 (A5 w10) (A5 w10) W))<|sa W W W<|sv W<|A1<|B7 ?_)
 cases h
 exact A9 (.inr W) (C0 (B8 W) C6) (.refl _)
def O9 (p1:(List Pass))(p2:Int)(p3:WorldSpan)(x1:Int):Option (Stp Int (Sum Unit Int)):=
  cond (decide (x1< (p1.length:Int))) ((F2 p1 x1).bind fun v1=>(Gr v1 p2 p3).bind fun v2=>cond v2 (some (.out (.inr x1))) (some (.go (J6 (x1+1))))) (some (.out (.inl ())))
def I9 [Lp](p1:(List Pass))(p2:Int)(p3:WorldSpan):Option Int:=
  thenS (loop (O9 p1 p2 p3) 0) (fun _=>some (-1)) (fun r=>some r)
theorem Bz(p1 p2 p3 r)(h:I9 p1 p2 p3=some r):PCall prog 262 [(.list (List.map V3 p1)),(.fn (.func 247) [] [(.bp [(i64 p2)] 0),(.bp [(i64 p3.from_),(i64 p3.to)] 0)])] (i64 r):=by
 refine C7 (fk func262 ntmps262 m0 (by with_unfolding_all rfl)) (nl W) ?_
 unfold I9 at h
 refine B6 (s0:=⟨T [(0,(.d _)),(1,(.d _))],G []⟩) (G0 W W) ?_
 refine B3<|sv W<|A1<|A6<|B3<|sv W<|sd W (E3 W)<|sv W<|A1<|js h fun z1 hz1 h=>D3 (fun s=> ∃(y1:Unit) (g1:Unit),z1= .inl y1∧Sb ⟨T [],G []⟩ s) ?_ ?_
 refine A7<|D7 (O9 p1 p2 p3) (fun (x1:Int) (g2:Unit)=>⟨T [(0,(dl V3 p1)),(1,(.d (.fn (.func 247) [] [(.bp [(i64 p2)] 0),(.bp [(i64 p3.from_),(i64 p3.to)] 0)]))),(7,(di (p1.length:Int))),(8,(di x1))],G []⟩) 0 () _ hz1 (G0 W W) ?_
 intro x1 g2 z2 hz2 ez2
 unfold O9 at hz2
 refine B3<|sv W<|A1<|A6<|cc W hz2 (fun c1 hz2=> ?_)<|fun c1 hz2=> ?_
 refine B0<|A6<|A7<|B3<|sv W<|sv W<|A1<|B3<|sv W<|sv W<|sv W<|bs hz2 fun _ hv1 hz2=>sd W (E7 W W hv1 W)<|sd W (E6 W hv1 W W)<|bs hz2 fun _ hv2 hz2=>B9 W W A3 (Qp _ _ _ _ hv2) (.inl W) (A1<|cc W hz2 (fun c2 hz2=> ?_)<|fun c2 hz2=> ?_)
 refine B3<|sv W<|sv W<|A1<|B7 ?_
 cases hz2
 obtain rfl:=ez2 _ rfl
 refine ⟨nofun,G4 ?_⟩
 rw [bI]at h
 cases h
 exact A9 (.inr W) (C0 (B8 W) C6) (.refl _)
 refine B0<|E5<|C3<|sv W<|sv W<|A1<|E0 ?_
 cases hz2
 exact ⟨W,(),(G0 W W)⟩
 refine D1 W ?_
 cases hz2
 obtain rfl:=ez2 _ rfl
 refine ⟨nofun,C5 W<|U6 ?_⟩
 exact ⟨_,(),W,(G0 W W)⟩
 rintro _ ⟨y1,g1,rfl,q1⟩
 rw [bH]at h
 refine B6 q1<|B3<|sv W<|A1<|B7 ?_
 cases h
 exact A9 (.inr W) (C0 (B8 W) C6) (.refl _)
def H5 [Lp](p1:(List Pass))(p2:Int)(p3:WorldSpan):Option Bool:=
  (I9 p1 p2 p3).bind fun v1=>some (decide (v1≥0))
theorem As(p1 p2 p3 r)(h:H5 p1 p2 p3=some r):PCall prog 245 [(.list (List.map V3 p1)),(.fn (.func 247) [] [(.bp [(i64 p2)] 0),(.bp [(i64 p3.from_),(i64 p3.to)] 0)])] (bo r):=by
 refine C7 (fk func245 ntmps245 m0 (by with_unfolding_all rfl)) (nl W) ?_
 unfold H5 at h
 refine B6 (s0:=⟨T [(0,(.d _)),(1,(.d _))],G []⟩) (G0 W W) ?_
 refine B3<|sv W<|A1<|B3<|sv W<|sv W<|bs h fun _ hv1 h=>B9 W W A3 (Bz _ _ _ _ hv1) (.inl W) (sv W<|sv W<|A1<|B7 ?_)
 cases h
 exact A9 (.inr W) (C0 (B8 W) C6) (.refl _)
def Ei [Lp](p1:Map)(p2:Agent)(p3:Agent)(p4:Int):Option Bool:=
  (Nk p2).bind fun v1=>((cond (!(!v1)) (Nk p3) (some default))).bind fun v2=>cond ((!v1)||(!v2)) (some false) ((Fh p2).bind fun v3=>(Dw p1 p2.Route).bind fun v4=>(H5 v4 p4 (WorldSpan.mk v3.from_ p3.S)).bind fun v5=>some v5)
theorem Xf(p1 p2 p3 p4 r)(h:Ei p1 p2 p3 p4=some r):PCall prog 218 [(.agg (Y6 p1)),(.agg (C4 p2)),(.agg (C4 p3)),(i64 p4)] (bo r):=by
 refine C7 (fk func218 ntmps218 m0 (by with_unfolding_all rfl)) (nl W) ?_
 unfold Ei at h
 refine B6 (s0:=⟨T [(0,(.d _)),(1,(.d _)),(2,(.d _)),(3,(.d _))],G []⟩) (G0 W W) ?_
 refine B3<|sm W<|sn W W<|sm W<|sn W W<|sv W<|A1<|A6<|B3<|sd W (C1 W (gq W) W W)<|bs h fun v1 hv1 h=>B9 W W A3 (Pd _ _ hv1) (.inl W) (C2 (.d (bo (!v1))) W W (sv W<|gf W (fun _=>(C1 W (gq W) W W))<|bs h fun v2 hv2 h=> ?_))
 refine N8 _ (bo v2) (N7 W) (fun w2=>⟨_,[(.d (.agg (C4 p3)))],_,_,(by simp only [A5 w2];rfl),W,A3,Pd _ _<|D8 w2 hv2,(.inl W)⟩) ?_
 refine P5 _ (.d (bo (!v2))) W (N7 W) (fun w3=>(by simp only [A5 w3];rfl)) ?_
 refine sd W (U2 W W<|fun hc=>A5<|N2 hc)<|A1<|cc W h (fun c1 h=> ?_)<|fun c1 h=> ?_
 refine B3<|sv W<|A1<|B7 ?_
 cases h
 exact A9 (.inr W) (C0 (B8 W) C6) (.refl _)
 refine B0<|A6<|K6 W<|sd W (C1 W (gq W) W W)<|bs h fun v3 hv3 h=>B9 W W A3 (Eh _ _ hv3) (.inl W) (sv W<|sq W<|sl W (gq W) W (sv W<|sm W<|T6 W A2 [(di v3.from_),(di p3.S)] W (A1<|B3<|sd W (C1 W (gq W) W W)<|sq W<|sl W (gq W) W (bs h fun _ hv4 h=>B9 W W A3 (Yr _ _ _ hv4) (.inl W) (C2 (.fn _ _ _) W W (bs h fun _ hv5 h=>B9 W (rD<|D4 (Tz E4<|D4 (Y0 (gq W)<|rD E4)<|D4 (Y0 A2<|rD<|rD E4) E4) E4) A3 (As _ _ _ _ hv5) (.inr W) (sv W<|A1<|B7 ?_)))))))
 cases h
 exact A9 (.inr W) (C0 (B8 W) C6) (.refl _)
def O0 [Lp](p1:WorldScene)(p2:Int)(p3:Int):Option Bool:=
  (Ii p1.before p2).bind fun v1=>((cond v1 (F2 p1.before.Agents p2) (some default))).bind fun v2=>((cond v1 (F2 p1.after.Agents p2) (some default))).bind fun v3=>((cond v1 (Ei p1.m v2 v3 p3) (some default))).bind fun v4=>some (v1&&v4)
theorem Y8(p1 p2 p3 r)(h:O0 p1 p2 p3=some r):PCall prog 171 [(.bp (Ko p1) 0),(i64 p2),(i64 p3)] (bo r):=by
 refine C7 (fk func171 ntmps171 m0 (by with_unfolding_all rfl)) (nl W) ?_
 unfold O0 at h
 refine B6 (s0:=⟨T [(0,(.d _)),(1,(.d _)),(2,(.d _))],G []⟩) (G0 W W) ?_
 refine B3<|sv W<|A1<|A6<|K6 W<|sv W<|sv W<|sv W<|sv W<|sv W<|bs h fun v1 hv1 h=>B9 W W A3 (Ix _ _ _ hv1) (.inl W) (sv W<|gt W (fun _=>W) ?_)
 refine gt W (fun w2=>(by simp only [A5 w2];rfl)) ?_
 refine gt W (fun w3=>(by simp only [A5 w3];rfl)) ?_
 refine gt W (fun w4=>(by simp only [A5 w4];rfl)) ?_
 refine gt W (fun _=>W) ?_
 refine gt W (fun w6=>(by simp only [A5 w6];rfl)) ?_
 refine gt W (fun w7=>(by simp only [A5 w7];rfl)) ?_
 refine gt W (fun w8=>(by simp only [A5 w8];rfl)) ?_
 refine gt W (fun w9=>(by simp only [A5 w9];rfl)) ?_
 refine gt W (fun _=>W)<|bs h fun v2 hv2 h=>gt W (fun w11=>(E7 (A5 w11) (A5 w11) (D8 w11 hv2) W))<|gt W (fun w12=>(E6 (A5 w12) (D8 w12 hv2) W W))<|gt W (fun _=>W) ?_
 refine gt W (fun w14=>(by simp only [A5 w14];rfl)) ?_
 refine gt W (fun w15=>(by simp only [A5 w15];rfl)) ?_
 refine gt W (fun w16=>(by simp only [A5 w16];rfl)) ?_
 refine gt W (fun w17=>(by simp only [A5 w17];rfl)) ?_
 refine gt W (fun _=>W)<|bs h fun v3 hv3 h=>gt W (fun w19=>(E7 (A5 w19) (A5 w19) (D8 w19 hv3) W))<|gt W (fun w20=>(E6 (A5 w20) (D8 w20 hv3) W W))<|gt W (fun _=>W)<|bs h fun v4 hv4 h=> ?_
 refine N8 v1 (bo v4) (M4 W) (fun w22=>⟨_,[(.d (.agg (Y6 p1.m))),(.d (.agg (C4 v2))),(.d (.agg (C4 v3))),(di p3)],_,_,(by simp only [A5 w22];rfl),W,A3,Xf _ _ _ _ _<|D8 w22 hv4,(.inl W)⟩) ?_
 refine sa W W W<|sv W<|A1<|B7 ?_
 cases h
 exact A9 (.inr W) (C0 (B8 W) C6) (.refl _)
def F4 [Lp](p1:(List Stay))(p2:Stay)(x1:(Int×Int)):Option (Stp (Int×Int) Int):=
  cond (decide (x1.1<x1.2)) ((F2 p1 (J6 ((IntKind.wrap .u64 (J6 (x1.1+x1.2))).fdiv (2^ (min (1:Int).toNat (IntKind.bits .u64)))))).bind fun v1=>(Do v1 p2).bind fun v2=>cond (decide (v2<0)) (some (.go ((J6 ((J6 ((IntKind.wrap .u64 (J6 (x1.1+x1.2))).fdiv (2^ (min (1:Int).toNat (IntKind.bits .u64)))))+1)),x1.2))) (some (.go (x1.1,(J6 ((IntKind.wrap .u64 (J6 (x1.1+x1.2))).fdiv (2^ (min (1:Int).toNat (IntKind.bits .u64))))))))) (some (.out x1.1))
def D5 [Lp](p1:(List Stay))(p2:Stay):Option (Int×Bool):=
  (loop (F4 p1 p2) (0,(p1.length:Int))).bind fun y1=>((cond (decide (y1< (p1.length:Int))) (F2 p1 y1) (some default))).bind fun v3=>((cond (decide (y1< (p1.length:Int))) (Do v3 p2) (some default))).bind fun v4=>some (y1,((decide (y1< (p1.length:Int)))&& (v4==0)))
theorem N1(p1 p2 r)(h:D5 p1 p2=some r):PCall prog 172 [(.list (List.map F8 p1)),(.agg (F8 p2)),(.fn (.func 73) [] [])] (.tup [(i64 r.1),(bo r.2)]):=by
 refine C7 (fk func172 ntmps172 m0 (by with_unfolding_all rfl)) (nl W) ?_
 unfold D5 at h
 refine B6 (s0:=⟨T [(0,(.d _)),(1,(.d _)),(2,(.d _))],G []⟩) (G0 W W) ?_
 refine lr<|fun u1 _=>sm W<|sv W<|sv W<|A1<|B3<|sv W<|sd W (E3 W)<|sv W<|A1<|B3<|sv W<|sv W<|sv W<|A1<|A6<|bs h fun y1 hy1 h=>D3 (fun s=> ∃g1:Unit,Sb ⟨T [(0,(dl F8 p1)),(2,(.d (.fn (.func 73) [] []))),(4,(.ptr (4,u1) 0)),(8,(di (p1.length:Int))),(9,(di y1))],G [((4,u1),some<|.box 127 (Si p2))]⟩ s) ?_ ?_
 refine A7<|D7 (F4 p1 p2) (fun (x1:(Int×Int)) (g2:Unit)=>⟨T [(0,(dl F8 p1)),(2,(.d (.fn (.func 73) [] []))),(4,(.ptr (4,u1) 0)),(8,(di (p1.length:Int))),(9,(di x1.1)),(10,(di x1.2))],G [((4,u1),some<|.box 127 (Si p2))]⟩) (0,(p1.length:Int)) () _ hy1 (G0 W W) ?_
 intro x1 g2 z1 hz1 ez1
 unfold F4 at hz1
 refine A6<|B3<|sv W<|sv W<|sv W<|A1<|cc W hz1 (fun c1 hz1=> ?_)<|fun c1 hz1=> ?_
 refine B0<|A7<|B3<|sv W<|sv W<|sv W<|sv W<|sv W<|sv W<|sv W<|A1<|A6<|K6 W<|sv W<|sv W<|sv W<|bs hz1 fun _ hv1 hz1=>sd W (E7 W W hv1 W)<|sd W (E6 W hv1 W W)<|sd W (C1 W A2 W W)<|bs hz1 fun _ hv2 hz1=>B9 W W A3 (Ni _ _ _ hv2) (.inl W) (sv W<|A1<|cc W hz1 (fun c2 hz1=> ?_)<|fun c2 hz1=> ?_)
 refine C3<|sv W<|sv W<|sv W<|A1<|E5<|E0 ?_
 cases hz1
 exact ⟨W,(),(G0 W W)⟩
 refine C3<|sv W<|sv W<|A1<|E5<|E0 ?_
 cases hz1
 exact ⟨W,(),(G0 W W)⟩
 refine D1 W ?_
 cases hz1
 obtain rfl:=ez1 _ rfl
 refine ⟨nofun,C5 W<|U6 ?_⟩
 exact ⟨(),(G0 W W)⟩
 rintro _ ⟨g1,q1⟩
 refine B6 q1<|A6<|K6 W<|sv W<|sv W<|sv W<|sv W<|sv W<|gt W (fun _=>W)<|gt W (fun _=>W)<|gt W (fun _=>W)<|bs h fun v3 hv3 h=>gt W (fun w4=>(E7 (A5 w4) (A5 w4) (D8 w4 hv3) W))<|gt W (fun w5=>(E6 (A5 w5) (D8 w5 hv3) W W))<|gt W (fun _=>(C1 W A2 W W))<|bs h fun v4 hv4 h=> ?_
 refine N8 _ (i64 v4) (M4 W) (fun w7=>⟨_,[(.d (.agg (F8 v3))),(.d (.agg (F8 p2)))],_,_,(by simp only [A5 w7];rfl),W,A3,Ni _ _ _<|D8 w7 hv4,(.inl W)⟩) ?_
 refine gt W (vb W W W)<|sa W W W<|sv W<|sv W<|A1<|B7 ?_
 cases h
 exact A9 (.inr W) (Ic (B8 W) (B8 W) C6 C6) (.refl _)
def Nl (p1:Part)(p2:Int):Option Bool:=
  some (p1.Lane_==p2)
theorem Wd(p1 p2 r)(h:Nl p1 p2=some r):PCall prog 265 [(.agg (Gz p1)),(.bp [(i64 p2)] 0)] (bo r):=by
 refine C7 (fk func265 ntmps265 m0 (by with_unfolding_all rfl)) (nl W) ?_
 unfold Nl at h
 refine B6 (s0:=⟨T [(0,(.d _)),(1,(.d _))],G []⟩) (G0 W W) ?_
 refine B3<|sm W<|sv W<|A1<|B3<|sq W<|sl W A2 W<|sv W<|sv W<|sv W<|A1<|B7 ?_
 cases h
 exact A9 (.inr W) (C0 (B8 W) C6) (.refl _)
def Q3 (p1:(List Part))(p2:Int)(x1:Int):Option (Stp Int (Sum Unit Int)):=
  cond (decide (x1< (p1.length:Int))) ((F2 p1 x1).bind fun v1=>(Nl v1 p2).bind fun v2=>cond v2 (some (.out (.inr x1))) (some (.go (J6 (x1+1))))) (some (.out (.inl ())))
def K3 [Lp](p1:(List Part))(p2:Int):Option Int:=
  thenS (loop (Q3 p1 p2) 0) (fun _=>some (-1)) (fun r=>some r)
theorem Dk(p1 p2 r)(h:K3 p1 p2=some r):PCall prog 220 [(.list (List.map Gz p1)),(.fn (.func 265) [] [(.bp [(i64 p2)] 0)])] (i64 r):=by
 refine C7 (fk func220 ntmps220 m0 (by with_unfolding_all rfl)) (nl W) ?_
 unfold K3 at h
 refine B6 (s0:=⟨T [(0,(.d _)),(1,(.d _))],G []⟩) (G0 W W) ?_
 refine B3<|sv W<|A1<|A6<|B3<|sv W<|sd W (E3 W)<|sv W<|A1<|js h fun z1 hz1 h=>D3 (fun s=> ∃(y1:Unit) (g1:Unit),z1= .inl y1∧Sb ⟨T [],G []⟩ s) ?_ ?_
 refine A7<|D7 (Q3 p1 p2) (fun (x1:Int) (g2:Unit)=>⟨T [(0,(dl Gz p1)),(1,(.d (.fn (.func 265) [] [(.bp [(i64 p2)] 0)]))),(7,(di (p1.length:Int))),(8,(di x1))],G []⟩) 0 () _ hz1 (G0 W W) ?_
 intro x1 g2 z2 hz2 ez2
 unfold Q3 at hz2
 refine B3<|sv W<|A1<|A6<|cc W hz2 (fun c1 hz2=> ?_)<|fun c1 hz2=> ?_
 refine B0<|A6<|A7<|B3<|sv W<|sv W<|A1<|B3<|sv W<|sv W<|sv W<|bs hz2 fun _ hv1 hz2=>sd W (E7 W W hv1 W)<|sd W (E6 W hv1 W W)<|bs hz2 fun _ hv2 hz2=>B9 W W A3 (Wd _ _ _ hv2) (.inl W) (A1<|cc W hz2 (fun c2 hz2=> ?_)<|fun c2 hz2=> ?_)
 refine B3<|sv W<|sv W<|A1<|B7 ?_
 cases hz2
 obtain rfl:=ez2 _ rfl
 refine ⟨nofun,G4 ?_⟩
 rw [bI]at h
 cases h
 exact A9 (.inr W) (C0 (B8 W) C6) (.refl _)
 refine B0<|E5<|C3<|sv W<|sv W<|A1<|E0 ?_
 cases hz2
 exact ⟨W,(),(G0 W W)⟩
 refine D1 W ?_
 cases hz2
 obtain rfl:=ez2 _ rfl
 refine ⟨nofun,C5 W<|U6 ?_⟩
 exact ⟨_,(),W,(G0 W W)⟩
 rintro _ ⟨y1,g1,rfl,q1⟩
 rw [bH]at h
 refine B6 q1<|B3<|sv W<|A1<|B7 ?_
 cases h
 exact A9 (.inr W) (C0 (B8 W) C6) (.refl _)
def Jr [Lp](p1:Zone)(p2:Int):Option (Part×Bool):=
  (K3 p1.Parts p2).bind fun v1=>cond (decide (v1<0)) (some ((Part.mk 0 0 0 0),false)) ((F2 p1.Parts v1).bind fun v2=>some (v2,true))
theorem CG(p1 p2 r)(h:Jr p1 p2=some r):PCall prog 251 [(.agg [(.list (List.map Gz p1.Parts)),(i64 p1.Signal_)]),(i64 p2)] (.tup [(.agg (Gz r.1)),(bo r.2)]):=by
 refine C7 (fk func251 ntmps251 m0 (by with_unfolding_all rfl)) (nl W) ?_
 unfold Jr at h
 refine B6 (s0:=⟨T [(0,(.d _)),(1,(.d _))],G []⟩) (G0 W W) ?_
 refine B3<|sm W<|sn W W<|sm W<|sv W<|A1<|B3<|sq W<|sl W (gq W) W (C2 (.fn _ _ _) W W (bs h fun _ hv1 h=>B9 W (rD<|D4 (Tz E4<|D4 (Y0 (gq W)<|rD E4) E4) E4) A3 (Dk _ _ _ hv1) (.inr W) (sv W<|A1<|A6<|B3<|sv W<|sv W<|A1<|cc W h (fun c1 h=> ?_)<|fun c1 h=> ?_)))
 refine B3<|sv W<|T6 W A2 (zs 4) W (sv W<|A1<|B7 ?_)
 cases h
 exact A9 (.inr W) (Ic (K7 W A2 (nl W) W) (B8 W) C6 C6) (.refl _)
 refine B0<|B3<|sq W<|sl W (gq W) W (sv W<|bs h fun v2 hv2 h=>sd W (E7 W W hv2 W)<|sd W (E6 W hv2 W W)<|T6 W A2 (DS v2) W (sv W<|A1<|B7 ?_))
 cases h
 exact A9 (.inr W) (Ic (K7 W A2 (nl W) W) (B8 W) C6 C6) (.refl _)
def Z6 [Lp](p1:Int)(p2:Map)(p3:Int):Option Bool:=
  (F2 p2.Zones p3).bind fun v1=>(Jr v1 p1).bind fun v2=>some v2.2
theorem Sr(p1 p2 p3 r)(h:Z6 p1 p2 p3=some r):PCall prog 250 [(i64 p1),(.bp (Y6 p2) 0),(.bp [(i64 p3)] 0)] (bo r):=by
 refine C7 (fk func250 ntmps250 m0 (by with_unfolding_all rfl)) (nl W) ?_
 unfold Z6 at h
 refine B6 (s0:=⟨T [(0,(.d _)),(1,(.d _)),(2,(.d _))],G []⟩) (G0 W W) ?_
 refine B3<|sv W<|A1<|B3<|sv W<|sv W<|sv W<|bs h fun _ hv1 h=>sd W (E7 W W hv1 W)<|sd W (E6 W hv1 W W)<|sv W<|bs h fun v2 hv2 h=>B9 W W A3 (CG _ _ _ hv2) (.inl W) (sv W<|sv W<|sv W<|sm W<|T6 W A2 (DS v2.1) W (sv W<|A1<|B3<|sv W<|sv W<|A1<|B7 ?_))
 cases h
 exact A9 (.inr W) (C0 (B8 W) C6) (.refl _)
def J2 [Lp](p1:(List Int))(p2:Map)(p3:Int)(x1:Int):Option (Stp Int (Sum Unit Int)):=
  cond (decide (x1< (p1.length:Int))) ((F2 p1 x1).bind fun v1=>(Z6 v1 p2 p3).bind fun v2=>cond v2 (some (.out (.inr x1))) (some (.go (J6 (x1+1))))) (some (.out (.inl ())))
def K4 [Lp](p1:(List Int))(p2:Map)(p3:Int):Option Int:=
  thenS (loop (J2 p1 p2 p3) 0) (fun _=>some (-1)) (fun r=>some r)
theorem Dl(p1 p2 p3 r)(h:K4 p1 p2 p3=some r):PCall prog 249 [(.list (List.map A4 p1)),(.fn (.func 250) [] [(.bp (Y6 p2) 0),(.bp [(i64 p3)] 0)])] (i64 r):=by
 refine C7 (fk func249 ntmps249 m0 (by with_unfolding_all rfl)) (nl W) ?_
 unfold K4 at h
 refine B6 (s0:=⟨T [(0,(.d _)),(1,(.d _))],G []⟩) (G0 W W) ?_
 refine B3<|sv W<|A1<|A6<|B3<|sv W<|sd W (E3 W)<|sv W<|A1<|js h fun z1 hz1 h=>D3 (fun s=> ∃(y1:Unit) (g1:Unit),z1= .inl y1∧Sb ⟨T [],G []⟩ s) ?_ ?_
 refine A7<|D7 (J2 p1 p2 p3) (fun (x1:Int) (g2:Unit)=>⟨T [(0,(dl A4 p1)),(1,(.d (.fn (.func 250) [] [(.bp (Y6 p2) 0),(.bp [(i64 p3)] 0)]))),(7,(di (p1.length:Int))),(8,(di x1))],G []⟩) 0 () _ hz1 (G0 W W) ?_
 intro x1 g2 z2 hz2 ez2
 unfold J2 at hz2
 refine B3<|sv W<|A1<|A6<|cc W hz2 (fun c1 hz2=> ?_)<|fun c1 hz2=> ?_
 refine B0<|A6<|A7<|B3<|sv W<|sv W<|A1<|B3<|sv W<|sv W<|sv W<|bs hz2 fun _ hv1 hz2=>sd W (E7 W W hv1 W)<|sd W (H8 W hv1 W)<|bs hz2 fun _ hv2 hz2=>B9 W W A3 (Sr _ _ _ _ hv2) (.inl W) (A1<|cc W hz2 (fun c2 hz2=> ?_)<|fun c2 hz2=> ?_)
 refine B3<|sv W<|sv W<|A1<|B7 ?_
 cases hz2
 obtain rfl:=ez2 _ rfl
 refine ⟨nofun,G4 ?_⟩
 rw [bI]at h
 cases h
 exact A9 (.inr W) (C0 (B8 W) C6) (.refl _)
 refine B0<|E5<|C3<|sv W<|sv W<|A1<|E0 ?_
 cases hz2
 exact ⟨W,(),(G0 W W)⟩
 refine D1 W ?_
 cases hz2
 obtain rfl:=ez2 _ rfl
 refine ⟨nofun,C5 W<|U6 ?_⟩
 exact ⟨_,(),W,(G0 W W)⟩
 rintro _ ⟨y1,g1,rfl,q1⟩
 rw [bH]at h
 refine B6 q1<|B3<|sv W<|A1<|B7 ?_
 cases h
 exact A9 (.inr W) (C0 (B8 W) C6) (.refl _)
def Ij [Lp](p1:Map)(p2:(List Int))(p3:Int):Option Int:=
  (Ac p1 p2).bind fun v1=>cond ((decide (p3<0))||(decide (p3≥(p1.Zones.length:Int)))) (some (-1)) ((K4 v1.lanes p1 p3).bind fun v2=>some v2)
theorem AY(p1 p2 p3 r)(h:Ij p1 p2 p3=some r):PCall prog 222 [(.agg (Y6 p1)),(.list (List.map A4 p2)),(i64 p3)] (i64 r):=by
 refine C7 (fk func222 ntmps222 m0 (by with_unfolding_all rfl)) (nl W) ?_
 unfold Ij at h
 refine B6 (s0:=⟨T [(0,(.d _)),(1,(.d _)),(2,(.d _))],G []⟩) (G0 W W) ?_
 refine B3<|sm W<|sn W W<|sv W<|A1<|B3<|sd W (C1 W (gq W) W W)<|sv W<|bs h fun v1 hv1 h=>B9 W W A3 (Hm _ _ _ hv1) (.inl W) (sm W<|T6 W A2 (Jp v1) W (A1<|A6<|B3<|sl W (gq W) W (sv W<|sv W<|gf W (fun _=>(O8 W (gq W) W))<|gp W (N7 W) (fun _=>W) (gf W (vl W (gq W) W)<|gf W (fun w4=>(E3<|A5 w4))<|gf W (fun w5=>(R1 (A5 w5) (A5 w5) W))<|sd W (U2 W W<|fun hc=>A5<|N2 hc)<|A1<|cc W h (fun c1 h=> ?_)<|fun c1 h=> ?_))))
 refine B3<|sv W<|A1<|B7 ?_
 cases h
 exact A9 (.inr W) (C0 (B8 W) C6) (.refl _)
 refine B0<|B3<|sq W<|sl W A2 W<|C2 (.fn _ _ _) W W (bs h fun _ hv2 h=>B9 W (rD<|D4 (Tz E4<|D4 (Y0 (gq W)<|rD<|rD<|rD<|rD<|rD E4)<|D4 (Y0 (gq W)<|rD E4) E4) E4) A3 (Dl _ _ _ _ hv2) (.inr W) (sv W<|A1<|B7 ?_))
 cases h
 exact A9 (.inr W) (C0 (B8 W) C6) (.refl _)
def Dq [Lp](p1:Map)(p2:(List Int))(p3:Int):Option Int:=
  (Ij p1 p2 p3).bind fun v1=>cond (decide (v1≥0)) ((F2 p2 v1).bind fun v2=>some v2) (some (-1))
theorem Nm(p1 p2 p3 r)(h:Dq p1 p2 p3=some r):PCall prog 175 [(.agg (Y6 p1)),(.list (List.map A4 p2)),(i64 p3)] (i64 r):=by
 refine C7 (fk func175 ntmps175 m0 (by with_unfolding_all rfl)) (nl W) ?_
 unfold Dq at h
 refine B6 (s0:=⟨T [(0,(.d _)),(1,(.d _)),(2,(.d _))],G []⟩) (G0 W W) ?_
 refine B3<|sm W<|sv W<|A1<|A6<|B3<|sd W (C1 W A2 W W)<|sv W<|sv W<|bs h fun _ hv1 h=>B9 W W A3 (AY _ _ _ _ hv1) (.inl W) (sv W<|A1<|B3<|sv W<|sv W<|A1<|cc W h (fun c1 h=> ?_)<|fun c1 h=> ?_)
 refine B3<|sv W<|sv W<|bs h fun _ hv2 h=>sd W (E7 W W hv2 W)<|sd W (H8 W hv2 W)<|sv W<|A1<|B7 ?_
 cases h
 exact A9 (.inr W) (C0 (B8 W) C6) (.refl _)
 refine B0<|B3<|sv W<|A1<|B7 ?_
 cases h
 exact A9 (.inr W) (C0 (B8 W) C6) (.refl _)
def Ks [Lp](p1:Map)(p2:Int):Option Bool:=
  ((cond ((decide (p2≥0))&& (decide (p2< (p1.Lanes.length:Int)))) (Dn p1) (some default))).bind fun v1=>some (((decide (p2≥0))&& (decide (p2< (p1.Lanes.length:Int))))&& (v1==0))
theorem Ss(p1 p2 r)(h:Ks p1 p2=some r):PCall prog 206 [(.agg (Y6 p1)),(i64 p2)] (bo r):=by
 refine C7 (fk func206 ntmps206 m0 (by with_unfolding_all rfl)) (nl W) ?_
 unfold Ks at h
 refine B6 (s0:=⟨T [(0,(.d _)),(1,(.d _))],G []⟩) (G0 W W) ?_
 refine B3<|sm W<|sv W<|A1<|B3<|sv W<|sv W<|sv W<|gt W (fun _=>W)<|gp W (M4 W) (fun _=>W) (gt W (vl W A2 W)<|gt W (fun w4=>(E3<|A5 w4))<|gt W (fun w5=>(R1 (A5 w5) (A5 w5) W))<|sa W W W<|sv W<|gt W (fun _=>(C1 W A2 W W))<|bs h fun v1 hv1 h=> ?_)
 refine N8 _ (i64 v1) (M4 W) (fun w7=>⟨_,[(.d (.agg (Y6 p1)))],_,_,(by simp only [A5 w7];rfl),W,A3,Nh _ _<|D8 w7 hv1,(.inl W)⟩) ?_
 refine gt W (vb W W W)<|sa W W W<|sv W<|A1<|B7 ?_
 cases h
 exact A9 (.inr W) (C0 (B8 W) C6) (.refl _)
def De [Lp](p1:Signal)(p2:Int)(x2:(Int×Int)):Option (Stp (Int×Int) (Sum Unit Bool)):=
  cond (decide (x2.2< (p1.Phases.length:Int))) ((F2 p1.Phases x2.2).bind fun v5=>cond (decide (x2.1≥v5.Ticks)) (some (.go ((J6 (x2.1 - v5.Ticks)),(J6 (x2.2+1))))) ((O1 v5.Green p2).bind fun v6=>some (.out (.inr v6)))) (some (.out (.inl ())))
def Nn (p1:Signal)(x1:(Int×Int)):Option (Stp (Int×Int) Int):=
  cond (decide (x1.2< (p1.Phases.length:Int))) ((F2 p1.Phases x1.2).bind fun v1=>some (.go ((J6 (x1.1+v1.Ticks)),(J6 (x1.2+1))))) (some (.out x1.1))
def Fj [Lp](p1:Signal)(p2:Int)(p3:Int):Option Bool:=
  (loop (Nn p1) (0,0)).bind fun y1=>(OL p1.Offset y1).bind fun v2=>(OL p3 y1).bind fun v3=>(OL (J6 (v2+v3)) y1).bind fun v4=>thenS (loop (De p1 p2) (v4,0)) (fun _=>some false) (fun r=>some r)
theorem Su(p1 p2 p3 r)(h:Fj p1 p2 p3=some r):PCall prog 248 [(.agg [(i64 p1.Offset),(.list (List.map Hq p1.Phases))]),(i64 p2),(i64 p3)] (bo r):=by
 refine C7 (fk func248 ntmps248 m0 (by with_unfolding_all rfl)) (nl W) ?_
 unfold Fj at h
 refine B6 (s0:=⟨T [(0,(.d _)),(1,(.d _)),(2,(.d _))],G []⟩) (G0 W W) ?_
 refine lr<|fun u1 _=>sm W<|sv W<|A1<|VS<|B3<|sv W<|A1<|A6<|B3<|sq W<|sl W A2 W<|sd W (E3 W)<|sv W<|A1<|bs h fun y1 hy1 h=>D3 (fun s=> ∃g1:Unit,Sb ⟨T [(1,(di p2)),(2,(di p3)),(3,(.ptr (3,u1) 0)),(7,(di y1))],G [((3,u1),some<|.box 120 [(di p1.Offset),(dl Hq p1.Phases)])]⟩ s) ?_ ?_
 refine A7<|D7 (Nn p1) (fun (x1:(Int×Int)) (g2:Unit)=>⟨T [(1,(di p2)),(2,(di p3)),(3,(.ptr (3,u1) 0)),(7,(di x1.1)),(14,(dl Hq p1.Phases)),(15,(di (p1.Phases.length:Int))),(16,(di x1.2))],G [((3,u1),some<|.box 120 [(di p1.Offset),(dl Hq p1.Phases)])]⟩) (0,0) () _ hy1 (G0 W W) ?_
 intro x1 g2 z1 hz1 ez1
 unfold Nn at hz1
 refine B3<|sv W<|A1<|A6<|cc W hz1 (fun c1 hz1=> ?_)<|fun c1 hz1=> ?_
 refine B0<|A6<|A7<|B3<|bs hz1 fun v1 hv1 hz1=>sd W (E7 W W hv1 W)<|sd W (E6 W hv1 W W)<|sm W<|T6 W A2 [(di v1.Ticks),(dl A4 v1.Green)] W (A1<|C3<|sv W<|sq W<|sl W A2 W<|sv W<|sv W<|A1<|E5<|C3<|sv W<|sv W<|A1<|E0 ?_)
 cases hz1
 exact ⟨W,(),(G0 W W)⟩
 refine D1 W ?_
 cases hz1
 obtain rfl:=ez1 _ rfl
 refine ⟨nofun,C5 W<|U6 ?_⟩
 exact ⟨(),(G0 W W)⟩
 rintro _ ⟨g1,q1⟩
 refine B6 q1<|A6<|K6 W<|sq W<|sl W A2 W<|sv W<|bs h fun _ hv2 h=>sd W (SE W W hv2)<|sv W<|sv W<|bs h fun _ hv3 h=>sd W (SE W W hv3)<|sv W<|sv W<|bs h fun v4 hv4 h=>sd W (SE W W hv4)<|sv W<|A1<|A6<|B0<|A6<|B3<|sq W<|sl W A2 W<|sd W (E3 W)<|sv W<|A1<|js h fun z2 hz2 h=>D3 (fun s=> ∃(y2:Unit) (g3:Unit),z2= .inl y2∧Sb ⟨T [],G []⟩ s) ?_ ?_
 refine A7<|D7 (De p1 p2) (fun (x2:(Int×Int)) (g4:Unit)=>⟨T [(1,(di p2)),(10,(di x2.1)),(36,(dl Hq p1.Phases)),(37,(di (p1.Phases.length:Int))),(38,(di x2.2))],G []⟩) (v4,0) () _ hz2 (G0 W W) ?_
 intro x2 g4 z3 hz3 ez3
 unfold De at hz3
 refine B3<|sv W<|A1<|A6<|cc W hz3 (fun c2 hz3=> ?_)<|fun c2 hz3=> ?_
 refine B0<|A6<|A7<|B3<|bs hz3 fun v5 hv5 hz3=>sd W (E7 W W hv5 W)<|sd W (E6 W hv5 W W)<|sm W<|T6 W A2 [(di v5.Ticks),(dl A4 v5.Green)] W (A1<|A6<|B3<|sv W<|sq W<|sl W A2 W<|sv W<|A1<|cc W hz3 (fun c3 hz3=> ?_)<|fun c3 hz3=> ?_)
 refine B3<|sv W<|sq W<|sl W A2 W<|sv W<|sv W<|A1<|Uw W<|C3<|sv W<|sv W<|A1<|E0 ?_
 cases hz3
 exact ⟨W,(),(G0 W W)⟩
 refine B0<|B3<|sq W<|sl W A2 W<|sv W<|bs hz3 fun _ hv6 hz3=>B9 W W A3 (Ar _ _ _ hv6) (.inl W) (sv W<|A1<|B7 ?_)
 cases hz3
 obtain rfl:=ez3 _ rfl
 refine ⟨nofun,G4 ?_⟩
 rw [bI]at h
 cases h
 exact A9 (.inr W) (C0 (B8 W) C6) (.refl _)
 refine D1 W ?_
 cases hz3
 obtain rfl:=ez3 _ rfl
 refine ⟨nofun,C5 W<|U6 ?_⟩
 exact ⟨_,(),W,(G0 W W)⟩
 rintro _ ⟨y2,g3,rfl,q2⟩
 rw [bH]at h
 refine B6 q2<|B3<|sv W<|A1<|B7 ?_
 cases h
 exact A9 (.inr W) (C0 (B8 W) C6) (.refl _)
def Ik [Lp](p1:Map)(p2:Int)(p3:Int)(p4:Int):Option Bool:=
  ((cond (((decide (p4≥0))&& (decide (p2≥0)))&& (decide (p2< (p1.Signals.length:Int)))) (Ks p1 p3) (some default))).bind fun v1=>((cond ((((decide (p4≥0))&& (decide (p2≥0)))&& (decide (p2< (p1.Signals.length:Int))))&&v1) (F2 p1.Signals p2) (some default))).bind fun v2=>((cond ((((decide (p4≥0))&& (decide (p2≥0)))&& (decide (p2< (p1.Signals.length:Int))))&&v1) (Fj v2 p3 p4) (some default))).bind fun v3=>some (((((decide (p4≥0))&& (decide (p2≥0)))&& (decide (p2< (p1.Signals.length:Int))))&&v1)&&v3)
theorem AZ(p1 p2 p3 p4 r)(h:Ik p1 p2 p3 p4=some r):PCall prog 219 [(.agg (Y6 p1)),(i64 p2),(i64 p3),(i64 p4)] (bo r):=by
 refine C7 (fk func219 ntmps219 m0 (by with_unfolding_all rfl)) (nl W) ?_
 unfold Ik at h
 refine B6 (s0:=⟨T [(0,(.d _)),(1,(.d _)),(2,(.d _)),(3,(.d _))],G []⟩) (G0 W W) ?_
 refine B3<|sm W<|sv W<|A1<|B3<|sv W<|sv W<|sv W<|gt W (fun _=>W)<|gt W (vb W W W)<|sa W W W<|sv W<|gt W (fun _=>W)<|gp W (M4 W) (fun _=>W) (gt W (vl W A2 W)<|gt W (fun w6=>(E3<|A5 w6))<|gt W (fun w7=>(R1 (A5 w7) (A5 w7) W))<|sa W W W<|sv W<|gt W (fun _=>(C1 W A2 W W))<|gt W (fun _=>W)<|bs h fun v1 hv1 h=> ?_)
 refine N8 _ (bo v1) (M4 W) (fun w10=>⟨_,[(.d (.agg (Y6 p1))),(di p3)],_,_,(by simp only [A5 w10];rfl),W,A3,Ss _ _ _<|D8 w10 hv1,(.inl W)⟩) ?_
 refine sa W W W<|sv W<|gp W (M4 W) (fun _=>W) (gt W (vl W A2 W)<|gt W (fun _=>W)<|bs h fun v2 hv2 h=>gt W (fun w14=>(E7 (A5 w14) (A5 w14) (D8 w14 hv2) W))<|gt W (fun w15=>(E6 (A5 w15) (D8 w15 hv2) W W))<|gt W (fun _=>W)<|gt W (fun _=>W)<|bs h fun v3 hv3 h=> ?_)
 refine N8 _ (bo v3) (M4 W) (fun w18=>⟨_,[(.d (.agg [(i64 v2.Offset),(.list (List.map Hq v2.Phases))])),(di p3),(di p4)],_,_,(by simp only [A5 w18];rfl),W,A3,Su _ _ _ _<|D8 w18 hv3,(.inl W)⟩) ?_
 refine sa W W W<|sv W<|A1<|B7 ?_
 cases h
 exact A9 (.inr W) (C0 (B8 W) C6) (.refl _)
def No (p1:Part)(p2:Int):Option Bool:=
  some (p1.Lane_==p2)
theorem We(p1 p2 r)(h:No p1 p2=some r):PCall prog 221 [(.agg (Gz p1)),(.bp [(i64 p2)] 0)] (bo r):=by
 refine C7 (fk func221 ntmps221 m0 (by with_unfolding_all rfl)) (nl W) ?_
 unfold No at h
 refine B6 (s0:=⟨T [(0,(.d _)),(1,(.d _))],G []⟩) (G0 W W) ?_
 refine B3<|sm W<|sv W<|A1<|B3<|sq W<|sl W A2 W<|sv W<|sv W<|sv W<|A1<|B7 ?_
 cases h
 exact A9 (.inr W) (C0 (B8 W) C6) (.refl _)
def Q4 (p1:(List Part))(p2:Int)(x1:Int):Option (Stp Int (Sum Unit Int)):=
  cond (decide (x1< (p1.length:Int))) ((F2 p1 x1).bind fun v1=>(No v1 p2).bind fun v2=>cond v2 (some (.out (.inr x1))) (some (.go (J6 (x1+1))))) (some (.out (.inl ())))
def K5 [Lp](p1:(List Part))(p2:Int):Option Int:=
  thenS (loop (Q4 p1 p2) 0) (fun _=>some (-1)) (fun r=>some r)
theorem Dm(p1 p2 r)(h:K5 p1 p2=some r):PCall prog 220 [(.list (List.map Gz p1)),(.fn (.func 221) [] [(.bp [(i64 p2)] 0)])] (i64 r):=by
 refine C7 (fk func220 ntmps220 m0 (by with_unfolding_all rfl)) (nl W) ?_
 unfold K5 at h
 refine B6 (s0:=⟨T [(0,(.d _)),(1,(.d _))],G []⟩) (G0 W W) ?_
 refine B3<|sv W<|A1<|A6<|B3<|sv W<|sd W (E3 W)<|sv W<|A1<|js h fun z1 hz1 h=>D3 (fun s=> ∃(y1:Unit) (g1:Unit),z1= .inl y1∧Sb ⟨T [],G []⟩ s) ?_ ?_
 refine A7<|D7 (Q4 p1 p2) (fun (x1:Int) (g2:Unit)=>⟨T [(0,(dl Gz p1)),(1,(.d (.fn (.func 221) [] [(.bp [(i64 p2)] 0)]))),(7,(di (p1.length:Int))),(8,(di x1))],G []⟩) 0 () _ hz1 (G0 W W) ?_
 intro x1 g2 z2 hz2 ez2
 unfold Q4 at hz2
 refine B3<|sv W<|A1<|A6<|cc W hz2 (fun c1 hz2=> ?_)<|fun c1 hz2=> ?_
 refine B0<|A6<|A7<|B3<|sv W<|sv W<|A1<|B3<|sv W<|sv W<|sv W<|bs hz2 fun _ hv1 hz2=>sd W (E7 W W hv1 W)<|sd W (E6 W hv1 W W)<|bs hz2 fun _ hv2 hz2=>B9 W W A3 (We _ _ _ hv2) (.inl W) (A1<|cc W hz2 (fun c2 hz2=> ?_)<|fun c2 hz2=> ?_)
 refine B3<|sv W<|sv W<|A1<|B7 ?_
 cases hz2
 obtain rfl:=ez2 _ rfl
 refine ⟨nofun,G4 ?_⟩
 rw [bI]at h
 cases h
 exact A9 (.inr W) (C0 (B8 W) C6) (.refl _)
 refine B0<|E5<|C3<|sv W<|sv W<|A1<|E0 ?_
 cases hz2
 exact ⟨W,(),(G0 W W)⟩
 refine D1 W ?_
 cases hz2
 obtain rfl:=ez2 _ rfl
 refine ⟨nofun,C5 W<|U6 ?_⟩
 exact ⟨_,(),W,(G0 W W)⟩
 rintro _ ⟨y1,g1,rfl,q1⟩
 rw [bH]at h
 refine B6 q1<|B3<|sv W<|A1<|B7 ?_
 cases h
 exact A9 (.inr W) (C0 (B8 W) C6) (.refl _)
def Hu [Lp](p1:Map)(p2:Agent)(p3:Int)(p4:Int):Option Int:=
  (Dq p1 p2.Route p3).bind fun v1=>cond (decide (v1<0)) (some 0) ((F2 p1.Zones p3).bind fun v2=>((cond (decide (v2.Signal_>0)) (Ik p1 (J6 (v2.Signal_ - 1)) v1 p4) (some default))).bind fun v3=>cond ((decide (v2.Signal_>0))&&v3) (some 2) (cond (decide (v2.Signal_>0)) (some 0) ((K5 v2.Parts v1).bind fun v4=>(F2 v2.Parts v4).bind fun v5=>some v5.Rank)))
theorem Uh(p1 p2 p3 p4 r)(h:Hu p1 p2 p3 p4=some r):PCall prog 173 [(.agg (Y6 p1)),(.agg (C4 p2)),(i64 p3),(i64 p4)] (i64 r):=by
 refine C7 (fk func173 ntmps173 m0 (by with_unfolding_all rfl)) (nl W) ?_
 unfold Hu at h
 refine B6 (s0:=⟨T [(0,(.d _)),(1,(.d _)),(2,(.d _)),(3,(.d _))],G []⟩) (G0 W W) ?_
 refine B3<|sm W<|sn W W<|sv W<|A1<|B3<|sd W (C1 W (gq W) W W)<|sq W<|sl W A2 W<|sv W<|bs h fun v1 hv1 h=>B9 W W A3 (Nm _ _ _ _ hv1) (.inl W) (sm W<|T6 W A2 [(di v1)] W (A1<|A6<|B3<|sl W A2 W<|sv W<|A1<|cc W h (fun c1 h=> ?_)<|fun c1 h=> ?_))
 refine B3<|sv W<|A1<|B7 ?_
 cases h
 exact A9 (.inr W) (C0 (B8 W) C6) (.refl _)
 refine B0<|B3<|sq W<|sl W (gq W) W (sv W<|bs h fun v2 hv2 h=>sd W (E7 W W hv2 W)<|sd W (E6 W hv2 W W)<|sm W<|T6 W A2 [(dl Gz v2.Parts),(di v2.Signal_)] W (A1<|A6<|A7<|B3<|sq W<|sl W A2 W<|sv W<|sv W<|gt W (fun _=>(C1 W (gq W) W W))<|gp W (M4 W) (fun _=>W) (gt W (vl W A2 W)<|gt W (vb W W W)<|gt W (fun _=>(O8 W (gq W) W))<|gt W (fun _=>W)<|bs h fun v3 hv3 h=> ?_)))
 refine N8 _ (bo v3) (M4 W) (fun w7=>⟨_,[(.d (.agg (Y6 p1))),(di<|J6 (v2.Signal_ - 1)),(di v1),(di p4)],_,_,(by simp only [A5 w7];rfl),W,A3,AZ _ _ _ _ _<|D8 w7 hv3,(.inl W)⟩) ?_
 refine sa W W W<|sv W<|A1<|cc W h (fun c2 h=> ?_)<|fun c2 h=> ?_
 refine B3<|sv W<|A1<|B7 ?_
 cases h
 exact A9 (.inr W) (C0 (B8 W) C6) (.refl _)
 refine B3<|sq W<|sl W A2 W<|sv W<|sv W<|A1<|cc W h (fun c3 h=> ?_)<|fun c3 h=> ?_
 refine B3<|sv W<|A1<|B7 ?_
 cases h
 exact A9 (.inr W) (C0 (B8 W) C6) (.refl _)
 refine B0<|E5<|A6<|K6 W<|sq W<|sl W A2 W<|sq W<|sl W A2 W<|C2 (.fn _ _ _) W W (bs h fun _ hv4 h=>B9 W (rD<|D4 (Tz E4<|D4 (Y0 (gq W)<|rD E4) E4) E4) A3 (Dm _ _ _ hv4) (.inr W) (bs h fun _ hv5 h=>sd W (E7 W W hv5 W)<|sv W<|sd W (H8 W hv5 W)<|sv W<|A1<|B7 ?_))
 cases h
 exact A9 (.inr W) (C0 (B8 W) C6) (.refl _)
def T0 [Lp](p1:WorldScene)(x1:(Int× (List Stay)))(v1:Agent)(x2:(Int× (List Stay))):Option (Stp (Int× (List Stay)) (List Stay)):=
  cond (decide (x2.1< (p1.m.Zones.length:Int))) ((O0 (WorldScene.mk p1.m p1.before (State.mk p1.after.Tick p1.after.Agents x2.2) p1.acts p1.crashes) x1.1 x2.1).bind fun v2=>cond (!v2) (some (.go ((J6 (x2.1+1)),x2.2))) ((D5 p1.before.In (Stay.mk x1.1 x2.1 p1.before.Tick 0)).bind fun v3=>(cond v3.2 ((F2 p1.before.In v3.1).bind fun v4=>some v4) ((Hu p1.m v1 x2.1 p1.before.Tick).bind fun v5=>some (Stay.mk x1.1 x2.1 p1.before.Tick v5))).bind fun y2=>(Y4 x2.2 [y2]).bind fun v6=>some (.go ((J6 (x2.1+1)),v6)))) (some (.out x2.2))
def T1 [Lp](p1:WorldScene)(x1:(Int× (List Stay))):Option (Stp (Int× (List Stay)) WorldScene):=
  cond (decide (x1.1< (p1.before.Agents.length:Int))) ((F2 p1.before.Agents x1.1).bind fun v1=>(loop (T0 p1 x1 v1) (0,x1.2)).bind fun y1=>some (.go ((J6 (x1.1+1)),y1))) (some (.out ((WorldScene.mk p1.m p1.before (State.mk p1.after.Tick p1.after.Agents x1.2) p1.acts p1.crashes))))
def X3 [Lp](p1:WorldScene):Option WorldScene:=
  loop (T1 p1) (0,[])
theorem Qq(p1 r)(h:X3 p1=some r):MCall prog 80 [(.ptr (900000,0) 0)] [(.box 135 (R8 p1))] (.d (.tup [])) [some (.box 135 (R8 r))] []:=by
 refine Fv (fk func80 ntmps80 (fun r=>if r==13 then [1007]else []) (by with_unfolding_all rfl)) W (nl W) ?_
 unfold X3 at h
 refine B6 (s0:=⟨T [(0,(.ptr _ _))],G [((900000,0),some<|.box 135 _)]⟩) (G0 W W) ?_
 refine B3<|sq W<|sp W W<|sq W<|sp W W<|T6 W A2 ((R8 p1).set 10 (.d .nilS)) W (A1<|B3<|sq W<|sp W W<|sq W<|sp W W<|sl W A2 W<|sd W (E3 W)<|sv W<|A1<|A7<|D7 (T1 p1) (fun (x1:(Int× (List Stay))) (g1:Nat)=>⟨T [(0,(.ptr (900000,0) 0)),(16,(dl C4 p1.before.Agents)),(17,(di (p1.before.Agents.length:Int))),(18,(di x1.1))],G [((900000,0),some<|.box 135 ((R8 p1).set 10 (oS x1.2 (85,g1)))),((85,g1),oB 127 4 F8 x1.2)]⟩) (0,[]) 0 _ h (D0 (S5 W)<|A8 A2 (.of W)<|Y5 trivial) ?_)
 intro x1 g1 z1 hz1 ez1
 unfold T1 at hz1
 refine B3<|sv W<|A1<|A6<|cc W hz1 (fun c1 hz1=> ?_)<|fun c1 hz1=> ?_
 refine B0<|A6<|A7<|lr<|fun u4 _=>sv W<|bs hz1 fun v1 hv1 hz1=>sd W (E7 W W hv1 W)<|sd W (E6 W hv1 W W)<|sm W<|sv W<|T6 W A2 (M5 v1) W (A1<|B3<|sq W<|sp W W<|sq W<|sp W W<|sl W (gq W) W (sd W (E3 W)<|sv W<|A1<|bs hz1 fun y1 hy1 hz1=>D3 (fun s=> ∃g2:Nat,Sb ⟨T [(0,(.ptr (900000,0) 0)),(16,(dl C4 p1.before.Agents)),(17,(di (p1.before.Agents.length:Int))),(18,(di x1.1))],G [((900000,0),some<|.box 135 ((R8 p1).set 10 (oS y1 (85,g2)))),((85,g2),oB 127 4 F8 y1)]⟩ s) ?_ ?_))
 refine A7<|D7 (T0 p1 x1 v1) (fun (x2:(Int× (List Stay))) (g3:Nat)=>⟨T [(0,(.ptr (900000,0) 0)),(2,(di x1.1)),(3,(.ptr (3,u4) 0)),(16,(dl C4 p1.before.Agents)),(17,(di (p1.before.Agents.length:Int))),(18,(di x1.1)),(28,(di (p1.m.Zones.length:Int))),(29,(di x2.1))],G [((900000,0),some<|.box 135 ((R8 p1).set 10 (oS x2.2 (85,g3)))),((3,u4),some<|.box 45 (M5 v1)),((85,g3),oB 127 4 F8 x2.2)]⟩) (0,x1.2) g1 _ hy1 (D0 (S5 W)<|sg W<|A8 A2 (.of W)<|B4 (gq W) trivial) ?_
 intro x2 g3 z2 hz2 ez2
 unfold T0 at hz2
 refine B3<|sv W<|A1<|A6<|cc W hz2 (fun c2 hz2=> ?_)<|fun c2 hz2=> ?_
 refine B0<|A6<|A7<|B3<|sv W<|sv W<|A1<|A6<|B3<|sq W<|sv W<|sv W<|bs hz2 fun v2 hv2 hz2=>B9 W (D4 (Y0 A2<|rD<|rD<|rD<|rD<|rD<|rD<|rD<|rD<|rD<|rD<|D4 (U8<|gq W)<|rD<|rD E4)<|rD<|rD E4) (.cons (DLe.bp<|ca W<|ca W<|ca W<|ca W<|ca W<|ca W<|ca W<|ca W<|ca W<|ca W<|.cons ⟨U7,W⟩ (cz W)) (.cons (.refl _) A3)) (Y8 _ _ _ _ hv2) (.inr W) (C2 (.d (bo (!v2))) W W (A1<|cc W hz2 (fun c3 hz2=> ?_)<|fun c3 hz2=> ?_))
 refine Uw W<|C3<|sv W<|sv W<|A1<|E0 ?_
 cases hz2
 exact ⟨W,g3,(D0 (S5 W)<|A8 A2 (.of W)<|sg W<|B4 (gq W) trivial)⟩
 refine B0<|lr<|fun u10 _=>sv W<|sv W<|sq W<|sp W W<|sq W<|sp W W<|sl W A2 W<|sv W<|sm W<|T6 W A2 [(di x1.1),(di x2.1),(di p1.before.Tick),(di 0)] W (A1<|A6<|A6<|K6 W<|sq W<|sq W<|sp W W<|sq W<|sl W (gq W) W (sd W (C1 W A2 W W)<|bs hz2 fun _ hv3 hz2=>B9 W W A3 (N1 _ _ _ hv3) (.inl W) (sv W<|sv W<|sv W<|sv W<|sv W<|A1<|B3<|sv W<|A1<|bs hz2 fun y2 hy2 hz2=>D3 (fun s=> ∃g4:Unit,Sb ⟨T [(0,(.ptr (900000,0) 0)),(2,(di x1.1)),(3,(.ptr (3,u4) 0)),(5,(.ptr (5,u10) 0)),(16,(dl C4 p1.before.Agents)),(17,(di (p1.before.Agents.length:Int))),(18,(di x1.1)),(28,(di (p1.m.Zones.length:Int))),(29,(di x2.1))],G [((900000,0),some<|.box 135 ((R8 p1).set 10 (oS x2.2 (85,g3)))),((3,u4),some<|.box 45 (M5 v1)),((5,u10),some<|.box 127 (Si y2)),((85,g3),oB 127 4 F8 x2.2)]⟩ s) ?_ ?_)))
 refine cc W hy2 (fun c4 hy2=> ?_)<|fun c4 hy2=> ?_
 refine C3<|sq W<|sq W<|sp W W<|sq W<|sl W (gq W) W (sv W<|bs hy2 fun v4 hv4 hy2=>sd W (E7 W W hv4 W)<|sd W (E6 W hv4 W W)<|T6 W A2 (Si v4) W (A1 ?_))
 obtain rfl:=(lC hy2)
 exact U6 ⟨(),(D0 (S5 W)<|sg W<|sg W<|A8 A2 (.of W)<|B4 (gq W) trivial)⟩
 refine K6 W<|sq W<|sq W<|sp W W<|sd W (C1 W (gq W) W W)<|sd W (C1 W (gq W) W W)<|sv W<|sq W<|sp W W<|sq W<|sp W W<|sl W (gq W) W (bs hy2 fun v5 hv5 hy2=>B9 W W A3 (Uh _ _ _ _ _ hv5) (.inl W) (sq W<|T6 W A2 [(di x1.1),(di x2.1),(di p1.before.Tick),(di v5)] W (A1 ?_)))
 cases hy2
 exact U6 ⟨(),(D0 (S5 W)<|sg W<|sg W<|A8 A2 (.of W)<|B4 (gq W) trivial)⟩
 rintro _ ⟨g4,q1⟩
 refine B6 q1<|Na W fun u15 _=>sq W<|sq W<|sp W W<|sq W<|sp W W<|C2 (oS x2.2 (85,g3)) W (O8 W A2 W) (sd W (C1 W (gq W) W W)<|C2 (dl F8 [y2]) W W (bs hz2 fun _ hv6 hz2=>P1 F8 (85,g3) x2.2 y2 [] _ (J9<|fun _=>W) W (gq W) hv6 (sq W<|sp W W<|sq W<|T6 W (gq W) ((R8 p1).set 10 (.sl (85,u15))) W (A1<|E5<|C3<|sv W<|sv W<|A1<|E0 ?_))))
 cases hz2
 exact ⟨W,u15,(D0 (S5 W)<|A8 A2 (.box (cv<|cv<|cv<|cv<|cv<|cv<|cv<|cv<|cv<|cv<|.cons (.of (Ap<|S7 hv6).symm) cw))<|sg W<|U5 (gq W) trivial)⟩
 refine D1 W ?_
 cases hz2
 obtain rfl:=ez2 _ rfl
 refine ⟨nofun,C5 W<|U6 ?_⟩
 exact ⟨g3,(D0 (S5 W)<|A8 A2 (.of W)<|B4 (gq W) trivial)⟩
 rintro _ ⟨g2,q2⟩
 refine E5<|B6 q2<|C3<|sv W<|sv W<|A1<|E0 ?_
 cases hz1
 exact ⟨W,g2,(D0 (S5 W)<|A8 A2 (.of W)<|B4 (gq W) trivial)⟩
 refine D1 W ?_
 cases hz1
 obtain rfl:=ez1 _ rfl
 refine ⟨nofun,C5 W<|E0 ?_⟩
 exact Fd (.inl W) [(85,g1)] Ux (.refl _) ⟨⟨_,_,_,A2,(DL W N6),(rD<|rD<|rD<|rD<|rD<|rD<|rD<|rD<|rD<|rD<|D4 (U8<|AP (.head _)<|gq W)<|rD<|rD E4),(.cons (.refl _) (.cons (.refl _) (.cons (.refl _) (.cons (.refl _) (.cons (.refl _) (.cons (.refl _) (.cons (.refl _) (.cons (.refl _) (.cons (.refl _) (.cons (.refl _) (.cons U7 (.cons (.refl _) A3)))))))))))),W⟩,trivial⟩
def Xg (s:State)(i:Nat):Nat→Nat→Option (List (Int×Int))
  |0,_=>some []
  |k+1,j=>(Ii s i).bind fun a=>(Ii s j).bind fun b=>(Xg s i k (j+1)).bind fun l=>some (cond (a&&b) (((i:Int),(j:Int))::l) l)
def BA (s:State)(n:Nat):Nat→Nat→Option (List (Int×Int))
  |0,_=>some []
  |k+1,i=>(Xg s i (n - (i+1)) (i+1)).bind fun a=>(BA s n k (i+1)).bind fun b=>some (a++b)
def FJ (s:State):Option (List (Int×Int)):=if s.Agents.length≤1000000 then BA s s.Agents.length s.Agents.length 0 else none
abbrev BB (a:Int×Int):List D:= [i64 a.1,i64 a.2]
def Qr (kb ks:D6)(s:State)(h:D2):Prop:=h kb=some (.box 133 [.ptr ks 0])∧∃c0 c1 c2 c3 c4 c8 c9 c10 c11 c12,h ks=some (.box 135 [c0,c1,c2,c3,c4, .d (i64 s.Tick), .d (.list (List.map C4 s.Agents)), .d (.list (List.map F8 s.In)),c8,c9,c10,c11,c12])
theorem BC {s:State}{L:List (Int×Int)}(h:FJ s=some L)(kb ks:D6):YA prog (.fn (.func 174) [] [.ptr kb 0]) (Qr kb ks s) (L.map BB):=by
  unfold FJ at h
  split at h
  case isFalse=>cases h
  rename_i hlen
  refine ⟨174,[],[.ptr kb 0],W,?_⟩
  intro k h0 Inv Stop hi0 hcan hy
  refine AD (fk func174 ntmps174 (fun r=>if r==6 then [18]else []) (by with_unfolding_all rfl)) (by simp) (VR ?_)
  obtain ⟨g0,S0,i0,c0⟩:=hcan 0 h0 hi0
  have hLm:(L.map BB).length=L.length:=lQ ..
  rw [hLm]
  refine B6 (s0:=⟨T [(0, .yld k),(1, .ptr kb 0)],g0⟩) ⟨fun i=> ?_,S0.h⟩ ?_
  ·match i with
   |0=>exact .refl _
   |1=>exact .refl _
   |n+2=>exact .any _
  have c0':=c0
  obtain ⟨e1,a0,a1,a2,a3,a4,a8,a9,a10,a11,a12,e2⟩:=c0'
  refine A6 ?_
  refine Ow fun u hu=> ?_
  refine E2 (.ptr ks 0) W (O8 W e1 W) ?_
  refine E2 (.ptr ks 0) W W ?_
  refine E2 (.ptr ks 5) W W ?_
  refine E2 (.ptr ks 6) W W ?_
  refine E2 (.d (.list (List.map C4 s.Agents))) W (O8 W e2 W) ?_
  refine E2 (.d (i64 s.Agents.length)) W (E3 (f:=C4) W) ?_
  refine E2 (.d (i64 0)) W W ?_
  refine X9 ?_
  refine A7 ?_
  refine MT (α:=Nat×Nat×D2) (fun x=>⟨T [(0, .yld k),(1, .ptr kb 0),(10, .d (i64 s.Agents.length)),(11, .d (i64 (x.1:Int)))],x.2.2⟩) (fun x=>s.Agents.length - x.1)
    (fun x=>Inv x.2.1 x.2.2∧Qr kb ks s x.2.2∧x.1≤s.Agents.length∧x.2.1≤L.length∧BA s s.Agents.length (s.Agents.length - x.1) x.1=some (L.drop x.2.1)) (0,0,g0) ⟨i0,c0,bL _,bL _,h⟩ (Ry ⟨rfl,rfl,rfl,rfl,trivial⟩ fun _ _ h=>h) ?_
  rintro ⟨i,pos,hh⟩ ⟨hinv,hrq,hi,hpos,hgo⟩
  dsimp only at hinv hrq hi hpos hgo ⊢
  refine A6 ?_
  refine Ow fun u hu=> ?_
  refine E2 (.d (bo<|decide ((i:Int)< (s.Agents.length:Int)))) W W ?_
  refine X9 ?_
  refine A6 ?_
  refine KN (decide ((i:Int)< (s.Agents.length:Int))) W (fun hlt=> ?_) (fun hlt=> ?_)
  ·refine B0 ?_
   have hlt:i<s.Agents.length:=by simpa using hlt
   have hw1: ∀n:Nat,n≤1000000→IntKind.i64.wrap ((n:Int)+1)=((n+1:Nat):Int):=fun n _=>(Go.IntWalk.i64_in _ (by omega)).trans (by omega)
   obtain ⟨m,hm⟩: ∃m,s.Agents.length - i=m+1:=⟨s.Agents.length - i - 1,by omega⟩
   rw [hm,BA]at hgo
   obtain ⟨l1,hl1,hgo⟩:=bind_some hgo
   obtain ⟨l2,hl2,hgo⟩:=bind_some hgo
   have hgo:l1++l2=L.drop pos:=lC hgo
   refine A6 ?_
   refine A7 ?_
   refine A6 ?_
   refine Ow fun u hu=> ?_
   refine E2 (.d (i64 i)) W W ?_
   refine E2 (.d (i64 i)) W W ?_
   refine X9 ?_
   refine A6 ?_
   refine Ow fun u hu=> ?_
   refine E2 (.d (i64 i)) W W ?_
   refine E2 (.d (i64 ((i+1:Nat):Int))) W (by rw [← hw1 i (by omega)];rfl) ?_
   refine E2 (.d (i64 ((i+1:Nat):Int))) W W ?_
   refine X9 ?_
   refine A7 ?_
   refine MT (α:=Nat×Nat×D2) (fun x=>⟨T [(0, .yld k),(1, .ptr kb 0),(3, .d (i64 (i:Int))),(4, .d (i64 (x.1:Int))),(10, .d (i64 s.Agents.length)),(11, .d (i64 (i:Int)))],x.2.2⟩) (fun x=>s.Agents.length - x.1)
     (fun x=>Inv x.2.1 x.2.2∧Qr kb ks s x.2.2∧x.1≤s.Agents.length∧x.2.1≤L.length∧∃l,Xg s i (s.Agents.length - x.1) x.1=some l∧l++l2=L.drop x.2.1) (i+1,pos,hh) ⟨hinv,hrq,hlt,hpos,l1,hl1,hgo⟩ (Ry ⟨rfl,rfl,rfl,rfl,rfl,rfl,trivial⟩ fun _ _ h=>h) ?_
   rintro ⟨j,pos,hh⟩ ⟨hinv,hrq,hj,hpos,l,hl,hgo⟩
   dsimp only at hinv hrq hj hpos hl hgo ⊢
   have hrq':=hrq
   obtain ⟨e1,a0,a1,a2,a3,a4,a8,a9,a10,a11,a12,e2⟩:=hrq'
   refine A6 ?_
   refine A6 ?_
   refine Ow fun u hu=> ?_
   refine E2 (.d (i64 j)) W W ?_
   refine E2 (.ptr ks 0) W (O8 W e1 W) ?_
   refine E2 (.ptr ks 0) W W ?_
   refine E2 (.ptr ks 5) W W ?_
   refine E2 (.ptr ks 6) W W ?_
   refine E2 (.d (.list (List.map C4 s.Agents))) W (O8 W e2 W) ?_
   refine E2 (.d (i64 s.Agents.length)) W (E3 (f:=C4) W) ?_
   refine E2 (.d (bo<|decide ((j:Int)< (s.Agents.length:Int)))) W W ?_
   refine X9 ?_
   refine KN (decide ((j:Int)< (s.Agents.length:Int))) W (fun hjl=> ?_) (fun hjl=> ?_)
   ·refine B0 ?_
    have hjl:j<s.Agents.length:=by simpa using hjl
    obtain ⟨m',hm'⟩: ∃m',s.Agents.length - j=m'+1:=⟨s.Agents.length - j - 1,by omega⟩
    rw [hm',Xg]at hl
    obtain ⟨a,ha,hl⟩:=bind_some hl
    obtain ⟨b,hb,hl⟩:=bind_some hl
    obtain ⟨l',hl',hl⟩:=bind_some hl
    have hl:cond (a&&b) (((i:Int),(j:Int))::l') l'=l:=lC hl
    have hm1:s.Agents.length - (j+1)=m':=by omega
    -- what a round leaves
    have hend: ∀(p':Nat) (h':D2),Inv p' h'→Qr kb ks s h'→p'≤L.length→l'++l2=L.drop p'→∃y:Nat×Nat×D2,(Inv y.2.1 y.2.2∧Qr kb ks s y.2.2∧y.1≤s.Agents.length∧y.2.1≤L.length∧∃l,Xg s i (s.Agents.length - y.1) y.1=some l∧l++l2=L.drop y.2.1)∧s.Agents.length - y.1<s.Agents.length - j∧y=(j+1,p',h'):=fun p' h' q1 q2 q3 q4=>⟨(j+1,p',h'),⟨q1,q2,hjl,q3,l',by dsimp only;rw [hm1];exact hl',q4⟩,by dsimp only;omega,rfl⟩
    refine A6 ?_
    refine A7 ?_
    refine A6 ?_
    refine Ow fun u hu=> ?_
    refine E2 (.ptr ks 0) W (O8 W e1 W) ?_
    refine E2 (.ptr ks 0) W W ?_
    refine E2 (.ptr ks 5) W W ?_
    refine E2 (.d (.agg [i64 s.Tick, .list (List.map C4 s.Agents), .list (List.map F8 s.In)])) W (C1 W e2 W W) ?_
    refine E2 (.d (i64 i)) W W ?_
    refine Th W W (Ix s i _ ha) (.inl W) ?_
    refine E2 (.d (bo a)) W W ?_
    cases a with
    |false=>
     iterate 6 (refine KW rfl rfl ?_)
     refine E2 (.d (bo false)) W W ?_
     refine E2 (.d (bo false)) W W ?_
     iterate 5 (refine KW rfl rfl ?_)
     refine E2 (.d (bo false)) W W ?_
     refine X9 ?_
     refine Oh W<|B0<|E5 ?_
     refine Ow fun u hu=> ?_
     refine E2 (.d (i64 j)) W W ?_
     refine E2 (.d (i64 ((j+1:Nat):Int))) W (by rw [← hw1 j (by omega)];rfl) ?_
     refine E2 (.d (i64 ((j+1:Nat):Int))) W W ?_
     refine X9 ?_
     obtain ⟨y,y1,y2,rfl⟩:=hend pos hh hinv hrq hpos (by rw [← hgo,← hl];rfl)
     exact E0 ⟨_,y1,y2,Ry ⟨W,W,W,W,W,W,trivial⟩ fun _ _ h=>h⟩
    |true=>
     refine Qx W ?_
     refine E2 (.ptr ks 0) W (O8 W e1 W) ?_
     refine Qx W ?_
     refine E2 (.ptr ks 0) W W ?_
     refine Qx W ?_
     refine E2 (.ptr ks 5) W W ?_
     refine Qx W ?_
     refine E2 (.d (.agg [i64 s.Tick, .list (List.map C4 s.Agents), .list (List.map F8 s.In)])) W (C1 W e2 W W) ?_
     refine Qx W ?_
     refine E2 (.d (i64 j)) W W ?_
     refine Qx W ?_
     refine Th W W (Ix s j _ hb) (.inl W) ?_
     refine E2 (.d (bo b)) W W ?_
     refine E2 (.d (bo b)) W W ?_
     cases b with
     |false=>
      iterate 5 (refine KW rfl rfl ?_)
      refine E2 (.d (bo false)) W W ?_
      refine X9 ?_
      refine Oh W<|B0<|E5 ?_
      refine Ow fun u hu=> ?_
      refine E2 (.d (i64 j)) W W ?_
      refine E2 (.d (i64 ((j+1:Nat):Int))) W (by rw [← hw1 j (by omega)];rfl) ?_
      refine E2 (.d (i64 ((j+1:Nat):Int))) W W ?_
      refine X9 ?_
      obtain ⟨y,y1,y2,rfl⟩:=hend pos hh hinv hrq hpos (by rw [← hgo,← hl];rfl)
      exact E0 ⟨_,y1,y2,Ry ⟨W,W,W,W,W,W,trivial⟩ fun _ _ h=>h⟩
     |true=>
      have hcons:((i:Int),(j:Int))::(l'++l2)=L.drop pos:=by rw [← hgo,← hl];rfl
      have hLi:(L.map BB)[pos]? =some (BB ((i:Int),(j:Int))):=by
        have:=congrArg (fun z=>z[0]?) hcons
        rw [lI]
        simp at this
        rw [← this];rfl
      have hLd:L.drop (pos+1)=l'++l2:=by
        have:=congrArg (fun z=>z.drop 1) hcons
        simpa using this.symm
      have hplt:pos+1≤L.length:=by
        have:=congrArg List.length hcons
        simp at this
        omega
      refine Qx W ?_
      refine E2 (.yld k) W W ?_
      refine Qx W ?_
      refine E2 (.d (i64 i)) W W ?_
      refine Qx W ?_
      refine E2 (.d (i64 j)) W W ?_
      refine Qx W ?_
      refine OU k ((BB ((i:Int),(j:Int))).map .d) W W ?_
      refine (hy pos hh _ hLi hinv).mono ?_
      rintro v' h' (⟨rfl,hin⟩|⟨rfl,hst⟩)
      ·obtain ⟨h1,S1,i1,q1⟩:=hcan _ _ hin
       refine ⟨h1,S1,fun u4 hu4=> ?_⟩
       refine Qx W ?_
       refine E2 (.d (bo false)) W W ?_
       refine E2 (.d (bo false)) W W ?_
       refine X9 ?_
       refine Oh W<|B0<|E5 ?_
       refine Ow fun u hu=> ?_
       refine E2 (.d (i64 j)) W W ?_
       refine E2 (.d (i64 ((j+1:Nat):Int))) W (by rw [← hw1 j (by omega)];rfl) ?_
       refine E2 (.d (i64 ((j+1:Nat):Int))) W W ?_
       refine X9 ?_
       obtain ⟨y,y1,y2,rfl⟩:=hend (pos+1) h1 i1 q1 hplt hLd.symm
       exact E0 ⟨_,y1,y2,Ry ⟨W,W,W,W,W,W,trivial⟩ fun _ _ h=>h⟩
      ·refine ⟨h',Sb.refl _,fun u4 hu4=> ?_⟩
       refine Qx W ?_
       refine E2 (.d (bo true)) W W ?_
       refine E2 (.d (bo true)) W W ?_
       refine X9 ?_
       refine Ti W ?_
       refine B7<|G4<|G4 ?_
       exact ⟨Or.inr W,AV.tup [],W,Or.inr hst⟩
   ·refine D1 rfl ?_
    have hjn:j=s.Agents.length:=by
      have: ¬((j:Int)< (s.Agents.length:Int)):=by simpa using hjl
      omega
    subst hjn
    rw [Nat.sub_self,Xg]at hl
    cases hl
    refine C5 (r':= [.b 1, .c _]) W (E5 ?_)
    refine Ow fun u hu=> ?_
    refine E2 (.d (i64 ((i+1:Nat):Int))) W (by rw [← hw1 i (by omega)];rfl) ?_
    refine E2 (.d (i64 ((i+1:Nat):Int))) W W ?_
    refine X9 ?_
    refine E0 ⟨(i+1,pos,hh),⟨hinv,hrq,hlt,hpos,?_⟩,by dsimp only;omega,Ry ⟨rfl,rfl,rfl,rfl,trivial⟩ fun _ _ h=>h⟩
    dsimp only
    rw [show s.Agents.length - (i+1)=m by omega,hl2]
    exact congrArg some hgo
  ·refine D1 rfl ?_
   have hin:i=s.Agents.length:=by
     have: ¬((i:Int)< (s.Agents.length:Int)):=by simpa using hlt
     omega
   subst hin
   rw [Nat.sub_self,BA]at hgo
   have h1:L.drop pos= []:=(lC hgo).symm
   have h2:=List.drop_eq_nil_iff.1 h1
   have h3:pos=L.length:=by omega
   subst h3
   refine C5 (r':= []) W (E0 ?_)
   exact ⟨.inl W,AV.tup [],W, .inl hinv⟩
def Bn (p1:WorldSpan)(p2:Int):Option WorldSpan:=
  some (WorldSpan.mk (J6 (p1.from_ - p2)) (J6 (p1.to - p2)))
theorem Dx(p1 p2 r)(h:Bn p1 p2=some r):PCall prog 141 [(.agg [(i64 p1.from_),(i64 p1.to)]),(i64 p2)] (.agg [(i64 r.from_),(i64 r.to)]):=by
 refine C7 (fk func141 ntmps141 m0 (by with_unfolding_all rfl)) (nl W) ?_
 unfold Bn at h
 refine B6 (s0:=⟨T [(0,(.d _)),(1,(.d _))],G []⟩) (G0 W W) ?_
 refine B3<|sm W<|sn W W<|A1<|B3<|sq W<|sl W (gq W) W (sv W<|sv W<|sq W<|sl W (gq W) W (sv W<|sv W<|sv W<|T6 W A2 [(di<|J6 (p1.from_ - p2)),(di<|J6 (p1.to - p2))] W (A1<|B7 ?_)))
 cases h
 exact A9 (.inr W) (C0 (K7 W A2 (nl W) W) C6) (.refl _)
def Ca [Lp](p1:Map)(p2:Int):Option Int:=
  (Ks p1 p2).bind fun v1=>cond (!v1) (some 0) ((Dt p1 p2).bind fun v2=>some v2)
theorem Li(p1 p2 r)(h:Ca p1 p2=some r):PCall prog 143 [(.agg (Y6 p1)),(i64 p2)] (i64 r):=by
 refine C7 (fk func143 ntmps143 m0 (by with_unfolding_all rfl)) (nl W) ?_
 unfold Ca at h
 refine B6 (s0:=⟨T [(0,(.d _)),(1,(.d _))],G []⟩) (G0 W W) ?_
 refine B3<|sm W<|sv W<|A1<|A6<|B3<|sd W (C1 W A2 W W)<|sv W<|bs h fun v1 hv1 h=>B9 W W A3 (Ss _ _ _ hv1) (.inl W) (C2 (.d (bo (!v1))) W W (A1<|cc W h (fun c1 h=> ?_)<|fun c1 h=> ?_))
 refine B3<|sv W<|A1<|B7 ?_
 cases h
 exact A9 (.inr W) (C0 (B8 W) C6) (.refl _)
 refine B0<|B3<|sd W (C1 W A2 W W)<|sv W<|bs h fun _ hv2 h=>B9 W W A3 (Kf _ _ _ hv2) (.inl W) (sv W<|A1<|B7 ?_)
 cases h
 exact A9 (.inr W) (C0 (B8 W) C6) (.refl _)
def Iy (p1:WorldSpan)(p2:WorldSpan):Option WorldSpan:=
  some (WorldSpan.mk (BT true p1.from_ p2.from_) (BT false p1.to p2.to))
theorem Om(p1 p2 r)(h:Iy p1 p2=some r):PCall prog 142 [(.agg [(i64 p1.from_),(i64 p1.to)]),(.agg [(i64 p2.from_),(i64 p2.to)])] (.agg [(i64 r.from_),(i64 r.to)]):=by
 refine C7 (fk func142 ntmps142 m0 (by with_unfolding_all rfl)) (nl W) ?_
 unfold Iy at h
 refine B6 (s0:=⟨T [(0,(.d _)),(1,(.d _))],G []⟩) (G0 W W) ?_
 refine B3<|sm W<|sn W W<|sm W<|A1<|B3<|sq W<|sl W (gq W) W (sq W<|sl W (gq W) W (sv W<|sq W<|sl W (gq W) W (sq W<|sl W (gq W) W (sv W<|sv W<|T6 W A2 [(di<|BT true p1.from_ p2.from_),(di<|BT false p1.to p2.to)] W (A1<|B7 ?_)))))
 cases h
 exact A9 (.inr W) (C0 (K7 W A2 (nl W) W) C6) (.refl _)
def Gb (p1:WorldSpan):Option Bool:=
  some (decide (p1.from_>p1.to))
theorem Md(p1 r)(h:Gb p1=some r):PCall prog 144 [(.agg [(i64 p1.from_),(i64 p1.to)])] (bo r):=by
 refine C7 (fk func144 ntmps144 m0 (by with_unfolding_all rfl)) (nl W) ?_
 unfold Gb at h
 refine B6 (s0:=⟨T [(0,(.d _))],G []⟩) (G0 W W) ?_
 refine B3<|sm W<|sv W<|A1<|B3<|sq W<|sl W A2 W<|sq W<|sl W A2 W<|sv W<|sv W<|A1<|B7 ?_
 cases h
 exact A9 (.inr W) (C0 (B8 W) C6) (.refl _)
def Ej [Lp](p1:Map)(p2:Agent)(v2:(List Int))(x1:((List Span)×Int)):Option (Stp ((List Span)×Int) (List Span)):=
  cond (decide (x1.2< (v2.length:Int))) ((F2 v2 x1.2).bind fun v3=>(F2 p2.Route x1.2).bind fun v4=>(Fh p2).bind fun v5=>(Bn v5 v3).bind fun v6=>(Ca p1 v4).bind fun v7=>(Iy v6 (WorldSpan.mk 0 v7)).bind fun v8=>(Gb v8).bind fun v9=>cond (!v9) ((Y4 x1.1 [(Span.mk v4 v8.from_ v8.to)]).bind fun v10=>some (.go (v10,(J6 (x1.2+1))))) (some (.go (x1.1,(J6 (x1.2+1)))))) (some (.out x1.1))
def Hv [Lp](p1:Map)(p2:Agent):Option (List Span):=
  (Nk p2).bind fun v1=>cond (!v1) (some []) ((Bx p1 p2.Route).bind fun v2=>(loop (Ej p1 p2 v2) ([],0)).bind fun y1=>some y1)
theorem Ui(p1 p2 r)(h:Hv p1 p2=some r):PCall prog 67 [(.agg (Y6 p1)),(.agg (C4 p2))] (.list (List.map Gj r)):=by
 refine C7 (fk func67 ntmps67 (fun r=>if r==10 then [1007]else []) (by with_unfolding_all rfl)) (nl W) ?_
 unfold Hv at h
 refine B6 (s0:=⟨T [(0,(.d _)),(1,(.d _))],G []⟩) (G0 W W) ?_
 refine lr<|fun u1 _=>sm W<|sm W<|sv W<|A1<|A6<|B3<|sd W (C1 W A2 W W)<|bs h fun v1 hv1 h=>B9 W W A3 (Pd _ _ hv1) (.inl W) (C2 (.d (bo (!v1))) W W (A1<|cc W h (fun c1 h=> ?_)<|fun c1 h=> ?_))
 refine B3<|sv W<|A1<|B7 ?_
 cases h
 exact A9 (.inr W) (C0 (B8 W) C6) DLe.nil
 refine B0<|B3<|sv W<|A1<|A6<|B3<|sd W (C1 W (gq W) W W)<|sq W<|sl W A2 W<|bs h fun v2 hv2 h=>B9 W W A3 (Lf _ _ _ hv2) (.inl W) (sd W (E3 W)<|sv W<|A1<|bs h fun y1 hy1 h=>D3 (fun s=> ∃g1:Nat,Sb ⟨T [(5,(oS y1 (48,g1)))],G [((48,g1),oB 93 3 Gj y1)]⟩ s) ?_ ?_)
 refine A7<|D7 (Ej p1 p2 v2) (fun (x1:((List Span)×Int)) (g2:Nat)=>⟨T [(2,(.ptr (2,u1) 0)),(3,(.ptr (3,u1) 0)),(5,(oS x1.1 (48,g2))),(16,(dl A4 v2)),(17,(di (v2.length:Int))),(18,(di x1.2))],G [((2,u1),some<|.box 33 (Q9 p1)),((3,u1),some<|.box 45 (M5 p2)),((48,g2),oB 93 3 Gj x1.1)]⟩) ([],0) 0 _ hy1 (D0 (S5 W)<|sg W<|A8 A2 (.of W)<|Y5 trivial) ?_
 intro x1 g2 z1 hz1 ez1
 unfold Ej at hz1
 refine B3<|sv W<|A1<|A6<|cc W hz1 (fun c2 hz1=> ?_)<|fun c2 hz1=> ?_
 refine B0<|A6<|A7<|B3<|sv W<|bs hz1 fun _ hv3 hz1=>sd W (E7 W W hv3 W)<|sd W (H8 W hv3 W)<|sv W<|sv W<|A1<|B3<|sq W<|sl W (gq W) W (sv W<|bs hz1 fun v4 hv4 hz1=>sd W (E7 W W hv4 W)<|sd W (H8 W hv4 W)<|sv W<|A1<|A6<|K6 W<|sd W (C1 W (gq W) W W)<|bs hz1 fun _ hv5 hz1=>B9 W W A3 (Eh _ _ hv5) (.inl W) (sv W<|bs hz1 fun _ hv6 hz1=>B9 W W A3 (Dx _ _ _ hv6) (.inl W) (sd W (C1 W A2 W W)<|sv W<|bs hz1 fun _ hv7 hz1=>B9 W W A3 (Li _ _ _ hv7) (.inl W) (sv W<|bs hz1 fun v8 hv8 hz1=>B9 W W A3 (Om _ _ _ hv8) (.inl W) (sm W<|T6 W A2 [(di v8.from_),(di v8.to)] W (A1<|B3<|sd W (C1 W A2 W W)<|bs hz1 fun v9 hv9 hz1=>B9 W W A3 (Md _ _ hv9) (.inl W) (C2 (.d (bo (!v9))) W W (A1<|cc W hz1 (fun c3 hz1=> ?_)<|fun c3 hz1=> ?_))))))))
 refine Ag fun u11 _=>C2 (oS x1.1 (48,g2)) W W (sv W<|sq W<|sl W A2 W<|sq W<|sl W A2 W<|sv W<|C2 (dl Gj [(Span.mk v4 v8.from_ v8.to)]) W W (bs hz1 fun _ hv10 hz1=>P1 Gj (48,g2) x1.1 (Span.mk v4 v8.from_ v8.to) [] _ (J9<|fun _=>W) W (gq W) hv10 (ss W<|A1<|E5<|C3<|sv W<|sv W<|A1<|E0 ?_)))
 cases hz1
 exact ⟨W,u11,(D0 ⟨.of W, .of W,(.of (Ap<|S7 hv10).symm), .of W, .of W, .of W,trivial⟩<|sg W<|sg W<|U5 A2 trivial)⟩
 refine B0<|E5<|C3<|sv W<|sv W<|A1<|E0 ?_
 cases hz1
 exact ⟨W,g2,(D0 (S5 W)<|sg W<|sg W<|B4 (gq W) trivial)⟩
 refine D1 W ?_
 cases hz1
 obtain rfl:=ez1 _ rfl
 refine ⟨nofun,C5 W<|U6 ?_⟩
 exact ⟨g2,(D0 ⟨.of W,trivial⟩<|B4 (gq W) trivial)⟩
 rintro _ ⟨g1,q1⟩
 refine B6 q1<|B3<|C2 (oS y1 (48,g1)) W W (C2 (oS y1 (48,g1)) W W (A1<|B7 ?_))
 cases h
 exact A9 (.inr W) (C0 (B8 W)<|U8 A2) U7
def Fk (p1:Span)(p2:Span):Option Bool:=
  ((cond (p2.Lane_==p1.Lane_) (Iy (WorldSpan.mk p2.From p2.To) (WorldSpan.mk p1.From p1.To)) (some default))).bind fun v1=>((cond (p2.Lane_==p1.Lane_) (Gb v1) (some default))).bind fun v2=>some ((p2.Lane_==p1.Lane_)&& (!v2))
theorem Pu(p1 p2 r)(h:Fk p1 p2=some r):PCall prog 147 [(.agg (Gj p1)),(.bp (Gj p2) 0)] (bo r):=by
 refine C7 (fk func147 ntmps147 m0 (by with_unfolding_all rfl)) (nl W) ?_
 unfold Fk at h
 refine B6 (s0:=⟨T [(0,(.d _)),(1,(.d _))],G []⟩) (G0 W W) ?_
 refine B3<|sm W<|sv W<|A1<|B3<|sv W<|sv W<|sq W<|sl W A2 W<|sv W<|sv W<|gt W (fun _=>W) ?_
 refine gt W (fun w2=>(by simp only [A5 w2];rfl)) ?_
 refine gt W (fun _=>W) ?_
 refine gt W (fun w4=>(by simp only [A5 w4];rfl)) ?_
 refine gt W (fun w5=>(by simp only [A5 w5];rfl)) ?_
 refine gp W (M4 W) (fun _=>W) (gt W (vl W A2 W)<|gp W (M4 W) (fun _=>W) (gt W (vl W A2 W) ?_))
 refine gt W (fun w10=>(by simp only [A5 w10];rfl)) ?_
 refine bs h fun v1 hv1 h=> ?_
 refine N8 _ (.agg [(i64 v1.from_),(i64 v1.to)]) (M4 W) (fun w11=>⟨_,[(.d (.agg [(i64 p2.From),(i64 p2.To)])),(.d (.agg [(i64 p1.From),(i64 p1.To)]))],_,_,(by simp only [A5 w11];rfl),W,A3,Om _ _ _<|D8 w11 hv1,(.inl W)⟩) ?_
 refine bs h fun v2 hv2 h=> ?_
 refine N8 _ (bo v2) (M4 W) (fun w12=>⟨_,[(.d (.agg [(i64 v1.from_),(i64 v1.to)]))],_,_,(by simp only [A5 w12];rfl),W,A3,Md _ _<|D8 w12 hv2,(.inl W)⟩) ?_
 refine P5 _ (.d (bo (!v2))) W (M4 W) (fun w13=>(by simp only [A5 w13];rfl)) ?_
 refine sa W W W<|sv W<|A1<|B7 ?_
 cases h
 exact A9 (.inr W) (C0 (B8 W) C6) (.refl _)
def O4 (p1:(List Span))(p2:Span)(x1:Int):Option (Stp Int (Sum Unit Int)):=
  cond (decide (x1< (p1.length:Int))) ((F2 p1 x1).bind fun v1=>(Fk v1 p2).bind fun v2=>cond v2 (some (.out (.inr x1))) (some (.go (J6 (x1+1))))) (some (.out (.inl ())))
def I0 [Lp](p1:(List Span))(p2:Span):Option Int:=
  thenS (loop (O4 p1 p2) 0) (fun _=>some (-1)) (fun r=>some r)
theorem Ba(p1 p2 r)(h:I0 p1 p2=some r):PCall prog 208 [(.list (List.map Gj p1)),(.fn (.func 147) [] [(.bp (Gj p2) 0)])] (i64 r):=by
 refine C7 (fk func208 ntmps208 m0 (by with_unfolding_all rfl)) (nl W) ?_
 unfold I0 at h
 refine B6 (s0:=⟨T [(0,(.d _)),(1,(.d _))],G []⟩) (G0 W W) ?_
 refine B3<|sv W<|A1<|A6<|B3<|sv W<|sd W (E3 W)<|sv W<|A1<|js h fun z1 hz1 h=>D3 (fun s=> ∃(y1:Unit) (g1:Unit),z1= .inl y1∧Sb ⟨T [],G []⟩ s) ?_ ?_
 refine A7<|D7 (O4 p1 p2) (fun (x1:Int) (g2:Unit)=>⟨T [(0,(dl Gj p1)),(1,(.d (.fn (.func 147) [] [(.bp (Gj p2) 0)]))),(7,(di (p1.length:Int))),(8,(di x1))],G []⟩) 0 () _ hz1 (G0 W W) ?_
 intro x1 g2 z2 hz2 ez2
 unfold O4 at hz2
 refine B3<|sv W<|A1<|A6<|cc W hz2 (fun c1 hz2=> ?_)<|fun c1 hz2=> ?_
 refine B0<|A6<|A7<|B3<|sv W<|sv W<|A1<|B3<|sv W<|sv W<|sv W<|bs hz2 fun _ hv1 hz2=>sd W (E7 W W hv1 W)<|sd W (E6 W hv1 W W)<|bs hz2 fun _ hv2 hz2=>B9 W W A3 (Pu _ _ _ hv2) (.inl W) (A1<|cc W hz2 (fun c2 hz2=> ?_)<|fun c2 hz2=> ?_)
 refine B3<|sv W<|sv W<|A1<|B7 ?_
 cases hz2
 obtain rfl:=ez2 _ rfl
 refine ⟨nofun,G4 ?_⟩
 rw [bI]at h
 cases h
 exact A9 (.inr W) (C0 (B8 W) C6) (.refl _)
 refine B0<|E5<|C3<|sv W<|sv W<|A1<|E0 ?_
 cases hz2
 exact ⟨W,(),(G0 W W)⟩
 refine D1 W ?_
 cases hz2
 obtain rfl:=ez2 _ rfl
 refine ⟨nofun,C5 W<|U6 ?_⟩
 exact ⟨_,(),W,(G0 W W)⟩
 rintro _ ⟨y1,g1,rfl,q1⟩
 rw [bH]at h
 refine B6 q1<|B3<|sv W<|A1<|B7 ?_
 cases h
 exact A9 (.inr W) (C0 (B8 W) C6) (.refl _)
def G5 [Lp](p1:(List Span))(p2:Span):Option Bool:=
  (I0 p1 p2).bind fun v1=>some (decide (v1≥0))
theorem Ad(p1 p2 r)(h:G5 p1 p2=some r):PCall prog 145 [(.list (List.map Gj p1)),(.fn (.func 147) [] [(.bp (Gj p2) 0)])] (bo r):=by
 refine C7 (fk func145 ntmps145 m0 (by with_unfolding_all rfl)) (nl W) ?_
 unfold G5 at h
 refine B6 (s0:=⟨T [(0,(.d _)),(1,(.d _))],G []⟩) (G0 W W) ?_
 refine B3<|sv W<|A1<|B3<|sv W<|sv W<|bs h fun _ hv1 h=>B9 W W A3 (Ba _ _ _ hv1) (.inl W) (sv W<|sv W<|A1<|B7 ?_)
 cases h
 exact A9 (.inr W) (C0 (B8 W) C6) (.refl _)
def Y3 [Lp](p1:Span)(p2:(List Span)):Option Bool:=
  (G5 p2 p1).bind fun v1=>some v1
theorem Rb(p1 p2 r)(h:Y3 p1 p2=some r):PCall prog 146 [(.agg (Gj p1)),(.bp [(.list (List.map Gj p2))] 0)] (bo r):=by
 refine C7 (fk func146 ntmps146 m0 (by with_unfolding_all rfl)) (nl W) ?_
 unfold Y3 at h
 refine B6 (s0:=⟨T [(0,(.d _)),(1,(.d _))],G []⟩) (G0 W W) ?_
 refine B3<|sm W<|sv W<|A1<|B3<|sv W<|C2 (.fn _ _ _) W W (bs h fun _ hv1 h=>B9 W (rD<|D4 (Tz E4<|D4 (Y0 A2<|rD<|rD<|rD E4) E4) E4) A3 (Ad _ _ _ hv1) (.inr W) (sv W<|A1<|B7 ?_))
 cases h
 exact A9 (.inr W) (C0 (B8 W) C6) (.refl _)
def H6 [Lp](p1:(List Span))(p2:(List Span))(x1:Int):Option (Stp Int (Sum Unit Int)):=
  cond (decide (x1< (p1.length:Int))) ((F2 p1 x1).bind fun v1=>(Y3 v1 p2).bind fun v2=>cond v2 (some (.out (.inr x1))) (some (.go (J6 (x1+1))))) (some (.out (.inl ())))
def J0 [Lp](p1:(List Span))(p2:(List Span)):Option Int:=
  thenS (loop (H6 p1 p2) 0) (fun _=>some (-1)) (fun r=>some r)
theorem Cb(p1 p2 r)(h:J0 p1 p2=some r):PCall prog 208 [(.list (List.map Gj p1)),(.fn (.func 146) [] [(.bp [(.list (List.map Gj p2))] 0)])] (i64 r):=by
 refine C7 (fk func208 ntmps208 m0 (by with_unfolding_all rfl)) (nl W) ?_
 unfold J0 at h
 refine B6 (s0:=⟨T [(0,(.d _)),(1,(.d _))],G []⟩) (G0 W W) ?_
 refine B3<|sv W<|A1<|A6<|B3<|sv W<|sd W (E3 W)<|sv W<|A1<|js h fun z1 hz1 h=>D3 (fun s=> ∃(y1:Unit) (g1:Unit),z1= .inl y1∧Sb ⟨T [],G []⟩ s) ?_ ?_
 refine A7<|D7 (H6 p1 p2) (fun (x1:Int) (g2:Unit)=>⟨T [(0,(dl Gj p1)),(1,(.d (.fn (.func 146) [] [(.bp [(.list (List.map Gj p2))] 0)]))),(7,(di (p1.length:Int))),(8,(di x1))],G []⟩) 0 () _ hz1 (G0 W W) ?_
 intro x1 g2 z2 hz2 ez2
 unfold H6 at hz2
 refine B3<|sv W<|A1<|A6<|cc W hz2 (fun c1 hz2=> ?_)<|fun c1 hz2=> ?_
 refine B0<|A6<|A7<|B3<|sv W<|sv W<|A1<|B3<|sv W<|sv W<|sv W<|bs hz2 fun _ hv1 hz2=>sd W (E7 W W hv1 W)<|sd W (E6 W hv1 W W)<|bs hz2 fun _ hv2 hz2=>B9 W W A3 (Rb _ _ _ hv2) (.inl W) (A1<|cc W hz2 (fun c2 hz2=> ?_)<|fun c2 hz2=> ?_)
 refine B3<|sv W<|sv W<|A1<|B7 ?_
 cases hz2
 obtain rfl:=ez2 _ rfl
 refine ⟨nofun,G4 ?_⟩
 rw [bI]at h
 cases h
 exact A9 (.inr W) (C0 (B8 W) C6) (.refl _)
 refine B0<|E5<|C3<|sv W<|sv W<|A1<|E0 ?_
 cases hz2
 exact ⟨W,(),(G0 W W)⟩
 refine D1 W ?_
 cases hz2
 obtain rfl:=ez2 _ rfl
 refine ⟨nofun,C5 W<|U6 ?_⟩
 exact ⟨_,(),W,(G0 W W)⟩
 rintro _ ⟨y1,g1,rfl,q1⟩
 rw [bH]at h
 refine B6 q1<|B3<|sv W<|A1<|B7 ?_
 cases h
 exact A9 (.inr W) (C0 (B8 W) C6) (.refl _)
def H7 [Lp](p1:(List Span))(p2:(List Span)):Option Bool:=
  (J0 p1 p2).bind fun v1=>some (decide (v1≥0))
theorem At(p1 p2 r)(h:H7 p1 p2=some r):PCall prog 145 [(.list (List.map Gj p1)),(.fn (.func 146) [] [(.bp [(.list (List.map Gj p2))] 0)])] (bo r):=by
 refine C7 (fk func145 ntmps145 m0 (by with_unfolding_all rfl)) (nl W) ?_
 unfold H7 at h
 refine B6 (s0:=⟨T [(0,(.d _)),(1,(.d _))],G []⟩) (G0 W W) ?_
 refine B3<|sv W<|A1<|B3<|sv W<|sv W<|bs h fun _ hv1 h=>B9 W W A3 (Cb _ _ _ hv1) (.inl W) (sv W<|sv W<|A1<|B7 ?_)
 cases h
 exact A9 (.inr W) (C0 (B8 W) C6) (.refl _)
def Df [Lp](p1:Map)(p2:Agent)(p3:Agent):Option Bool:=
  (Hv p1 p3).bind fun v1=>(Hv p1 p2).bind fun v2=>(H7 v2 v1).bind fun v3=>some v3
theorem Wf(p1 p2 p3 r)(h:Df p1 p2 p3=some r):PCall prog 68 [(.agg (Y6 p1)),(.agg (C4 p2)),(.agg (C4 p3))] (bo r):=by
 refine C7 (fk func68 ntmps68 m0 (by with_unfolding_all rfl)) (nl W) ?_
 unfold Df at h
 refine B6 (s0:=⟨T [(0,(.d _)),(1,(.d _)),(2,(.d _))],G []⟩) (G0 W W) ?_
 refine B3<|sm W<|sn W W<|sm W<|sv W<|A1<|B3<|sd W (C1 W (gq W) W W)<|sd W (C1 W A2 W W)<|bs h fun v1 hv1 h=>B9 W W A3 (Ui _ _ _ hv1) (.inl W) (sm W<|T6 W A2 [(dl Gj v1)] W (A1<|B3<|sd W (C1 W (gq W) W W)<|sd W (C1 W (gq W) W W)<|bs h fun _ hv2 h=>B9 W W A3 (Ui _ _ _ hv2) (.inl W) (C2 (.fn _ _ _) W W (bs h fun _ hv3 h=>B9 W (rD<|D4 (Tz E4<|D4 (Y0 A2<|rD E4) E4) E4) A3 (At _ _ _ hv3) (.inr W) (sv W<|A1<|B7 ?_)))))
 cases h
 exact A9 (.inr W) (C0 (B8 W) C6) (.refl _)
def T9 [Lp](p1:WorldScene)(p2:Int)(p3:Int)(p4:Int):Option Bool:=
  (O0 p1 p2 p4).bind fun v1=>((cond v1 (O0 p1 p3 p4) (some default))).bind fun v2=>((cond (v1&&v2) (F2 p1.before.Agents p2) (some default))).bind fun v3=>((cond (v1&&v2) (Dq p1.m v3.Route p4) (some default))).bind fun v4=>((cond (v1&&v2) (F2 p1.before.Agents p3) (some default))).bind fun v5=>((cond (v1&&v2) (Dq p1.m v5.Route p4) (some default))).bind fun v6=>some ((v1&&v2)&& (v4 !=v6))
theorem Iz(p1 p2 p3 p4 r)(h:T9 p1 p2 p3 p4=some r):PCall prog 82 [(.bp (Ko p1) 0),(i64 p2),(i64 p3),(i64 p4)] (bo r):=by
 refine C7 (fk func82 ntmps82 m0 (by with_unfolding_all rfl)) (nl W) ?_
 unfold T9 at h
 refine B6 (s0:=⟨T [(0,(.d _)),(1,(.d _)),(2,(.d _)),(3,(.d _))],G []⟩) (G0 W W) ?_
 refine B3<|sv W<|A1<|A6<|K6 W<|sv W<|sv W<|sv W<|bs h fun v1 hv1 h=>B9 W W A3 (Y8 _ _ _ _ hv1) (.inl W) (sv W<|gt W (fun _=>W)<|gt W (fun _=>W)<|gt W (fun _=>W)<|bs h fun v2 hv2 h=> ?_)
 refine N8 v1 (bo v2) (M4 W) (fun w4=>⟨_,[(.d (.bp (Ko p1) 0)),(di p3),(di p4)],_,_,(by simp only [A5 w4];rfl),W,A3,Y8 _ _ _ _<|D8 w4 hv2,(.inl W)⟩) ?_
 refine sa W W W<|sv W<|gt W (fun _=>W) ?_
 refine gt W (fun w6=>(by simp only [A5 w6];rfl)) ?_
 refine gt W (fun w7=>(by simp only [A5 w7];rfl)) ?_
 refine gt W (fun w8=>(by simp only [A5 w8];rfl)) ?_
 refine gt W (fun _=>W) ?_
 refine gt W (fun w10=>(by simp only [A5 w10];rfl)) ?_
 refine gt W (fun w11=>(by simp only [A5 w11];rfl)) ?_
 refine gt W (fun w12=>(by simp only [A5 w12];rfl)) ?_
 refine gt W (fun w13=>(by simp only [A5 w13];rfl)) ?_
 refine gt W (fun _=>W)<|bs h fun v3 hv3 h=>gt W (fun w15=>(E7 (A5 w15) (A5 w15) (D8 w15 hv3) W)) ?_
 refine gt W (fun w16=>(by simp only [A5 w16];rfl)) ?_
 refine gt W (fun w17=>(H8 (A5 w17) (D8 w17 hv3) W))<|gt W (fun _=>W)<|bs h fun v4 hv4 h=> ?_
 refine N8 _ (i64 v4) (M4 W) (fun w19=>⟨_,[(.d (.agg (Y6 p1.m))),(dl A4 v3.Route),(di p4)],_,_,(by simp only [A5 w19];rfl),W,A3,Nm _ _ _ _<|D8 w19 hv4,(.inl W)⟩) ?_
 refine gt W (fun _=>W) ?_
 refine gt W (fun w21=>(by simp only [A5 w21];rfl)) ?_
 refine gt W (fun w22=>(by simp only [A5 w22];rfl)) ?_
 refine gt W (fun w23=>(by simp only [A5 w23];rfl)) ?_
 refine gt W (fun _=>W) ?_
 refine gt W (fun w25=>(by simp only [A5 w25];rfl)) ?_
 refine gt W (fun w26=>(by simp only [A5 w26];rfl)) ?_
 refine gt W (fun w27=>(by simp only [A5 w27];rfl)) ?_
 refine gt W (fun w28=>(by simp only [A5 w28];rfl)) ?_
 refine gt W (fun _=>W)<|bs h fun v5 hv5 h=>gt W (fun w30=>(E7 (A5 w30) (A5 w30) (D8 w30 hv5) W)) ?_
 refine gt W (fun w31=>(by simp only [A5 w31];rfl)) ?_
 refine gt W (fun w32=>(H8 (A5 w32) (D8 w32 hv5) W))<|gt W (fun _=>W)<|bs h fun v6 hv6 h=> ?_
 refine N8 _ (i64 v6) (M4 W) (fun w34=>⟨_,[(.d (.agg (Y6 p1.m))),(dl A4 v5.Route),(di p4)],_,_,(by simp only [A5 w34];rfl),W,A3,Nm _ _ _ _<|D8 w34 hv6,(.inl W)⟩) ?_
 refine gt W (fun w35=>(R1 (A5 w35) (A5 w35) W))<|sa W W W<|sv W<|A1<|B7 ?_
 cases h
 exact A9 (.inr W) (C0 (B8 W) C6) (.refl _)
def Gc [Lp](p1:Map)(v5:WorldScene)(a1:(Int×Int))(x2:Int):Option (Stp Int (Sum Unit (State×Int))):=
  cond (decide (x2< (p1.Zones.length:Int))) ((T9 v5 a1.1 a1.2 x2).bind fun v10=>cond v10 (some (.out (.inr ((State.mk 0 [] []),12)))) (some (.go (J6 (x2+1))))) (some (.out (.inl ())))
def Gd [Lp](p1:Map)(p2:(List Agent))(v5:WorldScene)(x1:Unit)(a1:(Int×Int)):Option (Stp Unit (Sum Unit (State×Int))):=
  (F2 p2 a1.1).bind fun v7=>(F2 p2 a1.2).bind fun v8=>(Df p1 v7 v8).bind fun v9=>cond v9 (some (.out (.inr ((State.mk 0 [] []),12)))) (thenS (loop (Gc p1 v5 a1) 0) (fun _=>some (.go ())) (fun r=>some (.out (.inr r))))
def Wg:Option Unit:=
  some ()
def Mr [Lp](p1:Map)(p2:(List Agent)):Option (State×Int):=
  (Ci (State.mk 0 p2 [])).bind fun v1=>(Dp p1 v1).bind fun v2=>cond (v2 !=0) (some ((State.mk 0 [] []),v2)) ((J1 p2).bind fun v3=>cond v3 (some ((State.mk 0 [] []),10)) ((Ci v1).bind fun v4=>(X3 (WorldScene.mk p1 v1 v4 [] [])).bind fun v5=>(Wg).bind fun y1=>thenS ((FJ v5.before).bind fun v6=>loopL (Gd p1 p2 v5) (fun (x1:Unit)=> .inl ()) v6 ()) (fun _=>some (v5.after,0)) (fun r=>some r)))
theorem FK(p1 p2 r)(h:Mr p1 p2=some r):PCall prog 27 [(.agg (Y6 p1)),(.list (List.map C4 p2))] (.tup [(.agg (N9 r.1)),(i64 r.2)]):=by
 refine C7 (fk func27 ntmps27 (fun r=>if r==8 then [1008001]else if r==9 then [1]else []) (by with_unfolding_all rfl)) (nl W) ?_
 unfold Mr at h
 refine B6 (s0:=⟨T [(0,(.d _)),(1,(.d _))],G []⟩) (G0 W W) ?_
 refine lr<|fun u1 _=>sm W<|sm W<|sn W W<|sm W<|A1<|B3<|sl W (gq W) W (sv W<|bs h fun v1 hv1 h=>B9 W W (.cons (.agg (ca W<|ca W<|.cons ⟨DLe.nil,W⟩ .nil)) .nil) (Ox _ _ hv1) (.inl W) (sm W<|T6 W A2 (E1 v1) W (A1<|A6<|B3<|sd W (C1 W (gq W) W W)<|sd W (C1 W A2 W W)<|bs h fun v2 hv2 h=>B9 W W A3 (Nj _ _ _ hv2) (.inl W) (sv W<|A1<|B3<|sv W<|sv W<|A1<|cc W h (fun c1 h=> ?_)<|fun c1 h=> ?_))))
 refine B3<|sv W<|sv W<|T6 W (gq W) [(di 0),(.d .nilS),(.d .nilS)] W (T6 W (gq W) [(di v2)] W (A1<|B7 ?_))
 cases h
 exact A9 (.inr W) (Ic (K7 W (gq W) (nl W) W) (Rz W A2 W) C6 C6) (.tup (.cons (.agg (ca W<|.cons ⟨DLe.nil,W⟩ (.cons ⟨DLe.nil,W⟩ .nil))) A3))
 refine B0<|A6<|B3<|sl W (gq W) W (bs h fun _ hv3 h=>B9 W W A3 (Cj _ _ hv3) (.inl W) (A1<|cc W h (fun c2 h=> ?_)<|fun c2 h=> ?_))
 refine B3<|sv W<|T6 W (gq W) [(di 0),(.d .nilS),(.d .nilS)] W (T6 W (gq W) [(di 10)] W (A1<|B7 ?_))
 cases h
 exact A9 (.inr W) (Ic (K7 W (gq W) (nl W) W) (Rz W A2 W) C6 C6) (.tup (.cons (.agg (ca W<|.cons ⟨DLe.nil,W⟩ (.cons ⟨DLe.nil,W⟩ .nil))) A3))
 refine B0<|A6<|Na W fun u8 _=>sd W (C1 W (gq W) W W)<|sd W (C1 W A2 W W)<|sd W (C1 W A2 W W)<|bs h fun _ hv4 h=>B9 W W A3 (Ox _ _ hv4) (.inl W) (sv W<|sm W<|sn W W<|T6 W A2 [(.ptr (30,u8) 0)] W (A1<|B3<|sp W (O8 W A2 W)<|bs h fun v5 hv5 h=>Ed (v:= .d (.tup [])) (us:= [(30,u8)]) (Bu (Qq _ _ hv5) [(30,u8)] [(30,u8)] _ (((30,u8),some<|.box 135 (R8 v5))::_) W M2 (G2 (R7 (B5 W<|B5 W A2) W) P0) (H9 (B5 W<|B5 W A2) J7) ⟨⟨_,(B5 W<|B5 W A2), .box (.cons (.of W) (.cons (.of W) (.cons (.of W) (.cons (.of W) (.cons (.of W) (.cons (.of W) (.cons (.of W) (.cons (.of W) (.cons (.of W) (.cons (.of W) (.cons (.of W) (.cons (DLe.d DLe.nil) (.cons (DLe.d DLe.nil) .nil)))))))))))))⟩,trivial⟩ (fun _ h=>h) nd1 W W W) (A1<|A6<|B3<|sp W (O8 W (gq W) W)<|bs h fun _ hy1 h=>Jo (fk func81 ntmps81 m0 (by with_unfolding_all rfl)) (fun (g1:Nat)=> [(2,(.ptr (2,u1) 0)),(3,(.ptr (3,u1) 0)),(4,(.ptr (4,u1) 0)),(5,(.ptr (5,u1) 0)),(8,(.ptr (8,u8) 0)),(34,(.fn (.func 174) [] [(.ptr (1,g1) 0)]))]) (fun (g1:Nat)=> [((2,u1),some<|.box 33 (Q9 p1)),((3,u1),some<|.box 22 [(dl C4 p2)]),((4,u1),some<|.box 25 [(di 0),(.d .nilS),(.d .nilS)]),((5,u1),some<|.box 36 [(di 0)]),((8,u8),some<|.box 133 [(.ptr (30,u8) 0)]),((30,u8),some<|.box 135 (R8 v5)),((1,g1),some<|.box 133 [(.ptr (30,u8) 0)])]) W (nl W) ?_ ?_)))
 unfold Wg at hy1
 refine B6 (s0:=⟨T [(0,(.ptr _ _))],G [((30,u8),some<|.box 135 _),((2,u1),some<|.box 33 _),((3,u1),some<|.box 22 _),((4,u1),some<|.box 25 _),((5,u1),some<|.box 36 _),((8,u8),some<|.box 133 _)]⟩) (G0 W W) ?_
 refine lr<|fun u11 _=>sm W<|sv W<|A1<|B3<|C2 (.fn _ _ _) W W (C2 (.fn _ _ _) W W (A1<|B7 ?_))
 cases hy1
 exact Mk (.inr W) (Ub<|B8 W) u11 (S5 W) (sg W<|sg W<|sg W<|sg W<|sg W<|sg W<|A8 A2 (.of W) trivial)
 intro g1
 intro u13 hu13
 refine A1<|js h fun z1 hz1 h=>D3 (fun s=> ∃(y2:Unit) (g2:Unit),z1= .inl y2∧Sb ⟨T [(4,(.ptr (4,u1) 0)),(5,(.ptr (5,u1) 0)),(8,(.ptr (8,u8) 0))],G [((4,u1),some<|.box 25 [(di 0),(.d .nilS),(.d .nilS)]),((5,u1),some<|.box 36 [(di 0)]),((8,u8),some<|.box 133 [(.ptr (30,u8) 0)]),((30,u8),some<|.box 135 (R8 v5))]⟩ s) ?_ ?_
 refine A7<|bs hz1 fun v6 hv6 hz1=>B6 (s0:=⟨T [(2,(.ptr _ _)),(3,(.ptr _ _)),(4,(.ptr _ _)),(5,(.ptr _ _)),(8,(.ptr _ _)),(34,(.fn _ _ _))],G [((2,u1),some<|.box 33 _),((3,u1),some<|.box 22 _),((4,u1),some<|.box 25 _),((5,u1),some<|.box 36 _),((8,u8),some<|.box 133 _),((30,u8),some<|.box 135 _),((1,g1),some<|.box 133 _)]⟩) (G0 W W) ?_
 refine IA (.fn (.func 174) [] [(.ptr (1,g1) 0)]) (Qr (1,g1) (30,u8) v5.before) BB v6 (Gd p1 p2 v5) (fun (x1:Unit)=>(.inl ():Sum Unit (State×Int))) (fun (x1:Unit) (g3:Unit)=> [((2,u1),some<|.box 33 (Q9 p1)),((3,u1),some<|.box 22 [(dl C4 p2)]),((4,u1),some<|.box 25 [(di 0),(.d .nilS),(.d .nilS)]),((5,u1),some<|.box 36 [(di 0)]),((8,u8),some<|.box 133 [(.ptr (30,u8) 0)]),((1,g1),some<|.box 133 [(.ptr (30,u8) 0)]),((30,u8),some<|.box 135 (R8 v5))]) () () _ W (BC hv6 _ _) (fun x1 g3 _ _=>⟨B5 W<|gq W,_,_,_,_,_,_,_,_,_,_,B5 W<|gq W⟩) (fun _=>W) hz1 (G0 W W) nofun ?_ ?_
 intro u15 hu15 hku15
 refine ⟨fun x1 g3=>(B5 W<|B5 W<|B5 W<|B5 W<|B5 W<|B5 W<|B5 W W),?_⟩
 intro r1 x1 g3 a1 z2 hrr1 hz2 ez2
 unfold Gd at hz2
 show Z9 _ _ _ _ _ _ ⟨T [(36,(di a1.2)),(35,(di a1.1)),(2,(.ptr (2,u1) 0)),(3,(.ptr (3,u1) 0)),(4,(.ptr (4,u1) 0)),(5,(.ptr (5,u1) 0)),(8,(.ptr (8,u8) 0)),(34,(.fn (.func 174) [] [(.ptr (1,g1) 0)]))],G [((1000000,u15),some (.obj (T [(2,(.ptr (2,u1) 0)),(3,(.ptr (3,u1) 0)),(4,(.ptr (4,u1) 0)),(5,(.ptr (5,u1) 0)),(8,(.ptr (8,u8) 0)),(34,(.fn (.func 174) [] [(.ptr (1,g1) 0)]))]) r1)),((2,u1),some (.box 33 (Q9 p1))),((3,u1),some (.box 22 [(dl C4 p2)])),((4,u1),some (.box 25 [(di 0),(.d .nilS),(.d .nilS)])),((5,u1),some (.box 36 [(di 0)])),((8,u8),some (.box 133 [(.ptr (30,u8) 0)])),((1,g1),some (.box 133 [(.ptr (30,u8) 0)])),((30,u8),some (.box 135 (R8 v5)))]⟩
 refine B3<|sv W<|A1<|C3<|sv W<|A1<|U6<|KQ A2 ?_
 refine A7<|A6<|A6<|K6 W<|sd W (C1 W (gq W) W W)<|sl W (gq W) W (sv W<|bs hz2 fun _ hv7 hz2=>sd W (E7 W W hv7 W)<|sd W (E6 W hv7 W W)<|sl W (gq W) W (sv W<|bs hz2 fun _ hv8 hz2=>sd W (E7 W W hv8 W)<|sd W (E6 W hv8 W W)<|bs hz2 fun _ hv9 hz2=>B9 W W A3 (Wf _ _ _ _ hv9) (.inl W) (A1<|cc W hz2 (fun c3 hz2=> ?_)<|fun c3 hz2=> ?_)))
 refine B3<|sv W<|T6 W (gq W) [(di 0),(.d .nilS),(.d .nilS)] W (T6 W (gq W) [(di 12)] W (A1<|B7 ?_))
 cases hz2
 obtain rfl:=ez2 _ rfl
 refine ME (gq W) nofun (G4 ?_)
 rw [bI]at h
 cases h
 exact A9 (.inr W) (Ic (K7 W (gq W) (nl W) W) (Rz W (gq W) W) C6 C6) (.tup (.cons (.agg (ca W<|.cons ⟨DLe.nil,W⟩ (.cons ⟨DLe.nil,W⟩ .nil))) A3))
 refine B0<|B3<|sq W<|sl W (gq W) W (sd W (E3 W)<|sv W<|A1<|js hz2 fun z3 hz3 hz2=>D3 (fun s=> ∃(y3:Unit) (g4:Unit),z3= .inl y3∧Sb ⟨T [],G [((2,u1),some<|.box 33 (Q9 p1)),((3,u1),some<|.box 22 [(dl C4 p2)]),((4,u1),some<|.box 25 [(di 0),(.d .nilS),(.d .nilS)]),((5,u1),some<|.box 36 [(di 0)]),((8,u8),some<|.box 133 [(.ptr (30,u8) 0)]),((1,g1),some<|.box 133 [(.ptr (30,u8) 0)]),((1000000,u15),some<|.obj (T [(2,(.ptr (2,u1) 0)),(3,(.ptr (3,u1) 0)),(4,(.ptr (4,u1) 0)),(5,(.ptr (5,u1) 0)),(8,(.ptr (8,u8) 0)),(34,(.fn (.func 174) [] [(.ptr (1,g1) 0)]))]) {r1 with state:= .busy}),((30,u8),some<|.box 135 (R8 v5))]⟩ s) ?_ ?_)
 refine A7<|D7 (Gc p1 v5 a1) (fun (x2:Int) (g5:Unit)=>⟨T [(4,(.ptr (4,u1) 0)),(5,(.ptr (5,u1) 0)),(8,(.ptr (8,u8) 0)),(9,(di a1.1)),(10,(di a1.2)),(50,(di (p1.Zones.length:Int))),(51,(di x2))],G [((4,u1),some<|.box 25 [(di 0),(.d .nilS),(.d .nilS)]),((5,u1),some<|.box 36 [(di 0)]),((8,u8),some<|.box 133 [(.ptr (30,u8) 0)]),((2,u1),some<|.box 33 (Q9 p1)),((3,u1),some<|.box 22 [(dl C4 p2)]),((1,g1),some<|.box 133 [(.ptr (30,u8) 0)]),((1000000,u15),some<|.obj (T [(2,(.ptr (2,u1) 0)),(3,(.ptr (3,u1) 0)),(4,(.ptr (4,u1) 0)),(5,(.ptr (5,u1) 0)),(8,(.ptr (8,u8) 0)),(34,(.fn (.func 174) [] [(.ptr (1,g1) 0)]))]) {r1 with state:= .busy}),((30,u8),some<|.box 135 (R8 v5))]⟩) 0 () _ hz3 (G0 W W) ?_
 intro x2 g5 z4 hz4 ez4
 unfold Gc at hz4
 refine B3<|sv W<|A1<|A6<|cc W hz4 (fun c4 hz4=> ?_)<|fun c4 hz4=> ?_
 refine B0<|A6<|A7<|B3<|sv W<|sv W<|A1<|B3<|sp W (O8 W (gq W) W)<|sv W<|sv W<|sv W<|bs hz4 fun _ hv10 hz4=>B9 W (D4 (Y0 (gq W)<|rD<|rD<|rD<|rD<|rD<|rD<|rD<|rD<|rD<|rD<|rD<|rD<|rD E4)<|rD<|rD<|rD E4) A3 (Iz _ _ _ _ _ hv10) (.inr W) (A1<|cc W hz4 (fun c5 hz4=> ?_)<|fun c5 hz4=> ?_)
 refine B3<|sv W<|T6 W A2 [(di 0),(.d .nilS),(.d .nilS)] W (T6 W (gq W) [(di 12)] W (A1<|B7 ?_))
 cases hz4
 obtain rfl:=ez4 _ rfl
 refine ⟨nofun,G4 ?_⟩
 rw [bI]at hz2
 cases hz2
 obtain rfl:=ez2 _ rfl
 refine ME (gq W) nofun (G4 ?_)
 rw [bI]at h
 cases h
 exact A9 (.inr W) (Ic (K7 W (gq W) (nl W) W) (Rz W (gq W) W) C6 C6) (.tup (.cons (.agg (ca W<|.cons ⟨DLe.nil,W⟩ (.cons ⟨DLe.nil,W⟩ .nil))) A3))
 refine B0<|E5<|C3<|sv W<|sv W<|A1<|E0 ?_
 cases hz4
 exact ⟨W,(),(G0 W W)⟩
 refine D1 W ?_
 cases hz4
 obtain rfl:=ez4 _ rfl
 refine ⟨nofun,C5 W<|U6 ?_⟩
 exact ⟨_,(),W,(G0 W W)⟩
 rintro _ ⟨y3,g4,rfl,q1⟩
 rw [bH]at hz2
 refine E5<|E0 ?_
 cases hz2
 exact VU q1 (gq W) () (A8 A2 (.of W)<|sg W<|sg W<|sg W<|sg W<|sg W<|sg W trivial)
 rintro x1 g3 _ rfl qx1
 refine E5<|U6 ?_
 exact ⟨_,(),W,(Sb.after qx1<|G0 W W)⟩
 rintro _ ⟨y2,g2,rfl,q2⟩
 rw [bH]at h
 refine B6 q2<|B3<|sp W (O8 W (gq W) W)<|sq W<|sp W W<|sd W (C1 W (gq W) W W)<|T6 W A2 (E1 v5.after) W (T6 W (gq W) [(di 0)] W (A1<|B7 ?_))
 cases h
 exact A9 (.inr W) (Ic (K7 W (gq W) (nl W) W) (Rz W A2 W) C6 C6) (.refl _)
def Lj (p1:Int):Option Int:=
  (cond (decide (p1≥4294967296)) (some ((p1.fdiv (2^ (min (32:Int).toNat (IntKind.bits .u64)))),32)) (some (p1,0))).bind fun y1=>(cond (decide (y1.1≥65536)) (some ((y1.1.fdiv (2^ (min (16:Int).toNat (IntKind.bits .u64)))),(J6 (y1.2+16)))) (some (y1.1,y1.2))).bind fun y2=>cond (decide (y2.1≥256)) ((HZ (ByteArray.mk #[0,1,2,2,3,3,3,3,4,4,4,4,4,4,4,4,5,5,5,5,5,5,5,5,5,5,5,5,5,5,5,5,6,6,6,6,6,6,6,6,6,6,6,6,6,6,6,6,6,6,6,6,6,6,6,6,6,6,6,6,6,6,6,6,7,7,7,7,7,7,7,7,7,7,7,7,7,7,7,7,7,7,7,7,7,7,7,7,7,7,7,7,7,7,7,7,7,7,7,7,7,7,7,7,7,7,7,7,7,7,7,7,7,7,7,7,7,7,7,7,7,7,7,7,7,7,7,7,8,8,8,8,8,8,8,8,8,8,8,8,8,8,8,8,8,8,8,8,8,8,8,8,8,8,8,8,8,8,8,8,8,8,8,8,8,8,8,8,8,8,8,8,8,8,8,8,8,8,8,8,8,8,8,8,8,8,8,8,8,8,8,8,8,8,8,8,8,8,8,8,8,8,8,8,8,8,8,8,8,8,8,8,8,8,8,8,8,8,8,8,8,8,8,8,8,8,8,8,8,8,8,8,8,8,8,8,8,8,8,8,8,8,8,8,8,8,8,8,8,8,8,8,8,8,8,8]) (IntKind.wrap .u8 (y2.1.fdiv (2^ (min (8:Int).toNat (IntKind.bits .u64)))))).bind fun v1=>some (J6 ((J6 (y2.2+8))+ (J6 v1)))) ((HZ (ByteArray.mk #[0,1,2,2,3,3,3,3,4,4,4,4,4,4,4,4,5,5,5,5,5,5,5,5,5,5,5,5,5,5,5,5,6,6,6,6,6,6,6,6,6,6,6,6,6,6,6,6,6,6,6,6,6,6,6,6,6,6,6,6,6,6,6,6,7,7,7,7,7,7,7,7,7,7,7,7,7,7,7,7,7,7,7,7,7,7,7,7,7,7,7,7,7,7,7,7,7,7,7,7,7,7,7,7,7,7,7,7,7,7,7,7,7,7,7,7,7,7,7,7,7,7,7,7,7,7,7,7,8,8,8,8,8,8,8,8,8,8,8,8,8,8,8,8,8,8,8,8,8,8,8,8,8,8,8,8,8,8,8,8,8,8,8,8,8,8,8,8,8,8,8,8,8,8,8,8,8,8,8,8,8,8,8,8,8,8,8,8,8,8,8,8,8,8,8,8,8,8,8,8,8,8,8,8,8,8,8,8,8,8,8,8,8,8,8,8,8,8,8,8,8,8,8,8,8,8,8,8,8,8,8,8,8,8,8,8,8,8,8,8,8,8,8,8,8,8,8,8,8,8,8,8,8,8,8,8]) (IntKind.wrap .u8 y2.1)).bind fun v2=>some (J6 (y2.2+ (J6 v2))))
theorem Uz(p1 r)(h:Lj p1=some r):PCall prog 281 [(.v (.int .u64 p1))] (i64 r):=by
 refine C7 (fk func281 ntmps281 m0 (by with_unfolding_all rfl)) (nl W) ?_
 unfold Lj at h
 refine B6 (s0:=⟨T [(0,(.d _))],G []⟩) (G0 W W) ?_
 refine B3<|sv W<|A1<|A6<|B3<|sv W<|sv W<|A1<|bs h fun y1 hy1 h=>D3 (fun s=> ∃g1:Unit,Sb ⟨T [(0,(.d (.v (.int .u64 y1.1)))),(2,(di y1.2))],G []⟩ s) ?_ ?_
 refine cc W hy1 (fun c1 hy1=> ?_)<|fun c1 hy1=> ?_
 refine B3<|sv W<|sv W<|sv W<|A1<|C3<|sv W<|A1 ?_
 cases hy1
 exact U6 ⟨(),(G0 W W)⟩
 refine B0 ?_
 cases hy1
 exact U6 ⟨(),(G0 W W)⟩
 rintro _ ⟨g1,q1⟩
 refine B6 q1<|A6<|B3<|sv W<|sv W<|A1<|bs h fun y2 hy2 h=>D3 (fun s=> ∃g2:Unit,Sb ⟨T [(0,(.d (.v (.int .u64 y2.1)))),(2,(di y2.2))],G []⟩ s) ?_ ?_
 refine cc W hy2 (fun c2 hy2=> ?_)<|fun c2 hy2=> ?_
 refine B3<|sv W<|sv W<|sv W<|A1<|C3<|sv W<|sv W<|sv W<|A1 ?_
 cases hy2
 exact U6 ⟨(),(G0 W W)⟩
 refine B0 ?_
 cases hy2
 exact U6 ⟨(),(G0 W W)⟩
 rintro _ ⟨g2,q2⟩
 refine B6 q2<|A6<|B3<|sv W<|sv W<|A1<|cc W h (fun c3 h=> ?_)<|fun c3 h=> ?_
 refine B3<|sv W<|sv W<|sv W<|A1<|C3<|sv W<|sv W<|sv W<|A1<|B3<|sv W<|sv W<|sv W<|bs h fun _ hv1 h=>sd W (FF W W hv1)<|sv W<|sv W<|sv W<|A1<|B7 ?_
 cases h
 exact A9 (.inr W) (C0 (B8 W) C6) (.refl _)
 refine B0<|B3<|sv W<|sv W<|sv W<|bs h fun _ hv2 h=>sd W (FF W W hv2)<|sv W<|sv W<|sv W<|A1<|B7 ?_
 cases h
 exact A9 (.inr W) (C0 (B8 W) C6) (.refl _)
def Kh (p1:Int):Option Int:=
  (Lj p1).bind fun v1=>some v1
theorem Pv(p1 r)(h:Kh p1=some r):PCall prog 267 [(.v (.int .u64 p1))] (i64 r):=by
 refine C7 (fk func267 ntmps267 m0 (by with_unfolding_all rfl)) (nl W) ?_
 unfold Kh at h
 refine B6 (s0:=⟨T [(0,(.d _))],G []⟩) (G0 W W) ?_
 refine B3<|sv W<|A1<|A6<|Oh W<|B0<|B3<|sv W<|bs h fun _ hv1 h=>B9 W W A3 (Uz _ _ hv1) (.inl W) (sv W<|A1<|B7 ?_)
 cases h
 exact A9 (.inr W) (C0 (B8 W) C6) (.refl _)
def Np (p1:Int)(p2:Int):Option Bool:=
  (Bk p1).bind fun v1=>((cond v1 (Bk p2) (some default))).bind fun v2=>some ((v1&& (!v2))||(decide (p1<p2)))
theorem Wh(p1 p2 r)(h:Np p1 p2=some r):PCall prog 277 [(i64 p1),(i64 p2)] (bo r):=by
 refine C7 (fk func277 ntmps277 m0 (by with_unfolding_all rfl)) (nl W) ?_
 unfold Np at h
 refine B6 (s0:=⟨T [(0,(.d _)),(1,(.d _))],G []⟩) (G0 W W) ?_
 refine B3<|sv W<|A1<|B3<|sv W<|bs h fun v1 hv1 h=>B9 W W A3 (Dv _ _ hv1) (.inl W) (sv W<|gt W (fun _=>W)<|bs h fun v2 hv2 h=> ?_)
 refine N8 v1 (bo v2) (M4 W) (fun w2=>⟨_,[(di p2)],_,_,(by simp only [A5 w2];rfl),W,A3,Dv _ _<|D8 w2 hv2,(.inl W)⟩) ?_
 refine P5 _ (.d (bo (!v2))) W (M4 W) (fun w3=>(by simp only [A5 w3];rfl)) ?_
 refine sa W W W<|sv W<|gf W (fun _=>W)<|gf W (fun _=>W)<|gf W (fun w6=>(R1 (A5 w6) (A5 w6) W))<|sd W (U2 W W<|fun hc=>A5<|N2 hc)<|sv W<|A1<|B7 ?_
 cases h
 exact A9 (.inr W) (C0 (B8 W) C6) (.refl _)
def S3 (p2:Int)(x2:(Int× (List Int))):Option (Stp (Int× (List Int)) (List Int)):=
  ((cond (decide (x2.1>p2)) (F2 x2.2 x2.1) (some default))).bind fun v1=>((cond (decide (x2.1>p2)) (F2 x2.2 (J6 (x2.1 - 1))) (some default))).bind fun v2=>((cond (decide (x2.1>p2)) (Np v1 v2) (some default))).bind fun v3=>cond ((decide (x2.1>p2))&&v3) ((F2 x2.2 (J6 (x2.1 - 1))).bind fun v4=>(F2 x2.2 x2.1).bind fun v5=>(F2 x2.2 x2.1).bind fun v6=>(F2 (Ww x2.2 x2.1 v4) (J6 (x2.1 - 1))).bind fun v7=>some (.go ((J6 (x2.1 - 1)),(Ww (Ww x2.2 x2.1 v4) (J6 (x2.1 - 1)) v5)))) (some (.out x2.2))
def L0 [Lp](p2:Int)(p3:Int)(x1:(Int× (List Int))):Option (Stp (Int× (List Int)) (List Int)):=
  cond (decide (x1.1<p3)) ((loop (S3 p2) (x1.1,x1.2)).bind fun y1=>some (.go ((J6 (x1.1+1)),y1))) (some (.out (x1.2)))
def M0 [Lp](p1:(List Int))(p2:Int)(p3:Int):Option (List Int):=
  loop (L0 p2 p3) ((J6 (p2+1)),p1)
theorem Fl(p1 p2 p3 r)(h:M0 p1 p2 p3=some r):MCall prog 271 [(.sl (900000,0)),(di p2),(di p3)] [(.arr 2 1 (List.map A4 p1))] (.d (.tup [])) [some (.arr 2 1 (List.map A4 r))] []:=by
 refine Fv (fk func271 ntmps271 m0 (by with_unfolding_all rfl)) W (nl W) ?_
 unfold M0 at h
 refine B6 (s0:=⟨T [(0,(.sl _)),(1,(.d _)),(2,(.d _))],G [((900000,0),some _)]⟩) (G0 W W) ?_
 refine B3<|sv W<|sv W<|sv W<|A1<|A7<|D7 (L0 p2 p3) (fun (x1:(Int× (List Int))) (g1:Unit)=>⟨T [(0,(.sl (900000,0))),(1,(di p2)),(2,(di p3)),(6,(di x1.1))],G [((900000,0),some<|.arr 2 1 (List.map A4 x1.2))]⟩) ((J6 (p2+1)),p1) () _ h (G0 W W) ?_
 intro x1 g1 z1 hz1 ez1
 unfold L0 at hz1
 refine A6<|B3<|sv W<|sv W<|sv W<|A1<|cc W hz1 (fun c1 hz1=> ?_)<|fun c1 hz1=> ?_
 refine B0<|A6<|A7<|B3<|sv W<|sv W<|A1<|bs hz1 fun y1 hy1 hz1=>D3 (fun s=> ∃g2:Unit,Sb ⟨T [(0,(.sl (900000,0))),(1,(di p2)),(2,(di p3)),(6,(di x1.1))],G [((900000,0),some<|.arr 2 1 (List.map A4 y1))]⟩ s) ?_ ?_
 refine A7<|D7 (S3 p2) (fun (x2:(Int× (List Int))) (g3:Unit)=>⟨T [(0,(.sl (900000,0))),(1,(di p2)),(2,(di p3)),(6,(di x1.1)),(7,(di x2.1))],G [((900000,0),some<|.arr 2 1 (List.map A4 x2.2))]⟩) (x1.1,x1.2) () _ hy1 (G0 W W) ?_
 intro x2 g3 z2 hz2 ez2
 unfold S3 at hz2
 refine A6<|A6<|K6 W<|sv W<|sv W<|sv W<|sv W<|P5 _ (.sl _) W (M4 W) (fun _=>W) (gt W (fun _=>W)<|bs hz2 fun v1 hv1 hz2=>P5 _ (.aptr _ _ _ _) W (M4 W) (fun w3=>(Jm (A5 w3) (A5 w3) A2 (D8 w3 hv1))) (gt W (fun w4=>(Yt (A5 w4) A2 (D8 w4 hv1) W))<|P5 _ (.sl _) W (M4 W) (fun _=>W) (gt W (fun _=>W)<|gt W (vb W W W)<|bs hz2 fun v2 hv2 hz2=>P5 _ (.aptr _ _ _ _) W (M4 W) (fun w8=>(Jm (A5 w8) (A5 w8) A2 (D8 w8 hv2))) (gt W (fun w9=>(Yt (A5 w9) A2 (D8 w9 hv2) W))<|bs hz2 fun v3 hv3 hz2=> ?_))))
 refine N8 _ (bo v3) (M4 W) (fun w10=>⟨_,[(di v1),(di v2)],_,_,(by simp only [A5 w10];rfl),W,A3,Wh _ _ _<|D8 w10 hv3,(.inl W)⟩) ?_
 refine sa W W W<|A1<|cc W hz2 (fun c2 hz2=> ?_)<|fun c2 hz2=> ?_
 refine B0<|A6<|A7<|K6 W<|ss W<|sv W<|ss W<|sv W<|sv W<|ss W<|sv W<|sv W<|bs hz2 fun v4 hv4 hz2=>C2 (.aptr _ _ _ _) W (Jm W W A2 hv4) (sd W (Yt W A2 hv4 W)<|ss W<|sv W<|bs hz2 fun v5 hv5 hz2=>C2 (.aptr _ _ _ _) W (Jm W W A2 hv5) (sd W (Yt W A2 hv5 W)<|bs hz2 fun _ hv6 hz2=>C2 (.aptr _ _ _ _) W (Jm W W A2 hv6) (Sa A4 _ _ _ (x2.1) _ v4 [(i64 v4)] W W W A2 hv6 (nl W) W (bs hz2 fun _ hv7 hz2=>C2 (.aptr _ _ _ _) W (Jm W W A2 hv7) (Sa A4 _ _ _ ((J6 (x2.1 - 1))) _ v5 [(i64 v5)] W W W A2 hv7 (nl W) W (A1<|E5<|C3<|sv W<|sv W<|sv W<|A1<|E0 ?_))))))
 cases hz2
 exact ⟨W,(),(G0 W W)⟩
 refine D1 W ?_
 cases hz2
 obtain rfl:=ez2 _ rfl
 refine ⟨nofun,C5 W<|U6 ?_⟩
 exact ⟨(),(G0 W W)⟩
 rintro _ ⟨g2,q1⟩
 refine E5<|B6 q1<|C3<|sv W<|sv W<|sv W<|A1<|E0 ?_
 cases hz1
 exact ⟨W,(),(G0 W W)⟩
 refine D1 W ?_
 cases hz1
 obtain rfl:=ez1 _ rfl
 refine ⟨nofun,C5 W<|E0 ?_⟩
 exact Fd (.inl W) [] Ux (.refl _) ⟨⟨A2,N6⟩,trivial⟩
def M8 [Lp](p1:(List Int))(x1:(Int×Int×Int×Bool×Bool)):Option (Stp (Int×Int×Int×Bool×Bool) (List Int)):=
  cond (decide ((J6 (x1.2.1 - x1.1))≤12)) ((M0 p1 x1.1 x1.2.1).bind fun v1=>some (.out (v1))) (cond (x1.2.2.1==0) (none) ((cond (!x1.2.2.2.1) (none) (some ())).bind fun _=>none))
def O2 [Lp](p1:(List Int))(p2:Int)(p3:Int)(p4:Int):Option (List Int):=
  loop (M8 p1) (p2,p3,p4,true,true)
theorem Ja(p1 p2 p3 p4 r)(h:O2 p1 p2 p3 p4=some r):MCall prog 266 [(.sl (900000,0)),(di p2),(di p3),(di p4)] [(.arr 2 1 (List.map A4 p1))] (.d (.tup [])) [some (.arr 2 1 (List.map A4 r))] []:=by
 refine Fv (fk func266 ntmps266 (fun r=>if r==4 then [1004003]else []) (by with_unfolding_all rfl)) W (nl W) ?_
 unfold O2 at h
 refine B6 (s0:=⟨T [(0,(.sl _)),(1,(.d _)),(2,(.d _)),(3,(.d _))],G [((900000,0),some _)]⟩) (G0 W W) ?_
 refine B3<|sv W<|A1<|B3<|sv W<|A1<|A7<|D7 (M8 p1) (fun (x1:(Int×Int×Int×Bool×Bool)) (g1:Unit)=>⟨T [(0,(.sl (900000,0))),(1,(di x1.1)),(2,(di x1.2.1)),(3,(di x1.2.2.1)),(8,(.d (bo x1.2.2.2.1))),(9,(.d (bo x1.2.2.2.2)))],G [((900000,0),some<|.arr 2 1 (List.map A4 p1))]⟩) (p2,p3,p4,true,true) () _ h (G0 W W) ?_
 intro x1 g1 z1 hz1 ez1
 unfold M8 at hz1
 refine A7<|B3<|sv W<|sv W<|sv W<|sv W<|A1<|A6<|B3<|sv W<|sv W<|A1<|cc W hz1 (fun c1 hz1=> ?_)<|fun c1 hz1=> ?_
 refine B3<|ss W<|sv W<|sv W<|bs hz1 fun v1 hv1 hz1=>Ed (v:= .d (.tup [])) (us:= [(900000,0)]) (Bu (Fl _ _ _ _ hv1) [(900000,0)] [(900000,0)] _ (((900000,0),some<|.arr 2 1 (List.map A4 v1))::_) W M2 (G2 Xv<|G2 Mj<|G2 Mj P0) (H9 A2 J7) ⟨⟨_,A2, .of W⟩,trivial⟩ (fun _ h=>h) nd1 W W W) (A1<|B7 ?_)
 cases hz1
 obtain rfl:=ez1 _ rfl
 refine ⟨nofun,G4 ?_⟩
 exact Fd (.inr W) [] Ux (.refl _) ⟨⟨A2,N6⟩,trivial⟩
 refine B0<|A6<|B3<|sv W<|sv W<|A1<|cc W hz1 (fun c2 hz1=> ?_)<|fun c2 hz1=> ?_
 refine B3<|ss W<|sv W<|sv W ?_
 cases hz1
 refine B0<|A6<|B3<|sv W<|C2 (.d (bo (!x1.2.2.2.1))) W W (A1<|bs hz1 fun _ hy1 hz1=>D3 (fun s=> ∃g2:Unit,Sb ⟨T [(0,(.sl (900000,0))),(1,(di x1.1)),(2,(di x1.2.1)),(3,(di x1.2.2.1)),(8,(.d (bo x1.2.2.2.1))),(9,(.d (bo x1.2.2.2.2))),(10,(di<|J6 (x1.2.1 - x1.1)))],G [((900000,0),some<|.arr 2 1 (List.map A4 p1))]⟩ s) ?_ ?_)
 refine cc W hy1 (fun c3 hy1=> ?_)<|fun c3 hy1=> ?_
 refine B3<|ss W<|sv W<|sv W ?_
 cases hy1
 refine B0 ?_
 cases hy1
 exact U6 ⟨(),(G0 W W)⟩
 rintro _ ⟨g2,q1⟩
 refine B6 q1<|B3<|ss W<|sv W<|sv W ?_
 cases hz1
def Q7 [Lp](p1:(List Int)):Option (List Int):=
  (Kh (IntKind.wrap .u64 (p1.length:Int))).bind fun v1=>(O2 p1 0 (p1.length:Int) v1).bind fun v2=>some v2
theorem Lk(p1 r)(h:Q7 p1=some r):MCall prog 252 [(.sl (900000,0))] [(.arr 2 1 (List.map A4 p1))] (.d (.tup [])) [some (.arr 2 1 (List.map A4 r))] []:=by
 refine Fv (fk func252 ntmps252 (fun r=>if r==1 then [1001005]else []) (by with_unfolding_all rfl)) W (nl W) ?_
 unfold Q7 at h
 refine B6 (s0:=⟨T [(0,(.sl _))],G [((900000,0),some _)]⟩) (G0 W W) ?_
 refine B3<|ss W<|sd W (SF (f:=A4) W A2)<|sv W<|A1<|C3<|ss W<|sv W<|sv W<|sv W<|bs h fun _ hv1 h=>B9 W W A3 (Pv _ _ hv1) (.inl W) (bs h fun v2 hv2 h=>Ed (v:= .d (.tup [])) (us:= [(900000,0)]) (Bu (Ja _ _ _ _ _ hv2) [(900000,0)] [(900000,0)] _ (((900000,0),some<|.arr 2 1 (List.map A4 v2))::_) W M2 (G2 Xv<|G2 Mj<|G2 Mj<|G2 Mj P0) (H9 A2 J7) ⟨⟨_,A2, .of W⟩,trivial⟩ (fun _ h=>h) nd1 W W W) (A1<|E0 ?_))
 obtain rfl:=(lC h)
 exact Fd (.inl W) [] Ux (.refl _) ⟨⟨A2,N6⟩,trivial⟩
section
open Go.RowKit Go.Lib
def dL:Go.Shelf.Ren:=⟨fun n=>if n=43 then 253 else 0,fun t=>if t=22 then 48 else if t=23 then 2 else t,fun x=>x⟩
theorem cmp_lay:SlLaysE.n43 prog dL where
  mixed:=by kernel_rfl
  f43:=⟨Tryz.f253.name,by decide,by kernel_rfl⟩
  t0:=Tryz.underlying0
  a0:=Tryz.isAgg0
  z0:=Tryz.sizeOf0
  v0:=Tryz.zeroValue0
  t3:=Tryz.underlying3
  a3:=Tryz.isAgg3
  z3:=Tryz.sizeOf3
  v3:=Tryz.zeroValue3
  t4:=Tryz.underlying4
  a4:=Tryz.isAgg4
  z4:=Tryz.sizeOf4
  v4:=Tryz.zeroValue4
  t22:=Tryz.underlying48
  a22:=Tryz.isAgg48
  z22:=Tryz.sizeOf48
  v22:=Tryz.zeroValue48
  a23:=Tryz.isAgg2
  z23:=Tryz.sizeOf2
theorem OW (g cap:Nat)(d:Array Int)(w:World)(hH:Go.Sort.Holds (Value.int .i64) w g 0 d)(hsz:d.size≤9223372036854775807)(hcap:d.size≤cap):
    Calls prog 253 #[.slice (some ⟨g,0,none⟩) d.size cap] w fun e w'=>e= .returned (.slice (some ⟨g,0,none⟩) (Go.Lib.compactUpTo d d.size).length cap)∧∃q,w'=Go.Sort.putRow (Value.int .i64) (Go.Sort.ahead w q) g 0 (Go.Lib.compactUpTo d d.size++List.replicate (d.size - (Go.Lib.compactUpTo d d.size).length) 0).toArray:=
  AnyE.slices_Compact cmp_lay (Value.int .i64) (fun _=>rfl) (.intD _ _ _) (.intD _ _ _) 0 Tryz.zeroValue2 g 0 cap d w hH hsz hcap
theorem WL (d:Array Int):(Go.Lib.compactUpTo d d.size).length≤d.size:=by
  unfold Go.Lib.compactUpTo
  rw [lQ]
  refine Nat.le_trans (List.length_filter_le _ _) ?_
  rw [List.length_range];exact bK _
theorem DT (xs:List Int): ∀m,m≤xs.length→Go.Lib.compactUpTo xs.toArray m=Kz (xs.take m)
  |0,_=>rfl
  |m+1,h=>by
   rw [Go.Lib.compactUpTo_succ,DT xs m (by omega),List.take_add_one,lG (by omega),Option.toList_some,Xx]
   congr 1
   have hm:m<xs.length:=by omega
   have e1:xs.toArray[m]! =xs[m]:=by rw [getElem!_pos xs.toArray m (by simpa using hm)];simp
   rw [Go.Lib.keeps,e1]
   cases m with
   |zero=>simp
   |succ k=>
    have e2:xs.toArray[k]! =xs[k]:=by rw [getElem!_pos xs.toArray k (by rw [List.size_toArray];omega)];simp
    have e3:(xs.take (k+1)).getLast? =some xs[k]:=by rw [List.take_add_one,lG (by omega),Option.toList_some,List.getLast?_append];simp
    rw [Nat.add_sub_cancel,e2,e3]
    by_cases e:xs[k+1]=xs[k]
    ·simp [e]
    ·rw [bB (by simp [e]),bC (fun q=>e (lC q).symm)]
theorem cE (xs r:List Int)(hr:AT xs=some r):MCall prog 253 [.sl (900000,0)] [.arr 2 1 (List.map A4 xs)] (.sl (800000,0)) [none] [some (.arr 2 1 (List.map A4 r))]:=by
  obtain ⟨hx,rfl⟩:=FG hr
  clear hr
  refine ⟨W,fun vs w=> ?_,fun w I ρ vs H hlen hrep=> ?_⟩
  ·have hn': ¬Tryz.f253.name= "runtime.NumGoroutine" :=by decide
   have hb: ∃c,Tryz.f253.body=some c:=⟨_,rfl⟩
   obtain ⟨c,hb⟩:=hb
   simp [callFunc,func253,hb,hn']
  have hnx:0<xs.length:=List.length_pos_iff.2 hx
  obtain ⟨a,rfl⟩: ∃a,vs= [a]:=by
    match vs,hlen with
    | [a],_=>exact ⟨a,rfl⟩
  have r0:=hrep 0 _ rfl
  simp only [List.getD_cons_zero]at r0
  have hb0:G (Qz 0 [Blk.arr 2 1 (List.map A4 xs)]) (W7 0)=some (.arr 2 1 (List.map A4 xs)):=rfl
  obtain ⟨x0,cx,p1,p2,p3,p4⟩:=H.blk _ _ hb0
  have p2:=p2.own (by decide)
  have e0:a=x0:=by
    cases r0 with
    |sl _ _ h=>exact lC (h.symm.trans p1)
  subst e0
  obtain ⟨hxl,hx'|⟨g,c,cur,rfl,_,hg,hnc,hcm,hcs,hxc⟩⟩:=p2
  ·rw [lQ]at hx';omega
  rw [lQ]at hxl hnc hxc
  have hval: ∀i (hi:i<xs.length),cur[i]? =some (.int .i64 xs[i]):=by
    intro i hi
    obtain ⟨_,g2⟩:=p4 i 0 (.v (.int .i64 xs[i])) (by simp [Kw,hi,A4])
    have:cx.getD (i*1+0) undef= .int .i64 xs[i]:=by generalize cx.getD (i*1+0) undef=y at g2;cases g2;rfl
    rw [← hxc,List.getD,l3,bB (by omega),Nat.mul_one,Nat.add_zero,Array.getElem?_toList]at this
    rw [Array.getElem?_eq_getElem (by omega)]at this ⊢
    rw [Option.getD_some]at this
    rw [this]
  have hH:Go.Sort.Holds (Value.int .i64) w g 0 xs.toArray:=by
    intro j hj
    rw [List.size_toArray]at hj
    have h2:=hval j hj
    refine ⟨?_,by simp [World.frozen?,hg]⟩
    simp [World.cell?,hg,h2,hj]
  have locx:L9 ρ (W7 0) (.arr 2 1 (List.map A4 xs))=some g:=by simp [L9,p1,Value.ownBlock]
  have hca:=OW g c xs.toArray w hH (by rw [List.size_toArray];unfold maxLen at hcm;omega) (by rw [List.size_toArray];exact hnc)
  have hcl:=WL xs.toArray
  rw [List.size_toArray]at hca hcl
  rw [lQ]
  refine hca.mono ?_
  rintro e w' ⟨rfl,q,hw'⟩
  have hheap: ∀k,w'.heap[k]? =if k=g then some (.cells (Go.Sort.putCells (Value.int .i64) 0 (Go.Lib.compactUpTo xs.toArray xs.length++List.replicate (xs.length - (Go.Lib.compactUpTo xs.toArray xs.length).length) 0).toArray cur) 2 (0,0))else w.heap[k]?:=by
    intro k
    rw [hw']
    show (w.heap.modify g _)[k]? =_
    rw [Array.getElem?_modify]
    by_cases e:g=k
    ·subst e;rw [bB rfl,bB rfl,hg];rfl
    ·rw [bC e,bC (Ne.symm e)]
  have hos:w'.os=w.os∧w'.tape=w.tape∧w'.output=w.output∧w'.heap.size=w.heap.size:=by rw [hw'];exact ⟨rfl,rfl,rfl,by simp⟩
  clear hw' hca hH
  generalize hC:Go.Lib.compactUpTo xs.toArray xs.length=C at hcl hheap ⊢
  have hCc:Kz xs=C:=by rw [← hC,DT xs _ (bK _),List.take_length]
  rw [hCc]
  obtain ⟨Z,hZ⟩: ∃Z:Array Int,Z=(C++List.replicate (xs.length - C.length) 0).toArray:=⟨_,rfl⟩
  rw [← hZ]at hheap
  have hZs:Z.size=xs.length:=by rw [hZ];simp;omega
  have hZg: ∀i (hi:i<C.length),Z[i]! =C[i]:=by
    intro i hi
    have hlt:i<Z.size:=by omega
    rw [getElem!_pos Z i hlt]
    subst hZ
    rw [List.getElem_toArray,List.getElem_append_left hi]
  clear hZ hC hCc
  obtain ⟨u0,hu0⟩:=H.fresh
  have hk0:ρ (7,u0)=none:=hu0 7 u0 (bK _)
  have hgI: ¬I g:=H.notI _ _ g hb0 locx
  have hgo:own ρ (G (Qz 0 [Blk.arr 2 1 (List.map A4 xs)])) g:=⟨_,_,hb0,locx⟩
  have hother: ∀k,k≠g→w'.heap[k]? =w.heap[k]?:=fun k hk=>by rw [hheap,bC hk]
  have hI': ∀b,I b→w'.heap[b]? =w.heap[b]?:=fun b hb=>hother b (fun e=>hgI (e▸hb))
  have H0:HeapOK w' I ρ (fun _=>none):=⟨fun k b hb=>(by cases hb),fun k k' b b' g h1=>(by cases h1),fun k b g h1=>(by cases h1),fun k b g h1=>(by cases h1),fun b hb=>by rw [hos.2.2.2];exact H.ilt b hb,⟨u0,hu0⟩,H.rone⟩
  have hloc: ∀k,L9 (V1 ρ (7,u0) (some (Value.slice (some ⟨g,0,none⟩) C.length c))) (7,u0) (.arr 2 1 (List.map A4 C))=some k→k=g:=by
    intro k hk
    have:some g=some k:=by simpa [L9,D9,Value.ownBlock] using hk
    exact (lC this).symm
  have hown: ∀g,¬own ρ (fun _=>none) g:=fun g ⟨k,b,h,_⟩=>by cases h
  have hsz:(Go.Sort.putCells (Value.int .i64) 0 Z cur).size=c:=by unfold Go.Sort.putCells;rw [Array.size_mapIdx,hcs,Nat.mul_one]
  have Hn:=GM H0 (7,u0) (Value.slice (some ⟨g,0,none⟩) C.length c) (.arr 2 1 (List.map A4 C)) hk0 rfl (fun k hk=>by
    rw [hloc k hk]
    exact ⟨hown g,hgI,by rw [hos.2.2.2];exact H.lt _ _ g hb0 locx⟩)
    ⟨_,C.map (Value.int .i64),D9 _ _ _,Ta (base:=0) ⟨by simp, .inr ⟨g,c,_,by rw [lQ],bL _,by rw [hheap,bB rfl],by rw [lQ];omega,hcm,by rw [hsz,Nat.mul_one],by
      rw [lQ,Nat.mul_one]
      apply List.ext_getElem
      ·have h3:(Go.Sort.putCells (Value.int .i64) 0 Z cur).toList.length=c:=hsz
       rw [lT,h3,lQ];omega
      ·intro i h1 h2
       rw [lQ]at h2
       rw [List.getElem_take,Array.getElem_toList,List.getElem_map]
       unfold Go.Sort.putCells
       rw [Array.getElem_mapIdx,bB ⟨bL _,by omega⟩,Nat.sub_zero,hZg i h2]⟩⟩,by
      intro q hq
      obtain ⟨z,_,rfl⟩:=List.mem_map.1 hq
      rfl,by
      intro r j d' hd'
      unfold Kw at hd'
      rw [lI]at hd'
      cases hr:C[r]? with
      |none=>rw [hr]at hd';cases hd'
      |some z=>
       rw [hr]at hd'
       match j,hd' with
       |0,hd'=>
        cases hd'
        refine ⟨W,?_⟩
        rw [Nat.mul_one,Nat.add_zero,List.getD,lI,hr]
        exact .v _
       |j+1,hd'=>simp [A4]at hd'⟩
  refine ⟨_, .sl (7,u0),I,_,_,W, .sl _ _ (D9 _ _ _),Hn,⟨hos.1,hos.2.1,hos.2.2.1,by rw [hos.2.2.2];exact bK _,fun b hb hn'=>hother b<|fun e=>hn' (e▸hgo),fun _ hb=>hb,fun _ hb _=> .inl hb,?_,EE hk0⟩,fun _=>(7,u0),W,?_,?_,?_,?_⟩
  ·rintro k ⟨k',b',h1,h2⟩ hl
   by_cases ek:k'=(7,u0)
   ·subst ek
    rw [D9]at h1
    cases h1
    rw [hloc k h2];exact hgo
   ·rw [J3 _ _ _ _ ek]at h1;cases h1
  ·intro j b hb
   match j,hb with
   |0,hb=>cases hb
   |j+1,hb=>simp at hb
  ·intro j b hb
   match j,hb with
   |0,hb=>cases hb;exact D9 _ _ _
   |j+1,hb=>simp at hb
  ·intro j _ i _ e;simp only [W7,Prod.mk.injEq]at e;omega
  ·intro j j' h1 h2 _
   simp only [lJ,lL]at h1 h2
   omega
theorem SZ (A:Option Addr)(w:World):Calls prog 253 #[.slice A 0 0] w fun e w'=>e= .returned (.slice A 0 0)∧∃q,w'=w.drewN q:=by
  have mixed:=cmp_lay.mixed
  have v0:=Tryz.zeroValue2
  go_enter func253,ntmps253
  go_wp2
  go_ret
  exact ⟨W,0,W⟩
theorem WM:PCall prog 253 [.nilS] .nilS:=by
  refine ⟨fun vs w=> ?_,fun w I vs hI hlen hrep=> ?_⟩
  ·have hn': ¬Tryz.f253.name= "runtime.NumGoroutine" :=by decide
   have hb: ∃c,Tryz.f253.body=some c:=⟨_,rfl⟩
   obtain ⟨c,hb⟩:=hb
   simp [callFunc,func253,hb,hn']
  obtain ⟨a,rfl⟩: ∃a,vs= [a]:=by
    match vs,hlen with
    | [a],_=>exact ⟨a,rfl⟩
  have r0:=hrep 0 _ rfl
  simp only [List.getD_cons_zero]at r0
  cases r0 with
  |nilS A=>
   refine (SZ A w).mono ?_
   rintro e w' ⟨rfl,q,rfl⟩
   exact ⟨_,I,W, .nilS A,W,W,W,bK _,fun _ _=>W,fun _ hb=>hb,fun _ hb _=>hb,hI⟩
end
def S4 (p1:Int)(x2:Int):Option (Stp Int Unit):=
  ((cond (decide (x2>p1)) ((none:Option Unit)) (some default))).bind fun v1=>cond ((decide (x2>p1))&&false) (none) (some (.out ()))
def L3 [Lp](p1:Int)(p2:Int)(x1:Int):Option (Stp Int Unit):=
  cond (decide (x1<p2)) ((loop (S4 p1) x1).bind fun _=>some (.go (J6 (x1+1)))) (some (.out (())))
def M1 [Lp](p1:Int)(p2:Int):Option Unit:=
  loop (L3 p1 p2) (J6 (p1+1))
theorem Fm(p1 p2 r)(h:M1 p1 p2=some r):PCall prog 271 [.nilS,(i64 p1),(i64 p2)] (.tup []):=by
 refine C7 (fk func271 ntmps271 m0 (by with_unfolding_all rfl)) (nl W) ?_
 unfold M1 at h
 refine B6 (s0:=⟨T [(0,(.d _)),(1,(.d _)),(2,(.d _))],G []⟩) (G0 W W) ?_
 refine B3<|sv W<|sv W<|sv W<|A1<|A7<|D7 (L3 p1 p2) (fun (x1:Int) (g1:Unit)=>⟨T [(0,(.d .nilS)),(1,(di p1)),(2,(di p2)),(6,(di x1))],G []⟩) (J6 (p1+1)) () _ h (G0 W W) ?_
 intro x1 g1 z1 hz1 ez1
 unfold L3 at hz1
 refine A6<|B3<|sv W<|sv W<|sv W<|A1<|cc W hz1 (fun c1 hz1=> ?_)<|fun c1 hz1=> ?_
 refine B0<|A6<|A7<|B3<|sv W<|sv W<|A1<|bs hz1 fun _ hy1 hz1=>D3 (fun s=> ∃g2:Unit,Sb ⟨T [(0,(.d .nilS)),(1,(di p1)),(2,(di p2)),(6,(di x1))],G []⟩ s) ?_ ?_
 refine A7<|D7 (S4 p1) (fun (x2:Int) (g3:Unit)=>⟨T [(0,(.d .nilS)),(1,(di p1)),(2,(di p2)),(6,(di x1)),(7,(di x2))],G []⟩) x1 () _ hy1 (G0 W W) ?_
 intro x2 g3 z2 hz2 ez2
 unfold S4 at hz2
 refine A6<|A6<|K6 W<|sv W<|sv W<|sv W<|sv W<|gt W (fun _=>W)<|gt W (fun _=>W)<|bs hz2 fun _ hv1 hz2=>P5 _ (.d (.tup [])) W (M4 W) (fun w3=>nomatch D8 w3 hv1) (P5 _ (di 0) W (M4 W) (fun w4=>nomatch D8 w4 hv1) (P5 _ (.d (.tup [])) W (M4 W) (fun w5=>nomatch D8 w5 hv1) (P5 _ (di 0) W (M4 W) (fun w6=>nomatch D8 w6 hv1) (P5 _ (di 0) W (M4 W) (fun w7=>nomatch D8 w7 hv1) (P5 _ (.d (.tup [])) W (M4 W) (fun w8=>nomatch D8 w8 hv1) (P5 _ (di 0) W (M4 W) (fun w9=>nomatch D8 w9 hv1) (N8 _ (bo false) (M4 W) (fun w10=>nomatch D8 w10 hv1) (sa W W W<|A1<|cc W hz2 (fun c2 hz2=> ?_)<|fun c2 hz2=> ?_))))))))
 refine B0<|A6<|A7<|K6 W<|sv W<|sv W<|sv W<|sv W<|sv W<|sv W<|sv W<|sv W ?_
 cases hz2
 refine D1 W ?_
 cases hz2
 obtain rfl:=ez2 _ rfl
 refine ⟨nofun,C5 W<|U6 ?_⟩
 exact ⟨(),(G0 W W)⟩
 rintro _ ⟨g2,q1⟩
 refine E5<|B6 q1<|C3<|sv W<|sv W<|sv W<|A1<|E0 ?_
 cases hz1
 exact ⟨W,(),(G0 W W)⟩
 refine D1 W ?_
 cases hz1
 obtain rfl:=ez1 _ rfl
 refine ⟨nofun,C5 W<|E0 ?_⟩
 exact A9 (.inl W) W (.refl _)
def M9 [Lp](x1:(Int×Int×Int×Bool×Bool)):Option (Stp (Int×Int×Int×Bool×Bool) Unit):=
  cond (decide ((J6 (x1.2.1 - x1.1))≤12)) ((M1 x1.1 x1.2.1).bind fun v1=>some (.out (()))) (cond (x1.2.2.1==0) (none) ((cond (!x1.2.2.2.1) (none) (some ())).bind fun _=>none))
def O3 [Lp](p1:Int)(p2:Int)(p3:Int):Option Unit:=
  loop (M9) (p1,p2,p3,true,true)
theorem Jb(p1 p2 p3 r)(h:O3 p1 p2 p3=some r):PCall prog 266 [.nilS,(i64 p1),(i64 p2),(i64 p3)] (.tup []):=by
 refine C7 (fk func266 ntmps266 m0 (by with_unfolding_all rfl)) (nl W) ?_
 unfold O3 at h
 refine B6 (s0:=⟨T [(0,(.d _)),(1,(.d _)),(2,(.d _)),(3,(.d _))],G []⟩) (G0 W W) ?_
 refine B3<|sv W<|A1<|B3<|sv W<|A1<|A7<|D7 (M9) (fun (x1:(Int×Int×Int×Bool×Bool)) (g1:Unit)=>⟨T [(0,(.d .nilS)),(1,(di x1.1)),(2,(di x1.2.1)),(3,(di x1.2.2.1)),(8,(.d (bo x1.2.2.2.1))),(9,(.d (bo x1.2.2.2.2)))],G []⟩) (p1,p2,p3,true,true) () _ h (G0 W W) ?_
 intro x1 g1 z1 hz1 ez1
 unfold M9 at hz1
 refine A7<|B3<|sv W<|sv W<|sv W<|sv W<|A1<|A6<|B3<|sv W<|sv W<|A1<|cc W hz1 (fun c1 hz1=> ?_)<|fun c1 hz1=> ?_
 refine B3<|sv W<|sv W<|sv W<|bs hz1 fun _ hv1 hz1=>B9 W W A3 (Fm _ _ _ hv1) (.inl W) (A1<|B7 ?_)
 cases hz1
 obtain rfl:=ez1 _ rfl
 refine ⟨nofun,G4 ?_⟩
 exact A9 (.inr W) W (.refl _)
 refine B0<|A6<|B3<|sv W<|sv W<|A1<|cc W hz1 (fun c2 hz1=> ?_)<|fun c2 hz1=> ?_
 refine B3<|sv W<|sv W<|sv W ?_
 cases hz1
 refine B0<|A6<|B3<|sv W<|C2 (.d (bo (!x1.2.2.2.1))) W W (A1<|bs hz1 fun _ hy1 hz1=>D3 (fun s=> ∃g2:Unit,Sb ⟨T [(0,(.d .nilS)),(1,(di x1.1)),(2,(di x1.2.1)),(3,(di x1.2.2.1)),(8,(.d (bo x1.2.2.2.1))),(9,(.d (bo x1.2.2.2.2))),(10,(di<|J6 (x1.2.1 - x1.1)))],G []⟩ s) ?_ ?_)
 refine cc W hy1 (fun c3 hy1=> ?_)<|fun c3 hy1=> ?_
 refine B3<|sv W<|sv W<|sv W ?_
 cases hy1
 refine B0 ?_
 cases hy1
 exact U6 ⟨(),(G0 W W)⟩
 rintro _ ⟨g2,q1⟩
 refine B6 q1<|B3<|sv W<|sv W<|sv W ?_
 cases hz1
def Q8 [Lp]:Option Unit:=
  (Kh (IntKind.wrap .u64 0)).bind fun v1=>(O3 0 0 v1).bind fun v2=>some ()
theorem Ll(r)(h:Q8=some r):PCall prog 252 [.nilS] (.tup []):=by
 refine C7 (fk func252 ntmps252 m0 (by with_unfolding_all rfl)) (nl W) ?_
 unfold Q8 at h
 refine B6 (s0:=⟨T [(0,(.d _))],G []⟩) (G0 W W) ?_
 refine B3<|sv W<|sv W<|sv W<|A1<|C3<|sv W<|sv W<|sv W<|sv W<|bs h fun _ hv1 h=>B9 W W A3 (Pv _ _ hv1) (.inl W) (bs h fun _ hv2 h=>B9 W W A3 (Jb _ _ _ _ hv2) (.inl W) (A1<|E0 ?_))
 cases h
 exact A9 (.inl W) W (.refl _)
def Gf [Lp](p1:Map)(p2:Int)(p3:Int)(v1:Zone)(x2:((List Int)×Int)):Option (Stp ((List Int)×Int) (List Int)):=
  cond (decide (x2.2< (v1.Parts.length:Int))) ((F2 v1.Parts x2.2).bind fun v2=>((cond (v2.Lane_==p2) (F2 p1.Signals (J6 (v1.Signal_ - 1))) (some default))).bind fun v3=>((cond (v2.Lane_==p2) (Fj v3 p2 p3) (some default))).bind fun v4=>cond ((v2.Lane_==p2)&& (!v4)) ((Y4 x2.1 [v2.From]).bind fun v5=>some (.go (v5,(J6 (x2.2+1))))) (some (.go (x2.1,(J6 (x2.2+1)))))) (some (.out x2.1))
def Gg [Lp](p1:Map)(p2:Int)(p3:Int)(x1:((List Int)×Int)):Option (Stp ((List Int)×Int) (List Int)):=
  cond (decide (x1.2< (p1.Zones.length:Int))) ((F2 p1.Zones x1.2).bind fun v1=>cond (v1.Signal_==0) (some (.go (x1.1,(J6 (x1.2+1))))) ((loop (Gf p1 p2 p3 v1) (x1.1,0)).bind fun y2=>some (.go (y2,(J6 (x1.2+1)))))) (some (.out x1.1))
def Ms [Lp](p1:Map)(p2:Int)(p3:Int):Option (List Int):=
  (loop (Gg p1 p2 p3) ([],0)).bind fun y1=>cond (List.isEmpty y1) ((Q8).bind fun v8=>some []) ((Q7 y1).bind fun v6=>(AT v6).bind fun v7=>some v7)
theorem FL(p1 p2 p3 r)(h:Ms p1 p2 p3=some r):PCall prog 223 [(.agg (Y6 p1)),(i64 p2),(i64 p3)] (.list (List.map A4 r)):=by
 refine C7 (fk func223 ntmps223 (fun r=>if r==10 then [1003]else if r==13 then [1013001]else if r==14 then [1014001]else []) (by with_unfolding_all rfl)) (nl W) ?_
 unfold Ms at h
 refine B6 (s0:=⟨T [(0,(.d _)),(1,(.d _)),(2,(.d _))],G []⟩) (G0 W W) ?_
 refine lr<|fun u1 _=>sm W<|sv W<|A1<|B3<|sv W<|A1<|A6<|B3<|sq W<|sl W A2 W<|sd W (E3 W)<|sv W<|A1<|bs h fun y1 hy1 h=>D3 (fun s=> ∃g1:Nat,Sb ⟨T [(7,(oS y1 (50,g1)))],G [((50,g1),oB 2 1 A4 y1)]⟩ s) ?_ ?_
 refine A7<|D7 (Gg p1 p2 p3) (fun (x1:((List Int)×Int)) (g2:Nat)=>⟨T [(1,(di p2)),(2,(di p3)),(3,(.ptr (3,u1) 0)),(7,(oS x1.1 (50,g2))),(13,(dl If p1.Zones)),(14,(di (p1.Zones.length:Int))),(15,(di x1.2))],G [((3,u1),some<|.box 33 (Q9 p1)),((50,g2),oB 2 1 A4 x1.1)]⟩) ([],0) 0 _ hy1 (D0 (S5 W)<|A8 A2 (.of W)<|Y5 trivial) ?_
 intro x1 g2 z1 hz1 ez1
 unfold Gg at hz1
 refine B3<|sv W<|A1<|A6<|cc W hz1 (fun c1 hz1=> ?_)<|fun c1 hz1=> ?_
 refine B0<|A6<|A7<|lr<|fun u5 _=>bs hz1 fun v1 hv1 hz1=>sd W (E7 W W hv1 W)<|sd W (E6 W hv1 W W)<|sm W<|T6 W A2 [(dl Gz v1.Parts),(di v1.Signal_)] W (A1<|A6<|B3<|sq W<|sl W A2 W<|sv W<|A1<|cc W hz1 (fun c2 hz1=> ?_)<|fun c2 hz1=> ?_)
 refine Uw W<|C3<|sv W<|sv W<|A1<|E0 ?_
 cases hz1
 exact ⟨W,g2,(D0 (S5 W)<|sg W<|B4 (gq W) trivial)⟩
 refine B0<|B3<|sq W<|sl W A2 W<|sd W (E3 W)<|sv W<|A1<|bs hz1 fun y2 hy2 hz1=>D3 (fun s=> ∃g3:Nat,Sb ⟨T [(1,(di p2)),(2,(di p3)),(3,(.ptr (3,u1) 0)),(7,(oS y2 (50,g3))),(13,(dl If p1.Zones)),(14,(di (p1.Zones.length:Int))),(15,(di x1.2))],G [((3,u1),some<|.box 33 (Q9 p1)),((50,g3),oB 2 1 A4 y2)]⟩ s) ?_ ?_
 refine A7<|D7 (Gf p1 p2 p3 v1) (fun (x2:((List Int)×Int)) (g4:Nat)=>⟨T [(1,(di p2)),(2,(di p3)),(3,(.ptr (3,u1) 0)),(7,(oS x2.1 (50,g4))),(9,(.ptr (9,u5) 0)),(13,(dl If p1.Zones)),(14,(di (p1.Zones.length:Int))),(15,(di x1.2)),(23,(dl Gz v1.Parts)),(24,(di (v1.Parts.length:Int))),(25,(di x2.2))],G [((3,u1),some<|.box 33 (Q9 p1)),((9,u5),some<|.box 117 [(dl Gz v1.Parts),(di v1.Signal_)]),((50,g4),oB 2 1 A4 x2.1)]⟩) (x1.1,0) g2 _ hy2 (D0 (S5 W)<|sg W<|A8 A2 (.of W)<|B4 (gq W) trivial) ?_
 intro x2 g4 z2 hz2 ez2
 unfold Gf at hz2
 refine B3<|sv W<|A1<|A6<|cc W hz2 (fun c3 hz2=> ?_)<|fun c3 hz2=> ?_
 refine B0<|A6<|A7<|B3<|bs hz2 fun v2 hv2 hz2=>sd W (E7 W W hv2 W)<|sd W (E6 W hv2 W W)<|sm W<|T6 W A2 (DS v2) W (A1<|B3<|sq W<|sl W A2 W<|sv W<|sv W<|sv W<|gp W (M4 W) (fun _=>W) (gt W (vl W (gq W) W)<|gp W (M4 W) (fun _=>W) (gt W (vl W (gq W) W)<|gt W (vb W W W)<|bs hz2 fun v3 hv3 hz2=>gt W (fun w6=>(E7 (A5 w6) (A5 w6) (D8 w6 hv3) W))<|gt W (fun w7=>(E6 (A5 w7) (D8 w7 hv3) W W))<|gt W (fun _=>W)<|gt W (fun _=>W)<|bs hz2 fun v4 hv4 hz2=> ?_)))
 refine N8 _ (bo v4) (M4 W) (fun w10=>⟨_,[(.d (.agg [(i64 v3.Offset),(.list (List.map Hq v3.Phases))])),(di p2),(di p3)],_,_,(by simp only [A5 w10];rfl),W,A3,Su _ _ _ _<|D8 w10 hv4,(.inl W)⟩) ?_
 refine P5 _ (.d (bo (!v4))) W (M4 W) (fun w11=>(by simp only [A5 w11];rfl)) ?_
 refine sa W W W<|A1<|cc W hz2 (fun c4 hz2=> ?_)<|fun c4 hz2=> ?_
 refine Ag fun u12 _=>C2 (oS x2.1 (50,g4)) W W (sq W<|sl W A2 W<|C2 (dl A4 [v2.From]) W W (bs hz2 fun _ hv5 hz2=>P1 A4 (50,g4) x2.1 v2.From [] _ (J9<|fun _=>W) W (gq W) hv5 (ss W<|A1<|E5<|C3<|sv W<|sv W<|A1<|E0 ?_)))
 cases hz2
 exact ⟨W,u12,(D0 ⟨.of W, .of W, .of W,(.of (Ap<|S7 hv5).symm), .of W, .of W, .of W, .of W, .of W, .of W, .of W,trivial⟩<|sg W<|sg W<|U5 A2 trivial)⟩
 refine B0<|E5<|C3<|sv W<|sv W<|A1<|E0 ?_
 cases hz2
 exact ⟨W,g4,(D0 (S5 W)<|sg W<|sg W<|B4 (gq W) trivial)⟩
 refine D1 W ?_
 cases hz2
 obtain rfl:=ez2 _ rfl
 refine ⟨nofun,C5 W<|U6 ?_⟩
 exact ⟨g4,(D0 (S5 W)<|A8 A2 (.of W)<|B4 (gq W) trivial)⟩
 rintro _ ⟨g3,q1⟩
 refine E5<|B6 q1<|C3<|sv W<|sv W<|A1<|E0 ?_
 cases hz1
 exact ⟨W,g3,(D0 (S5 W)<|A8 A2 (.of W)<|B4 (gq W) trivial)⟩
 refine D1 W ?_
 cases hz1
 obtain rfl:=ez1 _ rfl
 refine ⟨nofun,C5 W<|U6 ?_⟩
 exact ⟨g2,(D0 ⟨.of W,trivial⟩<|B4 (gq W) trivial)⟩
 rintro _ ⟨g1,q2⟩
 refine B6 q2<|A6 ?_
 rcases DR h with ⟨e1,h⟩|⟨e1,h⟩
 refine B6 (s0:=⟨T [(7,(.d .nilS))],G []⟩) (D0 ⟨.of (SU e1),trivial⟩ trivial) ?_
 refine C3<|sv W<|bs h fun _ hv8 h=>Ed (v:= .d (.tup [])) (us:= []) (ZX [] _ W W A3 (Ll _ hv8) W W) (A1<|B3<|sv W<|Ed (v:= .d .nilS) (us:= []) (ZX [] _ W W A3 WM W W) (sv W<|A1<|B7 ?_))
 cases h
 exact A9 (.inr W) (C0 (B8 W) C6) DLe.nil
 refine B6 (s0:=⟨T [(7,(.sl (50,g1)))],G [((50,g1),some<|.arr 2 1 (List.map A4 y1))]⟩) (D0 ⟨.of (Ap e1),trivial⟩<|A8 (Tj A2 e1) (.of W) trivial) ?_
 refine C3<|ss W<|bs h fun v6 hv6 h=>Ed (v:= .d (.tup [])) (us:= [(50,g1)]) (Bu (Lk _ _ hv6) [(50,g1)] [(50,g1)] _ (((50,g1),some<|.arr 2 1 (List.map A4 v6))::_) W M2 (G2 Xv P0) (H9 A2 J7) ⟨⟨_,A2, .of W⟩,trivial⟩ (fun _ h=>h) nd1 W W W) (A1<|lr<|fun u18 _=>ss W<|bs h fun v7 hv7 h=>Ed (v:= .sl (10140010,u18)) (us:= [(50,g1),(10140010,u18)]) (Bu (cE _ _ hv7) [(50,g1)] [(50,g1)] _ (((10140010,u18),some<|.arr 2 1 (List.map A4 v7))::((50,g1),none)::_) W M2 (G2 Xv P0) (H9 A2 J7) ⟨⟨_,A2, .of W⟩,trivial⟩ (fun _ h=>h) nd1 W W W) (ss W<|A1<|B7 ?_))
 cases h
 exact A9 (.inr W) (C0 (B8 W)<|HK A2) (.refl _)
def Mt [Lp](p1:Map)(p2:Int)(p3:Int):Option (List Int):=
  ((cond (!(decide (p3<0))) (Ks p1 p2) (some default))).bind fun v1=>cond ((decide (p3<0))||(!v1)) (some []) ((Ms p1 p2 p3).bind fun v2=>some v2)
theorem FM(p1 p2 p3 r)(h:Mt p1 p2 p3=some r):PCall prog 180 [(.agg (Y6 p1)),(i64 p2),(i64 p3)] (.list (List.map A4 r)):=by
 refine C7 (fk func180 ntmps180 m0 (by with_unfolding_all rfl)) (nl W) ?_
 unfold Mt at h
 refine B6 (s0:=⟨T [(0,(.d _)),(1,(.d _)),(2,(.d _))],G []⟩) (G0 W W) ?_
 refine B3<|sm W<|sv W<|A1<|A6<|B3<|sv W<|sv W<|sv W<|gf W (fun _=>(C1 W A2 W W))<|gf W (fun _=>W)<|bs h fun v1 hv1 h=> ?_
 refine N8 _ (bo v1) (N7 W) (fun w3=>⟨_,[(.d (.agg (Y6 p1))),(di p2)],_,_,(by simp only [A5 w3];rfl),W,A3,Ss _ _ _<|D8 w3 hv1,(.inl W)⟩) ?_
 refine P5 _ (.d (bo (!v1))) W (N7 W) (fun w4=>(by simp only [A5 w4];rfl)) ?_
 refine sd W (U2 W W<|fun hc=>A5<|N2 hc)<|A1<|cc W h (fun c1 h=> ?_)<|fun c1 h=> ?_
 refine B3<|sv W<|A1<|B7 ?_
 cases h
 exact A9 (.inr W) (C0 (B8 W) C6) DLe.nil
 refine B0<|B3<|sd W (C1 W A2 W W)<|sv W<|sv W<|bs h fun _ hv2 h=>B9 W W A3 (FL _ _ _ _ hv2) (.inl W) (sv W<|A1<|B7 ?_)
 cases h
 exact A9 (.inr W) (C0 (B8 W) C6) (.refl _)
def Gh (p1:Int)(p2:Agent)(p3:Int):Option Int:=
  some (BT true 0 (BT false (J6 (p2.V+p1)) p3))
theorem Me(p1 p2 p3 r)(h:Gh p1 p2 p3=some r):PCall prog 179 [(i64 p1),(.bp (C4 p2) 0),(.bp [(i64 p3)] 0)] (i64 r):=by
 refine C7 (fk func179 ntmps179 m0 (by with_unfolding_all rfl)) (nl W) ?_
 unfold Gh at h
 refine B6 (s0:=⟨T [(0,(.d _)),(1,(.d _)),(2,(.d _))],G []⟩) (G0 W W) ?_
 refine B3<|sv W<|A1<|B3<|sv W<|sv W<|sv W<|sv W<|sv W<|sv W<|sv W<|sv W<|A1<|B7 ?_
 cases h
 exact A9 (.inr W) (C0 (B8 W) C6) (.refl _)
def Nq (p1:Int)(p2:Int):Option Int:=
  cond ((decide (p1<1))||(decide (p2<1))) (some 0) ((VT .i64 (J6 ((BT false p1 1000000) - 1)) (BT false p2 1000000)).bind fun v1=>some (J6 ((J6 (v1* (BT false p1 1000000))) - (J6 ((BT false p2 1000000)* (J6 ((J6 (v1* (J6 (v1+1)))).tdiv 2)))))))
theorem Pe(p1 p2 r)(h:Nq p1 p2=some r):PCall prog 41 [(i64 p1),(i64 p2)] (i64 r):=by
 refine C7 (fk func41 ntmps41 m0 (by with_unfolding_all rfl)) (nl W) ?_
 unfold Nq at h
 refine B6 (s0:=⟨T [(0,(.d _)),(1,(.d _))],G []⟩) (G0 W W) ?_
 refine B3<|sv W<|A1<|A6<|B3<|sv W<|sv W<|sv W<|gf W (fun _=>W)<|gf W (vb W W W)<|sd W (U2 W W<|fun hc=>A5<|N2 hc)<|A1<|cc W h (fun c1 h=> ?_)<|fun c1 h=> ?_
 refine B3<|sv W<|A1<|B7 ?_
 cases h
 exact A9 (.inr W) (C0 (B8 W) C6) (.refl _)
 refine B0<|B3<|sv W<|sv W<|sv W<|sv W<|sv W<|sv W<|A1<|B3<|sv W<|sv W<|sv W<|bs h fun _ hv1 h=>sd W (bV W W hv1)<|sv W<|A1<|B3<|sv W<|sv W<|sv W<|sv W<|sv W<|sv W<|sv W<|sv W<|sv W<|sv W<|sv W<|sv W<|A1<|B7 ?_
 cases h
 exact A9 (.inr W) (C0 (B8 W) C6) (.refl _)
end
end Go.Abs.World
