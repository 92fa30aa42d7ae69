/-
  The functions, part 2.
-/
import Derived.Test.YtgjdiioennhoeaaGreatFns1
set_option maxRecDepth 20000
set_option maxHeartbeats 4000000
set_option linter.unusedVariables false
namespace Go.Abs.World
noncomputable section
open Go Go.Abs Go.Proofs Tryz
attribute [local irreducible] L4 Em Cv
def C9 [Lp](p2:Int)(x2:(Int× (List Pass))):Option (Stp (Int× (List Pass)) (List Pass)):=
  ((cond (decide (x2.1>p2)) (C3 x2.2 x2.1) (some default))).bind fun v1=>((cond (decide (x2.1>p2)) (C3 x2.2 (D8 (x2.1 - 1))) (some default))).bind fun v2=>((cond (decide (x2.1>p2)) (Bw v1 v2) (some default))).bind fun v3=>cond ((decide (x2.1>p2))&& (decide (v3<0))) ((C3 x2.2 (D8 (x2.1 - 1))).bind fun v4=>(C3 x2.2 x2.1).bind fun v5=>(C3 x2.2 x2.1).bind fun v6=>(C3 (Nk x2.2 x2.1 v4) (D8 (x2.1 - 1))).bind fun v7=>some (.go ((D8 (x2.1 - 1)),(Nk (Nk x2.2 x2.1 v4) (D8 (x2.1 - 1)) v5)))) (some (.out x2.2))
def D7 [Lp](p2:Int)(p3:Int)(x1:(Int× (List Pass))):Option (Stp (Int× (List Pass)) (List Pass)):=
  cond (decide (x1.1<p3)) ((loop (C9 p2) (x1.1,x1.2)).bind fun y1=>some (.go ((D8 (x1.1+1)),y1))) (some (.out (x1.2)))
def D3 [Lp](p1:(List Pass))(p2:Int)(p3:Int):Option (List Pass):=
  loop (D7 p2 p3) ((D8 (p2+1)),p1)
theorem U8(p1 p2 p3 r)(h:D3 p1 p2 p3=some r):MCall prog 282 [(.sl (900000,0)),(di p2),(di p3),(.d (.fn (.func 264) [] []))] [(.arr 229 4 (List.map Q5 p1))] (.d (.tup [])) [some (.arr 229 4 (List.map Q5 r))] []:=by
 refine Wh (fk func282 ntmps282 m0 (by with_unfolding_all rfl)) W (nl W) ?_
 unfold D3 at h
 refine B4 (s0:=⟨T [(0,(.sl _)),(1,(.d _)),(2,(.d _)),(3,(.d _))],G [((900000,0),some _)]⟩) (E6 W W) ?_
 refine B1<|sv W<|sv W<|sv W<|A1<|A8<|E2 (D7 p2 p3) (fun (x1:(Int× (List Pass))) (g1:Unit)=>⟨T [(0,(.sl (900000,0))),(1,(di p2)),(2,(di p3)),(3,(.d (.fn (.func 264) [] []))),(8,(di x1.1))],G [((900000,0),some<|.arr 229 4 (List.map Q5 x1.2))]⟩) ((D8 (p2+1)),p1) () _ h (E6 W W) ?_
 intro x1 g1 z1 hz1 ez1
 unfold D7 at hz1
 refine A4<|B1<|sv W<|sv W<|sv W<|A1<|cc W hz1 (fun c1 hz1=> ?_)<|fun c1 hz1=> ?_
 refine A9<|A4<|A8<|B1<|sv W<|sv W<|A1<|bs hz1 fun y1 hy1 hz1=>D4 (fun s=> ∃g2:Unit,Sb ⟨T [(0,(.sl (900000,0))),(1,(di p2)),(2,(di p3)),(3,(.d (.fn (.func 264) [] []))),(8,(di x1.1))],G [((900000,0),some<|.arr 229 4 (List.map Q5 y1))]⟩ s) ?_ ?_
 refine A8<|E2 (C9 p2) (fun (x2:(Int× (List Pass))) (g3:Unit)=>⟨T [(0,(.sl (900000,0))),(1,(di p2)),(2,(di p3)),(3,(.d (.fn (.func 264) [] []))),(8,(di x1.1)),(9,(di x2.1))],G [((900000,0),some<|.arr 229 4 (List.map Q5 x2.2))]⟩) (x1.1,x1.2) () _ hy1 (E6 W W) ?_
 intro x2 g3 z2 hz2 ez2
 unfold C9 at hz2
 refine A4<|A4<|E0 W<|sv W<|sv W<|sv W<|sv W<|gt W (fun _=>W)<|M3 _ (.sl _) W (K2 W) (fun _=>W) (gt W (fun _=>W)<|bs hz2 fun v1 hv1 hz2=>M3 _ (.aptr _ _ _ _) W (K2 W) (fun w4=>(Js (A2 w4) (A2 w4) G_hit (B9 w4 hv1))) (gt W (fun w5=>(Qk (A2 w5) G_hit (B9 w5 hv1) W W))<|M3 _ (.sl _) W (K2 W) (fun _=>W) (gt W (fun _=>W)<|gt W (vb W W W)<|bs hz2 fun v2 hv2 hz2=>M3 _ (.aptr _ _ _ _) W (K2 W) (fun w9=>(Js (A2 w9) (A2 w9) G_hit (B9 w9 hv2))) (gt W (fun w10=>(Qk (A2 w10) G_hit (B9 w10 hv2) W W))<|bs hz2 fun v3 hv3 hz2=> ?_))))
 refine M2 _ (i64 v3) (K2 W) (fun w11=>⟨_,[(.d (.agg (Q5 v1))),(.d (.agg (Q5 v2)))],_,_,(by simp only [A2 w11];rfl),W,A3,EX _ _ _<|B9 w11 hv3,(.inl W)⟩) ?_
 refine gt W (vb W W W)<|sa W W W<|A1<|cc W hz2 (fun c2 hz2=> ?_)<|fun c2 hz2=> ?_
 refine A9<|A4<|A8<|E0 W<|ss W<|sv W<|ss W<|sv W<|sv W<|ss W<|sv W<|sv W<|bs hz2 fun v4 hv4 hz2=>B8 (.aptr _ _ _ _) W (Js W W G_hit hv4) (sd W (Qk W G_hit hv4 W W)<|ss W<|sv W<|bs hz2 fun v5 hv5 hz2=>B8 (.aptr _ _ _ _) W (Js W W G_hit hv5) (sd W (Qk W G_hit hv5 W W)<|bs hz2 fun _ hv6 hz2=>B8 (.aptr _ _ _ _) W (Js W W G_hit hv6) (Np Q5 _ _ _ (x2.1) _ v4 (Q5 v4) W W W G_hit hv6 (nl W) W (bs hz2 fun _ hv7 hz2=>B8 (.aptr _ _ _ _) W (Js W W G_hit hv7) (Np Q5 _ _ _ ((D8 (x2.1 - 1))) _ v5 (Q5 v5) W W W G_hit hv7 (nl W) W (A1<|D9<|C0<|sv W<|sv W<|sv W<|A1<|E1 ?_))))))
 cases hz2
 exact ⟨W,(),(E6 W W)⟩
 refine C6 W ?_
 cases hz2
 obtain rfl:=ez2 _ rfl
 refine ⟨nofun,C5 W<|T3 ?_⟩
 exact ⟨(),(E6 W W)⟩
 rintro _ ⟨g2,q1⟩
 refine D9<|B4 q1<|C0<|sv W<|sv W<|sv W<|A1<|E1 ?_
 cases hz1
 exact ⟨W,(),(E6 W W)⟩
 refine C6 W ?_
 cases hz1
 obtain rfl:=ez1 _ rfl
 refine ⟨nofun,C5 W<|E1 ?_⟩
 exact CX (.inl W) [] CY (.refl _) ⟨⟨G_hit,Fp⟩,trivial⟩
def R6 (p2:Int)(x3:(Int×Int)):Option (Stp (Int×Int) Int):=
  cond (decide (x3.2≤p2)) (none) (some (.out x3.1))
def G6 [Lp](p2:Int)(v2:(List Pass))(x2:Int):Option (Stp Int (List Pass)):=
  cond (decide (x2<p2)) ((loop (R6 p2) (0,(D8 (2*x2)))).bind fun y2=>cond (decide ((D8 (y2+x2))<p2)) (none) (some (.go (D8 (x2*2))))) (some (.out (v2)))
def E3 [Lp](p2:Int)(x1:(Int×Int× (List Pass))):Option (Stp (Int×Int× (List Pass)) (Int× (List Pass))):=
  cond (decide (x1.2.1≤p2)) ((D3 x1.2.2 x1.1 x1.2.1).bind fun v1=>some (.go (x1.2.1,(D8 (x1.2.1+20)),v1))) (some (.out (x1.1,x1.2.2)))
def J0 [Lp](p1:(List Pass))(p2:Int):Option (List Pass):=
  (loop (E3 p2) (0,20,p1)).bind fun y1=>(D3 y1.2 y1.1 p2).bind fun v2=>loop (G6 p2 v2) 20
theorem Gb(p1 p2 r)(h:J0 p1 p2=some r):MCall prog 270 [(.sl (900000,0)),(di p2),(.d (.fn (.func 264) [] []))] [(.arr 229 4 (List.map Q5 p1))] (.d (.tup [])) [some (.arr 229 4 (List.map Q5 r))] []:=by
 refine Wh (fk func270 ntmps270 (fun r=>if r==3 then [1003004]else if r==6 then [1006004]else []) (by with_unfolding_all rfl)) W (nl W) ?_
 unfold J0 at h
 refine B4 (s0:=⟨T [(0,(.sl _)),(1,(.d _)),(2,(.d _))],G [((900000,0),some _)]⟩) (E6 W W) ?_
 refine B1<|sv W<|A1<|B1<|sv W<|sv W<|sv W<|A1<|A4<|bs h fun y1 hy1 h=>D4 (fun s=> ∃g1:Unit,Sb ⟨T [(0,(.sl (900000,0))),(1,(di p2)),(2,(.d (.fn (.func 264) [] []))),(6,(di 20)),(7,(di y1.1))],G [((900000,0),some<|.arr 229 4 (List.map Q5 y1.2))]⟩ s) ?_ ?_
 refine A8<|E2 (E3 p2) (fun (x1:(Int×Int× (List Pass))) (g2:Unit)=>⟨T [(0,(.sl (900000,0))),(1,(di p2)),(2,(.d (.fn (.func 264) [] []))),(6,(di 20)),(7,(di x1.1)),(8,(di x1.2.1))],G [((900000,0),some<|.arr 229 4 (List.map Q5 x1.2.2))]⟩) (0,20,p1) () _ hy1 (E6 W W) ?_
 intro x1 g2 z1 hz1 ez1
 unfold E3 at hz1
 refine A4<|B1<|sv W<|sv W<|sv W<|A1<|cc W hz1 (fun c1 hz1=> ?_)<|fun c1 hz1=> ?_
 refine A9<|A8<|B1<|ss W<|sv W<|sv W<|sv W<|bs hz1 fun v1 hv1 hz1=>GB (v:= .d (.tup [])) (us:= [(900000,0)]) (NC (U8 _ _ _ _ hv1) [(900000,0)] [(900000,0)] _ (((900000,0),some<|.arr 229 4 (List.map Q5 v1))::_) W Nw (Y5 ER<|Y5 CW<|Y5 CW<|Y5 CW Ur) (Ko G_hit Ik) ⟨⟨_,G_hit, .of W⟩,trivial⟩ (fun _ h=>h) nd1 W W W) (A1<|B1<|sv W<|sv W<|A1<|C0<|sv W<|sv W<|sv W<|sv W<|A1<|D9<|E1 ?_)
 cases hz1
 exact ⟨W,(),(E6 W W)⟩
 refine C6 W ?_
 cases hz1
 obtain rfl:=ez1 _ rfl
 refine ⟨nofun,C5 W<|T3 ?_⟩
 exact ⟨(),(E6 W W)⟩
 rintro _ ⟨g1,q1⟩
 refine B4 q1<|B1<|ss W<|sv W<|sv W<|sv W<|bs h fun v2 hv2 h=>GB (v:= .d (.tup [])) (us:= [(900000,0)]) (NC (U8 _ _ _ _ hv2) [(900000,0)] [(900000,0)] _ (((900000,0),some<|.arr 229 4 (List.map Q5 v2))::_) W Nw (Y5 ER<|Y5 CW<|Y5 CW<|Y5 CW Ur) (Ko G_hit Ik) ⟨⟨_,G_hit, .of W⟩,trivial⟩ (fun _ h=>h) nd1 W W W) (A1<|A8<|E2 (G6 p2 v2) (fun (x2:Int) (g3:Unit)=>⟨T [(0,(.sl (900000,0))),(1,(di p2)),(2,(.d (.fn (.func 264) [] []))),(6,(di x2))],G [((900000,0),some<|.arr 229 4 (List.map Q5 v2))]⟩) 20 () _ h (E6 W W) ?_)
 intro x2 g3 z2 hz2 ez2
 unfold G6 at hz2
 refine A4<|B1<|sv W<|sv W<|sv W<|A1<|cc W hz2 (fun c2 hz2=> ?_)<|fun c2 hz2=> ?_
 refine A9<|A8<|B1<|sv W<|sv W<|sv W<|sv W<|A1<|A4<|bs hz2 fun y2 hy2 hz2=>D4 (fun s=> ∃g4:Unit,Sb ⟨T [(0,(.sl (900000,0))),(1,(di p2)),(2,(.d (.fn (.func 264) [] []))),(6,(di x2)),(7,(di y2))],G [((900000,0),some<|.arr 229 4 (List.map Q5 v2))]⟩ s) ?_ ?_
 refine A8<|E2 (R6 p2) (fun (x3:(Int×Int)) (g5:Unit)=>⟨T [(0,(.sl (900000,0))),(1,(di p2)),(2,(.d (.fn (.func 264) [] []))),(6,(di x2)),(7,(di x3.1)),(8,(di x3.2))],G [((900000,0),some<|.arr 229 4 (List.map Q5 v2))]⟩) (0,(D8 (2*x2))) () _ hy2 (E6 W W) ?_
 intro x3 g5 z3 hz3 ez3
 unfold R6 at hz3
 refine A4<|B1<|sv W<|sv W<|sv W<|A1<|cc W hz3 (fun c3 hz3=> ?_)<|fun c3 hz3=> ?_
 refine A9<|A8<|B1<|ss W<|sv W<|sv W<|sv W<|sv W<|sv W<|sv W ?_
 cases hz3
 refine C6 W ?_
 cases hz3
 obtain rfl:=ez3 _ rfl
 refine ⟨nofun,C5 W<|T3 ?_⟩
 exact ⟨(),(E6 W W)⟩
 rintro _ ⟨g4,q2⟩
 refine B4 q2<|A4<|B1<|sv W<|sv W<|sv W<|sv W<|A1<|B1<|sv W<|sv W<|sv W<|A1<|cc W hz2 (fun c4 hz2=> ?_)<|fun c4 hz2=> ?_
 refine C0<|ss W<|sv W<|sv W<|sv W<|sv W ?_
 cases hz2
 refine A9<|C0<|sv W<|sv W<|sv W<|A1<|D9<|E1 ?_
 cases hz2
 exact ⟨W,(),(E6 W W)⟩
 refine C6 W ?_
 cases hz2
 obtain rfl:=ez2 _ rfl
 refine ⟨nofun,C5 W<|E1 ?_⟩
 exact CX (.inl W) [] CY (.refl _) ⟨⟨G_hit,Fp⟩,trivial⟩
def F9 [Lp](p1:(List Pass)):Option (List Pass):=
  (J0 p1 (p1.length:Int)).bind fun v1=>some v1
theorem Dn(p1 r)(h:F9 p1=some r):MCall prog 263 [(.sl (900000,0)),(.d (.fn (.func 264) [] []))] [(.arr 229 4 (List.map Q5 p1))] (.d (.tup [])) [some (.arr 229 4 (List.map Q5 r))] []:=by
 refine Wh (fk func263 ntmps263 (fun r=>if r==0 then [1000004]else []) (by with_unfolding_all rfl)) W (nl W) ?_
 unfold F9 at h
 refine B4 (s0:=⟨T [(0,(.sl _)),(1,(.d _))],G [((900000,0),some _)]⟩) (E6 W W) ?_
 refine C0<|ss W<|ss W<|sd W (WE (f:=Q5) W G_hit)<|sv W<|bs h fun v1 hv1 h=>GB (v:= .d (.tup [])) (us:= [(900000,0)]) (NC (Gb _ _ _ hv1) [(900000,0)] [(900000,0)] _ (((900000,0),some<|.arr 229 4 (List.map Q5 v1))::_) W Nw (Y5 ER<|Y5 CW<|Y5 CW Ur) (Ko G_hit Ik) ⟨⟨_,G_hit, .of W⟩,trivial⟩ (fun _ h=>h) nd1 W W W) (A1<|E1 ?_)
 obtain rfl:=(lD h)
 exact CX (.inl W) [] CY (.refl _) ⟨⟨G_hit,Fp⟩,trivial⟩
def O9 (p1:Int)(x2:Int):Option (Stp Int Unit):=
  ((cond (decide (x2>p1)) ((none:Option Unit)) (some default))).bind fun v1=>cond ((decide (x2>p1))&&false) (none) (some (.out ()))
def H7 [Lp](p1:Int)(p2:Int)(x1:Int):Option (Stp Int Unit):=
  cond (decide (x1<p2)) ((loop (O9 p1) x1).bind fun _=>some (.go (D8 (x1+1)))) (some (.out (())))
def E7 [Lp](p1:Int)(p2:Int):Option Unit:=
  loop (H7 p1 p2) (D8 (p1+1))
theorem U9(p1 p2 r)(h:E7 p1 p2=some r):PCall prog 282 [.nilS,(i64 p1),(i64 p2),(.fn (.func 264) [] [])] (.tup []):=by
 refine C2 (fk func282 ntmps282 m0 (by with_unfolding_all rfl)) (nl W) ?_
 unfold E7 at h
 refine B4 (s0:=⟨T [(0,(.d _)),(1,(.d _)),(2,(.d _)),(3,(.d _))],G []⟩) (E6 W W) ?_
 refine B1<|sv W<|sv W<|sv W<|A1<|A8<|E2 (H7 p1 p2) (fun (x1:Int) (g1:Unit)=>⟨T [(0,(.d .nilS)),(1,(di p1)),(2,(di p2)),(3,(.d (.fn (.func 264) [] []))),(8,(di x1))],G []⟩) (D8 (p1+1)) () _ h (E6 W W) ?_
 intro x1 g1 z1 hz1 ez1
 unfold H7 at hz1
 refine A4<|B1<|sv W<|sv W<|sv W<|A1<|cc W hz1 (fun c1 hz1=> ?_)<|fun c1 hz1=> ?_
 refine A9<|A4<|A8<|B1<|sv W<|sv W<|A1<|bs hz1 fun _ hy1 hz1=>D4 (fun s=> ∃g2:Unit,Sb ⟨T [(0,(.d .nilS)),(1,(di p1)),(2,(di p2)),(3,(.d (.fn (.func 264) [] []))),(8,(di x1))],G []⟩ s) ?_ ?_
 refine A8<|E2 (O9 p1) (fun (x2:Int) (g3:Unit)=>⟨T [(0,(.d .nilS)),(1,(di p1)),(2,(di p2)),(3,(.d (.fn (.func 264) [] []))),(8,(di x1)),(9,(di x2))],G []⟩) x1 () _ hy1 (E6 W W) ?_
 intro x2 g3 z2 hz2 ez2
 unfold O9 at hz2
 refine A4<|A4<|E0 W<|sv W<|sv W<|sv W<|sv W<|gt W (fun _=>W)<|gt W (fun _=>W)<|gt W (fun _=>W)<|bs hz2 fun _ hv1 hz2=>M3 _ (.d (.tup [])) W (K2 W) (fun w4=>nomatch B9 w4 hv1) (M3 _ (.d (.tup [])) W (K2 W) (fun w5=>nomatch B9 w5 hv1) (M3 _ (.d (.tup [])) W (K2 W) (fun w6=>nomatch B9 w6 hv1) (M3 _ (di 0) W (K2 W) (fun w7=>nomatch B9 w7 hv1) (M3 _ (di 0) W (K2 W) (fun w8=>nomatch B9 w8 hv1) (M3 _ (.d (.tup [])) W (K2 W) (fun w9=>nomatch B9 w9 hv1) (M3 _ (.d (.tup [])) W (K2 W) (fun w10=>nomatch B9 w10 hv1) (M2 _ (i64 0) (K2 W) (fun w11=>nomatch B9 w11 hv1) (M3 _ (.d (bo false)) W (K2 W) (fun w12=>nomatch B9 w12 hv1) (sa W W W<|A1<|cc W hz2 (fun c2 hz2=> ?_)<|fun c2 hz2=> ?_)))))))))
 refine A9<|A4<|A8<|E0 W<|sv W<|sv W<|sv W<|sv W<|sv W<|sv W<|sv W<|sv W ?_
 cases hz2
 refine C6 W ?_
 cases hz2
 obtain rfl:=ez2 _ rfl
 refine ⟨nofun,C5 W<|T3 ?_⟩
 exact ⟨(),(E6 W W)⟩
 rintro _ ⟨g2,q1⟩
 refine D9<|B4 q1<|C0<|sv W<|sv W<|sv W<|A1<|E1 ?_
 cases hz1
 exact ⟨W,(),(E6 W W)⟩
 refine C6 W ?_
 cases hz1
 obtain rfl:=ez1 _ rfl
 refine ⟨nofun,C5 W<|E1 ?_⟩
 exact A6 (.inl W) W (.refl _)
def R7 (p1:Int)(x3:(Int×Int)):Option (Stp (Int×Int) Int):=
  cond (decide (x3.2≤p1)) (none) (some (.out x3.1))
def H9 [Lp](p1:Int)(x2:Int):Option (Stp Int Unit):=
  cond (decide (x2<p1)) ((loop (R7 p1) (0,(D8 (2*x2)))).bind fun y2=>cond (decide ((D8 (y2+x2))<p1)) (none) (some (.go (D8 (x2*2))))) (some (.out (())))
def I0 [Lp](p1:Int)(x1:(Int×Int)):Option (Stp (Int×Int) Int):=
  cond (decide (x1.2≤p1)) ((E7 x1.1 x1.2).bind fun v1=>some (.go (x1.2,(D8 (x1.2+20))))) (some (.out x1.1))
def J1 [Lp](p1:Int):Option Unit:=
  (loop (I0 p1) (0,20)).bind fun y1=>(E7 y1 p1).bind fun v2=>loop (H9 p1) 20
theorem Gc(p1 r)(h:J1 p1=some r):PCall prog 270 [.nilS,(i64 p1),(.fn (.func 264) [] [])] (.tup []):=by
 refine C2 (fk func270 ntmps270 m0 (by with_unfolding_all rfl)) (nl W) ?_
 unfold J1 at h
 refine B4 (s0:=⟨T [(0,(.d _)),(1,(.d _)),(2,(.d _))],G []⟩) (E6 W W) ?_
 refine B1<|sv W<|A1<|B1<|sv W<|sv W<|sv W<|A1<|A4<|bs h fun y1 hy1 h=>D4 (fun s=> ∃g1:Unit,Sb ⟨T [(0,(.d .nilS)),(1,(di p1)),(2,(.d (.fn (.func 264) [] []))),(6,(di 20)),(7,(di y1))],G []⟩ s) ?_ ?_
 refine A8<|E2 (I0 p1) (fun (x1:(Int×Int)) (g2:Unit)=>⟨T [(0,(.d .nilS)),(1,(di p1)),(2,(.d (.fn (.func 264) [] []))),(6,(di 20)),(7,(di x1.1)),(8,(di x1.2))],G []⟩) (0,20) () _ hy1 (E6 W W) ?_
 intro x1 g2 z1 hz1 ez1
 unfold I0 at hz1
 refine A4<|B1<|sv W<|sv W<|sv W<|A1<|cc W hz1 (fun c1 hz1=> ?_)<|fun c1 hz1=> ?_
 refine A9<|A8<|B1<|sv W<|sv W<|sv W<|sv W<|bs hz1 fun _ hv1 hz1=>B0 W W A3 (U9 _ _ _ hv1) (.inl W) (A1<|B1<|sv W<|sv W<|A1<|C0<|sv W<|sv W<|sv W<|sv W<|A1<|D9<|E1 ?_)
 cases hz1
 exact ⟨W,(),(E6 W W)⟩
 refine C6 W ?_
 cases hz1
 obtain rfl:=ez1 _ rfl
 refine ⟨nofun,C5 W<|T3 ?_⟩
 exact ⟨(),(E6 W W)⟩
 rintro _ ⟨g1,q1⟩
 refine B4 q1<|B1<|sv W<|sv W<|sv W<|sv W<|bs h fun _ hv2 h=>B0 W W A3 (U9 _ _ _ hv2) (.inl W) (A1<|A8<|E2 (H9 p1) (fun (x2:Int) (g3:Unit)=>⟨T [(0,(.d .nilS)),(1,(di p1)),(2,(.d (.fn (.func 264) [] []))),(6,(di x2))],G []⟩) 20 () _ h (E6 W W) ?_)
 intro x2 g3 z2 hz2 ez2
 unfold H9 at hz2
 refine A4<|B1<|sv W<|sv W<|sv W<|A1<|cc W hz2 (fun c2 hz2=> ?_)<|fun c2 hz2=> ?_
 refine A9<|A8<|B1<|sv W<|sv W<|sv W<|sv W<|A1<|A4<|bs hz2 fun y2 hy2 hz2=>D4 (fun s=> ∃g4:Unit,Sb ⟨T [(0,(.d .nilS)),(1,(di p1)),(2,(.d (.fn (.func 264) [] []))),(6,(di x2)),(7,(di y2))],G []⟩ s) ?_ ?_
 refine A8<|E2 (R7 p1) (fun (x3:(Int×Int)) (g5:Unit)=>⟨T [(0,(.d .nilS)),(1,(di p1)),(2,(.d (.fn (.func 264) [] []))),(6,(di x2)),(7,(di x3.1)),(8,(di x3.2))],G []⟩) (0,(D8 (2*x2))) () _ hy2 (E6 W W) ?_
 intro x3 g5 z3 hz3 ez3
 unfold R7 at hz3
 refine A4<|B1<|sv W<|sv W<|sv W<|A1<|cc W hz3 (fun c3 hz3=> ?_)<|fun c3 hz3=> ?_
 refine A9<|A8<|B1<|sv W<|sv W<|sv W<|sv W<|sv W<|sv W<|sv W ?_
 cases hz3
 refine C6 W ?_
 cases hz3
 obtain rfl:=ez3 _ rfl
 refine ⟨nofun,C5 W<|T3 ?_⟩
 exact ⟨(),(E6 W W)⟩
 rintro _ ⟨g4,q2⟩
 refine B4 q2<|A4<|B1<|sv W<|sv W<|sv W<|sv W<|A1<|B1<|sv W<|sv W<|sv W<|A1<|cc W hz2 (fun c4 hz2=> ?_)<|fun c4 hz2=> ?_
 refine C0<|sv W<|sv W<|sv W<|sv W<|sv W ?_
 cases hz2
 refine A9<|C0<|sv W<|sv W<|sv W<|A1<|D9<|E1 ?_
 cases hz2
 exact ⟨W,(),(E6 W W)⟩
 refine C6 W ?_
 cases hz2
 obtain rfl:=ez2 _ rfl
 refine ⟨nofun,C5 W<|E1 ?_⟩
 exact A6 (.inl W) W (.refl _)
def G0 [Lp]:Option Unit:=
  (J1 0).bind fun v1=>some ()
theorem Do(r)(h:G0=some r):PCall prog 263 [.nilS,(.fn (.func 264) [] [])] (.tup []):=by
 refine C2 (fk func263 ntmps263 m0 (by with_unfolding_all rfl)) (nl W) ?_
 unfold G0 at h
 refine B4 (s0:=⟨T [(0,(.d _)),(1,(.d _))],G []⟩) (E6 W W) ?_
 refine C0<|sv W<|sv W<|sv W<|sv W<|bs h fun _ hv1 h=>B0 W W A3 (Gc _ _ hv1) (.inl W) (A1<|E1 ?_)
 cases h
 exact A6 (.inl W) W (.refl _)
def Ar (v1:RoadsWay)(x1:((List Pass)×Int))(v2:Int)(x2:((List Pass)×Int))(v3:Zone)(x3:((List Pass)×Int)):Option (Stp ((List Pass)×Int) (List Pass)):=
  cond (decide (x3.2< (v3.Parts.length:Int))) ((C3 v3.Parts x3.2).bind fun v4=>cond (v4.Lane_==v2) ((C3 v1.starts x1.2).bind fun v5=>(C3 v1.starts x1.2).bind fun v6=>(Am x3.1 [(Pass.mk x2.2 x3.2 (D8 (v5+v4.From)) (D8 (v6+v4.To)))]).bind fun v7=>some (.go (v7,(D8 (x3.2+1))))) (some (.go (x3.1,(D8 (x3.2+1)))))) (some (.out x3.1))
def U2 [Lp](p1:Map)(v1:RoadsWay)(x1:((List Pass)×Int))(v2:Int)(x2:((List Pass)×Int)):Option (Stp ((List Pass)×Int) (List Pass)):=
  cond (decide (x2.2< (p1.Zones.length:Int))) ((C3 p1.Zones x2.2).bind fun v3=>(loop (Ar v1 x1 v2 x2 v3) (x2.1,0)).bind fun y3=>some (.go (y3,(D8 (x2.2+1))))) (some (.out x2.1))
def O2 [Lp](p1:Map)(v1:RoadsWay)(x1:((List Pass)×Int)):Option (Stp ((List Pass)×Int) (List Pass)):=
  cond (decide (x1.2< (v1.lanes.length:Int))) ((C3 v1.lanes x1.2).bind fun v2=>(loop (U2 p1 v1 x1 v2) (x1.1,0)).bind fun y2=>some (.go (y2,(D8 (x1.2+1))))) (some (.out x1.1))
def V0 [Lp](p1:Map)(p2:(List Int)):Option (List Pass):=
  (Y6 p1 p2).bind fun v1=>(loop (O2 p1 v1) ([],0)).bind fun y1=>cond (List.isEmpty y1) ((G0).bind fun v9=>some []) ((F9 y1).bind fun v8=>some v8)
theorem IO(p1 p2 r)(h:V0 p1 p2=some r):PCall prog 246 [(.agg (P1 p1)),(.list (List.map A5 p2))] (.list (List.map Q5 r)):=by
 refine C2 (fk func246 ntmps246 (fun r=>if r==13 then [1020]else if r==17 then [1017001]else []) (by with_unfolding_all rfl)) (nl W) ?_
 unfold V0 at h
 refine B4 (s0:=⟨T [(0,(.d _)),(1,(.d _))],G []⟩) (E6 W W) ?_
 refine lr<|fun u1 _=>sm W<|sv W<|A1<|lr<|fun u2 _=>sd W (A7 W G_hit W W)<|sv W<|bs h fun v1 hv1 h=>B0 W W A3 (Im _ _ _ hv1) (.inl W) (sm W<|R4 W G_hit (Ix v1) W (A1<|B1<|sv W<|A1<|A4<|B1<|sq W<|sl W G_hit W<|sd W (D6 W)<|sv W<|A1<|bs h fun y1 hy1 h=>D4 (fun s=> ∃g1:Nat,Sb ⟨T [(6,(oS y1 (65,g1)))],G [((65,g1),oB 229 4 Q5 y1)]⟩ s) ?_ ?_))
 refine A8<|E2 (O2 p1 v1) (fun (x1:((List Pass)×Int)) (g2:Nat)=>⟨T [(2,(.ptr (2,u1) 0)),(5,(.ptr (5,u2) 0)),(6,(oS x1.1 (65,g2))),(17,(dl A5 v1.lanes)),(18,(di (v1.lanes.length:Int))),(19,(di x1.2))],G [((2,u1),some<|.box 33 (K8 p1)),((5,u2),some<|.box 260 (Ix v1)),((65,g2),oB 229 4 Q5 x1.1)]⟩) ([],0) 0 _ hy1 (D5 (X3 W)<|sg W<|B5 G_hit (.of W)<|P4 trivial) ?_
 intro x1 g2 z1 hz1 ez1
 unfold O2 at hz1
 refine B1<|sv W<|A1<|A4<|cc W hz1 (fun c1 hz1=> ?_)<|fun c1 hz1=> ?_
 refine A9<|A4<|A8<|B1<|sv W<|bs hz1 fun v2 hv2 hz1=>sd W (C4 W W hv2 W)<|sd W (C7 W hv2 W)<|sv W<|sv W<|A1<|B1<|sq W<|sl W G_hit W<|sd W (D6 W)<|sv W<|A1<|bs hz1 fun y2 hy2 hz1=>D4 (fun s=> ∃g3:Nat,Sb ⟨T [(2,(.ptr (2,u1) 0)),(5,(.ptr (5,u2) 0)),(6,(oS y2 (65,g3))),(17,(dl A5 v1.lanes)),(18,(di (v1.lanes.length:Int))),(19,(di x1.2))],G [((2,u1),some<|.box 33 (K8 p1)),((5,u2),some<|.box 260 (Ix v1)),((65,g3),oB 229 4 Q5 y2)]⟩ s) ?_ ?_
 refine A8<|E2 (U2 p1 v1 x1 v2) (fun (x2:((List Pass)×Int)) (g4:Nat)=>⟨T [(2,(.ptr (2,u1) 0)),(5,(.ptr (5,u2) 0)),(6,(oS x2.1 (65,g4))),(7,(di x1.2)),(8,(di v2)),(17,(dl A5 v1.lanes)),(18,(di (v1.lanes.length:Int))),(19,(di x1.2)),(25,(dl El p1.Zones)),(26,(di (p1.Zones.length:Int))),(27,(di x2.2))],G [((2,u1),some<|.box 33 (K8 p1)),((5,u2),some<|.box 260 (Ix v1)),((65,g4),oB 229 4 Q5 x2.1)]⟩) (x1.1,0) g2 _ hy2 (D5 (X3 W)<|B5 G_hit (.of W)<|sg W<|B7 (gq W) trivial) ?_
 intro x2 g4 z2 hz2 ez2
 unfold U2 at hz2
 refine B1<|sv W<|A1<|A4<|cc W hz2 (fun c2 hz2=> ?_)<|fun c2 hz2=> ?_
 refine A9<|A4<|A8<|B1<|sv W<|bs hz2 fun v3 hv3 hz2=>sd W (C4 W W hv3 W)<|sd W (D1 W hv3 W W)<|sm W<|sv W<|R4 W G_hit [(dl Bl v3.Parts),(di v3.Signal_)] W (A1<|B1<|sq W<|sl W G_hit W<|sd W (D6 W)<|sv W<|A1<|bs hz2 fun y3 hy3 hz2=>D4 (fun s=> ∃g5:Nat,Sb ⟨T [(2,(.ptr (2,u1) 0)),(5,(.ptr (5,u2) 0)),(6,(oS y3 (65,g5))),(7,(di x1.2)),(8,(di v2)),(17,(dl A5 v1.lanes)),(18,(di (v1.lanes.length:Int))),(19,(di x1.2)),(25,(dl El p1.Zones)),(26,(di (p1.Zones.length:Int))),(27,(di x2.2))],G [((2,u1),some<|.box 33 (K8 p1)),((5,u2),some<|.box 260 (Ix v1)),((65,g5),oB 229 4 Q5 y3)]⟩ s) ?_ ?_)
 refine A8<|E2 (Ar v1 x1 v2 x2 v3) (fun (x3:((List Pass)×Int)) (g6:Nat)=>⟨T [(2,(.ptr (2,u1) 0)),(5,(.ptr (5,u2) 0)),(6,(oS x3.1 (65,g6))),(7,(di x1.2)),(8,(di v2)),(9,(di x2.2)),(17,(dl A5 v1.lanes)),(18,(di (v1.lanes.length:Int))),(19,(di x1.2)),(25,(dl El p1.Zones)),(26,(di (p1.Zones.length:Int))),(27,(di x2.2)),(33,(dl Bl v3.Parts)),(34,(di (v3.Parts.length:Int))),(35,(di x3.2))],G [((2,u1),some<|.box 33 (K8 p1)),((5,u2),some<|.box 260 (Ix v1)),((65,g6),oB 229 4 Q5 x3.1)]⟩) (x2.1,0) g4 _ hy3 (D5 (X3 W)<|sg W<|sg W<|B7 (gq W) trivial) ?_
 intro x3 g6 z3 hz3 ez3
 unfold Ar at hz3
 refine B1<|sv W<|A1<|A4<|cc W hz3 (fun c3 hz3=> ?_)<|fun c3 hz3=> ?_
 refine A9<|A4<|A8<|B1<|sv W<|bs hz3 fun v4 hv4 hz3=>sd W (C4 W W hv4 W)<|sd W (D1 W hv4 W W)<|sm W<|sv W<|R4 W G_hit (BS v4) W (A1<|B1<|sq W<|sl W G_hit W<|sv W<|sv W<|A1<|cc W hz3 (fun c4 hz3=> ?_)<|fun c4 hz3=> ?_)
 refine Jr W fun u14 _=>B8 (oS x3.1 (65,g6)) W W (sv W<|sv W<|sq W<|sl W (gq W) W (sv W<|bs hz3 fun v5 hv5 hz3=>sd W (C4 W W hv5 W)<|sd W (C7 W hv5 W)<|sq W<|sl W G_hit W<|sv W<|sq W<|sl W (gq W) W (sv W<|bs hz3 fun v6 hv6 hz3=>sd W (C4 W W hv6 W)<|sd W (C7 W hv6 W)<|sq W<|sl W G_hit W<|sv W<|sv W<|B8 (dl Q5 [(Pass.mk x2.2 x3.2 (D8 (v5+v4.From))<|D8 (v6+v4.To))]) W W (bs hz3 fun _ hv7 hz3=>N8 Q5 (65,g6) x3.1 (Pass.mk x2.2 x3.2 (D8 (v5+v4.From))<|D8 (v6+v4.To)) [] _ (K1<|fun _=>W) W (gq W) hv7 (ss W<|A1<|D9<|C0<|sv W<|sv W<|A1<|E1 ?_)))))
 cases hz3
 exact ⟨W,u14,(D5 ⟨.of W, .of W,(.of (S6<|T0 hv7).symm), .of W, .of W, .of W, .of W, .of W, .of W, .of W, .of W, .of W, .of W, .of W, .of W,trivial⟩<|sg W<|sg W<|M6 G_hit trivial)⟩
 refine A9<|D9<|C0<|sv W<|sv W<|A1<|E1 ?_
 cases hz3
 exact ⟨W,g6,(D5 (X3 W)<|sg W<|sg W<|B7 (gq W) trivial)⟩
 refine C6 W ?_
 cases hz3
 obtain rfl:=ez3 _ rfl
 refine ⟨nofun,C5 W<|T3 ?_⟩
 exact ⟨g6,(D5 (X3 W)<|B5 G_hit (.of W)<|sg W<|B7 (gq W) trivial)⟩
 rintro _ ⟨g5,q1⟩
 refine D9<|B4 q1<|C0<|sv W<|sv W<|A1<|E1 ?_
 cases hz2
 exact ⟨W,g5,(D5 (X3 W)<|B5 G_hit (.of W)<|sg W<|B7 (gq W) trivial)⟩
 refine C6 W ?_
 cases hz2
 obtain rfl:=ez2 _ rfl
 refine ⟨nofun,C5 W<|T3 ?_⟩
 exact ⟨g4,(D5 (X3 W)<|B5 G_hit (.of W)<|sg W<|B7 (gq W) trivial)⟩
 rintro _ ⟨g3,q2⟩
 refine D9<|B4 q2<|C0<|sv W<|sv W<|A1<|E1 ?_
 cases hz1
 exact ⟨W,g3,(D5 (X3 W)<|B5 G_hit (.of W)<|sg W<|B7 (gq W) trivial)⟩
 refine C6 W ?_
 cases hz1
 obtain rfl:=ez1 _ rfl
 refine ⟨nofun,C5 W<|T3 ?_⟩
 exact ⟨g2,(D5 ⟨.of W,trivial⟩<|B7 (gq W) trivial)⟩
 rintro _ ⟨g1,q3⟩
 refine B4 q3<|A4 ?_
 rcases OO h with ⟨e1,h⟩|⟨e1,h⟩
 refine B4 (s0:=⟨T [(6,(.d .nilS))],G []⟩) (D5 ⟨.of (fS e1),trivial⟩ trivial) ?_
 refine C0<|sv W<|bs h fun _ hv9 h=>GB (v:= .d (.tup [])) (us:= []) (kD [] _ W W A3 (Do _ hv9) W W) (A1<|B1<|sv W<|sv W<|A1<|B2 ?_)
 cases h
 exact A6 (.inr W) (B6 (B3 W) C1) DLe.nil
 refine B4 (s0:=⟨T [(6,(.sl (65,g1)))],G [((65,g1),some<|.arr 229 4 (List.map Q5 y1))]⟩) (D5 ⟨.of (S6 e1),trivial⟩<|B5 (Eu G_hit e1) (.of W) trivial) ?_
 refine C0<|ss W<|bs h fun v8 hv8 h=>GB (v:= .d (.tup [])) (us:= [(65,g1)]) (NC (Dn _ _ hv8) [(65,g1)] [(65,g1)] _ (((65,g1),some<|.arr 229 4 (List.map Q5 v8))::_) W Nw (Y5 ER<|Y5 CW Ur) (Ko G_hit Ik) ⟨⟨_,G_hit, .of W⟩,trivial⟩ (fun _ h=>h) nd1 W W W) (A1<|B1<|ss W<|ss W<|A1<|B2 ?_)
 cases h
 exact A6 (.inr W) (B6 (B3 W)<|OI G_hit) (.refl _)
def Gg (p1:Pass)(p2:Int)(p3:WorldSpan):Option Bool:=
  some (((p1.Zone_==p2)&& (decide (p1.From≤p3.to)))&& (decide (p3.from_≤p1.To)))
theorem Wn(p1 p2 p3 r)(h:Gg p1 p2 p3=some r):PCall prog 247 [(.agg (Q5 p1)),(.bp [(i64 p2)] 0),(.bp [(i64 p3.from_),(i64 p3.to)] 0)] (bo r):=by
 refine C2 (fk func247 ntmps247 m0 (by with_unfolding_all rfl)) (nl W) ?_
 unfold Gg at h
 refine B4 (s0:=⟨T [(0,(.d _)),(1,(.d _)),(2,(.d _))],G []⟩) (E6 W W) ?_
 refine B1<|sm W<|sv W<|A1<|B1<|sq W<|sl W G_hit W<|sv W<|sv W<|sv W<|gp W (K2 W) (fun _=>W) (gt W (vl W G_hit W)<|gt W (fun _=>W) ?_)
 refine gt W (fun w4=>(by simp only [A2 w4];rfl)) ?_
 refine gt W (fun w5=>(L6 (A2 w5) (A2 w5) W))<|sa W W W<|sv W<|gt W (fun _=>W) ?_
 refine gt W (fun w7=>(by simp only [A2 w7];rfl)) ?_
 refine gp W (K2 W) (fun _=>W) (gt W (vl W G_hit W)<|gt W (fun w10=>(L6 (A2 w10) (A2 w10) W))<|sa W W W<|sv W<|A1<|B2 ?_)
 cases h
 exact A6 (.inr W) (B6 (B3 W) C1) (.refl _)
def K9 (p1:(List Pass))(p2:Int)(p3:WorldSpan)(x1:Int):Option (Stp Int (Sum Unit Int)):=
  cond (decide (x1< (p1.length:Int))) ((C3 p1 x1).bind fun v1=>(Gg v1 p2 p3).bind fun v2=>cond v2 (some (.out (.inr x1))) (some (.go (D8 (x1+1))))) (some (.out (.inl ())))
def I5 [Lp](p1:(List Pass))(p2:Int)(p3:WorldSpan):Option Int:=
  thenS (loop (K9 p1 p2 p3) 0) (fun _=>some (-1)) (fun r=>some r)
theorem Fc(p1 p2 p3 r)(h:I5 p1 p2 p3=some r):PCall prog 262 [(.list (List.map Q5 p1)),(.fn (.func 247) [] [(.bp [(i64 p2)] 0),(.bp [(i64 p3.from_),(i64 p3.to)] 0)])] (i64 r):=by
 refine C2 (fk func262 ntmps262 m0 (by with_unfolding_all rfl)) (nl W) ?_
 unfold I5 at h
 refine B4 (s0:=⟨T [(0,(.d _)),(1,(.d _))],G []⟩) (E6 W W) ?_
 refine B1<|sv W<|A1<|A4<|B1<|sv W<|sd W (D6 W)<|sv W<|A1<|js h fun z1 hz1 h=>D4 (fun s=> ∃(y1:Unit) (g1:Unit),z1= .inl y1∧Sb ⟨T [],G []⟩ s) ?_ ?_
 refine A8<|E2 (K9 p1 p2 p3) (fun (x1:Int) (g2:Unit)=>⟨T [(0,(dl Q5 p1)),(1,(.d (.fn (.func 247) [] [(.bp [(i64 p2)] 0),(.bp [(i64 p3.from_),(i64 p3.to)] 0)]))),(7,(di (p1.length:Int))),(8,(di x1))],G []⟩) 0 () _ hz1 (E6 W W) ?_
 intro x1 g2 z2 hz2 ez2
 unfold K9 at hz2
 refine B1<|sv W<|A1<|A4<|cc W hz2 (fun c1 hz2=> ?_)<|fun c1 hz2=> ?_
 refine A9<|A4<|A8<|B1<|sv W<|sv W<|A1<|B1<|sv W<|sv W<|sv W<|bs hz2 fun _ hv1 hz2=>sd W (C4 W W hv1 W)<|sd W (D1 W hv1 W W)<|bs hz2 fun _ hv2 hz2=>B0 W W A3 (Wn _ _ _ _ hv2) (.inl W) (A1<|cc W hz2 (fun c2 hz2=> ?_)<|fun c2 hz2=> ?_)
 refine B1<|sv W<|sv W<|A1<|B2 ?_
 cases hz2
 obtain rfl:=ez2 _ rfl
 refine ⟨nofun,F1 ?_⟩
 rw [wA]at h
 cases h
 exact A6 (.inr W) (B6 (B3 W) C1) (.refl _)
 refine A9<|D9<|C0<|sv W<|sv W<|A1<|E1 ?_
 cases hz2
 exact ⟨W,(),(E6 W W)⟩
 refine C6 W ?_
 cases hz2
 obtain rfl:=ez2 _ rfl
 refine ⟨nofun,C5 W<|T3 ?_⟩
 exact ⟨_,(),W,(E6 W W)⟩
 rintro _ ⟨y1,g1,rfl,q1⟩
 rw [bZ]at h
 refine B4 q1<|B1<|sv W<|A1<|B2 ?_
 cases h
 exact A6 (.inr W) (B6 (B3 W) C1) (.refl _)
def G1 [Lp](p1:(List Pass))(p2:Int)(p3:WorldSpan):Option Bool:=
  (I5 p1 p2 p3).bind fun v1=>some (decide (v1≥0))
theorem Du(p1 p2 p3 r)(h:G1 p1 p2 p3=some r):PCall prog 245 [(.list (List.map Q5 p1)),(.fn (.func 247) [] [(.bp [(i64 p2)] 0),(.bp [(i64 p3.from_),(i64 p3.to)] 0)])] (bo r):=by
 refine C2 (fk func245 ntmps245 m0 (by with_unfolding_all rfl)) (nl W) ?_
 unfold G1 at h
 refine B4 (s0:=⟨T [(0,(.d _)),(1,(.d _))],G []⟩) (E6 W W) ?_
 refine B1<|sv W<|A1<|B1<|sv W<|sv W<|bs h fun _ hv1 h=>B0 W W A3 (Fc _ _ _ _ hv1) (.inl W) (sv W<|sv W<|A1<|B2 ?_)
 cases h
 exact A6 (.inr W) (B6 (B3 W) C1) (.refl _)
def Dh [Lp](p1:Map)(p2:Agent)(p3:Agent)(p4:Int):Option Bool:=
  (Ms p2).bind fun v1=>((cond (!(!v1)) (Ms p3) (some default))).bind fun v2=>cond ((!v1)||(!v2)) (some false) ((Cq p2).bind fun v3=>(V0 p1 p2.Route).bind fun v4=>(G1 v4 p4 (WorldSpan.mk v3.from_ p3.S)).bind fun v5=>some v5)
theorem GH(p1 p2 p3 p4 r)(h:Dh p1 p2 p3 p4=some r):PCall prog 218 [(.agg (P1 p1)),(.agg (C8 p2)),(.agg (C8 p3)),(i64 p4)] (bo r):=by
 refine C2 (fk func218 ntmps218 m0 (by with_unfolding_all rfl)) (nl W) ?_
 unfold Dh at h
 refine B4 (s0:=⟨T [(0,(.d _)),(1,(.d _)),(2,(.d _)),(3,(.d _))],G []⟩) (E6 W W) ?_
 refine B1<|sm W<|sn W W<|sm W<|sn W W<|sv W<|A1<|A4<|B1<|sd W (A7 W (gq W) W W)<|bs h fun v1 hv1 h=>B0 W W A3 (Uw _ _ hv1) (.inl W) (B8 (.d (bo (!v1))) W W (sv W<|gf W (fun _=>(A7 W (gq W) W W))<|bs h fun v2 hv2 h=> ?_))
 refine M2 _ (bo v2) (K6 W) (fun w2=>⟨_,[(.d (.agg (C8 p3)))],_,_,(by simp only [A2 w2];rfl),W,A3,Uw _ _<|B9 w2 hv2,(.inl W)⟩) ?_
 refine M3 _ (.d (bo (!v2))) W (K6 W) (fun w3=>(by simp only [A2 w3];rfl)) ?_
 refine sd W (N9 W W<|fun hc=>A2<|J2 hc)<|A1<|cc W h (fun c1 h=> ?_)<|fun c1 h=> ?_
 refine B1<|sv W<|A1<|B2 ?_
 cases h
 exact A6 (.inr W) (B6 (B3 W) C1) (.refl _)
 refine A9<|A4<|E0 W<|sd W (A7 W (gq W) W W)<|bs h fun v3 hv3 h=>B0 W W A3 (Iz _ _ hv3) (.inl W) (sv W<|sq W<|sl W (gq W) W (sv W<|sm W<|R4 W G_hit [(di v3.from_),(di p3.S)] W (A1<|B1<|sd W (A7 W (gq W) W W)<|sq W<|sl W (gq W) W (bs h fun _ hv4 h=>B0 W W A3 (IO _ _ _ hv4) (.inl W) (B8 (.fn _ _ _) W W (bs h fun _ hv5 h=>B0 W (rD<|E4 (BO F6<|E4 (Ax (gq W)<|rD F6)<|E4 (Ax G_hit<|rD<|rD F6) F6) F6) A3 (Du _ _ _ _ hv5) (.inr W) (sv W<|A1<|B2 ?_)))))))
 cases h
 exact A6 (.inr W) (B6 (B3 W) C1) (.refl _)
def P6 [Lp](p1:WorldScene)(p2:Int)(p3:Int):Option Bool:=
  (Fb p1.before p2).bind fun v1=>((cond v1 (C3 p1.before.Agents p2) (some default))).bind fun v2=>((cond v1 (C3 p1.after.Agents p2) (some default))).bind fun v3=>((cond v1 (Dh p1.m v2 v3 p3) (some default))).bind fun v4=>some (v1&&v4)
theorem Bq(p1 p2 p3 r)(h:P6 p1 p2 p3=some r):PCall prog 171 [(.bp (Ql p1) 0),(i64 p2),(i64 p3)] (bo r):=by
 refine C2 (fk func171 ntmps171 m0 (by with_unfolding_all rfl)) (nl W) ?_
 unfold P6 at h
 refine B4 (s0:=⟨T [(0,(.d _)),(1,(.d _)),(2,(.d _))],G []⟩) (E6 W W) ?_
 refine B1<|sv W<|A1<|A4<|E0 W<|sv W<|sv W<|sv W<|sv W<|sv W<|bs h fun v1 hv1 h=>B0 W W A3 (Jv _ _ _ hv1) (.inl W) (sv W<|gt W (fun _=>W) ?_)
 refine gt W (fun w2=>(by simp only [A2 w2];rfl)) ?_
 refine gt W (fun w3=>(by simp only [A2 w3];rfl)) ?_
 refine gt W (fun w4=>(by simp only [A2 w4];rfl)) ?_
 refine gt W (fun _=>W) ?_
 refine gt W (fun w6=>(by simp only [A2 w6];rfl)) ?_
 refine gt W (fun w7=>(by simp only [A2 w7];rfl)) ?_
 refine gt W (fun w8=>(by simp only [A2 w8];rfl)) ?_
 refine gt W (fun w9=>(by simp only [A2 w9];rfl)) ?_
 refine gt W (fun _=>W)<|bs h fun v2 hv2 h=>gt W (fun w11=>(C4 (A2 w11) (A2 w11) (B9 w11 hv2) W))<|gt W (fun w12=>(D1 (A2 w12) (B9 w12 hv2) W W))<|gt W (fun _=>W) ?_
 refine gt W (fun w14=>(by simp only [A2 w14];rfl)) ?_
 refine gt W (fun w15=>(by simp only [A2 w15];rfl)) ?_
 refine gt W (fun w16=>(by simp only [A2 w16];rfl)) ?_
 refine gt W (fun w17=>(by simp only [A2 w17];rfl)) ?_
 refine gt W (fun _=>W)<|bs h fun v3 hv3 h=>gt W (fun w19=>(C4 (A2 w19) (A2 w19) (B9 w19 hv3) W))<|gt W (fun w20=>(D1 (A2 w20) (B9 w20 hv3) W W))<|gt W (fun _=>W)<|bs h fun v4 hv4 h=> ?_
 refine M2 v1 (bo v4) (K2 W) (fun w22=>⟨_,[(.d (.agg (P1 p1.m))),(.d (.agg (C8 v2))),(.d (.agg (C8 v3))),(di p3)],_,_,(by simp only [A2 w22];rfl),W,A3,GH _ _ _ _ _<|B9 w22 hv4,(.inl W)⟩) ?_
 refine sa W W W<|sv W<|A1<|B2 ?_
 cases h
 exact A6 (.inr W) (B6 (B3 W) C1) (.refl _)
def H4 [Lp](p1:(List Stay))(p2:Stay)(x1:(Int×Int)):Option (Stp (Int×Int) Int):=
  cond (decide (x1.1<x1.2)) ((C3 p1 (D8 ((IntKind.wrap .u64 (D8 (x1.1+x1.2))).fdiv (2^ (min (1:Int).toNat (IntKind.bits .u64)))))).bind fun v1=>(Dg v1 p2).bind fun v2=>cond (decide (v2<0)) (some (.go ((D8 ((D8 ((IntKind.wrap .u64 (D8 (x1.1+x1.2))).fdiv (2^ (min (1:Int).toNat (IntKind.bits .u64)))))+1)),x1.2))) (some (.go (x1.1,(D8 ((IntKind.wrap .u64 (D8 (x1.1+x1.2))).fdiv (2^ (min (1:Int).toNat (IntKind.bits .u64))))))))) (some (.out x1.1))
def F3 [Lp](p1:(List Stay))(p2:Stay):Option (Int×Bool):=
  (loop (H4 p1 p2) (0,(p1.length:Int))).bind fun y1=>((cond (decide (y1< (p1.length:Int))) (C3 p1 y1) (some default))).bind fun v3=>((cond (decide (y1< (p1.length:Int))) (Dg v3 p2) (some default))).bind fun v4=>some (y1,((decide (y1< (p1.length:Int)))&& (v4==0)))
theorem O7(p1 p2 r)(h:F3 p1 p2=some r):PCall prog 172 [(.list (List.map I9 p1)),(.agg (I9 p2)),(.fn (.func 73) [] [])] (.tup [(i64 r.1),(bo r.2)]):=by
 refine C2 (fk func172 ntmps172 m0 (by with_unfolding_all rfl)) (nl W) ?_
 unfold F3 at h
 refine B4 (s0:=⟨T [(0,(.d _)),(1,(.d _)),(2,(.d _))],G []⟩) (E6 W W) ?_
 refine lr<|fun u1 _=>sm W<|sv W<|sv W<|A1<|B1<|sv W<|sd W (D6 W)<|sv W<|A1<|B1<|sv W<|sv W<|sv W<|A1<|A4<|bs h fun y1 hy1 h=>D4 (fun s=> ∃g1:Unit,Sb ⟨T [(0,(dl I9 p1)),(2,(.d (.fn (.func 73) [] []))),(4,(.ptr (4,u1) 0)),(8,(di (p1.length:Int))),(9,(di y1))],G [((4,u1),some<|.box 127 (Xj p2))]⟩ s) ?_ ?_
 refine A8<|E2 (H4 p1 p2) (fun (x1:(Int×Int)) (g2:Unit)=>⟨T [(0,(dl I9 p1)),(2,(.d (.fn (.func 73) [] []))),(4,(.ptr (4,u1) 0)),(8,(di (p1.length:Int))),(9,(di x1.1)),(10,(di x1.2))],G [((4,u1),some<|.box 127 (Xj p2))]⟩) (0,(p1.length:Int)) () _ hy1 (E6 W W) ?_
 intro x1 g2 z1 hz1 ez1
 unfold H4 at hz1
 refine A4<|B1<|sv W<|sv W<|sv W<|A1<|cc W hz1 (fun c1 hz1=> ?_)<|fun c1 hz1=> ?_
 refine A9<|A8<|B1<|sv W<|sv W<|sv W<|sv W<|sv W<|sv W<|sv W<|A1<|A4<|E0 W<|sv W<|sv W<|sv W<|bs hz1 fun _ hv1 hz1=>sd W (C4 W W hv1 W)<|sd W (D1 W hv1 W W)<|sd W (A7 W G_hit W W)<|bs hz1 fun _ hv2 hz1=>B0 W W A3 (Ta _ _ _ hv2) (.inl W) (sv W<|A1<|cc W hz1 (fun c2 hz1=> ?_)<|fun c2 hz1=> ?_)
 refine C0<|sv W<|sv W<|sv W<|A1<|D9<|E1 ?_
 cases hz1
 exact ⟨W,(),(E6 W W)⟩
 refine C0<|sv W<|sv W<|A1<|D9<|E1 ?_
 cases hz1
 exact ⟨W,(),(E6 W W)⟩
 refine C6 W ?_
 cases hz1
 obtain rfl:=ez1 _ rfl
 refine ⟨nofun,C5 W<|T3 ?_⟩
 exact ⟨(),(E6 W W)⟩
 rintro _ ⟨g1,q1⟩
 refine B4 q1<|A4<|E0 W<|sv W<|sv W<|sv W<|sv W<|sv W<|gt W (fun _=>W)<|gt W (fun _=>W)<|gt W (fun _=>W)<|bs h fun v3 hv3 h=>gt W (fun w4=>(C4 (A2 w4) (A2 w4) (B9 w4 hv3) W))<|gt W (fun w5=>(D1 (A2 w5) (B9 w5 hv3) W W))<|gt W (fun _=>(A7 W G_hit W W))<|bs h fun v4 hv4 h=> ?_
 refine M2 _ (i64 v4) (K2 W) (fun w7=>⟨_,[(.d (.agg (I9 v3))),(.d (.agg (I9 p2)))],_,_,(by simp only [A2 w7];rfl),W,A3,Ta _ _ _<|B9 w7 hv4,(.inl W)⟩) ?_
 refine gt W (vb W W W)<|sa W W W<|sv W<|sv W<|A1<|B2 ?_
 cases h
 exact A6 (.inr W) (Lh (B3 W) (B3 W) C1 C1) (.refl _)
def Ob (p1:Part)(p2:Int):Option Bool:=
  some (p1.Lane_==p2)
theorem EY(p1 p2 r)(h:Ob p1 p2=some r):PCall prog 265 [(.agg (Bl p1)),(.bp [(i64 p2)] 0)] (bo r):=by
 refine C2 (fk func265 ntmps265 m0 (by with_unfolding_all rfl)) (nl W) ?_
 unfold Ob at h
 refine B4 (s0:=⟨T [(0,(.d _)),(1,(.d _))],G []⟩) (E6 W W) ?_
 refine B1<|sm W<|sv W<|A1<|B1<|sq W<|sl W G_hit W<|sv W<|sv W<|sv W<|A1<|B2 ?_
 cases h
 exact A6 (.inr W) (B6 (B3 W) C1) (.refl _)
def M4 (p1:(List Part))(p2:Int)(x1:Int):Option (Stp Int (Sum Unit Int)):=
  cond (decide (x1< (p1.length:Int))) ((C3 p1 x1).bind fun v1=>(Ob v1 p2).bind fun v2=>cond v2 (some (.out (.inr x1))) (some (.go (D8 (x1+1))))) (some (.out (.inl ())))
def J8 [Lp](p1:(List Part))(p2:Int):Option Int:=
  thenS (loop (M4 p1 p2) 0) (fun _=>some (-1)) (fun r=>some r)
theorem Hb(p1 p2 r)(h:J8 p1 p2=some r):PCall prog 220 [(.list (List.map Bl p1)),(.fn (.func 265) [] [(.bp [(i64 p2)] 0)])] (i64 r):=by
 refine C2 (fk func220 ntmps220 m0 (by with_unfolding_all rfl)) (nl W) ?_
 unfold J8 at h
 refine B4 (s0:=⟨T [(0,(.d _)),(1,(.d _))],G []⟩) (E6 W W) ?_
 refine B1<|sv W<|A1<|A4<|B1<|sv W<|sd W (D6 W)<|sv W<|A1<|js h fun z1 hz1 h=>D4 (fun s=> ∃(y1:Unit) (g1:Unit),z1= .inl y1∧Sb ⟨T [],G []⟩ s) ?_ ?_
 refine A8<|E2 (M4 p1 p2) (fun (x1:Int) (g2:Unit)=>⟨T [(0,(dl Bl p1)),(1,(.d (.fn (.func 265) [] [(.bp [(i64 p2)] 0)]))),(7,(di (p1.length:Int))),(8,(di x1))],G []⟩) 0 () _ hz1 (E6 W W) ?_
 intro x1 g2 z2 hz2 ez2
 unfold M4 at hz2
 refine B1<|sv W<|A1<|A4<|cc W hz2 (fun c1 hz2=> ?_)<|fun c1 hz2=> ?_
 refine A9<|A4<|A8<|B1<|sv W<|sv W<|A1<|B1<|sv W<|sv W<|sv W<|bs hz2 fun _ hv1 hz2=>sd W (C4 W W hv1 W)<|sd W (D1 W hv1 W W)<|bs hz2 fun _ hv2 hz2=>B0 W W A3 (EY _ _ _ hv2) (.inl W) (A1<|cc W hz2 (fun c2 hz2=> ?_)<|fun c2 hz2=> ?_)
 refine B1<|sv W<|sv W<|A1<|B2 ?_
 cases hz2
 obtain rfl:=ez2 _ rfl
 refine ⟨nofun,F1 ?_⟩
 rw [wA]at h
 cases h
 exact A6 (.inr W) (B6 (B3 W) C1) (.refl _)
 refine A9<|D9<|C0<|sv W<|sv W<|A1<|E1 ?_
 cases hz2
 exact ⟨W,(),(E6 W W)⟩
 refine C6 W ?_
 cases hz2
 obtain rfl:=ez2 _ rfl
 refine ⟨nofun,C5 W<|T3 ?_⟩
 exact ⟨_,(),W,(E6 W W)⟩
 rintro _ ⟨y1,g1,rfl,q1⟩
 rw [bZ]at h
 refine B4 q1<|B1<|sv W<|A1<|B2 ?_
 cases h
 exact A6 (.inr W) (B6 (B3 W) C1) (.refl _)
def Jw [Lp](p1:Zone)(p2:Int):Option (Part×Bool):=
  (J8 p1.Parts p2).bind fun v1=>cond (decide (v1<0)) (some ((Part.mk 0 0 0 0),false)) ((C3 p1.Parts v1).bind fun v2=>some (v2,true))
theorem ND(p1 p2 r)(h:Jw p1 p2=some r):PCall prog 251 [(.agg [(.list (List.map Bl p1.Parts)),(i64 p1.Signal_)]),(i64 p2)] (.tup [(.agg (Bl r.1)),(bo r.2)]):=by
 refine C2 (fk func251 ntmps251 m0 (by with_unfolding_all rfl)) (nl W) ?_
 unfold Jw at h
 refine B4 (s0:=⟨T [(0,(.d _)),(1,(.d _))],G []⟩) (E6 W W) ?_
 refine B1<|sm W<|sn W W<|sm W<|sv W<|A1<|B1<|sq W<|sl W (gq W) W (B8 (.fn _ _ _) W W (bs h fun _ hv1 h=>B0 W (rD<|E4 (BO F6<|E4 (Ax (gq W)<|rD F6) F6) F6) A3 (Hb _ _ _ hv1) (.inr W) (sv W<|A1<|A4<|B1<|sv W<|sv W<|A1<|cc W h (fun c1 h=> ?_)<|fun c1 h=> ?_)))
 refine B1<|sv W<|R4 W G_hit (zs 4) W (sv W<|A1<|B2 ?_)
 cases h
 exact A6 (.inr W) (Lh (H6 W G_hit (nl W) W) (B3 W) C1 C1) (.refl _)
 refine A9<|B1<|sq W<|sl W (gq W) W (sv W<|bs h fun v2 hv2 h=>sd W (C4 W W hv2 W)<|sd W (D1 W hv2 W W)<|R4 W G_hit (BS v2) W (sv W<|A1<|B2 ?_))
 cases h
 exact A6 (.inr W) (Lh (H6 W G_hit (nl W) W) (B3 W) C1 C1) (.refl _)
def Ah [Lp](p1:Int)(p2:Map)(p3:Int):Option Bool:=
  (C3 p2.Zones p3).bind fun v1=>(Jw v1 p1).bind fun v2=>some v2.2
theorem Zp(p1 p2 p3 r)(h:Ah p1 p2 p3=some r):PCall prog 250 [(i64 p1),(.bp (P1 p2) 0),(.bp [(i64 p3)] 0)] (bo r):=by
 refine C2 (fk func250 ntmps250 m0 (by with_unfolding_all rfl)) (nl W) ?_
 unfold Ah at h
 refine B4 (s0:=⟨T [(0,(.d _)),(1,(.d _)),(2,(.d _))],G []⟩) (E6 W W) ?_
 refine B1<|sv W<|A1<|B1<|sv W<|sv W<|sv W<|bs h fun _ hv1 h=>sd W (C4 W W hv1 W)<|sd W (D1 W hv1 W W)<|sv W<|bs h fun v2 hv2 h=>B0 W W A3 (ND _ _ _ hv2) (.inl W) (sv W<|sv W<|sv W<|sm W<|R4 W G_hit (BS v2.1) W (sv W<|A1<|B1<|sv W<|sv W<|A1<|B2 ?_))
 cases h
 exact A6 (.inr W) (B6 (B3 W) C1) (.refl _)
def G9 [Lp](p1:(List Int))(p2:Map)(p3:Int)(x1:Int):Option (Stp Int (Sum Unit Int)):=
  cond (decide (x1< (p1.length:Int))) ((C3 p1 x1).bind fun v1=>(Ah v1 p2 p3).bind fun v2=>cond v2 (some (.out (.inr x1))) (some (.go (D8 (x1+1))))) (some (.out (.inl ())))
def I3 [Lp](p1:(List Int))(p2:Map)(p3:Int):Option Int:=
  thenS (loop (G9 p1 p2 p3) 0) (fun _=>some (-1)) (fun r=>some r)
theorem Hc(p1 p2 p3 r)(h:I3 p1 p2 p3=some r):PCall prog 249 [(.list (List.map A5 p1)),(.fn (.func 250) [] [(.bp (P1 p2) 0),(.bp [(i64 p3)] 0)])] (i64 r):=by
 refine C2 (fk func249 ntmps249 m0 (by with_unfolding_all rfl)) (nl W) ?_
 unfold I3 at h
 refine B4 (s0:=⟨T [(0,(.d _)),(1,(.d _))],G []⟩) (E6 W W) ?_
 refine B1<|sv W<|A1<|A4<|B1<|sv W<|sd W (D6 W)<|sv W<|A1<|js h fun z1 hz1 h=>D4 (fun s=> ∃(y1:Unit) (g1:Unit),z1= .inl y1∧Sb ⟨T [],G []⟩ s) ?_ ?_
 refine A8<|E2 (G9 p1 p2 p3) (fun (x1:Int) (g2:Unit)=>⟨T [(0,(dl A5 p1)),(1,(.d (.fn (.func 250) [] [(.bp (P1 p2) 0),(.bp [(i64 p3)] 0)]))),(7,(di (p1.length:Int))),(8,(di x1))],G []⟩) 0 () _ hz1 (E6 W W) ?_
 intro x1 g2 z2 hz2 ez2
 unfold G9 at hz2
 refine B1<|sv W<|A1<|A4<|cc W hz2 (fun c1 hz2=> ?_)<|fun c1 hz2=> ?_
 refine A9<|A4<|A8<|B1<|sv W<|sv W<|A1<|B1<|sv W<|sv W<|sv W<|bs hz2 fun _ hv1 hz2=>sd W (C4 W W hv1 W)<|sd W (C7 W hv1 W)<|bs hz2 fun _ hv2 hz2=>B0 W W A3 (Zp _ _ _ _ hv2) (.inl W) (A1<|cc W hz2 (fun c2 hz2=> ?_)<|fun c2 hz2=> ?_)
 refine B1<|sv W<|sv W<|A1<|B2 ?_
 cases hz2
 obtain rfl:=ez2 _ rfl
 refine ⟨nofun,F1 ?_⟩
 rw [wA]at h
 cases h
 exact A6 (.inr W) (B6 (B3 W) C1) (.refl _)
 refine A9<|D9<|C0<|sv W<|sv W<|A1<|E1 ?_
 cases hz2
 exact ⟨W,(),(E6 W W)⟩
 refine C6 W ?_
 cases hz2
 obtain rfl:=ez2 _ rfl
 refine ⟨nofun,C5 W<|T3 ?_⟩
 exact ⟨_,(),W,(E6 W W)⟩
 rintro _ ⟨y1,g1,rfl,q1⟩
 rw [bZ]at h
 refine B4 q1<|B1<|sv W<|A1<|B2 ?_
 cases h
 exact A6 (.inr W) (B6 (B3 W) C1) (.refl _)
def Hh [Lp](p1:Map)(p2:(List Int))(p3:Int):Option Int:=
  (Y6 p1 p2).bind fun v1=>cond ((decide (p3<0))||(decide (p3≥(p1.Zones.length:Int)))) (some (-1)) ((I3 v1.lanes p1 p3).bind fun v2=>some v2)
theorem KY(p1 p2 p3 r)(h:Hh p1 p2 p3=some r):PCall prog 222 [(.agg (P1 p1)),(.list (List.map A5 p2)),(i64 p3)] (i64 r):=by
 refine C2 (fk func222 ntmps222 m0 (by with_unfolding_all rfl)) (nl W) ?_
 unfold Hh at h
 refine B4 (s0:=⟨T [(0,(.d _)),(1,(.d _)),(2,(.d _))],G []⟩) (E6 W W) ?_
 refine B1<|sm W<|sn W W<|sv W<|A1<|B1<|sd W (A7 W (gq W) W W)<|sv W<|bs h fun v1 hv1 h=>B0 W W A3 (Im _ _ _ hv1) (.inl W) (sm W<|R4 W G_hit (Ix v1) W (A1<|A4<|B1<|sl W (gq W) W (sv W<|sv W<|gf W (fun _=>(O4 W (gq W) W))<|gp W (K6 W) (fun _=>W) (gf W (vl W (gq W) W)<|gf W (fun w4=>(D6<|A2 w4))<|gf W (fun w5=>(L6 (A2 w5) (A2 w5) W))<|sd W (N9 W W<|fun hc=>A2<|J2 hc)<|A1<|cc W h (fun c1 h=> ?_)<|fun c1 h=> ?_))))
 refine B1<|sv W<|A1<|B2 ?_
 cases h
 exact A6 (.inr W) (B6 (B3 W) C1) (.refl _)
 refine A9<|B1<|sq W<|sl W G_hit W<|B8 (.fn _ _ _) W W (bs h fun _ hv2 h=>B0 W (rD<|E4 (BO F6<|E4 (Ax (gq W)<|rD<|rD<|rD<|rD<|rD F6)<|E4 (Ax (gq W)<|rD F6) F6) F6) A3 (Hc _ _ _ _ hv2) (.inr W) (sv W<|A1<|B2 ?_))
 cases h
 exact A6 (.inr W) (B6 (B3 W) C1) (.refl _)
def Di [Lp](p1:Map)(p2:(List Int))(p3:Int):Option Int:=
  (Hh p1 p2 p3).bind fun v1=>cond (decide (v1≥0)) ((C3 p2 v1).bind fun v2=>some v2) (some (-1))
theorem Tb(p1 p2 p3 r)(h:Di p1 p2 p3=some r):PCall prog 175 [(.agg (P1 p1)),(.list (List.map A5 p2)),(i64 p3)] (i64 r):=by
 refine C2 (fk func175 ntmps175 m0 (by with_unfolding_all rfl)) (nl W) ?_
 unfold Di at h
 refine B4 (s0:=⟨T [(0,(.d _)),(1,(.d _)),(2,(.d _))],G []⟩) (E6 W W) ?_
 refine B1<|sm W<|sv W<|A1<|A4<|B1<|sd W (A7 W G_hit W W)<|sv W<|sv W<|bs h fun _ hv1 h=>B0 W W A3 (KY _ _ _ _ hv1) (.inl W) (sv W<|A1<|B1<|sv W<|sv W<|A1<|cc W h (fun c1 h=> ?_)<|fun c1 h=> ?_)
 refine B1<|sv W<|sv W<|bs h fun _ hv2 h=>sd W (C4 W W hv2 W)<|sd W (C7 W hv2 W)<|sv W<|A1<|B2 ?_
 cases h
 exact A6 (.inr W) (B6 (B3 W) C1) (.refl _)
 refine A9<|B1<|sv W<|A1<|B2 ?_
 cases h
 exact A6 (.inr W) (B6 (B3 W) C1) (.refl _)
def Lv [Lp](p1:Map)(p2:Int):Option Bool:=
  ((cond ((decide (p2≥0))&& (decide (p2< (p1.Lanes.length:Int)))) (Bu p1) (some default))).bind fun v1=>some (((decide (p2≥0))&& (decide (p2< (p1.Lanes.length:Int))))&& (v1==0))
theorem Zq(p1 p2 r)(h:Lv p1 p2=some r):PCall prog 206 [(.agg (P1 p1)),(i64 p2)] (bo r):=by
 refine C2 (fk func206 ntmps206 m0 (by with_unfolding_all rfl)) (nl W) ?_
 unfold Lv at h
 refine B4 (s0:=⟨T [(0,(.d _)),(1,(.d _))],G []⟩) (E6 W W) ?_
 refine B1<|sm W<|sv W<|A1<|B1<|sv W<|sv W<|sv W<|gt W (fun _=>W)<|gp W (K2 W) (fun _=>W) (gt W (vl W G_hit W)<|gt W (fun w4=>(D6<|A2 w4))<|gt W (fun w5=>(L6 (A2 w5) (A2 w5) W))<|sa W W W<|sv W<|gt W (fun _=>(A7 W G_hit W W))<|bs h fun v1 hv1 h=> ?_)
 refine M2 _ (i64 v1) (K2 W) (fun w7=>⟨_,[(.d (.agg (P1 p1)))],_,_,(by simp only [A2 w7];rfl),W,A3,Sz _ _<|B9 w7 hv1,(.inl W)⟩) ?_
 refine gt W (vb W W W)<|sa W W W<|sv W<|A1<|B2 ?_
 cases h
 exact A6 (.inr W) (B6 (B3 W) C1) (.refl _)
def U3 [Lp](p1:Signal)(p2:Int)(x2:(Int×Int)):Option (Stp (Int×Int) (Sum Unit Bool)):=
  cond (decide (x2.2< (p1.Phases.length:Int))) ((C3 p1.Phases x2.2).bind fun v5=>cond (decide (x2.1≥v5.Ticks)) (some (.go ((D8 (x2.1 - v5.Ticks)),(D8 (x2.2+1))))) ((N2 v5.Green p2).bind fun v6=>some (.out (.inr v6)))) (some (.out (.inl ())))
def Bx (p1:Signal)(x1:(Int×Int)):Option (Stp (Int×Int) Int):=
  cond (decide (x1.2< (p1.Phases.length:Int))) ((C3 p1.Phases x1.2).bind fun v1=>some (.go ((D8 (x1.1+v1.Ticks)),(D8 (x1.2+1))))) (some (.out x1.1))
def Fd [Lp](p1:Signal)(p2:Int)(p3:Int):Option Bool:=
  (loop (Bx p1) (0,0)).bind fun y1=>(Su p1.Offset y1).bind fun v2=>(Su p3 y1).bind fun v3=>(Su (D8 (v2+v3)) y1).bind fun v4=>thenS (loop (U3 p1 p2) (v4,0)) (fun _=>some false) (fun r=>some r)
theorem Zr(p1 p2 p3 r)(h:Fd p1 p2 p3=some r):PCall prog 248 [(.agg [(i64 p1.Offset),(.list (List.map Bd p1.Phases))]),(i64 p2),(i64 p3)] (bo r):=by
 refine C2 (fk func248 ntmps248 m0 (by with_unfolding_all rfl)) (nl W) ?_
 unfold Fd at h
 refine B4 (s0:=⟨T [(0,(.d _)),(1,(.d _)),(2,(.d _))],G []⟩) (E6 W W) ?_
 refine lr<|fun u1 _=>sm W<|sv W<|A1<|jS<|B1<|sv W<|A1<|A4<|B1<|sq W<|sl W G_hit W<|sd W (D6 W)<|sv W<|A1<|bs h fun y1 hy1 h=>D4 (fun s=> ∃g1:Unit,Sb ⟨T [(1,(di p2)),(2,(di p3)),(3,(.ptr (3,u1) 0)),(7,(di y1))],G [((3,u1),some<|.box 120 [(di p1.Offset),(dl Bd p1.Phases)])]⟩ s) ?_ ?_
 refine A8<|E2 (Bx p1) (fun (x1:(Int×Int)) (g2:Unit)=>⟨T [(1,(di p2)),(2,(di p3)),(3,(.ptr (3,u1) 0)),(7,(di x1.1)),(14,(dl Bd p1.Phases)),(15,(di (p1.Phases.length:Int))),(16,(di x1.2))],G [((3,u1),some<|.box 120 [(di p1.Offset),(dl Bd p1.Phases)])]⟩) (0,0) () _ hy1 (E6 W W) ?_
 intro x1 g2 z1 hz1 ez1
 unfold Bx at hz1
 refine B1<|sv W<|A1<|A4<|cc W hz1 (fun c1 hz1=> ?_)<|fun c1 hz1=> ?_
 refine A9<|A4<|A8<|B1<|bs hz1 fun v1 hv1 hz1=>sd W (C4 W W hv1 W)<|sd W (D1 W hv1 W W)<|sm W<|R4 W G_hit [(di v1.Ticks),(dl A5 v1.Green)] W (A1<|C0<|sv W<|sq W<|sl W G_hit W<|sv W<|sv W<|A1<|D9<|C0<|sv W<|sv W<|A1<|E1 ?_)
 cases hz1
 exact ⟨W,(),(E6 W W)⟩
 refine C6 W ?_
 cases hz1
 obtain rfl:=ez1 _ rfl
 refine ⟨nofun,C5 W<|T3 ?_⟩
 exact ⟨(),(E6 W W)⟩
 rintro _ ⟨g1,q1⟩
 refine B4 q1<|A4<|E0 W<|sq W<|sl W G_hit W<|sv W<|bs h fun _ hv2 h=>sd W (Ze W W hv2)<|sv W<|sv W<|bs h fun _ hv3 h=>sd W (Ze W W hv3)<|sv W<|sv W<|bs h fun v4 hv4 h=>sd W (Ze W W hv4)<|sv W<|A1<|A4<|A9<|A4<|B1<|sq W<|sl W G_hit W<|sd W (D6 W)<|sv W<|A1<|js h fun z2 hz2 h=>D4 (fun s=> ∃(y2:Unit) (g3:Unit),z2= .inl y2∧Sb ⟨T [],G []⟩ s) ?_ ?_
 refine A8<|E2 (U3 p1 p2) (fun (x2:(Int×Int)) (g4:Unit)=>⟨T [(1,(di p2)),(10,(di x2.1)),(36,(dl Bd p1.Phases)),(37,(di (p1.Phases.length:Int))),(38,(di x2.2))],G []⟩) (v4,0) () _ hz2 (E6 W W) ?_
 intro x2 g4 z3 hz3 ez3
 unfold U3 at hz3
 refine B1<|sv W<|A1<|A4<|cc W hz3 (fun c2 hz3=> ?_)<|fun c2 hz3=> ?_
 refine A9<|A4<|A8<|B1<|bs hz3 fun v5 hv5 hz3=>sd W (C4 W W hv5 W)<|sd W (D1 W hv5 W W)<|sm W<|R4 W G_hit [(di v5.Ticks),(dl A5 v5.Green)] W (A1<|A4<|B1<|sv W<|sq W<|sl W G_hit W<|sv W<|A1<|cc W hz3 (fun c3 hz3=> ?_)<|fun c3 hz3=> ?_)
 refine B1<|sv W<|sq W<|sl W G_hit W<|sv W<|sv W<|A1<|Sr W<|C0<|sv W<|sv W<|A1<|E1 ?_
 cases hz3
 exact ⟨W,(),(E6 W W)⟩
 refine A9<|B1<|sq W<|sl W G_hit W<|sv W<|bs hz3 fun _ hv6 hz3=>B0 W W A3 (Dt _ _ _ hv6) (.inl W) (sv W<|A1<|B2 ?_)
 cases hz3
 obtain rfl:=ez3 _ rfl
 refine ⟨nofun,F1 ?_⟩
 rw [wA]at h
 cases h
 exact A6 (.inr W) (B6 (B3 W) C1) (.refl _)
 refine C6 W ?_
 cases hz3
 obtain rfl:=ez3 _ rfl
 refine ⟨nofun,C5 W<|T3 ?_⟩
 exact ⟨_,(),W,(E6 W W)⟩
 rintro _ ⟨y2,g3,rfl,q2⟩
 rw [bZ]at h
 refine B4 q2<|B1<|sv W<|A1<|B2 ?_
 cases h
 exact A6 (.inr W) (B6 (B3 W) C1) (.refl _)
def Hj [Lp](p1:Map)(p2:Int)(p3:Int)(p4:Int):Option Bool:=
  ((cond (((decide (p4≥0))&& (decide (p2≥0)))&& (decide (p2< (p1.Signals.length:Int)))) (Lv p1 p3) (some default))).bind fun v1=>((cond ((((decide (p4≥0))&& (decide (p2≥0)))&& (decide (p2< (p1.Signals.length:Int))))&&v1) (C3 p1.Signals p2) (some default))).bind fun v2=>((cond ((((decide (p4≥0))&& (decide (p2≥0)))&& (decide (p2< (p1.Signals.length:Int))))&&v1) (Fd v2 p3 p4) (some default))).bind fun v3=>some (((((decide (p4≥0))&& (decide (p2≥0)))&& (decide (p2< (p1.Signals.length:Int))))&&v1)&&v3)
theorem KZ(p1 p2 p3 p4 r)(h:Hj p1 p2 p3 p4=some r):PCall prog 219 [(.agg (P1 p1)),(i64 p2),(i64 p3),(i64 p4)] (bo r):=by
 refine C2 (fk func219 ntmps219 m0 (by with_unfolding_all rfl)) (nl W) ?_
 unfold Hj at h
 refine B4 (s0:=⟨T [(0,(.d _)),(1,(.d _)),(2,(.d _)),(3,(.d _))],G []⟩) (E6 W W) ?_
 refine B1<|sm W<|sv W<|A1<|B1<|sv W<|sv W<|sv W<|gt W (fun _=>W)<|gt W (vb W W W)<|sa W W W<|sv W<|gt W (fun _=>W)<|gp W (K2 W) (fun _=>W) (gt W (vl W G_hit W)<|gt W (fun w6=>(D6<|A2 w6))<|gt W (fun w7=>(L6 (A2 w7) (A2 w7) W))<|sa W W W<|sv W<|gt W (fun _=>(A7 W G_hit W W))<|gt W (fun _=>W)<|bs h fun v1 hv1 h=> ?_)
 refine M2 _ (bo v1) (K2 W) (fun w10=>⟨_,[(.d (.agg (P1 p1))),(di p3)],_,_,(by simp only [A2 w10];rfl),W,A3,Zq _ _ _<|B9 w10 hv1,(.inl W)⟩) ?_
 refine sa W W W<|sv W<|gp W (K2 W) (fun _=>W) (gt W (vl W G_hit W)<|gt W (fun _=>W)<|bs h fun v2 hv2 h=>gt W (fun w14=>(C4 (A2 w14) (A2 w14) (B9 w14 hv2) W))<|gt W (fun w15=>(D1 (A2 w15) (B9 w15 hv2) W W))<|gt W (fun _=>W)<|gt W (fun _=>W)<|bs h fun v3 hv3 h=> ?_)
 refine M2 _ (bo v3) (K2 W) (fun w18=>⟨_,[(.d (.agg [(i64 v2.Offset),(.list (List.map Bd v2.Phases))])),(di p3),(di p4)],_,_,(by simp only [A2 w18];rfl),W,A3,Zr _ _ _ _<|B9 w18 hv3,(.inl W)⟩) ?_
 refine sa W W W<|sv W<|A1<|B2 ?_
 cases h
 exact A6 (.inr W) (B6 (B3 W) C1) (.refl _)
def Oc (p1:Part)(p2:Int):Option Bool:=
  some (p1.Lane_==p2)
theorem EZ(p1 p2 r)(h:Oc p1 p2=some r):PCall prog 221 [(.agg (Bl p1)),(.bp [(i64 p2)] 0)] (bo r):=by
 refine C2 (fk func221 ntmps221 m0 (by with_unfolding_all rfl)) (nl W) ?_
 unfold Oc at h
 refine B4 (s0:=⟨T [(0,(.d _)),(1,(.d _))],G []⟩) (E6 W W) ?_
 refine B1<|sm W<|sv W<|A1<|B1<|sq W<|sl W G_hit W<|sv W<|sv W<|sv W<|A1<|B2 ?_
 cases h
 exact A6 (.inr W) (B6 (B3 W) C1) (.refl _)
def M5 (p1:(List Part))(p2:Int)(x1:Int):Option (Stp Int (Sum Unit Int)):=
  cond (decide (x1< (p1.length:Int))) ((C3 p1 x1).bind fun v1=>(Oc v1 p2).bind fun v2=>cond v2 (some (.out (.inr x1))) (some (.go (D8 (x1+1))))) (some (.out (.inl ())))
def I4 [Lp](p1:(List Part))(p2:Int):Option Int:=
  thenS (loop (M5 p1 p2) 0) (fun _=>some (-1)) (fun r=>some r)
theorem Hd(p1 p2 r)(h:I4 p1 p2=some r):PCall prog 220 [(.list (List.map Bl p1)),(.fn (.func 221) [] [(.bp [(i64 p2)] 0)])] (i64 r):=by
 refine C2 (fk func220 ntmps220 m0 (by with_unfolding_all rfl)) (nl W) ?_
 unfold I4 at h
 refine B4 (s0:=⟨T [(0,(.d _)),(1,(.d _))],G []⟩) (E6 W W) ?_
 refine B1<|sv W<|A1<|A4<|B1<|sv W<|sd W (D6 W)<|sv W<|A1<|js h fun z1 hz1 h=>D4 (fun s=> ∃(y1:Unit) (g1:Unit),z1= .inl y1∧Sb ⟨T [],G []⟩ s) ?_ ?_
 refine A8<|E2 (M5 p1 p2) (fun (x1:Int) (g2:Unit)=>⟨T [(0,(dl Bl p1)),(1,(.d (.fn (.func 221) [] [(.bp [(i64 p2)] 0)]))),(7,(di (p1.length:Int))),(8,(di x1))],G []⟩) 0 () _ hz1 (E6 W W) ?_
 intro x1 g2 z2 hz2 ez2
 unfold M5 at hz2
 refine B1<|sv W<|A1<|A4<|cc W hz2 (fun c1 hz2=> ?_)<|fun c1 hz2=> ?_
 refine A9<|A4<|A8<|B1<|sv W<|sv W<|A1<|B1<|sv W<|sv W<|sv W<|bs hz2 fun _ hv1 hz2=>sd W (C4 W W hv1 W)<|sd W (D1 W hv1 W W)<|bs hz2 fun _ hv2 hz2=>B0 W W A3 (EZ _ _ _ hv2) (.inl W) (A1<|cc W hz2 (fun c2 hz2=> ?_)<|fun c2 hz2=> ?_)
 refine B1<|sv W<|sv W<|A1<|B2 ?_
 cases hz2
 obtain rfl:=ez2 _ rfl
 refine ⟨nofun,F1 ?_⟩
 rw [wA]at h
 cases h
 exact A6 (.inr W) (B6 (B3 W) C1) (.refl _)
 refine A9<|D9<|C0<|sv W<|sv W<|A1<|E1 ?_
 cases hz2
 exact ⟨W,(),(E6 W W)⟩
 refine C6 W ?_
 cases hz2
 obtain rfl:=ez2 _ rfl
 refine ⟨nofun,C5 W<|T3 ?_⟩
 exact ⟨_,(),W,(E6 W W)⟩
 rintro _ ⟨y1,g1,rfl,q1⟩
 rw [bZ]at h
 refine B4 q1<|B1<|sv W<|A1<|B2 ?_
 cases h
 exact A6 (.inr W) (B6 (B3 W) C1) (.refl _)
def Hy [Lp](p1:Map)(p2:Agent)(p3:Int)(p4:Int):Option Int:=
  (Di p1 p2.Route p3).bind fun v1=>cond (decide (v1<0)) (some 0) ((C3 p1.Zones p3).bind fun v2=>((cond (decide (v2.Signal_>0)) (Hj p1 (D8 (v2.Signal_ - 1)) v1 p4) (some default))).bind fun v3=>cond ((decide (v2.Signal_>0))&&v3) (some 2) (cond (decide (v2.Signal_>0)) (some 0) ((I4 v2.Parts v1).bind fun v4=>(C3 v2.Parts v4).bind fun v5=>some v5.Rank)))
theorem BX(p1 p2 p3 p4 r)(h:Hy p1 p2 p3 p4=some r):PCall prog 173 [(.agg (P1 p1)),(.agg (C8 p2)),(i64 p3),(i64 p4)] (i64 r):=by
 refine C2 (fk func173 ntmps173 m0 (by with_unfolding_all rfl)) (nl W) ?_
 unfold Hy at h
 refine B4 (s0:=⟨T [(0,(.d _)),(1,(.d _)),(2,(.d _)),(3,(.d _))],G []⟩) (E6 W W) ?_
 refine B1<|sm W<|sn W W<|sv W<|A1<|B1<|sd W (A7 W (gq W) W W)<|sq W<|sl W G_hit W<|sv W<|bs h fun v1 hv1 h=>B0 W W A3 (Tb _ _ _ _ hv1) (.inl W) (sm W<|R4 W G_hit [(di v1)] W (A1<|A4<|B1<|sl W G_hit W<|sv W<|A1<|cc W h (fun c1 h=> ?_)<|fun c1 h=> ?_))
 refine B1<|sv W<|A1<|B2 ?_
 cases h
 exact A6 (.inr W) (B6 (B3 W) C1) (.refl _)
 refine A9<|B1<|sq W<|sl W (gq W) W (sv W<|bs h fun v2 hv2 h=>sd W (C4 W W hv2 W)<|sd W (D1 W hv2 W W)<|sm W<|R4 W G_hit [(dl Bl v2.Parts),(di v2.Signal_)] W (A1<|A4<|A8<|B1<|sq W<|sl W G_hit W<|sv W<|sv W<|gt W (fun _=>(A7 W (gq W) W W))<|gp W (K2 W) (fun _=>W) (gt W (vl W G_hit W)<|gt W (vb W W W)<|gt W (fun _=>(O4 W (gq W) W))<|gt W (fun _=>W)<|bs h fun v3 hv3 h=> ?_)))
 refine M2 _ (bo v3) (K2 W) (fun w7=>⟨_,[(.d (.agg (P1 p1))),(di<|D8 (v2.Signal_ - 1)),(di v1),(di p4)],_,_,(by simp only [A2 w7];rfl),W,A3,KZ _ _ _ _ _<|B9 w7 hv3,(.inl W)⟩) ?_
 refine sa W W W<|sv W<|A1<|cc W h (fun c2 h=> ?_)<|fun c2 h=> ?_
 refine B1<|sv W<|A1<|B2 ?_
 cases h
 exact A6 (.inr W) (B6 (B3 W) C1) (.refl _)
 refine B1<|sq W<|sl W G_hit W<|sv W<|sv W<|A1<|cc W h (fun c3 h=> ?_)<|fun c3 h=> ?_
 refine B1<|sv W<|A1<|B2 ?_
 cases h
 exact A6 (.inr W) (B6 (B3 W) C1) (.refl _)
 refine A9<|D9<|A4<|E0 W<|sq W<|sl W G_hit W<|sq W<|sl W G_hit W<|B8 (.fn _ _ _) W W (bs h fun _ hv4 h=>B0 W (rD<|E4 (BO F6<|E4 (Ax (gq W)<|rD F6) F6) F6) A3 (Hd _ _ _ hv4) (.inr W) (bs h fun _ hv5 h=>sd W (C4 W W hv5 W)<|sv W<|sd W (C7 W hv5 W)<|sv W<|A1<|B2 ?_))
 cases h
 exact A6 (.inr W) (B6 (B3 W) C1) (.refl _)
def W4 [Lp](p1:WorldScene)(x1:(Int× (List Stay)))(v1:Agent)(x2:(Int× (List Stay))):Option (Stp (Int× (List Stay)) (List Stay)):=
  cond (decide (x2.1< (p1.m.Zones.length:Int))) ((P6 (WorldScene.mk p1.m p1.before (State.mk p1.after.Tick p1.after.Agents x2.2) p1.acts p1.crashes) x1.1 x2.1).bind fun v2=>cond (!v2) (some (.go ((D8 (x2.1+1)),x2.2))) ((F3 p1.before.In (Stay.mk x1.1 x2.1 p1.before.Tick 0)).bind fun v3=>(cond v3.2 ((C3 p1.before.In v3.1).bind fun v4=>some v4) ((Hy p1.m v1 x2.1 p1.before.Tick).bind fun v5=>some (Stay.mk x1.1 x2.1 p1.before.Tick v5))).bind fun y2=>(Am x2.2 [y2]).bind fun v6=>some (.go ((D8 (x2.1+1)),v6)))) (some (.out x2.2))
def W5 [Lp](p1:WorldScene)(x1:(Int× (List Stay))):Option (Stp (Int× (List Stay)) WorldScene):=
  cond (decide (x1.1< (p1.before.Agents.length:Int))) ((C3 p1.before.Agents x1.1).bind fun v1=>(loop (W4 p1 x1 v1) (0,x1.2)).bind fun y1=>some (.go ((D8 (x1.1+1)),y1))) (some (.out ((WorldScene.mk p1.m p1.before (State.mk p1.after.Tick p1.after.Agents x1.2) p1.acts p1.crashes))))
def Al [Lp](p1:WorldScene):Option WorldScene:=
  loop (W5 p1) (0,[])
theorem Wo(p1 r)(h:Al p1=some r):MCall prog 80 [(.ptr (900000,0) 0)] [(.box 135 (V4 p1))] (.d (.tup [])) [some (.box 135 (V4 r))] []:=by
 refine Wh (fk func80 ntmps80 (fun r=>if r==13 then [1007]else []) (by with_unfolding_all rfl)) W (nl W) ?_
 unfold Al at h
 refine B4 (s0:=⟨T [(0,(.ptr _ _))],G [((900000,0),some<|.box 135 _)]⟩) (E6 W W) ?_
 refine B1<|sq W<|sp W W<|sq W<|sp W W<|R4 W G_hit ((V4 p1).set 10 (.d .nilS)) W (A1<|B1<|sq W<|sp W W<|sq W<|sp W W<|sl W G_hit W<|sd W (D6 W)<|sv W<|A1<|A8<|E2 (W5 p1) (fun (x1:(Int× (List Stay))) (g1:Nat)=>⟨T [(0,(.ptr (900000,0) 0)),(16,(dl C8 p1.before.Agents)),(17,(di (p1.before.Agents.length:Int))),(18,(di x1.1))],G [((900000,0),some<|.box 135 ((V4 p1).set 10 (oS x1.2 (85,g1)))),((85,g1),oB 127 4 I9 x1.2)]⟩) (0,[]) 0 _ h (D5 (X3 W)<|B5 G_hit (.of W)<|P4 trivial) ?_)
 intro x1 g1 z1 hz1 ez1
 unfold W5 at hz1
 refine B1<|sv W<|A1<|A4<|cc W hz1 (fun c1 hz1=> ?_)<|fun c1 hz1=> ?_
 refine A9<|A4<|A8<|lr<|fun u4 _=>sv W<|bs hz1 fun v1 hv1 hz1=>sd W (C4 W W hv1 W)<|sd W (D1 W hv1 W W)<|sm W<|sv W<|R4 W G_hit (T4 v1) W (A1<|B1<|sq W<|sp W W<|sq W<|sp W W<|sl W (gq W) W (sd W (D6 W)<|sv W<|A1<|bs hz1 fun y1 hy1 hz1=>D4 (fun s=> ∃g2:Nat,Sb ⟨T [(0,(.ptr (900000,0) 0)),(16,(dl C8 p1.before.Agents)),(17,(di (p1.before.Agents.length:Int))),(18,(di x1.1))],G [((900000,0),some<|.box 135 ((V4 p1).set 10 (oS y1 (85,g2)))),((85,g2),oB 127 4 I9 y1)]⟩ s) ?_ ?_))
 refine A8<|E2 (W4 p1 x1 v1) (fun (x2:(Int× (List Stay))) (g3:Nat)=>⟨T [(0,(.ptr (900000,0) 0)),(2,(di x1.1)),(3,(.ptr (3,u4) 0)),(16,(dl C8 p1.before.Agents)),(17,(di (p1.before.Agents.length:Int))),(18,(di x1.1)),(28,(di (p1.m.Zones.length:Int))),(29,(di x2.1))],G [((900000,0),some<|.box 135 ((V4 p1).set 10 (oS x2.2 (85,g3)))),((3,u4),some<|.box 45 (T4 v1)),((85,g3),oB 127 4 I9 x2.2)]⟩) (0,x1.2) g1 _ hy1 (D5 (X3 W)<|sg W<|B5 G_hit (.of W)<|B7 (gq W) trivial) ?_
 intro x2 g3 z2 hz2 ez2
 unfold W4 at hz2
 refine B1<|sv W<|A1<|A4<|cc W hz2 (fun c2 hz2=> ?_)<|fun c2 hz2=> ?_
 refine A9<|A4<|A8<|B1<|sv W<|sv W<|A1<|A4<|B1<|sq W<|sv W<|sv W<|bs hz2 fun v2 hv2 hz2=>B0 W (E4 (Ax G_hit<|rD<|rD<|rD<|rD<|rD<|rD<|rD<|rD<|rD<|rD<|E4 (R9<|gq W)<|rD<|rD F6)<|rD<|rD F6) (.cons (DLe.bp<|ca W<|ca W<|ca W<|ca W<|ca W<|ca W<|ca W<|ca W<|ca W<|ca W<|.cons ⟨R8,W⟩ (cz W)) (.cons (.refl _) A3)) (Bq _ _ _ _ hv2) (.inr W) (B8 (.d (bo (!v2))) W W (A1<|cc W hz2 (fun c3 hz2=> ?_)<|fun c3 hz2=> ?_))
 refine Sr W<|C0<|sv W<|sv W<|A1<|E1 ?_
 cases hz2
 exact ⟨W,g3,(D5 (X3 W)<|B5 G_hit (.of W)<|sg W<|B7 (gq W) trivial)⟩
 refine A9<|lr<|fun u10 _=>sv W<|sv W<|sq W<|sp W W<|sq W<|sp W W<|sl W G_hit W<|sv W<|sm W<|R4 W G_hit [(di x1.1),(di x2.1),(di p1.before.Tick),(di 0)] W (A1<|A4<|A4<|E0 W<|sq W<|sq W<|sp W W<|sq W<|sl W (gq W) W (sd W (A7 W G_hit W W)<|bs hz2 fun _ hv3 hz2=>B0 W W A3 (O7 _ _ _ hv3) (.inl W) (sv W<|sv W<|sv W<|sv W<|sv W<|A1<|B1<|sv W<|A1<|bs hz2 fun y2 hy2 hz2=>D4 (fun s=> ∃g4:Unit,Sb ⟨T [(0,(.ptr (900000,0) 0)),(2,(di x1.1)),(3,(.ptr (3,u4) 0)),(5,(.ptr (5,u10) 0)),(16,(dl C8 p1.before.Agents)),(17,(di (p1.before.Agents.length:Int))),(18,(di x1.1)),(28,(di (p1.m.Zones.length:Int))),(29,(di x2.1))],G [((900000,0),some<|.box 135 ((V4 p1).set 10 (oS x2.2 (85,g3)))),((3,u4),some<|.box 45 (T4 v1)),((5,u10),some<|.box 127 (Xj y2)),((85,g3),oB 127 4 I9 x2.2)]⟩ s) ?_ ?_)))
 refine cc W hy2 (fun c4 hy2=> ?_)<|fun c4 hy2=> ?_
 refine C0<|sq W<|sq W<|sp W W<|sq W<|sl W (gq W) W (sv W<|bs hy2 fun v4 hv4 hy2=>sd W (C4 W W hv4 W)<|sd W (D1 W hv4 W W)<|R4 W G_hit (Xj v4) W (A1 ?_))
 obtain rfl:=(lD hy2)
 exact T3 ⟨(),(D5 (X3 W)<|sg W<|sg W<|B5 G_hit (.of W)<|B7 (gq W) trivial)⟩
 refine E0 W<|sq W<|sq W<|sp W W<|sd W (A7 W (gq W) W W)<|sd W (A7 W (gq W) W W)<|sv W<|sq W<|sp W W<|sq W<|sp W W<|sl W (gq W) W (bs hy2 fun v5 hv5 hy2=>B0 W W A3 (BX _ _ _ _ _ hv5) (.inl W) (sq W<|R4 W G_hit [(di x1.1),(di x2.1),(di p1.before.Tick),(di v5)] W (A1 ?_)))
 cases hy2
 exact T3 ⟨(),(D5 (X3 W)<|sg W<|sg W<|B5 G_hit (.of W)<|B7 (gq W) trivial)⟩
 rintro _ ⟨g4,q1⟩
 refine B4 q1<|Jr W fun u15 _=>sq W<|sq W<|sp W W<|sq W<|sp W W<|B8 (oS x2.2 (85,g3)) W (O4 W G_hit W) (sd W (A7 W (gq W) W W)<|B8 (dl I9 [y2]) W W (bs hz2 fun _ hv6 hz2=>N8 I9 (85,g3) x2.2 y2 [] _ (K1<|fun _=>W) W (gq W) hv6 (sq W<|sp W W<|sq W<|R4 W (gq W) ((V4 p1).set 10 (.sl (85,u15))) W (A1<|D9<|C0<|sv W<|sv W<|A1<|E1 ?_))))
 cases hz2
 exact ⟨W,u15,(D5 (X3 W)<|B5 G_hit (.box (cv<|cv<|cv<|cv<|cv<|cv<|cv<|cv<|cv<|cv<|.cons (.of (S6<|T0 hv6).symm) cw))<|sg W<|M6 (gq W) trivial)⟩
 refine C6 W ?_
 cases hz2
 obtain rfl:=ez2 _ rfl
 refine ⟨nofun,C5 W<|T3 ?_⟩
 exact ⟨g3,(D5 (X3 W)<|B5 G_hit (.of W)<|B7 (gq W) trivial)⟩
 rintro _ ⟨g2,q2⟩
 refine D9<|B4 q2<|C0<|sv W<|sv W<|A1<|E1 ?_
 cases hz1
 exact ⟨W,g2,(D5 (X3 W)<|B5 G_hit (.of W)<|B7 (gq W) trivial)⟩
 refine C6 W ?_
 cases hz1
 obtain rfl:=ez1 _ rfl
 refine ⟨nofun,C5 W<|E1 ?_⟩
 exact CX (.inl W) [(85,g1)] CY (.refl _) ⟨⟨_,_,_,G_hit,(ZX W Fp),(rD<|rD<|rD<|rD<|rD<|rD<|rD<|rD<|rD<|rD<|E4 (R9<|TD (.head _)<|gq W)<|rD<|rD F6),(.cons (.refl _) (.cons (.refl _) (.cons (.refl _) (.cons (.refl _) (.cons (.refl _) (.cons (.refl _) (.cons (.refl _) (.cons (.refl _) (.cons (.refl _) (.cons (.refl _) (.cons R8 (.cons (.refl _) A3)))))))))))),W⟩,trivial⟩
def GI (s:State)(i:Nat):Nat→Nat→Option (List (Int×Int))
  |0,_=>some []
  |k+1,j=>(Fb s i).bind fun a=>(Fb s j).bind fun b=>(GI s i k (j+1)).bind fun l=>some (cond (a&&b) (((i:Int),(j:Int))::l) l)
def LA (s:State)(n:Nat):Nat→Nat→Option (List (Int×Int))
  |0,_=>some []
  |k+1,i=>(GI s i (n - (i+1)) (i+1)).bind fun a=>(LA s n k (i+1)).bind fun b=>some (a++b)
def QT (s:State):Option (List (Int×Int)):=if s.Agents.length≤1000000 then LA s s.Agents.length s.Agents.length 0 else none
abbrev LB (a:Int×Int):List D:= [i64 a.1,i64 a.2]
def Wq (kb ks:F5)(s:State)(h:E5):Prop:=h kb=some (.box 133 [.ptr ks 0])∧∃c0 c1 c2 c3 c4 c8 c9 c10 c11 c12,h ks=some (.box 135 [c0,c1,c2,c3,c4, .d (i64 s.Tick), .d (.list (List.map C8 s.Agents)), .d (.list (List.map I9 s.In)),c8,c9,c10,c11,c12])
theorem LC {s:State}{L:List (Int×Int)}(h:QT s=some L)(kb ks:F5):nA prog (.fn (.func 174) [] [.ptr kb 0]) (Wq kb ks s) (L.map LB):=by
  unfold QT at h
  split at h
  case isFalse=>cases h
  rename_i hlen
  refine ⟨174,[],[.ptr kb 0],W,?_⟩
  intro k h0 Inv Stop hi0 hcan hy
  refine KH (fk func174 ntmps174 (fun r=>if r==6 then [18]else []) (by with_unfolding_all rfl)) (by simp) (jR ?_)
  obtain ⟨g0,S0,i0,c0⟩:=hcan 0 h0 hi0
  have hLm:(L.map LB).length=L.length:=lS ..
  rw [hLm]
  refine B4 (s0:=⟨T [(0, .yld k),(1, .ptr kb 0)],g0⟩) ⟨fun i=> ?_,S0.h⟩ ?_
  ·match i with
   |0=>exact .refl _
   |1=>exact .refl _
   |n+2=>exact .any _
  have c0':=c0
  obtain ⟨e1,a0,a1,a2,a3,a4,a8,a9,a10,a11,a12,e2⟩:=c0'
  refine A4 ?_
  refine Us fun u hu=> ?_
  refine G4 (.ptr ks 0) W (O4 W e1 W) ?_
  refine G4 (.ptr ks 0) W W ?_
  refine G4 (.ptr ks 5) W W ?_
  refine G4 (.ptr ks 6) W W ?_
  refine G4 (.d (.list (List.map C8 s.Agents))) W (O4 W e2 W) ?_
  refine G4 (.d (i64 s.Agents.length)) W (D6 (f:=C8) W) ?_
  refine G4 (.d (i64 0)) W W ?_
  refine Bc ?_
  refine A8 ?_
  refine YM (α:=Nat×Nat×E5) (fun x=>⟨T [(0, .yld k),(1, .ptr kb 0),(10, .d (i64 s.Agents.length)),(11, .d (i64 (x.1:Int)))],x.2.2⟩) (fun x=>s.Agents.length - x.1)
    (fun x=>Inv x.2.1 x.2.2∧Wq kb ks s x.2.2∧x.1≤s.Agents.length∧x.2.1≤L.length∧LA s s.Agents.length (s.Agents.length - x.1) x.1=some (L.drop x.2.1)) (0,0,g0) ⟨i0,c0,wE _,wE _,h⟩ (Za ⟨rfl,rfl,rfl,rfl,trivial⟩ fun _ _ h=>h) ?_
  rintro ⟨i,pos,hh⟩ ⟨hinv,hrq,hi,hpos,hgo⟩
  dsimp only at hinv hrq hi hpos hgo ⊢
  refine A4 ?_
  refine Us fun u hu=> ?_
  refine G4 (.d (bo<|decide ((i:Int)< (s.Agents.length:Int)))) W W ?_
  refine Bc ?_
  refine A4 ?_
  refine WB (decide ((i:Int)< (s.Agents.length:Int))) W (fun hlt=> ?_) (fun hlt=> ?_)
  ·refine A9 ?_
   have hlt:i<s.Agents.length:=by simpa using hlt
   have hw1: ∀n:Nat,n≤1000000→IntKind.i64.wrap ((n:Int)+1)=((n+1:Nat):Int):=fun n _=>(Go.IntWalk.i64_in _ (by omega)).trans (by omega)
   obtain ⟨m,hm⟩: ∃m,s.Agents.length - i=m+1:=⟨s.Agents.length - i - 1,by omega⟩
   rw [hm,LA]at hgo
   obtain ⟨l1,hl1,hgo⟩:=bind_some hgo
   obtain ⟨l2,hl2,hgo⟩:=bind_some hgo
   have hgo:l1++l2=L.drop pos:=lD hgo
   refine A4 ?_
   refine A8 ?_
   refine A4 ?_
   refine Us fun u hu=> ?_
   refine G4 (.d (i64 i)) W W ?_
   refine G4 (.d (i64 i)) W W ?_
   refine Bc ?_
   refine A4 ?_
   refine Us fun u hu=> ?_
   refine G4 (.d (i64 i)) W W ?_
   refine G4 (.d (i64 ((i+1:Nat):Int))) W (by rw [← hw1 i (by omega)];rfl) ?_
   refine G4 (.d (i64 ((i+1:Nat):Int))) W W ?_
   refine Bc ?_
   refine A8 ?_
   refine YM (α:=Nat×Nat×E5) (fun x=>⟨T [(0, .yld k),(1, .ptr kb 0),(3, .d (i64 (i:Int))),(4, .d (i64 (x.1:Int))),(10, .d (i64 s.Agents.length)),(11, .d (i64 (i:Int)))],x.2.2⟩) (fun x=>s.Agents.length - x.1)
     (fun x=>Inv x.2.1 x.2.2∧Wq kb ks s x.2.2∧x.1≤s.Agents.length∧x.2.1≤L.length∧∃l,GI s i (s.Agents.length - x.1) x.1=some l∧l++l2=L.drop x.2.1) (i+1,pos,hh) ⟨hinv,hrq,hlt,hpos,l1,hl1,hgo⟩ (Za ⟨rfl,rfl,rfl,rfl,rfl,rfl,trivial⟩ fun _ _ h=>h) ?_
   rintro ⟨j,pos,hh⟩ ⟨hinv,hrq,hj,hpos,l,hl,hgo⟩
   dsimp only at hinv hrq hj hpos hl hgo ⊢
   have hrq':=hrq
   obtain ⟨e1,a0,a1,a2,a3,a4,a8,a9,a10,a11,a12,e2⟩:=hrq'
   refine A4 ?_
   refine A4 ?_
   refine Us fun u hu=> ?_
   refine G4 (.d (i64 j)) W W ?_
   refine G4 (.ptr ks 0) W (O4 W e1 W) ?_
   refine G4 (.ptr ks 0) W W ?_
   refine G4 (.ptr ks 5) W W ?_
   refine G4 (.ptr ks 6) W W ?_
   refine G4 (.d (.list (List.map C8 s.Agents))) W (O4 W e2 W) ?_
   refine G4 (.d (i64 s.Agents.length)) W (D6 (f:=C8) W) ?_
   refine G4 (.d (bo<|decide ((j:Int)< (s.Agents.length:Int)))) W W ?_
   refine Bc ?_
   refine WB (decide ((j:Int)< (s.Agents.length:Int))) W (fun hjl=> ?_) (fun hjl=> ?_)
   ·refine A9 ?_
    have hjl:j<s.Agents.length:=by simpa using hjl
    obtain ⟨m',hm'⟩: ∃m',s.Agents.length - j=m'+1:=⟨s.Agents.length - j - 1,by omega⟩
    rw [hm',GI]at hl
    obtain ⟨a,ha,hl⟩:=bind_some hl
    obtain ⟨b,hb,hl⟩:=bind_some hl
    obtain ⟨l',hl',hl⟩:=bind_some hl
    have hl:cond (a&&b) (((i:Int),(j:Int))::l') l'=l:=lD hl
    have hm1:s.Agents.length - (j+1)=m':=by omega
    -- what a round leaves
    have hend: ∀(p':Nat) (h':E5),Inv p' h'→Wq kb ks s h'→p'≤L.length→l'++l2=L.drop p'→∃y:Nat×Nat×E5,(Inv y.2.1 y.2.2∧Wq kb ks s y.2.2∧y.1≤s.Agents.length∧y.2.1≤L.length∧∃l,GI s i (s.Agents.length - y.1) y.1=some l∧l++l2=L.drop y.2.1)∧s.Agents.length - y.1<s.Agents.length - j∧y=(j+1,p',h'):=fun p' h' q1 q2 q3 q4=>⟨(j+1,p',h'),⟨q1,q2,hjl,q3,l',by dsimp only;rw [hm1];exact hl',q4⟩,by dsimp only;omega,rfl⟩
    refine A4 ?_
    refine A8 ?_
    refine A4 ?_
    refine Us fun u hu=> ?_
    refine G4 (.ptr ks 0) W (O4 W e1 W) ?_
    refine G4 (.ptr ks 0) W W ?_
    refine G4 (.ptr ks 5) W W ?_
    refine G4 (.d (.agg [i64 s.Tick, .list (List.map C8 s.Agents), .list (List.map I9 s.In)])) W (A7 W e2 W W) ?_
    refine G4 (.d (i64 i)) W W ?_
    refine AU W W (Jv s i _ ha) (.inl W) ?_
    refine G4 (.d (bo a)) W W ?_
    cases a with
    |false=>
     iterate 6 (refine WI rfl rfl ?_)
     refine G4 (.d (bo false)) W W ?_
     refine G4 (.d (bo false)) W W ?_
     iterate 5 (refine WI rfl rfl ?_)
     refine G4 (.d (bo false)) W W ?_
     refine Bc ?_
     refine Rt W<|A9<|D9 ?_
     refine Us fun u hu=> ?_
     refine G4 (.d (i64 j)) W W ?_
     refine G4 (.d (i64 ((j+1:Nat):Int))) W (by rw [← hw1 j (by omega)];rfl) ?_
     refine G4 (.d (i64 ((j+1:Nat):Int))) W W ?_
     refine Bc ?_
     obtain ⟨y,y1,y2,rfl⟩:=hend pos hh hinv hrq hpos (by rw [← hgo,← hl];rfl)
     exact E1 ⟨_,y1,y2,Za ⟨W,W,W,W,W,W,trivial⟩ fun _ _ h=>h⟩
    |true=>
     refine Xi W ?_
     refine G4 (.ptr ks 0) W (O4 W e1 W) ?_
     refine Xi W ?_
     refine G4 (.ptr ks 0) W W ?_
     refine Xi W ?_
     refine G4 (.ptr ks 5) W W ?_
     refine Xi W ?_
     refine G4 (.d (.agg [i64 s.Tick, .list (List.map C8 s.Agents), .list (List.map I9 s.In)])) W (A7 W e2 W W) ?_
     refine Xi W ?_
     refine G4 (.d (i64 j)) W W ?_
     refine Xi W ?_
     refine AU W W (Jv s j _ hb) (.inl W) ?_
     refine G4 (.d (bo b)) W W ?_
     refine G4 (.d (bo b)) W W ?_
     cases b with
     |false=>
      iterate 5 (refine WI rfl rfl ?_)
      refine G4 (.d (bo false)) W W ?_
      refine Bc ?_
      refine Rt W<|A9<|D9 ?_
      refine Us fun u hu=> ?_
      refine G4 (.d (i64 j)) W W ?_
      refine G4 (.d (i64 ((j+1:Nat):Int))) W (by rw [← hw1 j (by omega)];rfl) ?_
      refine G4 (.d (i64 ((j+1:Nat):Int))) W W ?_
      refine Bc ?_
      obtain ⟨y,y1,y2,rfl⟩:=hend pos hh hinv hrq hpos (by rw [← hgo,← hl];rfl)
      exact E1 ⟨_,y1,y2,Za ⟨W,W,W,W,W,W,trivial⟩ fun _ _ h=>h⟩
     |true=>
      have hcons:((i:Int),(j:Int))::(l'++l2)=L.drop pos:=by rw [← hgo,← hl];rfl
      have hLi:(L.map LB)[pos]? =some (LB ((i:Int),(j:Int))):=by
        have:=congrArg (fun z=>z[0]?) hcons
        rw [lK]
        simp at this
        rw [← this];rfl
      have hLd:L.drop (pos+1)=l'++l2:=by
        have:=congrArg (fun z=>z.drop 1) hcons
        simpa using this.symm
      have hplt:pos+1≤L.length:=by
        have:=congrArg List.length hcons
        simp at this
        omega
      refine Xi W ?_
      refine G4 (.yld k) W W ?_
      refine Xi W ?_
      refine G4 (.d (i64 i)) W W ?_
      refine Xi W ?_
      refine G4 (.d (i64 j)) W W ?_
      refine Xi W ?_
      refine aB k ((LB ((i:Int),(j:Int))).map .d) W W ?_
      refine (hy pos hh _ hLi hinv).mono ?_
      rintro v' h' (⟨rfl,hin⟩|⟨rfl,hst⟩)
      ·obtain ⟨h1,S1,i1,q1⟩:=hcan _ _ hin
       refine ⟨h1,S1,fun u4 hu4=> ?_⟩
       refine Xi W ?_
       refine G4 (.d (bo false)) W W ?_
       refine G4 (.d (bo false)) W W ?_
       refine Bc ?_
       refine Rt W<|A9<|D9 ?_
       refine Us fun u hu=> ?_
       refine G4 (.d (i64 j)) W W ?_
       refine G4 (.d (i64 ((j+1:Nat):Int))) W (by rw [← hw1 j (by omega)];rfl) ?_
       refine G4 (.d (i64 ((j+1:Nat):Int))) W W ?_
       refine Bc ?_
       obtain ⟨y,y1,y2,rfl⟩:=hend (pos+1) h1 i1 q1 hplt hLd.symm
       exact E1 ⟨_,y1,y2,Za ⟨W,W,W,W,W,W,trivial⟩ fun _ _ h=>h⟩
      ·refine ⟨h',Sb.refl _,fun u4 hu4=> ?_⟩
       refine Xi W ?_
       refine G4 (.d (bo true)) W W ?_
       refine G4 (.d (bo true)) W W ?_
       refine Bc ?_
       refine Uk W ?_
       refine B2<|F1<|F1 ?_
       exact ⟨Or.inr W,AV.tup [],W,Or.inr hst⟩
   ·refine C6 rfl ?_
    have hjn:j=s.Agents.length:=by
      have: ¬((j:Int)< (s.Agents.length:Int)):=by simpa using hjl
      omega
    subst hjn
    rw [Nat.sub_self,GI]at hl
    cases hl
    refine C5 (r':= [.b 1, .c _]) W (D9 ?_)
    refine Us fun u hu=> ?_
    refine G4 (.d (i64 ((i+1:Nat):Int))) W (by rw [← hw1 i (by omega)];rfl) ?_
    refine G4 (.d (i64 ((i+1:Nat):Int))) W W ?_
    refine Bc ?_
    refine E1 ⟨(i+1,pos,hh),⟨hinv,hrq,hlt,hpos,?_⟩,by dsimp only;omega,Za ⟨rfl,rfl,rfl,rfl,trivial⟩ fun _ _ h=>h⟩
    dsimp only
    rw [show s.Agents.length - (i+1)=m by omega,hl2]
    exact congrArg some hgo
  ·refine C6 rfl ?_
   have hin:i=s.Agents.length:=by
     have: ¬((i:Int)< (s.Agents.length:Int)):=by simpa using hlt
     omega
   subst hin
   rw [Nat.sub_self,LA]at hgo
   have h1:L.drop pos= []:=(lD hgo).symm
   have h2:=List.drop_eq_nil_iff.1 h1
   have h3:pos=L.length:=by omega
   subst h3
   refine C5 (r':= []) W (E1 ?_)
   exact ⟨.inl W,AV.tup [],W, .inl hinv⟩
def Cs (p1:WorldSpan)(p2:Int):Option WorldSpan:=
  some (WorldSpan.mk (D8 (p1.from_ - p2)) (D8 (p1.to - p2)))
theorem Hz(p1 p2 r)(h:Cs p1 p2=some r):PCall prog 141 [(.agg [(i64 p1.from_),(i64 p1.to)]),(i64 p2)] (.agg [(i64 r.from_),(i64 r.to)]):=by
 refine C2 (fk func141 ntmps141 m0 (by with_unfolding_all rfl)) (nl W) ?_
 unfold Cs at h
 refine B4 (s0:=⟨T [(0,(.d _)),(1,(.d _))],G []⟩) (E6 W W) ?_
 refine B1<|sm W<|sn W W<|A1<|B1<|sq W<|sl W (gq W) W (sv W<|sv W<|sq W<|sl W (gq W) W (sv W<|sv W<|sv W<|R4 W G_hit [(di<|D8 (p1.from_ - p2)),(di<|D8 (p1.to - p2))] W (A1<|B2 ?_)))
 cases h
 exact A6 (.inr W) (B6 (H6 W G_hit (nl W) W) C1) (.refl _)
def Ai [Lp](p1:Map)(p2:Int):Option Int:=
  (Lv p1 p2).bind fun v1=>cond (!v1) (some 0) ((Cp p1 p2).bind fun v2=>some v2)
theorem Ml(p1 p2 r)(h:Ai p1 p2=some r):PCall prog 143 [(.agg (P1 p1)),(i64 p2)] (i64 r):=by
 refine C2 (fk func143 ntmps143 m0 (by with_unfolding_all rfl)) (nl W) ?_
 unfold Ai at h
 refine B4 (s0:=⟨T [(0,(.d _)),(1,(.d _))],G []⟩) (E6 W W) ?_
 refine B1<|sm W<|sv W<|A1<|A4<|B1<|sd W (A7 W G_hit W W)<|sv W<|bs h fun v1 hv1 h=>B0 W W A3 (Zq _ _ _ hv1) (.inl W) (B8 (.d (bo (!v1))) W W (A1<|cc W h (fun c1 h=> ?_)<|fun c1 h=> ?_))
 refine B1<|sv W<|A1<|B2 ?_
 cases h
 exact A6 (.inr W) (B6 (B3 W) C1) (.refl _)
 refine A9<|B1<|sd W (A7 W G_hit W W)<|sv W<|bs h fun _ hv2 h=>B0 W W A3 (Pz _ _ _ hv2) (.inl W) (sv W<|A1<|B2 ?_)
 cases h
 exact A6 (.inr W) (B6 (B3 W) C1) (.refl _)
def By (p1:WorldSpan)(p2:WorldSpan):Option WorldSpan:=
  some (WorldSpan.mk (Ov true p1.from_ p2.from_) (Ov false p1.to p2.to))
theorem Od(p1 p2 r)(h:By p1 p2=some r):PCall prog 142 [(.agg [(i64 p1.from_),(i64 p1.to)]),(.agg [(i64 p2.from_),(i64 p2.to)])] (.agg [(i64 r.from_),(i64 r.to)]):=by
 refine C2 (fk func142 ntmps142 m0 (by with_unfolding_all rfl)) (nl W) ?_
 unfold By at h
 refine B4 (s0:=⟨T [(0,(.d _)),(1,(.d _))],G []⟩) (E6 W W) ?_
 refine B1<|sm W<|sn W W<|sm W<|A1<|B1<|sq W<|sl W (gq W) W (sq W<|sl W (gq W) W (sv W<|sq W<|sl W (gq W) W (sq W<|sl W (gq W) W (sv W<|sv W<|R4 W G_hit [(di<|Ov true p1.from_ p2.from_),(di<|Ov false p1.to p2.to)] W (A1<|B2 ?_)))))
 cases h
 exact A6 (.inr W) (B6 (H6 W G_hit (nl W) W) C1) (.refl _)
def Z6 (p1:WorldSpan):Option Bool:=
  some (decide (p1.from_>p1.to))
theorem Ll(p1 r)(h:Z6 p1=some r):PCall prog 144 [(.agg [(i64 p1.from_),(i64 p1.to)])] (bo r):=by
 refine C2 (fk func144 ntmps144 m0 (by with_unfolding_all rfl)) (nl W) ?_
 unfold Z6 at h
 refine B4 (s0:=⟨T [(0,(.d _))],G []⟩) (E6 W W) ?_
 refine B1<|sm W<|sv W<|A1<|B1<|sq W<|sl W G_hit W<|sq W<|sl W G_hit W<|sv W<|sv W<|A1<|B2 ?_
 cases h
 exact A6 (.inr W) (B6 (B3 W) C1) (.refl _)
def Br [Lp](p1:Map)(p2:Agent)(v2:(List Int))(x1:((List Span)×Int)):Option (Stp ((List Span)×Int) (List Span)):=
  cond (decide (x1.2< (v2.length:Int))) ((C3 v2 x1.2).bind fun v3=>(C3 p2.Route x1.2).bind fun v4=>(Cq p2).bind fun v5=>(Cs v5 v3).bind fun v6=>(Ai p1 v4).bind fun v7=>(By v6 (WorldSpan.mk 0 v7)).bind fun v8=>(Z6 v8).bind fun v9=>cond (!v9) ((Am x1.1 [(Span.mk v4 v8.from_ v8.to)]).bind fun v10=>some (.go (v10,(D8 (x1.2+1))))) (some (.go (x1.1,(D8 (x1.2+1)))))) (some (.out x1.1))
def Ft [Lp](p1:Map)(p2:Agent):Option (List Span):=
  (Ms p2).bind fun v1=>cond (!v1) (some []) ((Bp p1 p2.Route).bind fun v2=>(loop (Br p1 p2 v2) ([],0)).bind fun y1=>some y1)
theorem Ux(p1 p2 r)(h:Ft p1 p2=some r):PCall prog 67 [(.agg (P1 p1)),(.agg (C8 p2))] (.list (List.map Q7 r)):=by
 refine C2 (fk func67 ntmps67 (fun r=>if r==10 then [1007]else []) (by with_unfolding_all rfl)) (nl W) ?_
 unfold Ft at h
 refine B4 (s0:=⟨T [(0,(.d _)),(1,(.d _))],G []⟩) (E6 W W) ?_
 refine lr<|fun u1 _=>sm W<|sm W<|sv W<|A1<|A4<|B1<|sd W (A7 W G_hit W W)<|bs h fun v1 hv1 h=>B0 W W A3 (Uw _ _ hv1) (.inl W) (B8 (.d (bo (!v1))) W W (A1<|cc W h (fun c1 h=> ?_)<|fun c1 h=> ?_))
 refine B1<|sv W<|A1<|B2 ?_
 cases h
 exact A6 (.inr W) (B6 (B3 W) C1) DLe.nil
 refine A9<|B1<|sv W<|A1<|A4<|B1<|sd W (A7 W (gq W) W W)<|sq W<|sl W G_hit W<|bs h fun v2 hv2 h=>B0 W W A3 (Ra _ _ _ hv2) (.inl W) (sd W (D6 W)<|sv W<|A1<|bs h fun y1 hy1 h=>D4 (fun s=> ∃g1:Nat,Sb ⟨T [(5,(oS y1 (48,g1)))],G [((48,g1),oB 93 3 Q7 y1)]⟩ s) ?_ ?_)
 refine A8<|E2 (Br p1 p2 v2) (fun (x1:((List Span)×Int)) (g2:Nat)=>⟨T [(2,(.ptr (2,u1) 0)),(3,(.ptr (3,u1) 0)),(5,(oS x1.1 (48,g2))),(16,(dl A5 v2)),(17,(di (v2.length:Int))),(18,(di x1.2))],G [((2,u1),some<|.box 33 (K8 p1)),((3,u1),some<|.box 45 (T4 p2)),((48,g2),oB 93 3 Q7 x1.1)]⟩) ([],0) 0 _ hy1 (D5 (X3 W)<|sg W<|B5 G_hit (.of W)<|P4 trivial) ?_
 intro x1 g2 z1 hz1 ez1
 unfold Br at hz1
 refine B1<|sv W<|A1<|A4<|cc W hz1 (fun c2 hz1=> ?_)<|fun c2 hz1=> ?_
 refine A9<|A4<|A8<|B1<|sv W<|bs hz1 fun _ hv3 hz1=>sd W (C4 W W hv3 W)<|sd W (C7 W hv3 W)<|sv W<|sv W<|A1<|B1<|sq W<|sl W (gq W) W (sv W<|bs hz1 fun v4 hv4 hz1=>sd W (C4 W W hv4 W)<|sd W (C7 W hv4 W)<|sv W<|A1<|A4<|E0 W<|sd W (A7 W (gq W) W W)<|bs hz1 fun _ hv5 hz1=>B0 W W A3 (Iz _ _ hv5) (.inl W) (sv W<|bs hz1 fun _ hv6 hz1=>B0 W W A3 (Hz _ _ _ hv6) (.inl W) (sd W (A7 W G_hit W W)<|sv W<|bs hz1 fun _ hv7 hz1=>B0 W W A3 (Ml _ _ _ hv7) (.inl W) (sv W<|bs hz1 fun v8 hv8 hz1=>B0 W W A3 (Od _ _ _ hv8) (.inl W) (sm W<|R4 W G_hit [(di v8.from_),(di v8.to)] W (A1<|B1<|sd W (A7 W G_hit W W)<|bs hz1 fun v9 hv9 hz1=>B0 W W A3 (Ll _ _ hv9) (.inl W) (B8 (.d (bo (!v9))) W W (A1<|cc W hz1 (fun c3 hz1=> ?_)<|fun c3 hz1=> ?_))))))))
 refine Ba fun u11 _=>B8 (oS x1.1 (48,g2)) W W (sv W<|sq W<|sl W G_hit W<|sq W<|sl W G_hit W<|sv W<|B8 (dl Q7 [(Span.mk v4 v8.from_ v8.to)]) W W (bs hz1 fun _ hv10 hz1=>N8 Q7 (48,g2) x1.1 (Span.mk v4 v8.from_ v8.to) [] _ (K1<|fun _=>W) W (gq W) hv10 (ss W<|A1<|D9<|C0<|sv W<|sv W<|A1<|E1 ?_)))
 cases hz1
 exact ⟨W,u11,(D5 ⟨.of W, .of W,(.of (S6<|T0 hv10).symm), .of W, .of W, .of W,trivial⟩<|sg W<|sg W<|M6 G_hit trivial)⟩
 refine A9<|D9<|C0<|sv W<|sv W<|A1<|E1 ?_
 cases hz1
 exact ⟨W,g2,(D5 (X3 W)<|sg W<|sg W<|B7 (gq W) trivial)⟩
 refine C6 W ?_
 cases hz1
 obtain rfl:=ez1 _ rfl
 refine ⟨nofun,C5 W<|T3 ?_⟩
 exact ⟨g2,(D5 ⟨.of W,trivial⟩<|B7 (gq W) trivial)⟩
 rintro _ ⟨g1,q1⟩
 refine B4 q1<|B1<|B8 (oS y1 (48,g1)) W W (B8 (oS y1 (48,g1)) W W (A1<|B2 ?_))
 cases h
 exact A6 (.inr W) (B6 (B3 W)<|R9 G_hit) R8
def Fe (p1:Span)(p2:Span):Option Bool:=
  ((cond (p2.Lane_==p1.Lane_) (By (WorldSpan.mk p2.From p2.To) (WorldSpan.mk p1.From p1.To)) (some default))).bind fun v1=>((cond (p2.Lane_==p1.Lane_) (Z6 v1) (some default))).bind fun v2=>some ((p2.Lane_==p1.Lane_)&& (!v2))
theorem Vr(p1 p2 r)(h:Fe p1 p2=some r):PCall prog 147 [(.agg (Q7 p1)),(.bp (Q7 p2) 0)] (bo r):=by
 refine C2 (fk func147 ntmps147 m0 (by with_unfolding_all rfl)) (nl W) ?_
 unfold Fe at h
 refine B4 (s0:=⟨T [(0,(.d _)),(1,(.d _))],G []⟩) (E6 W W) ?_
 refine B1<|sm W<|sv W<|A1<|B1<|sv W<|sv W<|sq W<|sl W G_hit W<|sv W<|sv W<|gt W (fun _=>W) ?_
 refine gt W (fun w2=>(by simp only [A2 w2];rfl)) ?_
 refine gt W (fun _=>W) ?_
 refine gt W (fun w4=>(by simp only [A2 w4];rfl)) ?_
 refine gt W (fun w5=>(by simp only [A2 w5];rfl)) ?_
 refine gp W (K2 W) (fun _=>W) (gt W (vl W G_hit W)<|gp W (K2 W) (fun _=>W) (gt W (vl W G_hit W) ?_))
 refine gt W (fun w10=>(by simp only [A2 w10];rfl)) ?_
 refine bs h fun v1 hv1 h=> ?_
 refine M2 _ (.agg [(i64 v1.from_),(i64 v1.to)]) (K2 W) (fun w11=>⟨_,[(.d (.agg [(i64 p2.From),(i64 p2.To)])),(.d (.agg [(i64 p1.From),(i64 p1.To)]))],_,_,(by simp only [A2 w11];rfl),W,A3,Od _ _ _<|B9 w11 hv1,(.inl W)⟩) ?_
 refine bs h fun v2 hv2 h=> ?_
 refine M2 _ (bo v2) (K2 W) (fun w12=>⟨_,[(.d (.agg [(i64 v1.from_),(i64 v1.to)]))],_,_,(by simp only [A2 w12];rfl),W,A3,Ll _ _<|B9 w12 hv2,(.inl W)⟩) ?_
 refine M3 _ (.d (bo (!v2))) W (K2 W) (fun w13=>(by simp only [A2 w13];rfl)) ?_
 refine sa W W W<|sv W<|A1<|B2 ?_
 cases h
 exact A6 (.inr W) (B6 (B3 W) C1) (.refl _)
def K5 (p1:(List Span))(p2:Span)(x1:Int):Option (Stp Int (Sum Unit Int)):=
  cond (decide (x1< (p1.length:Int))) ((C3 p1 x1).bind fun v1=>(Fe v1 p2).bind fun v2=>cond v2 (some (.out (.inr x1))) (some (.go (D8 (x1+1))))) (some (.out (.inl ())))
def H5 [Lp](p1:(List Span))(p2:Span):Option Int:=
  thenS (loop (K5 p1 p2) 0) (fun _=>some (-1)) (fun r=>some r)
theorem Eh(p1 p2 r)(h:H5 p1 p2=some r):PCall prog 208 [(.list (List.map Q7 p1)),(.fn (.func 147) [] [(.bp (Q7 p2) 0)])] (i64 r):=by
 refine C2 (fk func208 ntmps208 m0 (by with_unfolding_all rfl)) (nl W) ?_
 unfold H5 at h
 refine B4 (s0:=⟨T [(0,(.d _)),(1,(.d _))],G []⟩) (E6 W W) ?_
 refine B1<|sv W<|A1<|A4<|B1<|sv W<|sd W (D6 W)<|sv W<|A1<|js h fun z1 hz1 h=>D4 (fun s=> ∃(y1:Unit) (g1:Unit),z1= .inl y1∧Sb ⟨T [],G []⟩ s) ?_ ?_
 refine A8<|E2 (K5 p1 p2) (fun (x1:Int) (g2:Unit)=>⟨T [(0,(dl Q7 p1)),(1,(.d (.fn (.func 147) [] [(.bp (Q7 p2) 0)]))),(7,(di (p1.length:Int))),(8,(di x1))],G []⟩) 0 () _ hz1 (E6 W W) ?_
 intro x1 g2 z2 hz2 ez2
 unfold K5 at hz2
 refine B1<|sv W<|A1<|A4<|cc W hz2 (fun c1 hz2=> ?_)<|fun c1 hz2=> ?_
 refine A9<|A4<|A8<|B1<|sv W<|sv W<|A1<|B1<|sv W<|sv W<|sv W<|bs hz2 fun _ hv1 hz2=>sd W (C4 W W hv1 W)<|sd W (D1 W hv1 W W)<|bs hz2 fun _ hv2 hz2=>B0 W W A3 (Vr _ _ _ hv2) (.inl W) (A1<|cc W hz2 (fun c2 hz2=> ?_)<|fun c2 hz2=> ?_)
 refine B1<|sv W<|sv W<|A1<|B2 ?_
 cases hz2
 obtain rfl:=ez2 _ rfl
 refine ⟨nofun,F1 ?_⟩
 rw [wA]at h
 cases h
 exact A6 (.inr W) (B6 (B3 W) C1) (.refl _)
 refine A9<|D9<|C0<|sv W<|sv W<|A1<|E1 ?_
 cases hz2
 exact ⟨W,(),(E6 W W)⟩
 refine C6 W ?_
 cases hz2
 obtain rfl:=ez2 _ rfl
 refine ⟨nofun,C5 W<|T3 ?_⟩
 exact ⟨_,(),W,(E6 W W)⟩
 rintro _ ⟨y1,g1,rfl,q1⟩
 rw [bZ]at h
 refine B4 q1<|B1<|sv W<|A1<|B2 ?_
 cases h
 exact A6 (.inr W) (B6 (B3 W) C1) (.refl _)
def F4 [Lp](p1:(List Span))(p2:Span):Option Bool:=
  (H5 p1 p2).bind fun v1=>some (decide (v1≥0))
theorem Da(p1 p2 r)(h:F4 p1 p2=some r):PCall prog 145 [(.list (List.map Q7 p1)),(.fn (.func 147) [] [(.bp (Q7 p2) 0)])] (bo r):=by
 refine C2 (fk func145 ntmps145 m0 (by with_unfolding_all rfl)) (nl W) ?_
 unfold F4 at h
 refine B4 (s0:=⟨T [(0,(.d _)),(1,(.d _))],G []⟩) (E6 W W) ?_
 refine B1<|sv W<|A1<|B1<|sv W<|sv W<|bs h fun _ hv1 h=>B0 W W A3 (Eh _ _ _ hv1) (.inl W) (sv W<|sv W<|A1<|B2 ?_)
 cases h
 exact A6 (.inr W) (B6 (B3 W) C1) (.refl _)
def Y9 [Lp](p1:Span)(p2:(List Span)):Option Bool:=
  (F4 p2 p1).bind fun v1=>some v1
theorem Yd(p1 p2 r)(h:Y9 p1 p2=some r):PCall prog 146 [(.agg (Q7 p1)),(.bp [(.list (List.map Q7 p2))] 0)] (bo r):=by
 refine C2 (fk func146 ntmps146 m0 (by with_unfolding_all rfl)) (nl W) ?_
 unfold Y9 at h
 refine B4 (s0:=⟨T [(0,(.d _)),(1,(.d _))],G []⟩) (E6 W W) ?_
 refine B1<|sm W<|sv W<|A1<|B1<|sv W<|B8 (.fn _ _ _) W W (bs h fun _ hv1 h=>B0 W (rD<|E4 (BO F6<|E4 (Ax G_hit<|rD<|rD<|rD F6) F6) F6) A3 (Da _ _ _ hv1) (.inr W) (sv W<|A1<|B2 ?_))
 cases h
 exact A6 (.inr W) (B6 (B3 W) C1) (.refl _)
def G2 [Lp](p1:(List Span))(p2:(List Span))(x1:Int):Option (Stp Int (Sum Unit Int)):=
  cond (decide (x1< (p1.length:Int))) ((C3 p1 x1).bind fun v1=>(Y9 v1 p2).bind fun v2=>cond v2 (some (.out (.inr x1))) (some (.go (D8 (x1+1))))) (some (.out (.inl ())))
def I6 [Lp](p1:(List Span))(p2:(List Span)):Option Int:=
  thenS (loop (G2 p1 p2) 0) (fun _=>some (-1)) (fun r=>some r)
theorem Ff(p1 p2 r)(h:I6 p1 p2=some r):PCall prog 208 [(.list (List.map Q7 p1)),(.fn (.func 146) [] [(.bp [(.list (List.map Q7 p2))] 0)])] (i64 r):=by
 refine C2 (fk func208 ntmps208 m0 (by with_unfolding_all rfl)) (nl W) ?_
 unfold I6 at h
 refine B4 (s0:=⟨T [(0,(.d _)),(1,(.d _))],G []⟩) (E6 W W) ?_
 refine B1<|sv W<|A1<|A4<|B1<|sv W<|sd W (D6 W)<|sv W<|A1<|js h fun z1 hz1 h=>D4 (fun s=> ∃(y1:Unit) (g1:Unit),z1= .inl y1∧Sb ⟨T [],G []⟩ s) ?_ ?_
 refine A8<|E2 (G2 p1 p2) (fun (x1:Int) (g2:Unit)=>⟨T [(0,(dl Q7 p1)),(1,(.d (.fn (.func 146) [] [(.bp [(.list (List.map Q7 p2))] 0)]))),(7,(di (p1.length:Int))),(8,(di x1))],G []⟩) 0 () _ hz1 (E6 W W) ?_
 intro x1 g2 z2 hz2 ez2
 unfold G2 at hz2
 refine B1<|sv W<|A1<|A4<|cc W hz2 (fun c1 hz2=> ?_)<|fun c1 hz2=> ?_
 refine A9<|A4<|A8<|B1<|sv W<|sv W<|A1<|B1<|sv W<|sv W<|sv W<|bs hz2 fun _ hv1 hz2=>sd W (C4 W W hv1 W)<|sd W (D1 W hv1 W W)<|bs hz2 fun _ hv2 hz2=>B0 W W A3 (Yd _ _ _ hv2) (.inl W) (A1<|cc W hz2 (fun c2 hz2=> ?_)<|fun c2 hz2=> ?_)
 refine B1<|sv W<|sv W<|A1<|B2 ?_
 cases hz2
 obtain rfl:=ez2 _ rfl
 refine ⟨nofun,F1 ?_⟩
 rw [wA]at h
 cases h
 exact A6 (.inr W) (B6 (B3 W) C1) (.refl _)
 refine A9<|D9<|C0<|sv W<|sv W<|A1<|E1 ?_
 cases hz2
 exact ⟨W,(),(E6 W W)⟩
 refine C6 W ?_
 cases hz2
 obtain rfl:=ez2 _ rfl
 refine ⟨nofun,C5 W<|T3 ?_⟩
 exact ⟨_,(),W,(E6 W W)⟩
 rintro _ ⟨y1,g1,rfl,q1⟩
 rw [bZ]at h
 refine B4 q1<|B1<|sv W<|A1<|B2 ?_
 cases h
 exact A6 (.inr W) (B6 (B3 W) C1) (.refl _)
def G3 [Lp](p1:(List Span))(p2:(List Span)):Option Bool:=
  (I6 p1 p2).bind fun v1=>some (decide (v1≥0))
theorem Dv(p1 p2 r)(h:G3 p1 p2=some r):PCall prog 145 [(.list (List.map Q7 p1)),(.fn (.func 146) [] [(.bp [(.list (List.map Q7 p2))] 0)])] (bo r):=by
 refine C2 (fk func145 ntmps145 m0 (by with_unfolding_all rfl)) (nl W) ?_
 unfold G3 at h
 refine B4 (s0:=⟨T [(0,(.d _)),(1,(.d _))],G []⟩) (E6 W W) ?_
 refine B1<|sv W<|A1<|B1<|sv W<|sv W<|bs h fun _ hv1 h=>B0 W W A3 (Ff _ _ _ hv1) (.inl W) (sv W<|sv W<|A1<|B2 ?_)
 cases h
 exact A6 (.inr W) (B6 (B3 W) C1) (.refl _)
def Bz [Lp](p1:Map)(p2:Agent)(p3:Agent):Option Bool:=
  (Ft p1 p3).bind fun v1=>(Ft p1 p2).bind fun v2=>(G3 v2 v1).bind fun v3=>some v3
theorem FA(p1 p2 p3 r)(h:Bz p1 p2 p3=some r):PCall prog 68 [(.agg (P1 p1)),(.agg (C8 p2)),(.agg (C8 p3))] (bo r):=by
 refine C2 (fk func68 ntmps68 m0 (by with_unfolding_all rfl)) (nl W) ?_
 unfold Bz at h
 refine B4 (s0:=⟨T [(0,(.d _)),(1,(.d _)),(2,(.d _))],G []⟩) (E6 W W) ?_
 refine B1<|sm W<|sn W W<|sm W<|sv W<|A1<|B1<|sd W (A7 W (gq W) W W)<|sd W (A7 W G_hit W W)<|bs h fun v1 hv1 h=>B0 W W A3 (Ux _ _ _ hv1) (.inl W) (sm W<|R4 W G_hit [(dl Q7 v1)] W (A1<|B1<|sd W (A7 W (gq W) W W)<|sd W (A7 W (gq W) W W)<|bs h fun _ hv2 h=>B0 W W A3 (Ux _ _ _ hv2) (.inl W) (B8 (.fn _ _ _) W W (bs h fun _ hv3 h=>B0 W (rD<|E4 (BO F6<|E4 (Ax G_hit<|rD F6) F6) F6) A3 (Dv _ _ _ hv3) (.inr W) (sv W<|A1<|B2 ?_)))))
 cases h
 exact A6 (.inr W) (B6 (B3 W) C1) (.refl _)
def W8 [Lp](p1:WorldScene)(p2:Int)(p3:Int)(p4:Int):Option Bool:=
  (P6 p1 p2 p4).bind fun v1=>((cond v1 (P6 p1 p3 p4) (some default))).bind fun v2=>((cond (v1&&v2) (C3 p1.before.Agents p2) (some default))).bind fun v3=>((cond (v1&&v2) (Di p1.m v3.Route p4) (some default))).bind fun v4=>((cond (v1&&v2) (C3 p1.before.Agents p3) (some default))).bind fun v5=>((cond (v1&&v2) (Di p1.m v5.Route p4) (some default))).bind fun v6=>some ((v1&&v2)&& (v4 !=v6))
theorem Oe(p1 p2 p3 p4 r)(h:W8 p1 p2 p3 p4=some r):PCall prog 82 [(.bp (Ql p1) 0),(i64 p2),(i64 p3),(i64 p4)] (bo r):=by
 refine C2 (fk func82 ntmps82 m0 (by with_unfolding_all rfl)) (nl W) ?_
 unfold W8 at h
 refine B4 (s0:=⟨T [(0,(.d _)),(1,(.d _)),(2,(.d _)),(3,(.d _))],G []⟩) (E6 W W) ?_
 refine B1<|sv W<|A1<|A4<|E0 W<|sv W<|sv W<|sv W<|bs h fun v1 hv1 h=>B0 W W A3 (Bq _ _ _ _ hv1) (.inl W) (sv W<|gt W (fun _=>W)<|gt W (fun _=>W)<|gt W (fun _=>W)<|bs h fun v2 hv2 h=> ?_)
 refine M2 v1 (bo v2) (K2 W) (fun w4=>⟨_,[(.d (.bp (Ql p1) 0)),(di p3),(di p4)],_,_,(by simp only [A2 w4];rfl),W,A3,Bq _ _ _ _<|B9 w4 hv2,(.inl W)⟩) ?_
 refine sa W W W<|sv W<|gt W (fun _=>W) ?_
 refine gt W (fun w6=>(by simp only [A2 w6];rfl)) ?_
 refine gt W (fun w7=>(by simp only [A2 w7];rfl)) ?_
 refine gt W (fun w8=>(by simp only [A2 w8];rfl)) ?_
 refine gt W (fun _=>W) ?_
 refine gt W (fun w10=>(by simp only [A2 w10];rfl)) ?_
 refine gt W (fun w11=>(by simp only [A2 w11];rfl)) ?_
 refine gt W (fun w12=>(by simp only [A2 w12];rfl)) ?_
 refine gt W (fun w13=>(by simp only [A2 w13];rfl)) ?_
 refine gt W (fun _=>W)<|bs h fun v3 hv3 h=>gt W (fun w15=>(C4 (A2 w15) (A2 w15) (B9 w15 hv3) W)) ?_
 refine gt W (fun w16=>(by simp only [A2 w16];rfl)) ?_
 refine gt W (fun w17=>(C7 (A2 w17) (B9 w17 hv3) W))<|gt W (fun _=>W)<|bs h fun v4 hv4 h=> ?_
 refine M2 _ (i64 v4) (K2 W) (fun w19=>⟨_,[(.d (.agg (P1 p1.m))),(dl A5 v3.Route),(di p4)],_,_,(by simp only [A2 w19];rfl),W,A3,Tb _ _ _ _<|B9 w19 hv4,(.inl W)⟩) ?_
 refine gt W (fun _=>W) ?_
 refine gt W (fun w21=>(by simp only [A2 w21];rfl)) ?_
 refine gt W (fun w22=>(by simp only [A2 w22];rfl)) ?_
 refine gt W (fun w23=>(by simp only [A2 w23];rfl)) ?_
 refine gt W (fun _=>W) ?_
 refine gt W (fun w25=>(by simp only [A2 w25];rfl)) ?_
 refine gt W (fun w26=>(by simp only [A2 w26];rfl)) ?_
 refine gt W (fun w27=>(by simp only [A2 w27];rfl)) ?_
 refine gt W (fun w28=>(by simp only [A2 w28];rfl)) ?_
 refine gt W (fun _=>W)<|bs h fun v5 hv5 h=>gt W (fun w30=>(C4 (A2 w30) (A2 w30) (B9 w30 hv5) W)) ?_
 refine gt W (fun w31=>(by simp only [A2 w31];rfl)) ?_
 refine gt W (fun w32=>(C7 (A2 w32) (B9 w32 hv5) W))<|gt W (fun _=>W)<|bs h fun v6 hv6 h=> ?_
 refine M2 _ (i64 v6) (K2 W) (fun w34=>⟨_,[(.d (.agg (P1 p1.m))),(dl A5 v5.Route),(di p4)],_,_,(by simp only [A2 w34];rfl),W,A3,Tb _ _ _ _<|B9 w34 hv6,(.inl W)⟩) ?_
 refine gt W (fun w35=>(L6 (A2 w35) (A2 w35) W))<|sa W W W<|sv W<|A1<|B2 ?_
 cases h
 exact A6 (.inr W) (B6 (B3 W) C1) (.refl _)
def Kr [Lp](p1:Map)(v5:WorldScene)(a1:(Int×Int))(x2:Int):Option (Stp Int (Sum Unit (State×Int))):=
  cond (decide (x2< (p1.Zones.length:Int))) ((W8 v5 a1.1 a1.2 x2).bind fun v10=>cond v10 (some (.out (.inr ((State.mk 0 [] []),12)))) (some (.go (D8 (x2+1))))) (some (.out (.inl ())))
def Ks [Lp](p1:Map)(p2:(List Agent))(v5:WorldScene)(x1:Unit)(a1:(Int×Int)):Option (Stp Unit (Sum Unit (State×Int))):=
  (C3 p2 a1.1).bind fun v7=>(C3 p2 a1.2).bind fun v8=>(Bz p1 v7 v8).bind fun v9=>cond v9 (some (.out (.inr ((State.mk 0 [] []),12)))) (thenS (loop (Kr p1 v5 a1) 0) (fun _=>some (.go ())) (fun r=>some (.out (.inr r))))
def FB:Option Unit:=
  some ()
def Se [Lp](p1:Map)(p2:(List Agent)):Option (State×Int):=
  (Mr (State.mk 0 p2 [])).bind fun v1=>(Bv p1 v1).bind fun v2=>cond (v2 !=0) (some ((State.mk 0 [] []),v2)) ((K3 p2).bind fun v3=>cond v3 (some ((State.mk 0 [] []),10)) ((Mr v1).bind fun v4=>(Al (WorldScene.mk p1 v1 v4 [] [])).bind fun v5=>(FB).bind fun y1=>thenS ((QT v5.before).bind fun v6=>loopL (Ks p1 p2 v5) (fun (x1:Unit)=> .inl ()) v6 ()) (fun _=>some (v5.after,0)) (fun r=>some r)))
theorem QU(p1 p2 r)(h:Se p1 p2=some r):PCall prog 27 [(.agg (P1 p1)),(.list (List.map C8 p2))] (.tup [(.agg (Y8 r.1)),(i64 r.2)]):=by
 refine C2 (fk func27 ntmps27 (fun r=>if r==8 then [1008001]else if r==9 then [1]else []) (by with_unfolding_all rfl)) (nl W) ?_
 unfold Se at h
 refine B4 (s0:=⟨T [(0,(.d _)),(1,(.d _))],G []⟩) (E6 W W) ?_
 refine lr<|fun u1 _=>sm W<|sm W<|sn W W<|sm W<|A1<|B1<|sl W (gq W) W (sv W<|bs h fun v1 hv1 h=>B0 W W (.cons (.agg (ca W<|ca W<|.cons ⟨DLe.nil,W⟩ .nil)) .nil) (BT _ _ hv1) (.inl W) (sm W<|R4 W G_hit (K4 v1) W (A1<|A4<|B1<|sd W (A7 W (gq W) W W)<|sd W (A7 W G_hit W W)<|bs h fun v2 hv2 h=>B0 W W A3 (Oa _ _ _ hv2) (.inl W) (sv W<|A1<|B1<|sv W<|sv W<|A1<|cc W h (fun c1 h=> ?_)<|fun c1 h=> ?_))))
 refine B1<|sv W<|sv W<|R4 W (gq W) [(di 0),(.d .nilS),(.d .nilS)] W (R4 W (gq W) [(di v2)] W (A1<|B2 ?_))
 cases h
 exact A6 (.inr W) (Lh (H6 W (gq W) (nl W) W) (Zb W G_hit W) C1 C1) (.tup (.cons (.agg (ca W<|.cons ⟨DLe.nil,W⟩ (.cons ⟨DLe.nil,W⟩ .nil))) A3))
 refine A9<|A4<|B1<|sl W (gq W) W (bs h fun _ hv3 h=>B0 W W A3 (Fs _ _ hv3) (.inl W) (A1<|cc W h (fun c2 h=> ?_)<|fun c2 h=> ?_))
 refine B1<|sv W<|R4 W (gq W) [(di 0),(.d .nilS),(.d .nilS)] W (R4 W (gq W) [(di 10)] W (A1<|B2 ?_))
 cases h
 exact A6 (.inr W) (Lh (H6 W (gq W) (nl W) W) (Zb W G_hit W) C1 C1) (.tup (.cons (.agg (ca W<|.cons ⟨DLe.nil,W⟩ (.cons ⟨DLe.nil,W⟩ .nil))) A3))
 refine A9<|A4<|Jr W fun u8 _=>sd W (A7 W (gq W) W W)<|sd W (A7 W G_hit W W)<|sd W (A7 W G_hit W W)<|bs h fun _ hv4 h=>B0 W W A3 (BT _ _ hv4) (.inl W) (sv W<|sm W<|sn W W<|R4 W G_hit [(.ptr (30,u8) 0)] W (A1<|B1<|sp W (O4 W G_hit W)<|bs h fun v5 hv5 h=>GB (v:= .d (.tup [])) (us:= [(30,u8)]) (NC (Wo _ _ hv5) [(30,u8)] [(30,u8)] _ (((30,u8),some<|.box 135 (V4 v5))::_) W Nw (Y5 (nZ (F2 W<|F2 W G_hit) W) Ur) (Ko (F2 W<|F2 W G_hit) Ik) ⟨⟨_,(F2 W<|F2 W G_hit), .box (.cons (.of W) (.cons (.of W) (.cons (.of W) (.cons (.of W) (.cons (.of W) (.cons (.of W) (.cons (.of W) (.cons (.of W) (.cons (.of W) (.cons (.of W) (.cons (.of W) (.cons (DLe.d DLe.nil) (.cons (DLe.d DLe.nil) .nil)))))))))))))⟩,trivial⟩ (fun _ h=>h) nd1 W W W) (A1<|A4<|B1<|sp W (O4 W (gq W) W)<|bs h fun _ hy1 h=>Wk (fk func81 ntmps81 m0 (by with_unfolding_all rfl)) (fun (g1:Nat)=> [(2,(.ptr (2,u1) 0)),(3,(.ptr (3,u1) 0)),(4,(.ptr (4,u1) 0)),(5,(.ptr (5,u1) 0)),(8,(.ptr (8,u8) 0)),(34,(.fn (.func 174) [] [(.ptr (1,g1) 0)]))]) (fun (g1:Nat)=> [((2,u1),some<|.box 33 (K8 p1)),((3,u1),some<|.box 22 [(dl C8 p2)]),((4,u1),some<|.box 25 [(di 0),(.d .nilS),(.d .nilS)]),((5,u1),some<|.box 36 [(di 0)]),((8,u8),some<|.box 133 [(.ptr (30,u8) 0)]),((30,u8),some<|.box 135 (V4 v5)),((1,g1),some<|.box 133 [(.ptr (30,u8) 0)])]) W (nl W) ?_ ?_)))
 unfold FB at hy1
 refine B4 (s0:=⟨T [(0,(.ptr _ _))],G [((30,u8),some<|.box 135 _),((2,u1),some<|.box 33 _),((3,u1),some<|.box 22 _),((4,u1),some<|.box 25 _),((5,u1),some<|.box 36 _),((8,u8),some<|.box 133 _)]⟩) (E6 W W) ?_
 refine lr<|fun u11 _=>sm W<|sv W<|A1<|B1<|B8 (.fn _ _ _) W W (B8 (.fn _ _ _) W W (A1<|B2 ?_))
 cases hy1
 exact EU (.inr W) (KR<|B3 W) u11 (X3 W) (sg W<|sg W<|sg W<|sg W<|sg W<|sg W<|B5 G_hit (.of W) trivial)
 intro g1
 intro u13 hu13
 refine A1<|js h fun z1 hz1 h=>D4 (fun s=> ∃(y2:Unit) (g2:Unit),z1= .inl y2∧Sb ⟨T [(4,(.ptr (4,u1) 0)),(5,(.ptr (5,u1) 0)),(8,(.ptr (8,u8) 0))],G [((4,u1),some<|.box 25 [(di 0),(.d .nilS),(.d .nilS)]),((5,u1),some<|.box 36 [(di 0)]),((8,u8),some<|.box 133 [(.ptr (30,u8) 0)]),((30,u8),some<|.box 135 (V4 v5))]⟩ s) ?_ ?_
 refine A8<|bs hz1 fun v6 hv6 hz1=>B4 (s0:=⟨T [(2,(.ptr _ _)),(3,(.ptr _ _)),(4,(.ptr _ _)),(5,(.ptr _ _)),(8,(.ptr _ _)),(34,(.fn _ _ _))],G [((2,u1),some<|.box 33 _),((3,u1),some<|.box 22 _),((4,u1),some<|.box 25 _),((5,u1),some<|.box 36 _),((8,u8),some<|.box 133 _),((30,u8),some<|.box 135 _),((1,g1),some<|.box 133 _)]⟩) (E6 W W) ?_
 refine TI (.fn (.func 174) [] [(.ptr (1,g1) 0)]) (Wq (1,g1) (30,u8) v5.before) LB v6 (Ks p1 p2 v5) (fun (x1:Unit)=>(.inl ():Sum Unit (State×Int))) (fun (x1:Unit) (g3:Unit)=> [((2,u1),some<|.box 33 (K8 p1)),((3,u1),some<|.box 22 [(dl C8 p2)]),((4,u1),some<|.box 25 [(di 0),(.d .nilS),(.d .nilS)]),((5,u1),some<|.box 36 [(di 0)]),((8,u8),some<|.box 133 [(.ptr (30,u8) 0)]),((1,g1),some<|.box 133 [(.ptr (30,u8) 0)]),((30,u8),some<|.box 135 (V4 v5))]) () () _ W (LC hv6 _ _) (fun x1 g3 _ _=>⟨F2 W<|gq W,_,_,_,_,_,_,_,_,_,_,F2 W<|gq W⟩) (fun _=>W) hz1 (E6 W W) nofun ?_ ?_
 intro u15 hu15 hku15
 refine ⟨fun x1 g3=>(F2 W<|F2 W<|F2 W<|F2 W<|F2 W<|F2 W<|F2 W W),?_⟩
 intro r1 x1 g3 a1 z2 hrr1 hz2 ez2
 unfold Ks at hz2
 show Cv _ _ _ _ _ _ ⟨T [(36,(di a1.2)),(35,(di a1.1)),(2,(.ptr (2,u1) 0)),(3,(.ptr (3,u1) 0)),(4,(.ptr (4,u1) 0)),(5,(.ptr (5,u1) 0)),(8,(.ptr (8,u8) 0)),(34,(.fn (.func 174) [] [(.ptr (1,g1) 0)]))],G [((1000000,u15),some (.obj (T [(2,(.ptr (2,u1) 0)),(3,(.ptr (3,u1) 0)),(4,(.ptr (4,u1) 0)),(5,(.ptr (5,u1) 0)),(8,(.ptr (8,u8) 0)),(34,(.fn (.func 174) [] [(.ptr (1,g1) 0)]))]) r1)),((2,u1),some (.box 33 (K8 p1))),((3,u1),some (.box 22 [(dl C8 p2)])),((4,u1),some (.box 25 [(di 0),(.d .nilS),(.d .nilS)])),((5,u1),some (.box 36 [(di 0)])),((8,u8),some (.box 133 [(.ptr (30,u8) 0)])),((1,g1),some (.box 133 [(.ptr (30,u8) 0)])),((30,u8),some (.box 135 (V4 v5)))]⟩
 refine B1<|sv W<|A1<|C0<|sv W<|A1<|T3<|QL G_hit ?_
 refine A8<|A4<|A4<|E0 W<|sd W (A7 W (gq W) W W)<|sl W (gq W) W (sv W<|bs hz2 fun _ hv7 hz2=>sd W (C4 W W hv7 W)<|sd W (D1 W hv7 W W)<|sl W (gq W) W (sv W<|bs hz2 fun _ hv8 hz2=>sd W (C4 W W hv8 W)<|sd W (D1 W hv8 W W)<|bs hz2 fun _ hv9 hz2=>B0 W W A3 (FA _ _ _ _ hv9) (.inl W) (A1<|cc W hz2 (fun c3 hz2=> ?_)<|fun c3 hz2=> ?_)))
 refine B1<|sv W<|R4 W (gq W) [(di 0),(.d .nilS),(.d .nilS)] W (R4 W (gq W) [(di 12)] W (A1<|B2 ?_))
 cases hz2
 obtain rfl:=ez2 _ rfl
 refine XZ (gq W) nofun (F1 ?_)
 rw [wA]at h
 cases h
 exact A6 (.inr W) (Lh (H6 W (gq W) (nl W) W) (Zb W (gq W) W) C1 C1) (.tup (.cons (.agg (ca W<|.cons ⟨DLe.nil,W⟩ (.cons ⟨DLe.nil,W⟩ .nil))) A3))
 refine A9<|B1<|sq W<|sl W (gq W) W (sd W (D6 W)<|sv W<|A1<|js hz2 fun z3 hz3 hz2=>D4 (fun s=> ∃(y3:Unit) (g4:Unit),z3= .inl y3∧Sb ⟨T [],G [((2,u1),some<|.box 33 (K8 p1)),((3,u1),some<|.box 22 [(dl C8 p2)]),((4,u1),some<|.box 25 [(di 0),(.d .nilS),(.d .nilS)]),((5,u1),some<|.box 36 [(di 0)]),((8,u8),some<|.box 133 [(.ptr (30,u8) 0)]),((1,g1),some<|.box 133 [(.ptr (30,u8) 0)]),((1000000,u15),some<|.obj (T [(2,(.ptr (2,u1) 0)),(3,(.ptr (3,u1) 0)),(4,(.ptr (4,u1) 0)),(5,(.ptr (5,u1) 0)),(8,(.ptr (8,u8) 0)),(34,(.fn (.func 174) [] [(.ptr (1,g1) 0)]))]) {r1 with state:= .busy}),((30,u8),some<|.box 135 (V4 v5))]⟩ s) ?_ ?_)
 refine A8<|E2 (Kr p1 v5 a1) (fun (x2:Int) (g5:Unit)=>⟨T [(4,(.ptr (4,u1) 0)),(5,(.ptr (5,u1) 0)),(8,(.ptr (8,u8) 0)),(9,(di a1.1)),(10,(di a1.2)),(50,(di (p1.Zones.length:Int))),(51,(di x2))],G [((4,u1),some<|.box 25 [(di 0),(.d .nilS),(.d .nilS)]),((5,u1),some<|.box 36 [(di 0)]),((8,u8),some<|.box 133 [(.ptr (30,u8) 0)]),((2,u1),some<|.box 33 (K8 p1)),((3,u1),some<|.box 22 [(dl C8 p2)]),((1,g1),some<|.box 133 [(.ptr (30,u8) 0)]),((1000000,u15),some<|.obj (T [(2,(.ptr (2,u1) 0)),(3,(.ptr (3,u1) 0)),(4,(.ptr (4,u1) 0)),(5,(.ptr (5,u1) 0)),(8,(.ptr (8,u8) 0)),(34,(.fn (.func 174) [] [(.ptr (1,g1) 0)]))]) {r1 with state:= .busy}),((30,u8),some<|.box 135 (V4 v5))]⟩) 0 () _ hz3 (E6 W W) ?_
 intro x2 g5 z4 hz4 ez4
 unfold Kr at hz4
 refine B1<|sv W<|A1<|A4<|cc W hz4 (fun c4 hz4=> ?_)<|fun c4 hz4=> ?_
 refine A9<|A4<|A8<|B1<|sv W<|sv W<|A1<|B1<|sp W (O4 W (gq W) W)<|sv W<|sv W<|sv W<|bs hz4 fun _ hv10 hz4=>B0 W (E4 (Ax (gq W)<|rD<|rD<|rD<|rD<|rD<|rD<|rD<|rD<|rD<|rD<|rD<|rD<|rD F6)<|rD<|rD<|rD F6) A3 (Oe _ _ _ _ _ hv10) (.inr W) (A1<|cc W hz4 (fun c5 hz4=> ?_)<|fun c5 hz4=> ?_)
 refine B1<|sv W<|R4 W G_hit [(di 0),(.d .nilS),(.d .nilS)] W (R4 W (gq W) [(di 12)] W (A1<|B2 ?_))
 cases hz4
 obtain rfl:=ez4 _ rfl
 refine ⟨nofun,F1 ?_⟩
 rw [wA]at hz2
 cases hz2
 obtain rfl:=ez2 _ rfl
 refine XZ (gq W) nofun (F1 ?_)
 rw [wA]at h
 cases h
 exact A6 (.inr W) (Lh (H6 W (gq W) (nl W) W) (Zb W (gq W) W) C1 C1) (.tup (.cons (.agg (ca W<|.cons ⟨DLe.nil,W⟩ (.cons ⟨DLe.nil,W⟩ .nil))) A3))
 refine A9<|D9<|C0<|sv W<|sv W<|A1<|E1 ?_
 cases hz4
 exact ⟨W,(),(E6 W W)⟩
 refine C6 W ?_
 cases hz4
 obtain rfl:=ez4 _ rfl
 refine ⟨nofun,C5 W<|T3 ?_⟩
 exact ⟨_,(),W,(E6 W W)⟩
 rintro _ ⟨y3,g4,rfl,q1⟩
 rw [bZ]at hz2
 refine D9<|E1 ?_
 cases hz2
 exact jT q1 (gq W) () (B5 G_hit (.of W)<|sg W<|sg W<|sg W<|sg W<|sg W<|sg W trivial)
 rintro x1 g3 _ rfl qx1
 refine D9<|T3 ?_
 exact ⟨_,(),W,(Sb.after qx1<|E6 W W)⟩
 rintro _ ⟨y2,g2,rfl,q2⟩
 rw [bZ]at h
 refine B4 q2<|B1<|sp W (O4 W (gq W) W)<|sq W<|sp W W<|sd W (A7 W (gq W) W W)<|R4 W G_hit (K4 v5.after) W (R4 W (gq W) [(di 0)] W (A1<|B2 ?_))
 cases h
 exact A6 (.inr W) (Lh (H6 W (gq W) (nl W) W) (Zb W G_hit W) C1 C1) (.refl _)
def Rb (p1:Int):Option Int:=
  (cond (decide (p1≥4294967296)) (some ((p1.fdiv (2^ (min (32:Int).toNat (IntKind.bits .u64)))),32)) (some (p1,0))).bind fun y1=>(cond (decide (y1.1≥65536)) (some ((y1.1.fdiv (2^ (min (16:Int).toNat (IntKind.bits .u64)))),(D8 (y1.2+16)))) (some (y1.1,y1.2))).bind fun y2=>cond (decide (y2.1≥256)) ((kI (ByteArray.mk #[0,1,2,2,3,3,3,3,4,4,4,4,4,4,4,4,5,5,5,5,5,5,5,5,5,5,5,5,5,5,5,5,6,6,6,6,6,6,6,6,6,6,6,6,6,6,6,6,6,6,6,6,6,6,6,6,6,6,6,6,6,6,6,6,7,7,7,7,7,7,7,7,7,7,7,7,7,7,7,7,7,7,7,7,7,7,7,7,7,7,7,7,7,7,7,7,7,7,7,7,7,7,7,7,7,7,7,7,7,7,7,7,7,7,7,7,7,7,7,7,7,7,7,7,7,7,7,7,8,8,8,8,8,8,8,8,8,8,8,8,8,8,8,8,8,8,8,8,8,8,8,8,8,8,8,8,8,8,8,8,8,8,8,8,8,8,8,8,8,8,8,8,8,8,8,8,8,8,8,8,8,8,8,8,8,8,8,8,8,8,8,8,8,8,8,8,8,8,8,8,8,8,8,8,8,8,8,8,8,8,8,8,8,8,8,8,8,8,8,8,8,8,8,8,8,8,8,8,8,8,8,8,8,8,8,8,8,8,8,8,8,8,8,8,8,8,8,8,8,8,8,8,8,8,8,8]) (IntKind.wrap .u8 (y2.1.fdiv (2^ (min (8:Int).toNat (IntKind.bits .u64)))))).bind fun v1=>some (D8 ((D8 (y2.2+8))+ (D8 v1)))) ((kI (ByteArray.mk #[0,1,2,2,3,3,3,3,4,4,4,4,4,4,4,4,5,5,5,5,5,5,5,5,5,5,5,5,5,5,5,5,6,6,6,6,6,6,6,6,6,6,6,6,6,6,6,6,6,6,6,6,6,6,6,6,6,6,6,6,6,6,6,6,7,7,7,7,7,7,7,7,7,7,7,7,7,7,7,7,7,7,7,7,7,7,7,7,7,7,7,7,7,7,7,7,7,7,7,7,7,7,7,7,7,7,7,7,7,7,7,7,7,7,7,7,7,7,7,7,7,7,7,7,7,7,7,7,8,8,8,8,8,8,8,8,8,8,8,8,8,8,8,8,8,8,8,8,8,8,8,8,8,8,8,8,8,8,8,8,8,8,8,8,8,8,8,8,8,8,8,8,8,8,8,8,8,8,8,8,8,8,8,8,8,8,8,8,8,8,8,8,8,8,8,8,8,8,8,8,8,8,8,8,8,8,8,8,8,8,8,8,8,8,8,8,8,8,8,8,8,8,8,8,8,8,8,8,8,8,8,8,8,8,8,8,8,8,8,8,8,8,8,8,8,8,8,8,8,8,8,8,8,8,8,8]) (IntKind.wrap .u8 y2.1)).bind fun v2=>some (D8 (y2.2+ (D8 v2))))
theorem DD(p1 r)(h:Rb p1=some r):PCall prog 281 [(.v (.int .u64 p1))] (i64 r):=by
 refine C2 (fk func281 ntmps281 m0 (by with_unfolding_all rfl)) (nl W) ?_
 unfold Rb at h
 refine B4 (s0:=⟨T [(0,(.d _))],G []⟩) (E6 W W) ?_
 refine B1<|sv W<|A1<|A4<|B1<|sv W<|sv W<|A1<|bs h fun y1 hy1 h=>D4 (fun s=> ∃g1:Unit,Sb ⟨T [(0,(.d (.v (.int .u64 y1.1)))),(2,(di y1.2))],G []⟩ s) ?_ ?_
 refine cc W hy1 (fun c1 hy1=> ?_)<|fun c1 hy1=> ?_
 refine B1<|sv W<|sv W<|sv W<|A1<|C0<|sv W<|A1 ?_
 cases hy1
 exact T3 ⟨(),(E6 W W)⟩
 refine A9 ?_
 cases hy1
 exact T3 ⟨(),(E6 W W)⟩
 rintro _ ⟨g1,q1⟩
 refine B4 q1<|A4<|B1<|sv W<|sv W<|A1<|bs h fun y2 hy2 h=>D4 (fun s=> ∃g2:Unit,Sb ⟨T [(0,(.d (.v (.int .u64 y2.1)))),(2,(di y2.2))],G []⟩ s) ?_ ?_
 refine cc W hy2 (fun c2 hy2=> ?_)<|fun c2 hy2=> ?_
 refine B1<|sv W<|sv W<|sv W<|A1<|C0<|sv W<|sv W<|sv W<|A1 ?_
 cases hy2
 exact T3 ⟨(),(E6 W W)⟩
 refine A9 ?_
 cases hy2
 exact T3 ⟨(),(E6 W W)⟩
 rintro _ ⟨g2,q2⟩
 refine B4 q2<|A4<|B1<|sv W<|sv W<|A1<|cc W h (fun c3 h=> ?_)<|fun c3 h=> ?_
 refine B1<|sv W<|sv W<|sv W<|A1<|C0<|sv W<|sv W<|sv W<|A1<|B1<|sv W<|sv W<|sv W<|bs h fun _ hv1 h=>sd W (fR W W hv1)<|sv W<|sv W<|sv W<|A1<|B2 ?_
 cases h
 exact A6 (.inr W) (B6 (B3 W) C1) (.refl _)
 refine A9<|B1<|sv W<|sv W<|sv W<|bs h fun _ hv2 h=>sd W (fR W W hv2)<|sv W<|sv W<|sv W<|A1<|B2 ?_
 cases h
 exact A6 (.inr W) (B6 (B3 W) C1) (.refl _)
def Qa (p1:Int):Option Int:=
  (Rb p1).bind fun v1=>some v1
theorem Vs(p1 r)(h:Qa p1=some r):PCall prog 267 [(.v (.int .u64 p1))] (i64 r):=by
 refine C2 (fk func267 ntmps267 m0 (by with_unfolding_all rfl)) (nl W) ?_
 unfold Qa at h
 refine B4 (s0:=⟨T [(0,(.d _))],G []⟩) (E6 W W) ?_
 refine B1<|sv W<|A1<|A4<|Rt W<|A9<|B1<|sv W<|bs h fun _ hv1 h=>B0 W W A3 (DD _ _ hv1) (.inl W) (sv W<|A1<|B2 ?_)
 cases h
 exact A6 (.inr W) (B6 (B3 W) C1) (.refl _)
def Tc (p1:Int)(p2:Int):Option Bool:=
  (Aq p1).bind fun v1=>((cond v1 (Aq p2) (some default))).bind fun v2=>some ((v1&& (!v2))||(decide (p1<p2)))
theorem FC(p1 p2 r)(h:Tc p1 p2=some r):PCall prog 277 [(i64 p1),(i64 p2)] (bo r):=by
 refine C2 (fk func277 ntmps277 m0 (by with_unfolding_all rfl)) (nl W) ?_
 unfold Tc at h
 refine B4 (s0:=⟨T [(0,(.d _)),(1,(.d _))],G []⟩) (E6 W W) ?_
 refine B1<|sv W<|A1<|B1<|sv W<|bs h fun v1 hv1 h=>B0 W W A3 (Hv _ _ hv1) (.inl W) (sv W<|gt W (fun _=>W)<|bs h fun v2 hv2 h=> ?_)
 refine M2 v1 (bo v2) (K2 W) (fun w2=>⟨_,[(di p2)],_,_,(by simp only [A2 w2];rfl),W,A3,Hv _ _<|B9 w2 hv2,(.inl W)⟩) ?_
 refine M3 _ (.d (bo (!v2))) W (K2 W) (fun w3=>(by simp only [A2 w3];rfl)) ?_
 refine sa W W W<|sv W<|gf W (fun _=>W)<|gf W (fun _=>W)<|gf W (fun w6=>(L6 (A2 w6) (A2 w6) W))<|sd W (N9 W W<|fun hc=>A2<|J2 hc)<|sv W<|A1<|B2 ?_
 cases h
 exact A6 (.inr W) (B6 (B3 W) C1) (.refl _)
def V5 (p2:Int)(x2:(Int× (List Int))):Option (Stp (Int× (List Int)) (List Int)):=
  ((cond (decide (x2.1>p2)) (C3 x2.2 x2.1) (some default))).bind fun v1=>((cond (decide (x2.1>p2)) (C3 x2.2 (D8 (x2.1 - 1))) (some default))).bind fun v2=>((cond (decide (x2.1>p2)) (Tc v1 v2) (some default))).bind fun v3=>cond ((decide (x2.1>p2))&&v3) ((C3 x2.2 (D8 (x2.1 - 1))).bind fun v4=>(C3 x2.2 x2.1).bind fun v5=>(C3 x2.2 x2.1).bind fun v6=>(C3 (Nk x2.2 x2.1 v4) (D8 (x2.1 - 1))).bind fun v7=>some (.go ((D8 (x2.1 - 1)),(Nk (Nk x2.2 x2.1 v4) (D8 (x2.1 - 1)) v5)))) (some (.out x2.2))
def M0 [Lp](p2:Int)(p3:Int)(x1:(Int× (List Int))):Option (Stp (Int× (List Int)) (List Int)):=
  cond (decide (x1.1<p3)) ((loop (V5 p2) (x1.1,x1.2)).bind fun y1=>some (.go ((D8 (x1.1+1)),y1))) (some (.out (x1.2)))
def N3 [Lp](p1:(List Int))(p2:Int)(p3:Int):Option (List Int):=
  loop (M0 p2 p3) ((D8 (p2+1)),p1)
theorem Jx(p1 p2 p3 r)(h:N3 p1 p2 p3=some r):MCall prog 271 [(.sl (900000,0)),(di p2),(di p3)] [(.arr 2 1 (List.map A5 p1))] (.d (.tup [])) [some (.arr 2 1 (List.map A5 r))] []:=by
 refine Wh (fk func271 ntmps271 m0 (by with_unfolding_all rfl)) W (nl W) ?_
 unfold N3 at h
 refine B4 (s0:=⟨T [(0,(.sl _)),(1,(.d _)),(2,(.d _))],G [((900000,0),some _)]⟩) (E6 W W) ?_
 refine B1<|sv W<|sv W<|sv W<|A1<|A8<|E2 (M0 p2 p3) (fun (x1:(Int× (List Int))) (g1:Unit)=>⟨T [(0,(.sl (900000,0))),(1,(di p2)),(2,(di p3)),(6,(di x1.1))],G [((900000,0),some<|.arr 2 1 (List.map A5 x1.2))]⟩) ((D8 (p2+1)),p1) () _ h (E6 W W) ?_
 intro x1 g1 z1 hz1 ez1
 unfold M0 at hz1
 refine A4<|B1<|sv W<|sv W<|sv W<|A1<|cc W hz1 (fun c1 hz1=> ?_)<|fun c1 hz1=> ?_
 refine A9<|A4<|A8<|B1<|sv W<|sv W<|A1<|bs hz1 fun y1 hy1 hz1=>D4 (fun s=> ∃g2:Unit,Sb ⟨T [(0,(.sl (900000,0))),(1,(di p2)),(2,(di p3)),(6,(di x1.1))],G [((900000,0),some<|.arr 2 1 (List.map A5 y1))]⟩ s) ?_ ?_
 refine A8<|E2 (V5 p2) (fun (x2:(Int× (List Int))) (g3:Unit)=>⟨T [(0,(.sl (900000,0))),(1,(di p2)),(2,(di p3)),(6,(di x1.1)),(7,(di x2.1))],G [((900000,0),some<|.arr 2 1 (List.map A5 x2.2))]⟩) (x1.1,x1.2) () _ hy1 (E6 W W) ?_
 intro x2 g3 z2 hz2 ez2
 unfold V5 at hz2
 refine A4<|A4<|E0 W<|sv W<|sv W<|sv W<|sv W<|M3 _ (.sl _) W (K2 W) (fun _=>W) (gt W (fun _=>W)<|bs hz2 fun v1 hv1 hz2=>M3 _ (.aptr _ _ _ _) W (K2 W) (fun w3=>(Js (A2 w3) (A2 w3) G_hit (B9 w3 hv1))) (gt W (fun w4=>(Ns (A2 w4) G_hit (B9 w4 hv1) W))<|M3 _ (.sl _) W (K2 W) (fun _=>W) (gt W (fun _=>W)<|gt W (vb W W W)<|bs hz2 fun v2 hv2 hz2=>M3 _ (.aptr _ _ _ _) W (K2 W) (fun w8=>(Js (A2 w8) (A2 w8) G_hit (B9 w8 hv2))) (gt W (fun w9=>(Ns (A2 w9) G_hit (B9 w9 hv2) W))<|bs hz2 fun v3 hv3 hz2=> ?_))))
 refine M2 _ (bo v3) (K2 W) (fun w10=>⟨_,[(di v1),(di v2)],_,_,(by simp only [A2 w10];rfl),W,A3,FC _ _ _<|B9 w10 hv3,(.inl W)⟩) ?_
 refine sa W W W<|A1<|cc W hz2 (fun c2 hz2=> ?_)<|fun c2 hz2=> ?_
 refine A9<|A4<|A8<|E0 W<|ss W<|sv W<|ss W<|sv W<|sv W<|ss W<|sv W<|sv W<|bs hz2 fun v4 hv4 hz2=>B8 (.aptr _ _ _ _) W (Js W W G_hit hv4) (sd W (Ns W G_hit hv4 W)<|ss W<|sv W<|bs hz2 fun v5 hv5 hz2=>B8 (.aptr _ _ _ _) W (Js W W G_hit hv5) (sd W (Ns W G_hit hv5 W)<|bs hz2 fun _ hv6 hz2=>B8 (.aptr _ _ _ _) W (Js W W G_hit hv6) (Np A5 _ _ _ (x2.1) _ v4 [(i64 v4)] W W W G_hit hv6 (nl W) W (bs hz2 fun _ hv7 hz2=>B8 (.aptr _ _ _ _) W (Js W W G_hit hv7) (Np A5 _ _ _ ((D8 (x2.1 - 1))) _ v5 [(i64 v5)] W W W G_hit hv7 (nl W) W (A1<|D9<|C0<|sv W<|sv W<|sv W<|A1<|E1 ?_))))))
 cases hz2
 exact ⟨W,(),(E6 W W)⟩
 refine C6 W ?_
 cases hz2
 obtain rfl:=ez2 _ rfl
 refine ⟨nofun,C5 W<|T3 ?_⟩
 exact ⟨(),(E6 W W)⟩
 rintro _ ⟨g2,q1⟩
 refine D9<|B4 q1<|C0<|sv W<|sv W<|sv W<|A1<|E1 ?_
 cases hz1
 exact ⟨W,(),(E6 W W)⟩
 refine C6 W ?_
 cases hz1
 obtain rfl:=ez1 _ rfl
 refine ⟨nofun,C5 W<|E1 ?_⟩
 exact CX (.inl W) [] CY (.refl _) ⟨⟨G_hit,Fp⟩,trivial⟩
def O0 [Lp](p1:(List Int))(x1:(Int×Int×Int×Bool×Bool)):Option (Stp (Int×Int×Int×Bool×Bool) (List Int)):=
  cond (decide ((D8 (x1.2.1 - x1.1))≤12)) ((N3 p1 x1.1 x1.2.1).bind fun v1=>some (.out (v1))) (cond (x1.2.2.1==0) (none) ((cond (!x1.2.2.2.1) (none) (some ())).bind fun _=>none))
def P7 [Lp](p1:(List Int))(p2:Int)(p3:Int)(p4:Int):Option (List Int):=
  loop (O0 p1) (p2,p3,p4,true,true)
theorem Of(p1 p2 p3 p4 r)(h:P7 p1 p2 p3 p4=some r):MCall prog 266 [(.sl (900000,0)),(di p2),(di p3),(di p4)] [(.arr 2 1 (List.map A5 p1))] (.d (.tup [])) [some (.arr 2 1 (List.map A5 r))] []:=by
 refine Wh (fk func266 ntmps266 (fun r=>if r==4 then [1004003]else []) (by with_unfolding_all rfl)) W (nl W) ?_
 unfold P7 at h
 refine B4 (s0:=⟨T [(0,(.sl _)),(1,(.d _)),(2,(.d _)),(3,(.d _))],G [((900000,0),some _)]⟩) (E6 W W) ?_
 refine B1<|sv W<|A1<|B1<|sv W<|A1<|A8<|E2 (O0 p1) (fun (x1:(Int×Int×Int×Bool×Bool)) (g1:Unit)=>⟨T [(0,(.sl (900000,0))),(1,(di x1.1)),(2,(di x1.2.1)),(3,(di x1.2.2.1)),(8,(.d (bo x1.2.2.2.1))),(9,(.d (bo x1.2.2.2.2)))],G [((900000,0),some<|.arr 2 1 (List.map A5 p1))]⟩) (p2,p3,p4,true,true) () _ h (E6 W W) ?_
 intro x1 g1 z1 hz1 ez1
 unfold O0 at hz1
 refine A8<|B1<|sv W<|sv W<|sv W<|sv W<|A1<|A4<|B1<|sv W<|sv W<|A1<|cc W hz1 (fun c1 hz1=> ?_)<|fun c1 hz1=> ?_
 refine B1<|ss W<|sv W<|sv W<|bs hz1 fun v1 hv1 hz1=>GB (v:= .d (.tup [])) (us:= [(900000,0)]) (NC (Jx _ _ _ _ hv1) [(900000,0)] [(900000,0)] _ (((900000,0),some<|.arr 2 1 (List.map A5 v1))::_) W Nw (Y5 ER<|Y5 CW<|Y5 CW Ur) (Ko G_hit Ik) ⟨⟨_,G_hit, .of W⟩,trivial⟩ (fun _ h=>h) nd1 W W W) (A1<|B2 ?_)
 cases hz1
 obtain rfl:=ez1 _ rfl
 refine ⟨nofun,F1 ?_⟩
 exact CX (.inr W) [] CY (.refl _) ⟨⟨G_hit,Fp⟩,trivial⟩
 refine A9<|A4<|B1<|sv W<|sv W<|A1<|cc W hz1 (fun c2 hz1=> ?_)<|fun c2 hz1=> ?_
 refine B1<|ss W<|sv W<|sv W ?_
 cases hz1
 refine A9<|A4<|B1<|sv W<|B8 (.d (bo (!x1.2.2.2.1))) W W (A1<|bs hz1 fun _ hy1 hz1=>D4 (fun s=> ∃g2:Unit,Sb ⟨T [(0,(.sl (900000,0))),(1,(di x1.1)),(2,(di x1.2.1)),(3,(di x1.2.2.1)),(8,(.d (bo x1.2.2.2.1))),(9,(.d (bo x1.2.2.2.2))),(10,(di<|D8 (x1.2.1 - x1.1)))],G [((900000,0),some<|.arr 2 1 (List.map A5 p1))]⟩ s) ?_ ?_)
 refine cc W hy1 (fun c3 hy1=> ?_)<|fun c3 hy1=> ?_
 refine B1<|ss W<|sv W<|sv W ?_
 cases hy1
 refine A9 ?_
 cases hy1
 exact T3 ⟨(),(E6 W W)⟩
 rintro _ ⟨g2,q1⟩
 refine B4 q1<|B1<|ss W<|sv W<|sv W ?_
 cases hz1
def T8 [Lp](p1:(List Int)):Option (List Int):=
  (Qa (IntKind.wrap .u64 (p1.length:Int))).bind fun v1=>(P7 p1 0 (p1.length:Int) v1).bind fun v2=>some v2
theorem Rc(p1 r)(h:T8 p1=some r):MCall prog 252 [(.sl (900000,0))] [(.arr 2 1 (List.map A5 p1))] (.d (.tup [])) [some (.arr 2 1 (List.map A5 r))] []:=by
 refine Wh (fk func252 ntmps252 (fun r=>if r==1 then [1001005]else []) (by with_unfolding_all rfl)) W (nl W) ?_
 unfold T8 at h
 refine B4 (s0:=⟨T [(0,(.sl _))],G [((900000,0),some _)]⟩) (E6 W W) ?_
 refine B1<|ss W<|sd W (WE (f:=A5) W G_hit)<|sv W<|A1<|C0<|ss W<|sv W<|sv W<|sv W<|bs h fun _ hv1 h=>B0 W W A3 (Vs _ _ hv1) (.inl W) (bs h fun v2 hv2 h=>GB (v:= .d (.tup [])) (us:= [(900000,0)]) (NC (Of _ _ _ _ _ hv2) [(900000,0)] [(900000,0)] _ (((900000,0),some<|.arr 2 1 (List.map A5 v2))::_) W Nw (Y5 ER<|Y5 CW<|Y5 CW<|Y5 CW Ur) (Ko G_hit Ik) ⟨⟨_,G_hit, .of W⟩,trivial⟩ (fun _ h=>h) nd1 W W W) (A1<|E1 ?_))
 obtain rfl:=(lD h)
 exact CX (.inl W) [] CY (.refl _) ⟨⟨G_hit,Fp⟩,trivial⟩
section
open Go.RowKit Go.Lib
def qX:Go.Shelf.Ren:=⟨fun n=>if n=43 then 253 else 0,fun t=>if t=22 then 48 else if t=23 then 2 else t,fun x=>x⟩
theorem cmp_lay:SlLaysE.n43 prog qX where
  mixed:=by kernel_rfl
  f43:=⟨Tryz.f253.name,by decide,by kernel_rfl⟩
  t0:=Tryz.underlying0
  a0:=Tryz.isAgg0
  z0:=Tryz.sizeOf0
  v0:=Tryz.zeroValue0
  t3:=Tryz.underlying3
  a3:=Tryz.isAgg3
  z3:=Tryz.sizeOf3
  v3:=Tryz.zeroValue3
  t4:=Tryz.underlying4
  a4:=Tryz.isAgg4
  z4:=Tryz.sizeOf4
  v4:=Tryz.zeroValue4
  t22:=Tryz.underlying48
  a22:=Tryz.isAgg48
  z22:=Tryz.sizeOf48
  v22:=Tryz.zeroValue48
  a23:=Tryz.isAgg2
  z23:=Tryz.sizeOf2
theorem aD (g cap:Nat)(d:Array Int)(w:World)(hH:Go.Sort.Holds (Value.int .i64) w g 0 d)(hsz:d.size≤9223372036854775807)(hcap:d.size≤cap):
    Calls prog 253 #[.slice (some ⟨g,0,none⟩) d.size cap] w fun e w'=>e= .returned (.slice (some ⟨g,0,none⟩) (Go.Lib.compactUpTo d d.size).length cap)∧∃q,w'=Go.Sort.putRow (Value.int .i64) (Go.Sort.ahead w q) g 0 (Go.Lib.compactUpTo d d.size++List.replicate (d.size - (Go.Lib.compactUpTo d d.size).length) 0).toArray:=
  AnyE.slices_Compact cmp_lay (Value.int .i64) (fun _=>rfl) (.intD _ _ _) (.intD _ _ _) 0 Tryz.zeroValue2 g 0 cap d w hH hsz hcap
theorem kJ (d:Array Int):(Go.Lib.compactUpTo d d.size).length≤d.size:=by
  unfold Go.Lib.compactUpTo
  rw [lS]
  refine wH (List.length_filter_le _ _) ?_
  rw [List.length_range];exact wD _
theorem OT (xs:List Int): ∀m,m≤xs.length→Go.Lib.compactUpTo xs.toArray m=Qy (xs.take m)
  |0,_=>rfl
  |m+1,h=>by
   rw [Go.Lib.compactUpTo_succ,OT xs m (by omega),List.take_add_one,lH (by omega),Option.toList_some,HN]
   congr 1
   have hm:m<xs.length:=by omega
   have e1:xs.toArray[m]! =xs[m]:=by rw [getElem!_pos xs.toArray m (by simpa using hm)];simp
   rw [Go.Lib.keeps,e1]
   cases m with
   |zero=>simp
   |succ k=>
    have e2:xs.toArray[k]! =xs[k]:=by rw [getElem!_pos xs.toArray k (by rw [List.size_toArray];omega)];simp
    have e3:(xs.take (k+1)).getLast? =some xs[k]:=by rw [List.take_add_one,lH (by omega),Option.toList_some,List.getLast?_append];simp
    rw [Nat.add_sub_cancel,e2,e3]
    by_cases e:xs[k+1]=xs[k]
    ·simp [e]
    ·rw [bM (by simp [e]),bN (fun q=>e (lD q).symm)]
theorem pW (xs r:List Int)(hr:KV xs=some r):MCall prog 253 [.sl (900000,0)] [.arr 2 1 (List.map A5 xs)] (.sl (800000,0)) [none] [some (.arr 2 1 (List.map A5 r))]:=by
  obtain ⟨hx,rfl⟩:=QR hr
  clear hr
  refine ⟨W,fun vs w=> ?_,fun w I ρ vs H hlen hrep=> ?_⟩
  ·have hn': ¬Tryz.f253.name= "runtime.NumGoroutine" :=by decide
   have hb: ∃c,Tryz.f253.body=some c:=⟨_,rfl⟩
   obtain ⟨c,hb⟩:=hb
   simp [callFunc,func253,hb,hn']
  have hnx:0<xs.length:=List.length_pos_iff.2 hx
  obtain ⟨a,rfl⟩: ∃a,vs= [a]:=by
    match vs,hlen with
    | [a],_=>exact ⟨a,rfl⟩
  have r0:=hrep 0 _ rfl
  simp only [List.getD_cons_zero]at r0
  have hb0:G (Yb 0 [Blk.arr 2 1 (List.map A5 xs)]) (Ae 0)=some (.arr 2 1 (List.map A5 xs)):=rfl
  obtain ⟨x0,cx,p1,p2,p3,p4⟩:=H.blk _ _ hb0
  have e0:a=x0:=by
    cases r0 with
    |sl _ _ h=>exact lD (h.symm.trans p1)
  subst e0
  obtain ⟨hxl,hx'|⟨g,c,cur,rfl,_,hg,hnc,hcm,hcs,hxc⟩⟩:=p2
  ·rw [lS]at hx';omega
  rw [lS]at hxl hnc hxc
  have hval: ∀i (hi:i<xs.length),cur[i]? =some (.int .i64 xs[i]):=by
    intro i hi
    obtain ⟨_,g2⟩:=p4 i 0 (.v (.int .i64 xs[i])) (by simp [Sm,hi,A5])
    have:cx.getD (i*1+0) undef= .int .i64 xs[i]:=by generalize cx.getD (i*1+0) undef=y at g2;cases g2;rfl
    rw [← hxc,List.getD,bA,bM (by omega),Nat.mul_one,Nat.add_zero,Array.getElem?_toList]at this
    rw [Array.getElem?_eq_getElem (by omega)]at this ⊢
    rw [Option.getD_some]at this
    rw [this]
  have hH:Go.Sort.Holds (Value.int .i64) w g 0 xs.toArray:=by
    intro j hj
    rw [List.size_toArray]at hj
    have h2:=hval j hj
    refine ⟨?_,by simp [World.frozen?,hg]⟩
    simp [World.cell?,hg,h2,hj]
  have locx:O3 ρ (Ae 0) (.arr 2 1 (List.map A5 xs))=some g:=by simp [O3,p1,Value.ownBlock]
  have hca:=aD g c xs.toArray w hH (by rw [List.size_toArray];unfold maxLen at hcm;omega) (by rw [List.size_toArray];exact hnc)
  have hcl:=kJ xs.toArray
  rw [List.size_toArray]at hca hcl
  rw [lS]
  refine hca.mono ?_
  rintro e w' ⟨rfl,q,hw'⟩
  have hheap: ∀k,w'.heap[k]? =if k=g then some (.cells (Go.Sort.putCells (Value.int .i64) 0 (Go.Lib.compactUpTo xs.toArray xs.length++List.replicate (xs.length - (Go.Lib.compactUpTo xs.toArray xs.length).length) 0).toArray cur) 2 (0,0))else w.heap[k]?:=by
    intro k
    rw [hw']
    show (w.heap.modify g _)[k]? =_
    rw [Array.getElem?_modify]
    by_cases e:g=k
    ·subst e;rw [bM rfl,bM rfl,hg];rfl
    ·rw [bN e,bN (Ne.symm e)]
  have hos:w'.os=w.os∧w'.tape=w.tape∧w'.output=w.output∧w'.heap.size=w.heap.size:=by rw [hw'];exact ⟨rfl,rfl,rfl,by simp⟩
  clear hw' hca hH
  generalize hC:Go.Lib.compactUpTo xs.toArray xs.length=C at hcl hheap ⊢
  have hCc:Qy xs=C:=by rw [← hC,OT xs _ (wD _),List.take_length]
  rw [hCc]
  obtain ⟨Z,hZ⟩: ∃Z:Array Int,Z=(C++List.replicate (xs.length - C.length) 0).toArray:=⟨_,rfl⟩
  rw [← hZ]at hheap
  have hZs:Z.size=xs.length:=by rw [hZ];simp;omega
  have hZg: ∀i (hi:i<C.length),Z[i]! =C[i]:=by
    intro i hi
    have hlt:i<Z.size:=by omega
    rw [getElem!_pos Z i hlt]
    subst hZ
    rw [List.getElem_toArray,List.getElem_append_left hi]
  clear hZ hC hCc
  obtain ⟨u0,hu0⟩:=H.fresh
  have hk0:ρ (7,u0)=none:=hu0 7 u0 (wD _)
  have hgI: ¬I g:=H.notI _ _ g hb0 locx
  have hgo:own ρ (G (Yb 0 [Blk.arr 2 1 (List.map A5 xs)])) g:=⟨_,_,hb0,locx⟩
  have hother: ∀k,k≠g→w'.heap[k]? =w.heap[k]?:=fun k hk=>by rw [hheap,bN hk]
  have hI': ∀b,I b→w'.heap[b]? =w.heap[b]?:=fun b hb=>hother b (fun e=>hgI (e▸hb))
  have H0:HeapOK w' I ρ (fun _=>none):=⟨fun k b hb=>(by cases hb),fun k k' b b' g h1=>(by cases h1),fun k b g h1=>(by cases h1),fun k b g h1=>(by cases h1),fun b hb=>by rw [hos.2.2.2];exact H.ilt b hb,⟨u0,hu0⟩,H.rone⟩
  have hloc: ∀k,O3 (Bb ρ (7,u0) (some (Value.slice (some ⟨g,0,none⟩) C.length c))) (7,u0) (.arr 2 1 (List.map A5 C))=some k→k=g:=by
    intro k hk
    have:some g=some k:=by simpa [O3,G8,Value.ownBlock] using hk
    exact (lD this).symm
  have hown: ∀g,¬own ρ (fun _=>none) g:=fun g ⟨k,b,h,_⟩=>by cases h
  have hsz:(Go.Sort.putCells (Value.int .i64) 0 Z cur).size=c:=by unfold Go.Sort.putCells;rw [Array.size_mapIdx,hcs,Nat.mul_one]
  have Hn:=SA H0 (7,u0) (Value.slice (some ⟨g,0,none⟩) C.length c) (.arr 2 1 (List.map A5 C)) hk0 rfl (fun k hk=>by
    rw [hloc k hk]
    exact ⟨hown g,hgI,by rw [hos.2.2.2];exact H.lt _ _ g hb0 locx⟩)
    ⟨_,C.map (Value.int .i64),G8 _ _ _,⟨by simp, .inr ⟨g,c,_,by rw [lS],wE _,by rw [hheap,bM rfl],by rw [lS];omega,hcm,by rw [hsz,Nat.mul_one],by
      rw [lS,Nat.mul_one]
      apply List.ext_getElem
      ·have h3:(Go.Sort.putCells (Value.int .i64) 0 Z cur).toList.length=c:=hsz
       rw [lW,h3,lS];omega
      ·intro i h1 h2
       rw [lS]at h2
       rw [List.getElem_take,Array.getElem_toList,List.getElem_map]
       unfold Go.Sort.putCells
       rw [Array.getElem_mapIdx,bM ⟨wE _,by omega⟩,Nat.sub_zero,hZg i h2]⟩⟩,by
      intro q hq
      obtain ⟨z,_,rfl⟩:=List.mem_map.1 hq
      rfl,by
      intro r j d' hd'
      unfold Sm at hd'
      rw [lK]at hd'
      cases hr:C[r]? with
      |none=>rw [hr]at hd';cases hd'
      |some z=>
       rw [hr]at hd'
       match j,hd' with
       |0,hd'=>
        cases hd'
        refine ⟨W,?_⟩
        rw [Nat.mul_one,Nat.add_zero,List.getD,lK,hr]
        exact .v _
       |j+1,hd'=>simp [A5]at hd'⟩
  refine ⟨_, .sl (7,u0),I,_,_,W, .sl _ _ (G8 _ _ _),Hn,⟨hos.1,hos.2.1,hos.2.2.1,by rw [hos.2.2.2];exact wD _,fun b hb hn'=>hother b<|fun e=>hn' (e▸hgo),fun _ hb=>hb,fun _ hb _=> .inl hb,?_,PU hk0⟩,fun _=>(7,u0),W,?_,?_,?_,?_⟩
  ·rintro k ⟨k',b',h1,h2⟩ hl
   by_cases ek:k'=(7,u0)
   ·subst ek
    rw [G8]at h1
    cases h1
    rw [hloc k h2];exact hgo
   ·rw [L8 _ _ _ _ ek]at h1;cases h1
  ·intro j b hb
   match j,hb with
   |0,hb=>cases hb
   |j+1,hb=>simp at hb
  ·intro j b hb
   match j,hb with
   |0,hb=>cases hb;exact G8 _ _ _
   |j+1,hb=>simp at hb
  ·intro j _ i _ e;simp only [Ae,Prod.mk.injEq]at e;omega
  ·intro j j' h1 h2 _
   simp only [lL,lN]at h1 h2
   omega
theorem fU (A:Option Addr)(w:World):Calls prog 253 #[.slice A 0 0] w fun e w'=>e= .returned (.slice A 0 0)∧∃q,w'=w.drewN q:=by
  have mixed:=cmp_lay.mixed
  have v0:=Tryz.zeroValue2
  go_enter func253,ntmps253
  go_wp2
  go_ret
  exact ⟨W,0,W⟩
theorem kK:PCall prog 253 [.nilS] .nilS:=by
  refine ⟨fun vs w=> ?_,fun w I vs hI hlen hrep=> ?_⟩
  ·have hn': ¬Tryz.f253.name= "runtime.NumGoroutine" :=by decide
   have hb: ∃c,Tryz.f253.body=some c:=⟨_,rfl⟩
   obtain ⟨c,hb⟩:=hb
   simp [callFunc,func253,hb,hn']
  obtain ⟨a,rfl⟩: ∃a,vs= [a]:=by
    match vs,hlen with
    | [a],_=>exact ⟨a,rfl⟩
  have r0:=hrep 0 _ rfl
  simp only [List.getD_cons_zero]at r0
  cases r0 with
  |nilS A=>
   refine (fU A w).mono ?_
   rintro e w' ⟨rfl,q,rfl⟩
   exact ⟨_,I,W, .nilS A,W,W,W,wD _,fun _ _=>W,fun _ hb=>hb,fun _ hb _=>hb,hI⟩
end
def V6 (p1:Int)(x2:Int):Option (Stp Int Unit):=
  ((cond (decide (x2>p1)) ((none:Option Unit)) (some default))).bind fun v1=>cond ((decide (x2>p1))&&false) (none) (some (.out ()))
def M1 [Lp](p1:Int)(p2:Int)(x1:Int):Option (Stp Int Unit):=
  cond (decide (x1<p2)) ((loop (V6 p1) x1).bind fun _=>some (.go (D8 (x1+1)))) (some (.out (())))
def N4 [Lp](p1:Int)(p2:Int):Option Unit:=
  loop (M1 p1 p2) (D8 (p1+1))
theorem Jy(p1 p2 r)(h:N4 p1 p2=some r):PCall prog 271 [.nilS,(i64 p1),(i64 p2)] (.tup []):=by
 refine C2 (fk func271 ntmps271 m0 (by with_unfolding_all rfl)) (nl W) ?_
 unfold N4 at h
 refine B4 (s0:=⟨T [(0,(.d _)),(1,(.d _)),(2,(.d _))],G []⟩) (E6 W W) ?_
 refine B1<|sv W<|sv W<|sv W<|A1<|A8<|E2 (M1 p1 p2) (fun (x1:Int) (g1:Unit)=>⟨T [(0,(.d .nilS)),(1,(di p1)),(2,(di p2)),(6,(di x1))],G []⟩) (D8 (p1+1)) () _ h (E6 W W) ?_
 intro x1 g1 z1 hz1 ez1
 unfold M1 at hz1
 refine A4<|B1<|sv W<|sv W<|sv W<|A1<|cc W hz1 (fun c1 hz1=> ?_)<|fun c1 hz1=> ?_
 refine A9<|A4<|A8<|B1<|sv W<|sv W<|A1<|bs hz1 fun _ hy1 hz1=>D4 (fun s=> ∃g2:Unit,Sb ⟨T [(0,(.d .nilS)),(1,(di p1)),(2,(di p2)),(6,(di x1))],G []⟩ s) ?_ ?_
 refine A8<|E2 (V6 p1) (fun (x2:Int) (g3:Unit)=>⟨T [(0,(.d .nilS)),(1,(di p1)),(2,(di p2)),(6,(di x1)),(7,(di x2))],G []⟩) x1 () _ hy1 (E6 W W) ?_
 intro x2 g3 z2 hz2 ez2
 unfold V6 at hz2
 refine A4<|A4<|E0 W<|sv W<|sv W<|sv W<|sv W<|gt W (fun _=>W)<|gt W (fun _=>W)<|bs hz2 fun _ hv1 hz2=>M3 _ (.d (.tup [])) W (K2 W) (fun w3=>nomatch B9 w3 hv1) (M3 _ (di 0) W (K2 W) (fun w4=>nomatch B9 w4 hv1) (M3 _ (.d (.tup [])) W (K2 W) (fun w5=>nomatch B9 w5 hv1) (M3 _ (di 0) W (K2 W) (fun w6=>nomatch B9 w6 hv1) (M3 _ (di 0) W (K2 W) (fun w7=>nomatch B9 w7 hv1) (M3 _ (.d (.tup [])) W (K2 W) (fun w8=>nomatch B9 w8 hv1) (M3 _ (di 0) W (K2 W) (fun w9=>nomatch B9 w9 hv1) (M2 _ (bo false) (K2 W) (fun w10=>nomatch B9 w10 hv1) (sa W W W<|A1<|cc W hz2 (fun c2 hz2=> ?_)<|fun c2 hz2=> ?_))))))))
 refine A9<|A4<|A8<|E0 W<|sv W<|sv W<|sv W<|sv W<|sv W<|sv W<|sv W<|sv W ?_
 cases hz2
 refine C6 W ?_
 cases hz2
 obtain rfl:=ez2 _ rfl
 refine ⟨nofun,C5 W<|T3 ?_⟩
 exact ⟨(),(E6 W W)⟩
 rintro _ ⟨g2,q1⟩
 refine D9<|B4 q1<|C0<|sv W<|sv W<|sv W<|A1<|E1 ?_
 cases hz1
 exact ⟨W,(),(E6 W W)⟩
 refine C6 W ?_
 cases hz1
 obtain rfl:=ez1 _ rfl
 refine ⟨nofun,C5 W<|E1 ?_⟩
 exact A6 (.inl W) W (.refl _)
def O1 [Lp](x1:(Int×Int×Int×Bool×Bool)):Option (Stp (Int×Int×Int×Bool×Bool) Unit):=
  cond (decide ((D8 (x1.2.1 - x1.1))≤12)) ((N4 x1.1 x1.2.1).bind fun v1=>some (.out (()))) (cond (x1.2.2.1==0) (none) ((cond (!x1.2.2.2.1) (none) (some ())).bind fun _=>none))
def P8 [Lp](p1:Int)(p2:Int)(p3:Int):Option Unit:=
  loop (O1) (p1,p2,p3,true,true)
theorem Og(p1 p2 p3 r)(h:P8 p1 p2 p3=some r):PCall prog 266 [.nilS,(i64 p1),(i64 p2),(i64 p3)] (.tup []):=by
 refine C2 (fk func266 ntmps266 m0 (by with_unfolding_all rfl)) (nl W) ?_
 unfold P8 at h
 refine B4 (s0:=⟨T [(0,(.d _)),(1,(.d _)),(2,(.d _)),(3,(.d _))],G []⟩) (E6 W W) ?_
 refine B1<|sv W<|A1<|B1<|sv W<|A1<|A8<|E2 (O1) (fun (x1:(Int×Int×Int×Bool×Bool)) (g1:Unit)=>⟨T [(0,(.d .nilS)),(1,(di x1.1)),(2,(di x1.2.1)),(3,(di x1.2.2.1)),(8,(.d (bo x1.2.2.2.1))),(9,(.d (bo x1.2.2.2.2)))],G []⟩) (p1,p2,p3,true,true) () _ h (E6 W W) ?_
 intro x1 g1 z1 hz1 ez1
 unfold O1 at hz1
 refine A8<|B1<|sv W<|sv W<|sv W<|sv W<|A1<|A4<|B1<|sv W<|sv W<|A1<|cc W hz1 (fun c1 hz1=> ?_)<|fun c1 hz1=> ?_
 refine B1<|sv W<|sv W<|sv W<|bs hz1 fun _ hv1 hz1=>B0 W W A3 (Jy _ _ _ hv1) (.inl W) (A1<|B2 ?_)
 cases hz1
 obtain rfl:=ez1 _ rfl
 refine ⟨nofun,F1 ?_⟩
 exact A6 (.inr W) W (.refl _)
 refine A9<|A4<|B1<|sv W<|sv W<|A1<|cc W hz1 (fun c2 hz1=> ?_)<|fun c2 hz1=> ?_
 refine B1<|sv W<|sv W<|sv W ?_
 cases hz1
 refine A9<|A4<|B1<|sv W<|B8 (.d (bo (!x1.2.2.2.1))) W W (A1<|bs hz1 fun _ hy1 hz1=>D4 (fun s=> ∃g2:Unit,Sb ⟨T [(0,(.d .nilS)),(1,(di x1.1)),(2,(di x1.2.1)),(3,(di x1.2.2.1)),(8,(.d (bo x1.2.2.2.1))),(9,(.d (bo x1.2.2.2.2))),(10,(di<|D8 (x1.2.1 - x1.1)))],G []⟩ s) ?_ ?_)
 refine cc W hy1 (fun c3 hy1=> ?_)<|fun c3 hy1=> ?_
 refine B1<|sv W<|sv W<|sv W ?_
 cases hy1
 refine A9 ?_
 cases hy1
 exact T3 ⟨(),(E6 W W)⟩
 rintro _ ⟨g2,q1⟩
 refine B4 q1<|B1<|sv W<|sv W<|sv W ?_
 cases hz1
def T9 [Lp]:Option Unit:=
  (Qa (IntKind.wrap .u64 0)).bind fun v1=>(P8 0 0 v1).bind fun v2=>some ()
theorem Re(r)(h:T9=some r):PCall prog 252 [.nilS] (.tup []):=by
 refine C2 (fk func252 ntmps252 m0 (by with_unfolding_all rfl)) (nl W) ?_
 unfold T9 at h
 refine B4 (s0:=⟨T [(0,(.d _))],G []⟩) (E6 W W) ?_
 refine B1<|sv W<|sv W<|sv W<|A1<|C0<|sv W<|sv W<|sv W<|sv W<|bs h fun _ hv1 h=>B0 W W A3 (Vs _ _ hv1) (.inl W) (bs h fun _ hv2 h=>B0 W W A3 (Og _ _ _ _ hv2) (.inl W) (A1<|E1 ?_))
 cases h
 exact A6 (.inl W) W (.refl _)
def Kt [Lp](p1:Map)(p2:Int)(p3:Int)(v1:Zone)(x2:((List Int)×Int)):Option (Stp ((List Int)×Int) (List Int)):=
  cond (decide (x2.2< (v1.Parts.length:Int))) ((C3 v1.Parts x2.2).bind fun v2=>((cond (v2.Lane_==p2) (C3 p1.Signals (D8 (v1.Signal_ - 1))) (some default))).bind fun v3=>((cond (v2.Lane_==p2) (Fd v3 p2 p3) (some default))).bind fun v4=>cond ((v2.Lane_==p2)&& (!v4)) ((Am x2.1 [v2.From]).bind fun v5=>some (.go (v5,(D8 (x2.2+1))))) (some (.go (x2.1,(D8 (x2.2+1)))))) (some (.out x2.1))
def Ku [Lp](p1:Map)(p2:Int)(p3:Int)(x1:((List Int)×Int)):Option (Stp ((List Int)×Int) (List Int)):=
  cond (decide (x1.2< (p1.Zones.length:Int))) ((C3 p1.Zones x1.2).bind fun v1=>cond (v1.Signal_==0) (some (.go (x1.1,(D8 (x1.2+1))))) ((loop (Kt p1 p2 p3 v1) (x1.1,0)).bind fun y2=>some (.go (y2,(D8 (x1.2+1)))))) (some (.out x1.1))
def Sf [Lp](p1:Map)(p2:Int)(p3:Int):Option (List Int):=
  (loop (Ku p1 p2 p3) ([],0)).bind fun y1=>cond (List.isEmpty y1) ((T9).bind fun v8=>some []) ((T8 y1).bind fun v6=>(KV v6).bind fun v7=>some v7)
theorem QV(p1 p2 p3 r)(h:Sf p1 p2 p3=some r):PCall prog 223 [(.agg (P1 p1)),(i64 p2),(i64 p3)] (.list (List.map A5 r)):=by
 refine C2 (fk func223 ntmps223 (fun r=>if r==10 then [1003]else if r==13 then [1013001]else if r==14 then [1014001]else []) (by with_unfolding_all rfl)) (nl W) ?_
 unfold Sf at h
 refine B4 (s0:=⟨T [(0,(.d _)),(1,(.d _)),(2,(.d _))],G []⟩) (E6 W W) ?_
 refine lr<|fun u1 _=>sm W<|sv W<|A1<|B1<|sv W<|A1<|A4<|B1<|sq W<|sl W G_hit W<|sd W (D6 W)<|sv W<|A1<|bs h fun y1 hy1 h=>D4 (fun s=> ∃g1:Nat,Sb ⟨T [(7,(oS y1 (50,g1)))],G [((50,g1),oB 2 1 A5 y1)]⟩ s) ?_ ?_
 refine A8<|E2 (Ku p1 p2 p3) (fun (x1:((List Int)×Int)) (g2:Nat)=>⟨T [(1,(di p2)),(2,(di p3)),(3,(.ptr (3,u1) 0)),(7,(oS x1.1 (50,g2))),(13,(dl El p1.Zones)),(14,(di (p1.Zones.length:Int))),(15,(di x1.2))],G [((3,u1),some<|.box 33 (K8 p1)),((50,g2),oB 2 1 A5 x1.1)]⟩) ([],0) 0 _ hy1 (D5 (X3 W)<|B5 G_hit (.of W)<|P4 trivial) ?_
 intro x1 g2 z1 hz1 ez1
 unfold Ku at hz1
 refine B1<|sv W<|A1<|A4<|cc W hz1 (fun c1 hz1=> ?_)<|fun c1 hz1=> ?_
 refine A9<|A4<|A8<|lr<|fun u5 _=>bs hz1 fun v1 hv1 hz1=>sd W (C4 W W hv1 W)<|sd W (D1 W hv1 W W)<|sm W<|R4 W G_hit [(dl Bl v1.Parts),(di v1.Signal_)] W (A1<|A4<|B1<|sq W<|sl W G_hit W<|sv W<|A1<|cc W hz1 (fun c2 hz1=> ?_)<|fun c2 hz1=> ?_)
 refine Sr W<|C0<|sv W<|sv W<|A1<|E1 ?_
 cases hz1
 exact ⟨W,g2,(D5 (X3 W)<|sg W<|B7 (gq W) trivial)⟩
 refine A9<|B1<|sq W<|sl W G_hit W<|sd W (D6 W)<|sv W<|A1<|bs hz1 fun y2 hy2 hz1=>D4 (fun s=> ∃g3:Nat,Sb ⟨T [(1,(di p2)),(2,(di p3)),(3,(.ptr (3,u1) 0)),(7,(oS y2 (50,g3))),(13,(dl El p1.Zones)),(14,(di (p1.Zones.length:Int))),(15,(di x1.2))],G [((3,u1),some<|.box 33 (K8 p1)),((50,g3),oB 2 1 A5 y2)]⟩ s) ?_ ?_
 refine A8<|E2 (Kt p1 p2 p3 v1) (fun (x2:((List Int)×Int)) (g4:Nat)=>⟨T [(1,(di p2)),(2,(di p3)),(3,(.ptr (3,u1) 0)),(7,(oS x2.1 (50,g4))),(9,(.ptr (9,u5) 0)),(13,(dl El p1.Zones)),(14,(di (p1.Zones.length:Int))),(15,(di x1.2)),(23,(dl Bl v1.Parts)),(24,(di (v1.Parts.length:Int))),(25,(di x2.2))],G [((3,u1),some<|.box 33 (K8 p1)),((9,u5),some<|.box 117 [(dl Bl v1.Parts),(di v1.Signal_)]),((50,g4),oB 2 1 A5 x2.1)]⟩) (x1.1,0) g2 _ hy2 (D5 (X3 W)<|sg W<|B5 G_hit (.of W)<|B7 (gq W) trivial) ?_
 intro x2 g4 z2 hz2 ez2
 unfold Kt at hz2
 refine B1<|sv W<|A1<|A4<|cc W hz2 (fun c3 hz2=> ?_)<|fun c3 hz2=> ?_
 refine A9<|A4<|A8<|B1<|bs hz2 fun v2 hv2 hz2=>sd W (C4 W W hv2 W)<|sd W (D1 W hv2 W W)<|sm W<|R4 W G_hit (BS v2) W (A1<|B1<|sq W<|sl W G_hit W<|sv W<|sv W<|sv W<|gp W (K2 W) (fun _=>W) (gt W (vl W (gq W) W)<|gp W (K2 W) (fun _=>W) (gt W (vl W (gq W) W)<|gt W (vb W W W)<|bs hz2 fun v3 hv3 hz2=>gt W (fun w6=>(C4 (A2 w6) (A2 w6) (B9 w6 hv3) W))<|gt W (fun w7=>(D1 (A2 w7) (B9 w7 hv3) W W))<|gt W (fun _=>W)<|gt W (fun _=>W)<|bs hz2 fun v4 hv4 hz2=> ?_)))
 refine M2 _ (bo v4) (K2 W) (fun w10=>⟨_,[(.d (.agg [(i64 v3.Offset),(.list (List.map Bd v3.Phases))])),(di p2),(di p3)],_,_,(by simp only [A2 w10];rfl),W,A3,Zr _ _ _ _<|B9 w10 hv4,(.inl W)⟩) ?_
 refine M3 _ (.d (bo (!v4))) W (K2 W) (fun w11=>(by simp only [A2 w11];rfl)) ?_
 refine sa W W W<|A1<|cc W hz2 (fun c4 hz2=> ?_)<|fun c4 hz2=> ?_
 refine Ba fun u12 _=>B8 (oS x2.1 (50,g4)) W W (sq W<|sl W G_hit W<|B8 (dl A5 [v2.From]) W W (bs hz2 fun _ hv5 hz2=>N8 A5 (50,g4) x2.1 v2.From [] _ (K1<|fun _=>W) W (gq W) hv5 (ss W<|A1<|D9<|C0<|sv W<|sv W<|A1<|E1 ?_)))
 cases hz2
 exact ⟨W,u12,(D5 ⟨.of W, .of W, .of W,(.of (S6<|T0 hv5).symm), .of W, .of W, .of W, .of W, .of W, .of W, .of W,trivial⟩<|sg W<|sg W<|M6 G_hit trivial)⟩
 refine A9<|D9<|C0<|sv W<|sv W<|A1<|E1 ?_
 cases hz2
 exact ⟨W,g4,(D5 (X3 W)<|sg W<|sg W<|B7 (gq W) trivial)⟩
 refine C6 W ?_
 cases hz2
 obtain rfl:=ez2 _ rfl
 refine ⟨nofun,C5 W<|T3 ?_⟩
 exact ⟨g4,(D5 (X3 W)<|B5 G_hit (.of W)<|B7 (gq W) trivial)⟩
 rintro _ ⟨g3,q1⟩
 refine D9<|B4 q1<|C0<|sv W<|sv W<|A1<|E1 ?_
 cases hz1
 exact ⟨W,g3,(D5 (X3 W)<|B5 G_hit (.of W)<|B7 (gq W) trivial)⟩
 refine C6 W ?_
 cases hz1
 obtain rfl:=ez1 _ rfl
 refine ⟨nofun,C5 W<|T3 ?_⟩
 exact ⟨g2,(D5 ⟨.of W,trivial⟩<|B7 (gq W) trivial)⟩
 rintro _ ⟨g1,q2⟩
 refine B4 q2<|A4 ?_
 rcases OO h with ⟨e1,h⟩|⟨e1,h⟩
 refine B4 (s0:=⟨T [(7,(.d .nilS))],G []⟩) (D5 ⟨.of (fS e1),trivial⟩ trivial) ?_
 refine C0<|sv W<|bs h fun _ hv8 h=>GB (v:= .d (.tup [])) (us:= []) (kD [] _ W W A3 (Re _ hv8) W W) (A1<|B1<|sv W<|GB (v:= .d .nilS) (us:= []) (kD [] _ W W A3 kK W W) (sv W<|A1<|B2 ?_))
 cases h
 exact A6 (.inr W) (B6 (B3 W) C1) DLe.nil
 refine B4 (s0:=⟨T [(7,(.sl (50,g1)))],G [((50,g1),some<|.arr 2 1 (List.map A5 y1))]⟩) (D5 ⟨.of (S6 e1),trivial⟩<|B5 (Eu G_hit e1) (.of W) trivial) ?_
 refine C0<|ss W<|bs h fun v6 hv6 h=>GB (v:= .d (.tup [])) (us:= [(50,g1)]) (NC (Rc _ _ hv6) [(50,g1)] [(50,g1)] _ (((50,g1),some<|.arr 2 1 (List.map A5 v6))::_) W Nw (Y5 ER Ur) (Ko G_hit Ik) ⟨⟨_,G_hit, .of W⟩,trivial⟩ (fun _ h=>h) nd1 W W W) (A1<|lr<|fun u18 _=>ss W<|bs h fun v7 hv7 h=>GB (v:= .sl (10140010,u18)) (us:= [(50,g1),(10140010,u18)]) (NC (pW _ _ hv7) [(50,g1)] [(50,g1)] _ (((10140010,u18),some<|.arr 2 1 (List.map A5 v7))::((50,g1),none)::_) W Nw (Y5 ER Ur) (Ko G_hit Ik) ⟨⟨_,G_hit, .of W⟩,trivial⟩ (fun _ h=>h) nd1 W W W) (ss W<|A1<|B2 ?_))
 cases h
 exact A6 (.inr W) (B6 (B3 W)<|OI G_hit) (.refl _)
def Sg [Lp](p1:Map)(p2:Int)(p3:Int):Option (List Int):=
  ((cond (!(decide (p3<0))) (Lv p1 p2) (some default))).bind fun v1=>cond ((decide (p3<0))||(!v1)) (some []) ((Sf p1 p2 p3).bind fun v2=>some v2)
theorem QW(p1 p2 p3 r)(h:Sg p1 p2 p3=some r):PCall prog 180 [(.agg (P1 p1)),(i64 p2),(i64 p3)] (.list (List.map A5 r)):=by
 refine C2 (fk func180 ntmps180 m0 (by with_unfolding_all rfl)) (nl W) ?_
 unfold Sg at h
 refine B4 (s0:=⟨T [(0,(.d _)),(1,(.d _)),(2,(.d _))],G []⟩) (E6 W W) ?_
 refine B1<|sm W<|sv W<|A1<|A4<|B1<|sv W<|sv W<|sv W<|gf W (fun _=>(A7 W G_hit W W))<|gf W (fun _=>W)<|bs h fun v1 hv1 h=> ?_
 refine M2 _ (bo v1) (K6 W) (fun w3=>⟨_,[(.d (.agg (P1 p1))),(di p2)],_,_,(by simp only [A2 w3];rfl),W,A3,Zq _ _ _<|B9 w3 hv1,(.inl W)⟩) ?_
 refine M3 _ (.d (bo (!v1))) W (K6 W) (fun w4=>(by simp only [A2 w4];rfl)) ?_
 refine sd W (N9 W W<|fun hc=>A2<|J2 hc)<|A1<|cc W h (fun c1 h=> ?_)<|fun c1 h=> ?_
 refine B1<|sv W<|A1<|B2 ?_
 cases h
 exact A6 (.inr W) (B6 (B3 W) C1) DLe.nil
 refine A9<|B1<|sd W (A7 W G_hit W W)<|sv W<|sv W<|bs h fun _ hv2 h=>B0 W W A3 (QV _ _ _ _ hv2) (.inl W) (sv W<|A1<|B2 ?_)
 cases h
 exact A6 (.inr W) (B6 (B3 W) C1) (.refl _)
def Kv (p1:Int)(p2:Agent)(p3:Int):Option Int:=
  some (Ov true 0 (Ov false (D8 (p2.V+p1)) p3))
theorem Rl(p1 p2 p3 r)(h:Kv p1 p2 p3=some r):PCall prog 179 [(i64 p1),(.bp (C8 p2) 0),(.bp [(i64 p3)] 0)] (i64 r):=by
 refine C2 (fk func179 ntmps179 m0 (by with_unfolding_all rfl)) (nl W) ?_
 unfold Kv at h
 refine B4 (s0:=⟨T [(0,(.d _)),(1,(.d _)),(2,(.d _))],G []⟩) (E6 W W) ?_
 refine B1<|sv W<|A1<|B1<|sv W<|sv W<|sv W<|sv W<|sv W<|sv W<|sv W<|sv W<|A1<|B2 ?_
 cases h
 exact A6 (.inr W) (B6 (B3 W) C1) (.refl _)
def Td (p1:Int)(p2:Int):Option Int:=
  cond ((decide (p1<1))||(decide (p2<1))) (some 0) ((II .i64 (D8 ((Ov false p1 1000000) - 1)) (Ov false p2 1000000)).bind fun v1=>some (D8 ((D8 (v1* (Ov false p1 1000000))) - (D8 ((Ov false p2 1000000)* (D8 ((D8 (v1* (D8 (v1+1)))).tdiv 2)))))))
theorem Uy(p1 p2 r)(h:Td p1 p2=some r):PCall prog 41 [(i64 p1),(i64 p2)] (i64 r):=by
 refine C2 (fk func41 ntmps41 m0 (by with_unfolding_all rfl)) (nl W) ?_
 unfold Td at h
 refine B4 (s0:=⟨T [(0,(.d _)),(1,(.d _))],G []⟩) (E6 W W) ?_
 refine B1<|sv W<|A1<|A4<|B1<|sv W<|sv W<|sv W<|gf W (fun _=>W)<|gf W (vb W W W)<|sd W (N9 W W<|fun hc=>A2<|J2 hc)<|A1<|cc W h (fun c1 h=> ?_)<|fun c1 h=> ?_
 refine B1<|sv W<|A1<|B2 ?_
 cases h
 exact A6 (.inr W) (B6 (B3 W) C1) (.refl _)
 refine A9<|B1<|sv W<|sv W<|sv W<|sv W<|sv W<|sv W<|A1<|B1<|sv W<|sv W<|sv W<|bs h fun _ hv1 h=>sd W (YA W W hv1)<|sv W<|A1<|B1<|sv W<|sv W<|sv W<|sv W<|sv W<|sv W<|sv W<|sv W<|sv W<|sv W<|sv W<|sv W<|A1<|B2 ?_
 cases h
 exact A6 (.inr W) (B6 (B3 W) C1) (.refl _)
end
end Go.Abs.World
