/-
  The functions, part 2.
-/
import Derived.Test.YtgjdiioennhoeaaGreatFns1
set_option maxRecDepth 20000
set_option maxHeartbeats 4000000
set_option linter.unusedVariables false
namespace Go.Abs.World
noncomputable section
open Go Go.Abs Go.Proofs Tryz
attribute [local irreducible] K1 Ly Bt
def G1 [Lp](p2:Int)(x2:(Int× (List Pass))):Option (Stp (Int× (List Pass)) (List Pass)):=
  ((cond (decide (x2.1>p2)) (C8 x2.2 x2.1) (some default))).bind fun v1=>((cond (decide (x2.1>p2)) (C8 x2.2 (C9 (x2.1 - 1))) (some default))).bind fun v2=>((cond (decide (x2.1>p2)) (Fp v1 v2) (some default))).bind fun v3=>cond ((decide (x2.1>p2))&& (decide (v3<0))) ((C8 x2.2 (C9 (x2.1 - 1))).bind fun v4=>(C8 x2.2 x2.1).bind fun v5=>(C8 x2.2 x2.1).bind fun v6=>(C8 (Qu x2.2 x2.1 v4) (C9 (x2.1 - 1))).bind fun v7=>some (.go ((C9 (x2.1 - 1)),(Qu (Qu x2.2 x2.1 v4) (C9 (x2.1 - 1)) v5)))) (some (.out x2.2))
def G2 [Lp](p2:Int)(p3:Int)(x1:(Int× (List Pass))):Option (Stp (Int× (List Pass)) (List Pass)):=
  cond (decide (x1.1<p3)) ((loop (G1 p2) (x1.1,x1.2)).bind fun y1=>some (.go ((C9 (x1.1+1)),y1))) (some (.out (x1.2)))
def F6 [Lp](p1:(List Pass))(p2:Int)(p3:Int):Option (List Pass):=
  loop (G2 p2 p3) ((C9 (p2+1)),p1)
theorem T8(p1 p2 p3 r)(h:F6 p1 p2 p3=some r):MCall prog 282 [(.sl (900000,0)),(di p2),(di p3),(.d (.fn (.func 264) [] []))] [(.arr 229 4 (List.map Y0 p1))] (.d (.tup [])) [some (.arr 229 4 (List.map Y0 r))] []:=by
 refine Td (fk func282 ntmps282 m0 (by with_unfolding_all rfl)) W (nl W) ?_
 unfold F6 at h
 refine B5 (s0:=⟨T [(0,(.sl _)),(1,(.d _)),(2,(.d _)),(3,(.d _))],G [((900000,0),some _)]⟩) (E3 W W) ?_
 refine B1<|sv W<|sv W<|sv W<|A1<|A9<|D7 (G2 p2 p3) (fun (x1:(Int× (List Pass))) (g1:Unit)=>⟨T [(0,(.sl (900000,0))),(1,(di p2)),(2,(di p3)),(3,(.d (.fn (.func 264) [] []))),(8,(di x1.1))],G [((900000,0),some<|.arr 229 4 (List.map Y0 x1.2))]⟩) ((C9 (p2+1)),p1) () _ h (E3 W W) ?_
 intro x1 g1 z1 hz1 ez1
 unfold G2 at hz1
 refine A4<|B1<|sv W<|sv W<|sv W<|A1<|cc W hz1 (fun c1 hz1=> ?_)<|fun c1 hz1=> ?_
 refine A8<|A4<|A9<|B1<|sv W<|sv W<|A1<|bs hz1 fun y1 hy1 hz1=>D3 (fun s=> ∃g2:Unit,Sb ⟨T [(0,(.sl (900000,0))),(1,(di p2)),(2,(di p3)),(3,(.d (.fn (.func 264) [] []))),(8,(di x1.1))],G [((900000,0),some<|.arr 229 4 (List.map Y0 y1))]⟩ s) ?_ ?_
 refine A9<|D7 (G1 p2) (fun (x2:(Int× (List Pass))) (g3:Unit)=>⟨T [(0,(.sl (900000,0))),(1,(di p2)),(2,(di p3)),(3,(.d (.fn (.func 264) [] []))),(8,(di x1.1)),(9,(di x2.1))],G [((900000,0),some<|.arr 229 4 (List.map Y0 x2.2))]⟩) (x1.1,x1.2) () _ hy1 (E3 W W) ?_
 intro x2 g3 z2 hz2 ez2
 unfold G1 at hz2
 refine A4<|A4<|D5 W<|sv W<|sv W<|sv W<|sv W<|gt W (fun _=>W)<|M5 _ (.sl _) W (I8 W) (fun _=>W) (gt W (fun _=>W)<|bs hz2 fun v1 hv1 hz2=>M5 _ (.aptr _ _ _ _) W (I8 W) (fun w4=>(Kp (A3 w4) (A3 w4) G_hit (C2 w4 hv1))) (gt W (fun w5=>(Ug (A3 w5) G_hit (C2 w5 hv1) W W))<|M5 _ (.sl _) W (I8 W) (fun _=>W) (gt W (fun _=>W)<|gt W (vb W W W)<|bs hz2 fun v2 hv2 hz2=>M5 _ (.aptr _ _ _ _) W (I8 W) (fun w9=>(Kp (A3 w9) (A3 w9) G_hit (C2 w9 hv2))) (gt W (fun w10=>(Ug (A3 w10) G_hit (C2 w10 hv2) W W))<|bs hz2 fun v3 hv3 hz2=> ?_))))
 refine I9 _ (i64 v3) (I8 W) (fun w11=>⟨_,[(.d (.agg (Y0 v1))),(.d (.agg (Y0 v2)))],_,_,(by simp only [A3 w11];rfl),W,A2,DA _ _ _<|C2 w11 hv3,(.inl W)⟩) ?_
 refine gt W (vb W W W)<|sa W W W<|A1<|cc W hz2 (fun c2 hz2=> ?_)<|fun c2 hz2=> ?_
 refine A8<|A4<|A9<|D5 W<|ss W<|sv W<|ss W<|sv W<|sv W<|ss W<|sv W<|sv W<|bs hz2 fun v4 hv4 hz2=>B9 (.aptr _ _ _ _) W (Kp W W G_hit hv4) (sd W (Ug W G_hit hv4 W W)<|ss W<|sv W<|bs hz2 fun v5 hv5 hz2=>B9 (.aptr _ _ _ _) W (Kp W W G_hit hv5) (sd W (Ug W G_hit hv5 W W)<|bs hz2 fun _ hv6 hz2=>B9 (.aptr _ _ _ _) W (Kp W W G_hit hv6) (Pg Y0 _ _ _ (x2.1) _ v4 (Y0 v4) W W W G_hit hv6 (nl W) W (bs hz2 fun _ hv7 hz2=>B9 (.aptr _ _ _ _) W (Kp W W G_hit hv7) (Pg Y0 _ _ _ ((C9 (x2.1 - 1))) _ v5 (Y0 v5) W W W G_hit hv7 (nl W) W (A1<|D4<|C1<|sv W<|sv W<|sv W<|A1<|D6 ?_))))))
 cases hz2
 exact ⟨W,(),(E3 W W)⟩
 refine C6 W ?_
 cases hz2
 obtain rfl:=ez2 _ rfl
 refine ⟨nofun,C3 W<|T4 ?_⟩
 exact ⟨(),(E3 W W)⟩
 rintro _ ⟨g2,q1⟩
 refine D4<|B5 q1<|C1<|sv W<|sv W<|sv W<|A1<|D6 ?_
 cases hz1
 exact ⟨W,(),(E3 W W)⟩
 refine C6 W ?_
 cases hz1
 obtain rfl:=ez1 _ rfl
 refine ⟨nofun,C3 W<|D6 ?_⟩
 exact Vc (.inl W) [] BA (.refl _) ⟨⟨G_hit,W8⟩,trivial⟩
def Q5 (p2:Int)(x3:(Int×Int)):Option (Stp (Int×Int) Int):=
  cond (decide (x3.2≤p2)) (none) (some (.out x3.1))
def I4 [Lp](p2:Int)(v2:(List Pass))(x2:Int):Option (Stp Int (List Pass)):=
  cond (decide (x2<p2)) ((loop (Q5 p2) (0,(C9 (2*x2)))).bind fun y2=>cond (decide ((C9 (y2+x2))<p2)) (none) (some (.go (C9 (x2*2))))) (some (.out (v2)))
def I5 [Lp](p2:Int)(x1:(Int×Int× (List Pass))):Option (Stp (Int×Int× (List Pass)) (Int× (List Pass))):=
  cond (decide (x1.2.1≤p2)) ((F6 x1.2.2 x1.1 x1.2.1).bind fun v1=>some (.go (x1.2.1,(C9 (x1.2.1+20)),v1))) (some (.out (x1.1,x1.2.2)))
def J6 [Lp](p1:(List Pass))(p2:Int):Option (List Pass):=
  (loop (I5 p2) (0,20,p1)).bind fun y1=>(F6 y1.2 y1.1 p2).bind fun v2=>loop (I4 p2 v2) 20
theorem Fb(p1 p2 r)(h:J6 p1 p2=some r):MCall prog 270 [(.sl (900000,0)),(di p2),(.d (.fn (.func 264) [] []))] [(.arr 229 4 (List.map Y0 p1))] (.d (.tup [])) [some (.arr 229 4 (List.map Y0 r))] []:=by
 refine Td (fk func270 ntmps270 (fun r=>if r==3 then [1003004]else if r==6 then [1006004]else []) (by with_unfolding_all rfl)) W (nl W) ?_
 unfold J6 at h
 refine B5 (s0:=⟨T [(0,(.sl _)),(1,(.d _)),(2,(.d _))],G [((900000,0),some _)]⟩) (E3 W W) ?_
 refine B1<|sv W<|A1<|B1<|sv W<|sv W<|sv W<|A1<|A4<|bs h fun y1 hy1 h=>D3 (fun s=> ∃g1:Unit,Sb ⟨T [(0,(.sl (900000,0))),(1,(di p2)),(2,(.d (.fn (.func 264) [] []))),(6,(di 20)),(7,(di y1.1))],G [((900000,0),some<|.arr 229 4 (List.map Y0 y1.2))]⟩ s) ?_ ?_
 refine A9<|D7 (I5 p2) (fun (x1:(Int×Int× (List Pass))) (g2:Unit)=>⟨T [(0,(.sl (900000,0))),(1,(di p2)),(2,(.d (.fn (.func 264) [] []))),(6,(di 20)),(7,(di x1.1)),(8,(di x1.2.1))],G [((900000,0),some<|.arr 229 4 (List.map Y0 x1.2.2))]⟩) (0,20,p1) () _ hy1 (E3 W W) ?_
 intro x1 g2 z1 hz1 ez1
 unfold I5 at hz1
 refine A4<|B1<|sv W<|sv W<|sv W<|A1<|cc W hz1 (fun c1 hz1=> ?_)<|fun c1 hz1=> ?_
 refine A8<|A9<|B1<|ss W<|sv W<|sv W<|sv W<|bs hz1 fun v1 hv1 hz1=>GD (v:= .d (.tup [])) (us:= [(900000,0)]) (EI (T8 _ _ _ _ hv1) [(900000,0)] [(900000,0)] _ (((900000,0),some<|.arr 229 4 (List.map Y0 v1))::_) W Is (R4 FK<|R4 Xy<|R4 Xy<|R4 Xy Px) (Ah G_hit Eb) ⟨⟨_,G_hit, .of W⟩,trivial⟩ (fun _ h=>h) nd1 W W W) (A1<|B1<|sv W<|sv W<|A1<|C1<|sv W<|sv W<|sv W<|sv W<|A1<|D4<|D6 ?_)
 cases hz1
 exact ⟨W,(),(E3 W W)⟩
 refine C6 W ?_
 cases hz1
 obtain rfl:=ez1 _ rfl
 refine ⟨nofun,C3 W<|T4 ?_⟩
 exact ⟨(),(E3 W W)⟩
 rintro _ ⟨g1,q1⟩
 refine B5 q1<|B1<|ss W<|sv W<|sv W<|sv W<|bs h fun v2 hv2 h=>GD (v:= .d (.tup [])) (us:= [(900000,0)]) (EI (T8 _ _ _ _ hv2) [(900000,0)] [(900000,0)] _ (((900000,0),some<|.arr 229 4 (List.map Y0 v2))::_) W Is (R4 FK<|R4 Xy<|R4 Xy<|R4 Xy Px) (Ah G_hit Eb) ⟨⟨_,G_hit, .of W⟩,trivial⟩ (fun _ h=>h) nd1 W W W) (A1<|A9<|D7 (I4 p2 v2) (fun (x2:Int) (g3:Unit)=>⟨T [(0,(.sl (900000,0))),(1,(di p2)),(2,(.d (.fn (.func 264) [] []))),(6,(di x2))],G [((900000,0),some<|.arr 229 4 (List.map Y0 v2))]⟩) 20 () _ h (E3 W W) ?_)
 intro x2 g3 z2 hz2 ez2
 unfold I4 at hz2
 refine A4<|B1<|sv W<|sv W<|sv W<|A1<|cc W hz2 (fun c2 hz2=> ?_)<|fun c2 hz2=> ?_
 refine A8<|A9<|B1<|sv W<|sv W<|sv W<|sv W<|A1<|A4<|bs hz2 fun y2 hy2 hz2=>D3 (fun s=> ∃g4:Unit,Sb ⟨T [(0,(.sl (900000,0))),(1,(di p2)),(2,(.d (.fn (.func 264) [] []))),(6,(di x2)),(7,(di y2))],G [((900000,0),some<|.arr 229 4 (List.map Y0 v2))]⟩ s) ?_ ?_
 refine A9<|D7 (Q5 p2) (fun (x3:(Int×Int)) (g5:Unit)=>⟨T [(0,(.sl (900000,0))),(1,(di p2)),(2,(.d (.fn (.func 264) [] []))),(6,(di x2)),(7,(di x3.1)),(8,(di x3.2))],G [((900000,0),some<|.arr 229 4 (List.map Y0 v2))]⟩) (0,(C9 (2*x2))) () _ hy2 (E3 W W) ?_
 intro x3 g5 z3 hz3 ez3
 unfold Q5 at hz3
 refine A4<|B1<|sv W<|sv W<|sv W<|A1<|cc W hz3 (fun c3 hz3=> ?_)<|fun c3 hz3=> ?_
 refine A8<|A9<|B1<|ss W<|sv W<|sv W<|sv W<|sv W<|sv W<|sv W ?_
 cases hz3
 refine C6 W ?_
 cases hz3
 obtain rfl:=ez3 _ rfl
 refine ⟨nofun,C3 W<|T4 ?_⟩
 exact ⟨(),(E3 W W)⟩
 rintro _ ⟨g4,q2⟩
 refine B5 q2<|A4<|B1<|sv W<|sv W<|sv W<|sv W<|A1<|B1<|sv W<|sv W<|sv W<|A1<|cc W hz2 (fun c4 hz2=> ?_)<|fun c4 hz2=> ?_
 refine C1<|ss W<|sv W<|sv W<|sv W<|sv W ?_
 cases hz2
 refine A8<|C1<|sv W<|sv W<|sv W<|A1<|D4<|D6 ?_
 cases hz2
 exact ⟨W,(),(E3 W W)⟩
 refine C6 W ?_
 cases hz2
 obtain rfl:=ez2 _ rfl
 refine ⟨nofun,C3 W<|D6 ?_⟩
 exact Vc (.inl W) [] BA (.refl _) ⟨⟨G_hit,W8⟩,trivial⟩
def G8 [Lp](p1:(List Pass)):Option (List Pass):=
  (J6 p1 (p1.length:Int)).bind fun v1=>some v1
theorem Cn(p1 r)(h:G8 p1=some r):MCall prog 263 [(.sl (900000,0)),(.d (.fn (.func 264) [] []))] [(.arr 229 4 (List.map Y0 p1))] (.d (.tup [])) [some (.arr 229 4 (List.map Y0 r))] []:=by
 refine Td (fk func263 ntmps263 (fun r=>if r==0 then [1000004]else []) (by with_unfolding_all rfl)) W (nl W) ?_
 unfold G8 at h
 refine B5 (s0:=⟨T [(0,(.sl _)),(1,(.d _))],G [((900000,0),some _)]⟩) (E3 W W) ?_
 refine C1<|ss W<|ss W<|sd W (TS (f:=Y0) W G_hit)<|sv W<|bs h fun v1 hv1 h=>GD (v:= .d (.tup [])) (us:= [(900000,0)]) (EI (Fb _ _ _ hv1) [(900000,0)] [(900000,0)] _ (((900000,0),some<|.arr 229 4 (List.map Y0 v1))::_) W Is (R4 FK<|R4 Xy<|R4 Xy Px) (Ah G_hit Eb) ⟨⟨_,G_hit, .of W⟩,trivial⟩ (fun _ h=>h) nd1 W W W) (A1<|D6 ?_)
 obtain rfl:=(lC h)
 exact Vc (.inl W) [] BA (.refl _) ⟨⟨G_hit,W8⟩,trivial⟩
def N5 (p1:Int)(x2:Int):Option (Stp Int Unit):=
  ((cond (decide (x2>p1)) ((none:Option Unit)) (some default))).bind fun v1=>cond ((decide (x2>p1))&&false) (none) (some (.out ()))
def G3 [Lp](p1:Int)(p2:Int)(x1:Int):Option (Stp Int Unit):=
  cond (decide (x1<p2)) ((loop (N5 p1) x1).bind fun _=>some (.go (C9 (x1+1)))) (some (.out (())))
def F7 [Lp](p1:Int)(p2:Int):Option Unit:=
  loop (G3 p1 p2) (C9 (p1+1))
theorem T9(p1 p2 r)(h:F7 p1 p2=some r):PCall prog 282 [.nilS,(i64 p1),(i64 p2),(.fn (.func 264) [] [])] (.tup []):=by
 refine C0 (fk func282 ntmps282 m0 (by with_unfolding_all rfl)) (nl W) ?_
 unfold F7 at h
 refine B5 (s0:=⟨T [(0,(.d _)),(1,(.d _)),(2,(.d _)),(3,(.d _))],G []⟩) (E3 W W) ?_
 refine B1<|sv W<|sv W<|sv W<|A1<|A9<|D7 (G3 p1 p2) (fun (x1:Int) (g1:Unit)=>⟨T [(0,(.d .nilS)),(1,(di p1)),(2,(di p2)),(3,(.d (.fn (.func 264) [] []))),(8,(di x1))],G []⟩) (C9 (p1+1)) () _ h (E3 W W) ?_
 intro x1 g1 z1 hz1 ez1
 unfold G3 at hz1
 refine A4<|B1<|sv W<|sv W<|sv W<|A1<|cc W hz1 (fun c1 hz1=> ?_)<|fun c1 hz1=> ?_
 refine A8<|A4<|A9<|B1<|sv W<|sv W<|A1<|bs hz1 fun _ hy1 hz1=>D3 (fun s=> ∃g2:Unit,Sb ⟨T [(0,(.d .nilS)),(1,(di p1)),(2,(di p2)),(3,(.d (.fn (.func 264) [] []))),(8,(di x1))],G []⟩ s) ?_ ?_
 refine A9<|D7 (N5 p1) (fun (x2:Int) (g3:Unit)=>⟨T [(0,(.d .nilS)),(1,(di p1)),(2,(di p2)),(3,(.d (.fn (.func 264) [] []))),(8,(di x1)),(9,(di x2))],G []⟩) x1 () _ hy1 (E3 W W) ?_
 intro x2 g3 z2 hz2 ez2
 unfold N5 at hz2
 refine A4<|A4<|D5 W<|sv W<|sv W<|sv W<|sv W<|gt W (fun _=>W)<|gt W (fun _=>W)<|gt W (fun _=>W)<|bs hz2 fun _ hv1 hz2=>M5 _ (.d (.tup [])) W (I8 W) (fun w4=>nomatch C2 w4 hv1) (M5 _ (.d (.tup [])) W (I8 W) (fun w5=>nomatch C2 w5 hv1) (M5 _ (.d (.tup [])) W (I8 W) (fun w6=>nomatch C2 w6 hv1) (M5 _ (di 0) W (I8 W) (fun w7=>nomatch C2 w7 hv1) (M5 _ (di 0) W (I8 W) (fun w8=>nomatch C2 w8 hv1) (M5 _ (.d (.tup [])) W (I8 W) (fun w9=>nomatch C2 w9 hv1) (M5 _ (.d (.tup [])) W (I8 W) (fun w10=>nomatch C2 w10 hv1) (I9 _ (i64 0) (I8 W) (fun w11=>nomatch C2 w11 hv1) (M5 _ (.d (bo false)) W (I8 W) (fun w12=>nomatch C2 w12 hv1) (sa W W W<|A1<|cc W hz2 (fun c2 hz2=> ?_)<|fun c2 hz2=> ?_)))))))))
 refine A8<|A4<|A9<|D5 W<|sv W<|sv W<|sv W<|sv W<|sv W<|sv W<|sv W<|sv W ?_
 cases hz2
 refine C6 W ?_
 cases hz2
 obtain rfl:=ez2 _ rfl
 refine ⟨nofun,C3 W<|T4 ?_⟩
 exact ⟨(),(E3 W W)⟩
 rintro _ ⟨g2,q1⟩
 refine D4<|B5 q1<|C1<|sv W<|sv W<|sv W<|A1<|D6 ?_
 cases hz1
 exact ⟨W,(),(E3 W W)⟩
 refine C6 W ?_
 cases hz1
 obtain rfl:=ez1 _ rfl
 refine ⟨nofun,C3 W<|D6 ?_⟩
 exact A7 (.inl W) W (.refl _)
def Q6 (p1:Int)(x3:(Int×Int)):Option (Stp (Int×Int) Int):=
  cond (decide (x3.2≤p1)) (none) (some (.out x3.1))
def I6 [Lp](p1:Int)(x2:Int):Option (Stp Int Unit):=
  cond (decide (x2<p1)) ((loop (Q6 p1) (0,(C9 (2*x2)))).bind fun y2=>cond (decide ((C9 (y2+x2))<p1)) (none) (some (.go (C9 (x2*2))))) (some (.out (())))
def I7 [Lp](p1:Int)(x1:(Int×Int)):Option (Stp (Int×Int) Int):=
  cond (decide (x1.2≤p1)) ((F7 x1.1 x1.2).bind fun v1=>some (.go (x1.2,(C9 (x1.2+20))))) (some (.out x1.1))
def J7 [Lp](p1:Int):Option Unit:=
  (loop (I7 p1) (0,20)).bind fun y1=>(F7 y1 p1).bind fun v2=>loop (I6 p1) 20
theorem Fc(p1 r)(h:J7 p1=some r):PCall prog 270 [.nilS,(i64 p1),(.fn (.func 264) [] [])] (.tup []):=by
 refine C0 (fk func270 ntmps270 m0 (by with_unfolding_all rfl)) (nl W) ?_
 unfold J7 at h
 refine B5 (s0:=⟨T [(0,(.d _)),(1,(.d _)),(2,(.d _))],G []⟩) (E3 W W) ?_
 refine B1<|sv W<|A1<|B1<|sv W<|sv W<|sv W<|A1<|A4<|bs h fun y1 hy1 h=>D3 (fun s=> ∃g1:Unit,Sb ⟨T [(0,(.d .nilS)),(1,(di p1)),(2,(.d (.fn (.func 264) [] []))),(6,(di 20)),(7,(di y1))],G []⟩ s) ?_ ?_
 refine A9<|D7 (I7 p1) (fun (x1:(Int×Int)) (g2:Unit)=>⟨T [(0,(.d .nilS)),(1,(di p1)),(2,(.d (.fn (.func 264) [] []))),(6,(di 20)),(7,(di x1.1)),(8,(di x1.2))],G []⟩) (0,20) () _ hy1 (E3 W W) ?_
 intro x1 g2 z1 hz1 ez1
 unfold I7 at hz1
 refine A4<|B1<|sv W<|sv W<|sv W<|A1<|cc W hz1 (fun c1 hz1=> ?_)<|fun c1 hz1=> ?_
 refine A8<|A9<|B1<|sv W<|sv W<|sv W<|sv W<|bs hz1 fun _ hv1 hz1=>B0 W W A2 (T9 _ _ _ hv1) (.inl W) (A1<|B1<|sv W<|sv W<|A1<|C1<|sv W<|sv W<|sv W<|sv W<|A1<|D4<|D6 ?_)
 cases hz1
 exact ⟨W,(),(E3 W W)⟩
 refine C6 W ?_
 cases hz1
 obtain rfl:=ez1 _ rfl
 refine ⟨nofun,C3 W<|T4 ?_⟩
 exact ⟨(),(E3 W W)⟩
 rintro _ ⟨g1,q1⟩
 refine B5 q1<|B1<|sv W<|sv W<|sv W<|sv W<|bs h fun _ hv2 h=>B0 W W A2 (T9 _ _ _ hv2) (.inl W) (A1<|A9<|D7 (I6 p1) (fun (x2:Int) (g3:Unit)=>⟨T [(0,(.d .nilS)),(1,(di p1)),(2,(.d (.fn (.func 264) [] []))),(6,(di x2))],G []⟩) 20 () _ h (E3 W W) ?_)
 intro x2 g3 z2 hz2 ez2
 unfold I6 at hz2
 refine A4<|B1<|sv W<|sv W<|sv W<|A1<|cc W hz2 (fun c2 hz2=> ?_)<|fun c2 hz2=> ?_
 refine A8<|A9<|B1<|sv W<|sv W<|sv W<|sv W<|A1<|A4<|bs hz2 fun y2 hy2 hz2=>D3 (fun s=> ∃g4:Unit,Sb ⟨T [(0,(.d .nilS)),(1,(di p1)),(2,(.d (.fn (.func 264) [] []))),(6,(di x2)),(7,(di y2))],G []⟩ s) ?_ ?_
 refine A9<|D7 (Q6 p1) (fun (x3:(Int×Int)) (g5:Unit)=>⟨T [(0,(.d .nilS)),(1,(di p1)),(2,(.d (.fn (.func 264) [] []))),(6,(di x2)),(7,(di x3.1)),(8,(di x3.2))],G []⟩) (0,(C9 (2*x2))) () _ hy2 (E3 W W) ?_
 intro x3 g5 z3 hz3 ez3
 unfold Q6 at hz3
 refine A4<|B1<|sv W<|sv W<|sv W<|A1<|cc W hz3 (fun c3 hz3=> ?_)<|fun c3 hz3=> ?_
 refine A8<|A9<|B1<|sv W<|sv W<|sv W<|sv W<|sv W<|sv W<|sv W ?_
 cases hz3
 refine C6 W ?_
 cases hz3
 obtain rfl:=ez3 _ rfl
 refine ⟨nofun,C3 W<|T4 ?_⟩
 exact ⟨(),(E3 W W)⟩
 rintro _ ⟨g4,q2⟩
 refine B5 q2<|A4<|B1<|sv W<|sv W<|sv W<|sv W<|A1<|B1<|sv W<|sv W<|sv W<|A1<|cc W hz2 (fun c4 hz2=> ?_)<|fun c4 hz2=> ?_
 refine C1<|sv W<|sv W<|sv W<|sv W<|sv W ?_
 cases hz2
 refine A8<|C1<|sv W<|sv W<|sv W<|A1<|D4<|D6 ?_
 cases hz2
 exact ⟨W,(),(E3 W W)⟩
 refine C6 W ?_
 cases hz2
 obtain rfl:=ez2 _ rfl
 refine ⟨nofun,C3 W<|D6 ?_⟩
 exact A7 (.inl W) W (.refl _)
def G9 [Lp]:Option Unit:=
  (J7 0).bind fun v1=>some ()
theorem Co(r)(h:G9=some r):PCall prog 263 [.nilS,(.fn (.func 264) [] [])] (.tup []):=by
 refine C0 (fk func263 ntmps263 m0 (by with_unfolding_all rfl)) (nl W) ?_
 unfold G9 at h
 refine B5 (s0:=⟨T [(0,(.d _)),(1,(.d _))],G []⟩) (E3 W W) ?_
 refine C1<|sv W<|sv W<|sv W<|sv W<|bs h fun _ hv1 h=>B0 W W A2 (Fc _ _ hv1) (.inl W) (A1<|D6 ?_)
 cases h
 exact A7 (.inl W) W (.refl _)
def Qb (v1:RoadsWay)(x1:((List Pass)×Int))(v2:Int)(x2:((List Pass)×Int))(v3:Zone)(x3:((List Pass)×Int)):Option (Stp ((List Pass)×Int) (List Pass)):=
  cond (decide (x3.2< (v3.Parts.length:Int))) ((C8 v3.Parts x3.2).bind fun v4=>cond (v4.Lane_==v2) ((C8 v1.starts x1.2).bind fun v5=>(C8 v1.starts x1.2).bind fun v6=>(Fk x3.1 [(Pass.mk x2.2 x3.2 (C9 (v5+v4.From)) (C9 (v6+v4.To)))]).bind fun v7=>some (.go (v7,(C9 (x3.2+1))))) (some (.go (x3.1,(C9 (x3.2+1)))))) (some (.out x3.1))
def Du [Lp](p1:Map)(v1:RoadsWay)(x1:((List Pass)×Int))(v2:Int)(x2:((List Pass)×Int)):Option (Stp ((List Pass)×Int) (List Pass)):=
  cond (decide (x2.2< (p1.Zones.length:Int))) ((C8 p1.Zones x2.2).bind fun v3=>(loop (Qb v1 x1 v2 x2 v3) (x2.1,0)).bind fun y3=>some (.go (y3,(C9 (x2.2+1))))) (some (.out x2.1))
def Dv [Lp](p1:Map)(v1:RoadsWay)(x1:((List Pass)×Int)):Option (Stp ((List Pass)×Int) (List Pass)):=
  cond (decide (x1.2< (v1.lanes.length:Int))) ((C8 v1.lanes x1.2).bind fun v2=>(loop (Du p1 v1 x1 v2) (x1.1,0)).bind fun y2=>some (.go (y2,(C9 (x1.2+1))))) (some (.out x1.1))
def Jv [Lp](p1:Map)(p2:(List Int)):Option (List Pass):=
  (X6 p1 p2).bind fun v1=>(loop (Dv p1 v1) ([],0)).bind fun y1=>cond (List.isEmpty y1) ((G9).bind fun v9=>some []) ((G8 y1).bind fun v8=>some v8)
theorem GK(p1 p2 r)(h:Jv p1 p2=some r):PCall prog 246 [(.agg (O8 p1)),(.list (List.map A5 p2))] (.list (List.map Y0 r)):=by
 refine C0 (fk func246 ntmps246 (fun r=>if r==13 then [1020]else if r==17 then [1017001]else []) (by with_unfolding_all rfl)) (nl W) ?_
 unfold Jv at h
 refine B5 (s0:=⟨T [(0,(.d _)),(1,(.d _))],G []⟩) (E3 W W) ?_
 refine lr<|fun u1 _=>sm W<|sv W<|A1<|lr<|fun u2 _=>sd W (A6 W G_hit W W)<|sv W<|bs h fun v1 hv1 h=>B0 W W A2 (Hl _ _ _ hv1) (.inl W) (sm W<|Q4 W G_hit (Hv v1) W (A1<|B1<|sv W<|A1<|A4<|B1<|sq W<|sl W G_hit W<|sd W (D0 W)<|sv W<|A1<|bs h fun y1 hy1 h=>D3 (fun s=> ∃g1:Nat,Sb ⟨T [(6,(oS y1 (65,g1)))],G [((65,g1),oB 229 4 Y0 y1)]⟩ s) ?_ ?_))
 refine A9<|D7 (Dv p1 v1) (fun (x1:((List Pass)×Int)) (g2:Nat)=>⟨T [(2,(.ptr (2,u1) 0)),(5,(.ptr (5,u2) 0)),(6,(oS x1.1 (65,g2))),(17,(dl A5 v1.lanes)),(18,(di (v1.lanes.length:Int))),(19,(di x1.2))],G [((2,u1),some<|.box 33 (K7 p1)),((5,u2),some<|.box 260 (Hv v1)),((65,g2),oB 229 4 Y0 x1.1)]⟩) ([],0) 0 _ hy1 (D2 (X5 W)<|sg W<|B6 G_hit (.of W)<|O9 trivial) ?_
 intro x1 g2 z1 hz1 ez1
 unfold Dv at hz1
 refine B1<|sv W<|A1<|A4<|cc W hz1 (fun c1 hz1=> ?_)<|fun c1 hz1=> ?_
 refine A8<|A4<|A9<|B1<|sv W<|bs hz1 fun v2 hv2 hz1=>sd W (C5 W W hv2 W)<|sd W (D1 W hv2 W)<|sv W<|sv W<|A1<|B1<|sq W<|sl W G_hit W<|sd W (D0 W)<|sv W<|A1<|bs hz1 fun y2 hy2 hz1=>D3 (fun s=> ∃g3:Nat,Sb ⟨T [(2,(.ptr (2,u1) 0)),(5,(.ptr (5,u2) 0)),(6,(oS y2 (65,g3))),(17,(dl A5 v1.lanes)),(18,(di (v1.lanes.length:Int))),(19,(di x1.2))],G [((2,u1),some<|.box 33 (K7 p1)),((5,u2),some<|.box 260 (Hv v1)),((65,g3),oB 229 4 Y0 y2)]⟩ s) ?_ ?_
 refine A9<|D7 (Du p1 v1 x1 v2) (fun (x2:((List Pass)×Int)) (g4:Nat)=>⟨T [(2,(.ptr (2,u1) 0)),(5,(.ptr (5,u2) 0)),(6,(oS x2.1 (65,g4))),(7,(di x1.2)),(8,(di v2)),(17,(dl A5 v1.lanes)),(18,(di (v1.lanes.length:Int))),(19,(di x1.2)),(25,(dl Dp p1.Zones)),(26,(di (p1.Zones.length:Int))),(27,(di x2.2))],G [((2,u1),some<|.box 33 (K7 p1)),((5,u2),some<|.box 260 (Hv v1)),((65,g4),oB 229 4 Y0 x2.1)]⟩) (x1.1,0) g2 _ hy2 (D2 (X5 W)<|B6 G_hit (.of W)<|sg W<|B7 (gq W) trivial) ?_
 intro x2 g4 z2 hz2 ez2
 unfold Du at hz2
 refine B1<|sv W<|A1<|A4<|cc W hz2 (fun c2 hz2=> ?_)<|fun c2 hz2=> ?_
 refine A8<|A4<|A9<|B1<|sv W<|bs hz2 fun v3 hv3 hz2=>sd W (C5 W W hv3 W)<|sd W (C7 W hv3 W W)<|sm W<|sv W<|Q4 W G_hit [(dl Cs v3.Parts),(di v3.Signal_)] W (A1<|B1<|sq W<|sl W G_hit W<|sd W (D0 W)<|sv W<|A1<|bs hz2 fun y3 hy3 hz2=>D3 (fun s=> ∃g5:Nat,Sb ⟨T [(2,(.ptr (2,u1) 0)),(5,(.ptr (5,u2) 0)),(6,(oS y3 (65,g5))),(7,(di x1.2)),(8,(di v2)),(17,(dl A5 v1.lanes)),(18,(di (v1.lanes.length:Int))),(19,(di x1.2)),(25,(dl Dp p1.Zones)),(26,(di (p1.Zones.length:Int))),(27,(di x2.2))],G [((2,u1),some<|.box 33 (K7 p1)),((5,u2),some<|.box 260 (Hv v1)),((65,g5),oB 229 4 Y0 y3)]⟩ s) ?_ ?_)
 refine A9<|D7 (Qb v1 x1 v2 x2 v3) (fun (x3:((List Pass)×Int)) (g6:Nat)=>⟨T [(2,(.ptr (2,u1) 0)),(5,(.ptr (5,u2) 0)),(6,(oS x3.1 (65,g6))),(7,(di x1.2)),(8,(di v2)),(9,(di x2.2)),(17,(dl A5 v1.lanes)),(18,(di (v1.lanes.length:Int))),(19,(di x1.2)),(25,(dl Dp p1.Zones)),(26,(di (p1.Zones.length:Int))),(27,(di x2.2)),(33,(dl Cs v3.Parts)),(34,(di (v3.Parts.length:Int))),(35,(di x3.2))],G [((2,u1),some<|.box 33 (K7 p1)),((5,u2),some<|.box 260 (Hv v1)),((65,g6),oB 229 4 Y0 x3.1)]⟩) (x2.1,0) g4 _ hy3 (D2 (X5 W)<|sg W<|sg W<|B7 (gq W) trivial) ?_
 intro x3 g6 z3 hz3 ez3
 unfold Qb at hz3
 refine B1<|sv W<|A1<|A4<|cc W hz3 (fun c3 hz3=> ?_)<|fun c3 hz3=> ?_
 refine A8<|A4<|A9<|B1<|sv W<|bs hz3 fun v4 hv4 hz3=>sd W (C5 W W hv4 W)<|sd W (C7 W hv4 W W)<|sm W<|sv W<|Q4 W G_hit (IK v4) W (A1<|B1<|sq W<|sl W G_hit W<|sv W<|sv W<|A1<|cc W hz3 (fun c4 hz3=> ?_)<|fun c4 hz3=> ?_)
 refine Fj W fun u14 _=>B9 (oS x3.1 (65,g6)) W W (sv W<|sv W<|sq W<|sl W (gq W) W (sv W<|bs hz3 fun v5 hv5 hz3=>sd W (C5 W W hv5 W)<|sd W (D1 W hv5 W)<|sq W<|sl W G_hit W<|sv W<|sq W<|sl W (gq W) W (sv W<|bs hz3 fun v6 hv6 hz3=>sd W (C5 W W hv6 W)<|sd W (D1 W hv6 W)<|sq W<|sl W G_hit W<|sv W<|sv W<|B9 (dl Y0 [(Pass.mk x2.2 x3.2 (C9 (v5+v4.From))<|C9 (v6+v4.To))]) W W (bs hz3 fun _ hv7 hz3=>O1 Y0 (65,g6) x3.1 (Pass.mk x2.2 x3.2 (C9 (v5+v4.From))<|C9 (v6+v4.To)) [] _ (M0<|fun _=>W) W (gq W) hv7 (ss W<|A1<|D4<|C1<|sv W<|sv W<|A1<|D6 ?_)))))
 cases hz3
 exact ⟨W,u14,(D2 ⟨.of W, .of W,(.of (S5<|T0 hv7).symm), .of W, .of W, .of W, .of W, .of W, .of W, .of W, .of W, .of W, .of W, .of W, .of W,trivial⟩<|sg W<|sg W<|L9 G_hit trivial)⟩
 refine A8<|D4<|C1<|sv W<|sv W<|A1<|D6 ?_
 cases hz3
 exact ⟨W,g6,(D2 (X5 W)<|sg W<|sg W<|B7 (gq W) trivial)⟩
 refine C6 W ?_
 cases hz3
 obtain rfl:=ez3 _ rfl
 refine ⟨nofun,C3 W<|T4 ?_⟩
 exact ⟨g6,(D2 (X5 W)<|B6 G_hit (.of W)<|sg W<|B7 (gq W) trivial)⟩
 rintro _ ⟨g5,q1⟩
 refine D4<|B5 q1<|C1<|sv W<|sv W<|A1<|D6 ?_
 cases hz2
 exact ⟨W,g5,(D2 (X5 W)<|B6 G_hit (.of W)<|sg W<|B7 (gq W) trivial)⟩
 refine C6 W ?_
 cases hz2
 obtain rfl:=ez2 _ rfl
 refine ⟨nofun,C3 W<|T4 ?_⟩
 exact ⟨g4,(D2 (X5 W)<|B6 G_hit (.of W)<|sg W<|B7 (gq W) trivial)⟩
 rintro _ ⟨g3,q2⟩
 refine D4<|B5 q2<|C1<|sv W<|sv W<|A1<|D6 ?_
 cases hz1
 exact ⟨W,g3,(D2 (X5 W)<|B6 G_hit (.of W)<|sg W<|B7 (gq W) trivial)⟩
 refine C6 W ?_
 cases hz1
 obtain rfl:=ez1 _ rfl
 refine ⟨nofun,C3 W<|T4 ?_⟩
 exact ⟨g2,(D2 ⟨.of W,trivial⟩<|B7 (gq W) trivial)⟩
 rintro _ ⟨g1,q3⟩
 refine B5 q3<|A4 ?_
 rcases MC h with ⟨e1,h⟩|⟨e1,h⟩
 refine B5 (s0:=⟨T [(6,(.d .nilS))],G []⟩) (D2 ⟨.of (cI e1),trivial⟩ trivial) ?_
 refine C1<|sv W<|bs h fun _ hv9 h=>GD (v:= .d (.tup [])) (us:= []) (jA [] _ W W A2 (Co _ hv9) W W) (A1<|B1<|sv W<|sv W<|A1<|B2 ?_)
 cases h
 exact A7 (.inr W) (B4 (B3 W) B8) DLe.nil
 refine B5 (s0:=⟨T [(6,(.sl (65,g1)))],G [((65,g1),some<|.arr 229 4 (List.map Y0 y1))]⟩) (D2 ⟨.of (S5 e1),trivial⟩<|B6 (My G_hit e1) (.of W) trivial) ?_
 refine C1<|ss W<|bs h fun v8 hv8 h=>GD (v:= .d (.tup [])) (us:= [(65,g1)]) (EI (Cn _ _ hv8) [(65,g1)] [(65,g1)] _ (((65,g1),some<|.arr 229 4 (List.map Y0 v8))::_) W Is (R4 FK<|R4 Xy Px) (Ah G_hit Eb) ⟨⟨_,G_hit, .of W⟩,trivial⟩ (fun _ h=>h) nd1 W W W) (A1<|B1<|ss W<|ss W<|A1<|B2 ?_)
 cases h
 exact A7 (.inr W) (B4 (B3 W)<|QC G_hit) (.refl _)
def Kq (p1:Pass)(p2:Int)(p3:WorldSpan):Option Bool:=
  some (((p1.Zone_==p2)&& (decide (p1.From≤p3.to)))&& (decide (p3.from_≤p1.To)))
theorem Vg(p1 p2 p3 r)(h:Kq p1 p2 p3=some r):PCall prog 247 [(.agg (Y0 p1)),(.bp [(i64 p2)] 0),(.bp [(i64 p3.from_),(i64 p3.to)] 0)] (bo r):=by
 refine C0 (fk func247 ntmps247 m0 (by with_unfolding_all rfl)) (nl W) ?_
 unfold Kq at h
 refine B5 (s0:=⟨T [(0,(.d _)),(1,(.d _)),(2,(.d _))],G []⟩) (E3 W W) ?_
 refine B1<|sm W<|sv W<|A1<|B1<|sq W<|sl W G_hit W<|sv W<|sv W<|sv W<|gp W (I8 W) (fun _=>W) (gt W (vl W G_hit W)<|gt W (fun _=>W) ?_)
 refine gt W (fun w4=>(by simp only [A3 w4];rfl)) ?_
 refine gt W (fun w5=>(L4 (A3 w5) (A3 w5) W))<|sa W W W<|sv W<|gt W (fun _=>W) ?_
 refine gt W (fun w7=>(by simp only [A3 w7];rfl)) ?_
 refine gp W (I8 W) (fun _=>W) (gt W (vl W G_hit W)<|gt W (fun w10=>(L4 (A3 w10) (A3 w10) W))<|sa W W W<|sv W<|A1<|B2 ?_)
 cases h
 exact A7 (.inr W) (B4 (B3 W) B8) (.refl _)
def P9 (p1:(List Pass))(p2:Int)(p3:WorldSpan)(x1:Int):Option (Stp Int (Sum Unit Int)):=
  cond (decide (x1< (p1.length:Int))) ((C8 p1 x1).bind fun v1=>(Kq v1 p2 p3).bind fun v2=>cond v2 (some (.out (.inr x1))) (some (.go (C9 (x1+1))))) (some (.out (.inl ())))
def J0 [Lp](p1:(List Pass))(p2:Int)(p3:WorldSpan):Option Int:=
  thenS (loop (P9 p1 p2 p3) 0) (fun _=>some (-1)) (fun r=>some r)
theorem Eh(p1 p2 p3 r)(h:J0 p1 p2 p3=some r):PCall prog 262 [(.list (List.map Y0 p1)),(.fn (.func 247) [] [(.bp [(i64 p2)] 0),(.bp [(i64 p3.from_),(i64 p3.to)] 0)])] (i64 r):=by
 refine C0 (fk func262 ntmps262 m0 (by with_unfolding_all rfl)) (nl W) ?_
 unfold J0 at h
 refine B5 (s0:=⟨T [(0,(.d _)),(1,(.d _))],G []⟩) (E3 W W) ?_
 refine B1<|sv W<|A1<|A4<|B1<|sv W<|sd W (D0 W)<|sv W<|A1<|js h fun z1 hz1 h=>D3 (fun s=> ∃(y1:Unit) (g1:Unit),z1= .inl y1∧Sb ⟨T [],G []⟩ s) ?_ ?_
 refine A9<|D7 (P9 p1 p2 p3) (fun (x1:Int) (g2:Unit)=>⟨T [(0,(dl Y0 p1)),(1,(.d (.fn (.func 247) [] [(.bp [(i64 p2)] 0),(.bp [(i64 p3.from_),(i64 p3.to)] 0)]))),(7,(di (p1.length:Int))),(8,(di x1))],G []⟩) 0 () _ hz1 (E3 W W) ?_
 intro x1 g2 z2 hz2 ez2
 unfold P9 at hz2
 refine B1<|sv W<|A1<|A4<|cc W hz2 (fun c1 hz2=> ?_)<|fun c1 hz2=> ?_
 refine A8<|A4<|A9<|B1<|sv W<|sv W<|A1<|B1<|sv W<|sv W<|sv W<|bs hz2 fun _ hv1 hz2=>sd W (C5 W W hv1 W)<|sd W (C7 W hv1 W W)<|bs hz2 fun _ hv2 hz2=>B0 W W A2 (Vg _ _ _ _ hv2) (.inl W) (A1<|cc W hz2 (fun c2 hz2=> ?_)<|fun c2 hz2=> ?_)
 refine B1<|sv W<|sv W<|A1<|B2 ?_
 cases hz2
 obtain rfl:=ez2 _ rfl
 refine ⟨nofun,E5 ?_⟩
 rw [bT]at h
 cases h
 exact A7 (.inr W) (B4 (B3 W) B8) (.refl _)
 refine A8<|D4<|C1<|sv W<|sv W<|A1<|D6 ?_
 cases hz2
 exact ⟨W,(),(E3 W W)⟩
 refine C6 W ?_
 cases hz2
 obtain rfl:=ez2 _ rfl
 refine ⟨nofun,C3 W<|T4 ?_⟩
 exact ⟨_,(),W,(E3 W W)⟩
 rintro _ ⟨y1,g1,rfl,q1⟩
 rw [bS]at h
 refine B5 q1<|B1<|sv W<|A1<|B2 ?_
 cases h
 exact A7 (.inr W) (B4 (B3 W) B8) (.refl _)
def H4 [Lp](p1:(List Pass))(p2:Int)(p3:WorldSpan):Option Bool:=
  (J0 p1 p2 p3).bind fun v1=>some (decide (v1≥0))
theorem Cu(p1 p2 p3 r)(h:H4 p1 p2 p3=some r):PCall prog 245 [(.list (List.map Y0 p1)),(.fn (.func 247) [] [(.bp [(i64 p2)] 0),(.bp [(i64 p3.from_),(i64 p3.to)] 0)])] (bo r):=by
 refine C0 (fk func245 ntmps245 m0 (by with_unfolding_all rfl)) (nl W) ?_
 unfold H4 at h
 refine B5 (s0:=⟨T [(0,(.d _)),(1,(.d _))],G []⟩) (E3 W W) ?_
 refine B1<|sv W<|A1<|B1<|sv W<|sv W<|bs h fun _ hv1 h=>B0 W W A2 (Eh _ _ _ _ hv1) (.inl W) (sv W<|sv W<|A1<|B2 ?_)
 cases h
 exact A7 (.inr W) (B4 (B3 W) B8) (.refl _)
def Ib [Lp](p1:Map)(p2:Agent)(p3:Agent)(p4:Int):Option Bool:=
  (Oc p2).bind fun v1=>((cond (!(!v1)) (Oc p3) (some default))).bind fun v2=>cond ((!v1)||(!v2)) (some false) ((Es p2).bind fun v3=>(Jv p1 p2.Route).bind fun v4=>(H4 v4 p4 (WorldSpan.mk v3.from_ p3.S)).bind fun v5=>some v5)
theorem EN(p1 p2 p3 p4 r)(h:Ib p1 p2 p3 p4=some r):PCall prog 218 [(.agg (O8 p1)),(.agg (E4 p2)),(.agg (E4 p3)),(i64 p4)] (bo r):=by
 refine C0 (fk func218 ntmps218 m0 (by with_unfolding_all rfl)) (nl W) ?_
 unfold Ib at h
 refine B5 (s0:=⟨T [(0,(.d _)),(1,(.d _)),(2,(.d _)),(3,(.d _))],G []⟩) (E3 W W) ?_
 refine B1<|sm W<|sn W W<|sm W<|sn W W<|sv W<|A1<|A4<|B1<|sd W (A6 W (gq W) W W)<|bs h fun v1 hv1 h=>B0 W W A2 (Tq _ _ hv1) (.inl W) (B9 (.d (bo (!v1))) W W (sv W<|gf W (fun _=>(A6 W (gq W) W W))<|bs h fun v2 hv2 h=> ?_))
 refine I9 _ (bo v2) (H8 W) (fun w2=>⟨_,[(.d (.agg (E4 p3)))],_,_,(by simp only [A3 w2];rfl),W,A2,Tq _ _<|C2 w2 hv2,(.inl W)⟩) ?_
 refine M5 _ (.d (bo (!v2))) W (H8 W) (fun w3=>(by simp only [A3 w3];rfl)) ?_
 refine sd W (L8 W W<|fun hc=>A3<|G0 hc)<|A1<|cc W h (fun c1 h=> ?_)<|fun c1 h=> ?_
 refine B1<|sv W<|A1<|B2 ?_
 cases h
 exact A7 (.inr W) (B4 (B3 W) B8) (.refl _)
 refine A8<|A4<|D5 W<|sd W (A6 W (gq W) W W)<|bs h fun v3 hv3 h=>B0 W W A2 (Hz _ _ hv3) (.inl W) (sv W<|sq W<|sl W (gq W) W (sv W<|sm W<|Q4 W G_hit [(di v3.from_),(di p3.S)] W (A1<|B1<|sd W (A6 W (gq W) W W)<|sq W<|sl W (gq W) W (bs h fun _ hv4 h=>B0 W W A2 (GK _ _ _ hv4) (.inl W) (B9 (.fn _ _ _) W W (bs h fun _ hv5 h=>B0 W (rD<|E0 (Zu F0<|E0 (Ab (gq W)<|rD F0)<|E0 (Ab G_hit<|rD<|rD F0) F0) F0) A2 (Cu _ _ _ _ hv5) (.inr W) (sv W<|A1<|B2 ?_)))))))
 cases h
 exact A7 (.inr W) (B4 (B3 W) B8) (.refl _)
def O0 [Lp](p1:WorldScene)(p2:Int)(p3:Int):Option Bool:=
  (Ce p1.before p2).bind fun v1=>((cond v1 (C8 p1.before.Agents p2) (some default))).bind fun v2=>((cond v1 (C8 p1.after.Agents p2) (some default))).bind fun v3=>((cond v1 (Ib p1.m v2 v3 p3) (some default))).bind fun v4=>some (v1&&v4)
theorem Av(p1 p2 p3 r)(h:O0 p1 p2 p3=some r):PCall prog 171 [(.bp (Ph p1) 0),(i64 p2),(i64 p3)] (bo r):=by
 refine C0 (fk func171 ntmps171 m0 (by with_unfolding_all rfl)) (nl W) ?_
 unfold O0 at h
 refine B5 (s0:=⟨T [(0,(.d _)),(1,(.d _)),(2,(.d _))],G []⟩) (E3 W W) ?_
 refine B1<|sv W<|A1<|A4<|D5 W<|sv W<|sv W<|sv W<|sv W<|sv W<|bs h fun v1 hv1 h=>B0 W W A2 (Fo _ _ _ hv1) (.inl W) (sv W<|gt W (fun _=>W) ?_)
 refine gt W (fun w2=>(by simp only [A3 w2];rfl)) ?_
 refine gt W (fun w3=>(by simp only [A3 w3];rfl)) ?_
 refine gt W (fun w4=>(by simp only [A3 w4];rfl)) ?_
 refine gt W (fun _=>W) ?_
 refine gt W (fun w6=>(by simp only [A3 w6];rfl)) ?_
 refine gt W (fun w7=>(by simp only [A3 w7];rfl)) ?_
 refine gt W (fun w8=>(by simp only [A3 w8];rfl)) ?_
 refine gt W (fun w9=>(by simp only [A3 w9];rfl)) ?_
 refine gt W (fun _=>W)<|bs h fun v2 hv2 h=>gt W (fun w11=>(C5 (A3 w11) (A3 w11) (C2 w11 hv2) W))<|gt W (fun w12=>(C7 (A3 w12) (C2 w12 hv2) W W))<|gt W (fun _=>W) ?_
 refine gt W (fun w14=>(by simp only [A3 w14];rfl)) ?_
 refine gt W (fun w15=>(by simp only [A3 w15];rfl)) ?_
 refine gt W (fun w16=>(by simp only [A3 w16];rfl)) ?_
 refine gt W (fun w17=>(by simp only [A3 w17];rfl)) ?_
 refine gt W (fun _=>W)<|bs h fun v3 hv3 h=>gt W (fun w19=>(C5 (A3 w19) (A3 w19) (C2 w19 hv3) W))<|gt W (fun w20=>(C7 (A3 w20) (C2 w20 hv3) W W))<|gt W (fun _=>W)<|bs h fun v4 hv4 h=> ?_
 refine I9 v1 (bo v4) (I8 W) (fun w22=>⟨_,[(.d (.agg (O8 p1.m))),(.d (.agg (E4 v2))),(.d (.agg (E4 v3))),(di p3)],_,_,(by simp only [A3 w22];rfl),W,A2,EN _ _ _ _ _<|C2 w22 hv4,(.inl W)⟩) ?_
 refine sa W W W<|sv W<|A1<|B2 ?_
 cases h
 exact A7 (.inr W) (B4 (B3 W) B8) (.refl _)
def F9 [Lp](p1:(List Stay))(p2:Stay)(x1:(Int×Int)):Option (Stp (Int×Int) Int):=
  cond (decide (x1.1<x1.2)) ((C8 p1 (C9 ((IntKind.wrap .u64 (C9 (x1.1+x1.2))).fdiv (2^ (min (1:Int).toNat (IntKind.bits .u64)))))).bind fun v1=>(Cd v1 p2).bind fun v2=>cond (decide (v2<0)) (some (.go ((C9 ((C9 ((IntKind.wrap .u64 (C9 (x1.1+x1.2))).fdiv (2^ (min (1:Int).toNat (IntKind.bits .u64)))))+1)),x1.2))) (some (.go (x1.1,(C9 ((IntKind.wrap .u64 (C9 (x1.1+x1.2))).fdiv (2^ (min (1:Int).toNat (IntKind.bits .u64))))))))) (some (.out x1.1))
def E6 [Lp](p1:(List Stay))(p2:Stay):Option (Int×Bool):=
  (loop (F9 p1 p2) (0,(p1.length:Int))).bind fun y1=>((cond (decide (y1< (p1.length:Int))) (C8 p1 y1) (some default))).bind fun v3=>((cond (decide (y1< (p1.length:Int))) (Cd v3 p2) (some default))).bind fun v4=>some (y1,((decide (y1< (p1.length:Int)))&& (v4==0)))
theorem N3(p1 p2 r)(h:E6 p1 p2=some r):PCall prog 172 [(.list (List.map J5 p1)),(.agg (J5 p2)),(.fn (.func 73) [] [])] (.tup [(i64 r.1),(bo r.2)]):=by
 refine C0 (fk func172 ntmps172 m0 (by with_unfolding_all rfl)) (nl W) ?_
 unfold E6 at h
 refine B5 (s0:=⟨T [(0,(.d _)),(1,(.d _)),(2,(.d _))],G []⟩) (E3 W W) ?_
 refine lr<|fun u1 _=>sm W<|sv W<|sv W<|A1<|B1<|sv W<|sd W (D0 W)<|sv W<|A1<|B1<|sv W<|sv W<|sv W<|A1<|A4<|bs h fun y1 hy1 h=>D3 (fun s=> ∃g1:Unit,Sb ⟨T [(0,(dl J5 p1)),(2,(.d (.fn (.func 73) [] []))),(4,(.ptr (4,u1) 0)),(8,(di (p1.length:Int))),(9,(di y1))],G [((4,u1),some<|.box 127 (Vx p2))]⟩ s) ?_ ?_
 refine A9<|D7 (F9 p1 p2) (fun (x1:(Int×Int)) (g2:Unit)=>⟨T [(0,(dl J5 p1)),(2,(.d (.fn (.func 73) [] []))),(4,(.ptr (4,u1) 0)),(8,(di (p1.length:Int))),(9,(di x1.1)),(10,(di x1.2))],G [((4,u1),some<|.box 127 (Vx p2))]⟩) (0,(p1.length:Int)) () _ hy1 (E3 W W) ?_
 intro x1 g2 z1 hz1 ez1
 unfold F9 at hz1
 refine A4<|B1<|sv W<|sv W<|sv W<|A1<|cc W hz1 (fun c1 hz1=> ?_)<|fun c1 hz1=> ?_
 refine A8<|A9<|B1<|sv W<|sv W<|sv W<|sv W<|sv W<|sv W<|sv W<|A1<|A4<|D5 W<|sv W<|sv W<|sv W<|bs hz1 fun _ hv1 hz1=>sd W (C5 W W hv1 W)<|sd W (C7 W hv1 W W)<|sd W (A6 W G_hit W W)<|bs hz1 fun _ hv2 hz1=>B0 W W A2 (Rx _ _ _ hv2) (.inl W) (sv W<|A1<|cc W hz1 (fun c2 hz1=> ?_)<|fun c2 hz1=> ?_)
 refine C1<|sv W<|sv W<|sv W<|A1<|D4<|D6 ?_
 cases hz1
 exact ⟨W,(),(E3 W W)⟩
 refine C1<|sv W<|sv W<|A1<|D4<|D6 ?_
 cases hz1
 exact ⟨W,(),(E3 W W)⟩
 refine C6 W ?_
 cases hz1
 obtain rfl:=ez1 _ rfl
 refine ⟨nofun,C3 W<|T4 ?_⟩
 exact ⟨(),(E3 W W)⟩
 rintro _ ⟨g1,q1⟩
 refine B5 q1<|A4<|D5 W<|sv W<|sv W<|sv W<|sv W<|sv W<|gt W (fun _=>W)<|gt W (fun _=>W)<|gt W (fun _=>W)<|bs h fun v3 hv3 h=>gt W (fun w4=>(C5 (A3 w4) (A3 w4) (C2 w4 hv3) W))<|gt W (fun w5=>(C7 (A3 w5) (C2 w5 hv3) W W))<|gt W (fun _=>(A6 W G_hit W W))<|bs h fun v4 hv4 h=> ?_
 refine I9 _ (i64 v4) (I8 W) (fun w7=>⟨_,[(.d (.agg (J5 v3))),(.d (.agg (J5 p2)))],_,_,(by simp only [A3 w7];rfl),W,A2,Rx _ _ _<|C2 w7 hv4,(.inl W)⟩) ?_
 refine gt W (vb W W W)<|sa W W W<|sv W<|sv W<|A1<|B2 ?_
 cases h
 exact A7 (.inr W) (Iz (B3 W) (B3 W) B8 B8) (.refl _)
def Ry (p1:Part)(p2:Int):Option Bool:=
  some (p1.Lane_==p2)
theorem DB(p1 p2 r)(h:Ry p1 p2=some r):PCall prog 265 [(.agg (Cs p1)),(.bp [(i64 p2)] 0)] (bo r):=by
 refine C0 (fk func265 ntmps265 m0 (by with_unfolding_all rfl)) (nl W) ?_
 unfold Ry at h
 refine B5 (s0:=⟨T [(0,(.d _)),(1,(.d _))],G []⟩) (E3 W W) ?_
 refine B1<|sm W<|sv W<|A1<|B1<|sq W<|sl W G_hit W<|sv W<|sv W<|sv W<|A1<|B2 ?_
 cases h
 exact A7 (.inr W) (B4 (B3 W) B8) (.refl _)
def R7 (p1:(List Part))(p2:Int)(x1:Int):Option (Stp Int (Sum Unit Int)):=
  cond (decide (x1< (p1.length:Int))) ((C8 p1 x1).bind fun v1=>(Ry v1 p2).bind fun v2=>cond v2 (some (.out (.inr x1))) (some (.go (C9 (x1+1))))) (some (.out (.inl ())))
def K3 [Lp](p1:(List Part))(p2:Int):Option Int:=
  thenS (loop (R7 p1 p2) 0) (fun _=>some (-1)) (fun r=>some r)
theorem Gf(p1 p2 r)(h:K3 p1 p2=some r):PCall prog 220 [(.list (List.map Cs p1)),(.fn (.func 265) [] [(.bp [(i64 p2)] 0)])] (i64 r):=by
 refine C0 (fk func220 ntmps220 m0 (by with_unfolding_all rfl)) (nl W) ?_
 unfold K3 at h
 refine B5 (s0:=⟨T [(0,(.d _)),(1,(.d _))],G []⟩) (E3 W W) ?_
 refine B1<|sv W<|A1<|A4<|B1<|sv W<|sd W (D0 W)<|sv W<|A1<|js h fun z1 hz1 h=>D3 (fun s=> ∃(y1:Unit) (g1:Unit),z1= .inl y1∧Sb ⟨T [],G []⟩ s) ?_ ?_
 refine A9<|D7 (R7 p1 p2) (fun (x1:Int) (g2:Unit)=>⟨T [(0,(dl Cs p1)),(1,(.d (.fn (.func 265) [] [(.bp [(i64 p2)] 0)]))),(7,(di (p1.length:Int))),(8,(di x1))],G []⟩) 0 () _ hz1 (E3 W W) ?_
 intro x1 g2 z2 hz2 ez2
 unfold R7 at hz2
 refine B1<|sv W<|A1<|A4<|cc W hz2 (fun c1 hz2=> ?_)<|fun c1 hz2=> ?_
 refine A8<|A4<|A9<|B1<|sv W<|sv W<|A1<|B1<|sv W<|sv W<|sv W<|bs hz2 fun _ hv1 hz2=>sd W (C5 W W hv1 W)<|sd W (C7 W hv1 W W)<|bs hz2 fun _ hv2 hz2=>B0 W W A2 (DB _ _ _ hv2) (.inl W) (A1<|cc W hz2 (fun c2 hz2=> ?_)<|fun c2 hz2=> ?_)
 refine B1<|sv W<|sv W<|A1<|B2 ?_
 cases hz2
 obtain rfl:=ez2 _ rfl
 refine ⟨nofun,E5 ?_⟩
 rw [bT]at h
 cases h
 exact A7 (.inr W) (B4 (B3 W) B8) (.refl _)
 refine A8<|D4<|C1<|sv W<|sv W<|A1<|D6 ?_
 cases hz2
 exact ⟨W,(),(E3 W W)⟩
 refine C6 W ?_
 cases hz2
 obtain rfl:=ez2 _ rfl
 refine ⟨nofun,C3 W<|T4 ?_⟩
 exact ⟨_,(),W,(E3 W W)⟩
 rintro _ ⟨y1,g1,rfl,q1⟩
 rw [bS]at h
 refine B5 q1<|B1<|sv W<|A1<|B2 ?_
 cases h
 exact A7 (.inr W) (B4 (B3 W) B8) (.refl _)
def Od [Lp](p1:Zone)(p2:Int):Option (Part×Bool):=
  (K3 p1.Parts p2).bind fun v1=>cond (decide (v1<0)) (some ((Part.mk 0 0 0 0),false)) ((C8 p1.Parts v1).bind fun v2=>some (v2,true))
theorem KO(p1 p2 r)(h:Od p1 p2=some r):PCall prog 251 [(.agg [(.list (List.map Cs p1.Parts)),(i64 p1.Signal_)]),(i64 p2)] (.tup [(.agg (Cs r.1)),(bo r.2)]):=by
 refine C0 (fk func251 ntmps251 m0 (by with_unfolding_all rfl)) (nl W) ?_
 unfold Od at h
 refine B5 (s0:=⟨T [(0,(.d _)),(1,(.d _))],G []⟩) (E3 W W) ?_
 refine B1<|sm W<|sn W W<|sm W<|sv W<|A1<|B1<|sq W<|sl W (gq W) W (B9 (.fn _ _ _) W W (bs h fun _ hv1 h=>B0 W (rD<|E0 (Zu F0<|E0 (Ab (gq W)<|rD F0) F0) F0) A2 (Gf _ _ _ hv1) (.inr W) (sv W<|A1<|A4<|B1<|sv W<|sv W<|A1<|cc W h (fun c1 h=> ?_)<|fun c1 h=> ?_)))
 refine B1<|sv W<|Q4 W G_hit (zs 4) W (sv W<|A1<|B2 ?_)
 cases h
 exact A7 (.inr W) (Iz (G5 W G_hit (nl W) W) (B3 W) B8 B8) (.refl _)
 refine A8<|B1<|sq W<|sl W (gq W) W (sv W<|bs h fun v2 hv2 h=>sd W (C5 W W hv2 W)<|sd W (C7 W hv2 W W)<|Q4 W G_hit (IK v2) W (sv W<|A1<|B2 ?_))
 cases h
 exact A7 (.inr W) (Iz (G5 W G_hit (nl W) W) (B3 W) B8 B8) (.refl _)
def Bh [Lp](p1:Int)(p2:Map)(p3:Int):Option Bool:=
  (C8 p2.Zones p3).bind fun v1=>(Od v1 p1).bind fun v2=>some v2.2
theorem Yh(p1 p2 p3 r)(h:Bh p1 p2 p3=some r):PCall prog 250 [(i64 p1),(.bp (O8 p2) 0),(.bp [(i64 p3)] 0)] (bo r):=by
 refine C0 (fk func250 ntmps250 m0 (by with_unfolding_all rfl)) (nl W) ?_
 unfold Bh at h
 refine B5 (s0:=⟨T [(0,(.d _)),(1,(.d _)),(2,(.d _))],G []⟩) (E3 W W) ?_
 refine B1<|sv W<|A1<|B1<|sv W<|sv W<|sv W<|bs h fun _ hv1 h=>sd W (C5 W W hv1 W)<|sd W (C7 W hv1 W W)<|sv W<|bs h fun v2 hv2 h=>B0 W W A2 (KO _ _ _ hv2) (.inl W) (sv W<|sv W<|sv W<|sm W<|Q4 W G_hit (IK v2.1) W (sv W<|A1<|B1<|sv W<|sv W<|A1<|B2 ?_))
 cases h
 exact A7 (.inr W) (B4 (B3 W) B8) (.refl _)
def J4 [Lp](p1:(List Int))(p2:Map)(p3:Int)(x1:Int):Option (Stp Int (Sum Unit Int)):=
  cond (decide (x1< (p1.length:Int))) ((C8 p1 x1).bind fun v1=>(Bh v1 p2 p3).bind fun v2=>cond v2 (some (.out (.inr x1))) (some (.go (C9 (x1+1))))) (some (.out (.inl ())))
def K4 [Lp](p1:(List Int))(p2:Map)(p3:Int):Option Int:=
  thenS (loop (J4 p1 p2 p3) 0) (fun _=>some (-1)) (fun r=>some r)
theorem Gg(p1 p2 p3 r)(h:K4 p1 p2 p3=some r):PCall prog 249 [(.list (List.map A5 p1)),(.fn (.func 250) [] [(.bp (O8 p2) 0),(.bp [(i64 p3)] 0)])] (i64 r):=by
 refine C0 (fk func249 ntmps249 m0 (by with_unfolding_all rfl)) (nl W) ?_
 unfold K4 at h
 refine B5 (s0:=⟨T [(0,(.d _)),(1,(.d _))],G []⟩) (E3 W W) ?_
 refine B1<|sv W<|A1<|A4<|B1<|sv W<|sd W (D0 W)<|sv W<|A1<|js h fun z1 hz1 h=>D3 (fun s=> ∃(y1:Unit) (g1:Unit),z1= .inl y1∧Sb ⟨T [],G []⟩ s) ?_ ?_
 refine A9<|D7 (J4 p1 p2 p3) (fun (x1:Int) (g2:Unit)=>⟨T [(0,(dl A5 p1)),(1,(.d (.fn (.func 250) [] [(.bp (O8 p2) 0),(.bp [(i64 p3)] 0)]))),(7,(di (p1.length:Int))),(8,(di x1))],G []⟩) 0 () _ hz1 (E3 W W) ?_
 intro x1 g2 z2 hz2 ez2
 unfold J4 at hz2
 refine B1<|sv W<|A1<|A4<|cc W hz2 (fun c1 hz2=> ?_)<|fun c1 hz2=> ?_
 refine A8<|A4<|A9<|B1<|sv W<|sv W<|A1<|B1<|sv W<|sv W<|sv W<|bs hz2 fun _ hv1 hz2=>sd W (C5 W W hv1 W)<|sd W (D1 W hv1 W)<|bs hz2 fun _ hv2 hz2=>B0 W W A2 (Yh _ _ _ _ hv2) (.inl W) (A1<|cc W hz2 (fun c2 hz2=> ?_)<|fun c2 hz2=> ?_)
 refine B1<|sv W<|sv W<|A1<|B2 ?_
 cases hz2
 obtain rfl:=ez2 _ rfl
 refine ⟨nofun,E5 ?_⟩
 rw [bT]at h
 cases h
 exact A7 (.inr W) (B4 (B3 W) B8) (.refl _)
 refine A8<|D4<|C1<|sv W<|sv W<|A1<|D6 ?_
 cases hz2
 exact ⟨W,(),(E3 W W)⟩
 refine C6 W ?_
 cases hz2
 obtain rfl:=ez2 _ rfl
 refine ⟨nofun,C3 W<|T4 ?_⟩
 exact ⟨_,(),W,(E3 W W)⟩
 rintro _ ⟨y1,g1,rfl,q1⟩
 rw [bS]at h
 refine B5 q1<|B1<|sv W<|A1<|B2 ?_
 cases h
 exact A7 (.inr W) (B4 (B3 W) B8) (.refl _)
def Mj [Lp](p1:Map)(p2:(List Int))(p3:Int):Option Int:=
  (X6 p1 p2).bind fun v1=>cond ((decide (p3<0))||(decide (p3≥(p1.Zones.length:Int)))) (some (-1)) ((K4 v1.lanes p1 p3).bind fun v2=>some v2)
theorem IO(p1 p2 p3 r)(h:Mj p1 p2 p3=some r):PCall prog 222 [(.agg (O8 p1)),(.list (List.map A5 p2)),(i64 p3)] (i64 r):=by
 refine C0 (fk func222 ntmps222 m0 (by with_unfolding_all rfl)) (nl W) ?_
 unfold Mj at h
 refine B5 (s0:=⟨T [(0,(.d _)),(1,(.d _)),(2,(.d _))],G []⟩) (E3 W W) ?_
 refine B1<|sm W<|sn W W<|sv W<|A1<|B1<|sd W (A6 W (gq W) W W)<|sv W<|bs h fun v1 hv1 h=>B0 W W A2 (Hl _ _ _ hv1) (.inl W) (sm W<|Q4 W G_hit (Hv v1) W (A1<|A4<|B1<|sl W (gq W) W (sv W<|sv W<|gf W (fun _=>(N8 W (gq W) W))<|gp W (H8 W) (fun _=>W) (gf W (vl W (gq W) W)<|gf W (fun w4=>(D0<|A3 w4))<|gf W (fun w5=>(L4 (A3 w5) (A3 w5) W))<|sd W (L8 W W<|fun hc=>A3<|G0 hc)<|A1<|cc W h (fun c1 h=> ?_)<|fun c1 h=> ?_))))
 refine B1<|sv W<|A1<|B2 ?_
 cases h
 exact A7 (.inr W) (B4 (B3 W) B8) (.refl _)
 refine A8<|B1<|sq W<|sl W G_hit W<|B9 (.fn _ _ _) W W (bs h fun _ hv2 h=>B0 W (rD<|E0 (Zu F0<|E0 (Ab (gq W)<|rD<|rD<|rD<|rD<|rD F0)<|E0 (Ab (gq W)<|rD F0) F0) F0) A2 (Gg _ _ _ _ hv2) (.inr W) (sv W<|A1<|B2 ?_))
 cases h
 exact A7 (.inr W) (B4 (B3 W) B8) (.refl _)
def Gk [Lp](p1:Map)(p2:(List Int))(p3:Int):Option Int:=
  (Mj p1 p2 p3).bind fun v1=>cond (decide (v1≥0)) ((C8 p2 v1).bind fun v2=>some v2) (some (-1))
theorem Rz(p1 p2 p3 r)(h:Gk p1 p2 p3=some r):PCall prog 175 [(.agg (O8 p1)),(.list (List.map A5 p2)),(i64 p3)] (i64 r):=by
 refine C0 (fk func175 ntmps175 m0 (by with_unfolding_all rfl)) (nl W) ?_
 unfold Gk at h
 refine B5 (s0:=⟨T [(0,(.d _)),(1,(.d _)),(2,(.d _))],G []⟩) (E3 W W) ?_
 refine B1<|sm W<|sv W<|A1<|A4<|B1<|sd W (A6 W G_hit W W)<|sv W<|sv W<|bs h fun _ hv1 h=>B0 W W A2 (IO _ _ _ _ hv1) (.inl W) (sv W<|A1<|B1<|sv W<|sv W<|A1<|cc W h (fun c1 h=> ?_)<|fun c1 h=> ?_)
 refine B1<|sv W<|sv W<|bs h fun _ hv2 h=>sd W (C5 W W hv2 W)<|sd W (D1 W hv2 W)<|sv W<|A1<|B2 ?_
 cases h
 exact A7 (.inr W) (B4 (B3 W) B8) (.refl _)
 refine A8<|B1<|sv W<|A1<|B2 ?_
 cases h
 exact A7 (.inr W) (B4 (B3 W) B8) (.refl _)
def La [Lp](p1:Map)(p2:Int):Option Bool:=
  ((cond ((decide (p2≥0))&& (decide (p2< (p1.Lanes.length:Int)))) (Az p1) (some default))).bind fun v1=>some (((decide (p2≥0))&& (decide (p2< (p1.Lanes.length:Int))))&& (v1==0))
theorem Yi(p1 p2 r)(h:La p1 p2=some r):PCall prog 206 [(.agg (O8 p1)),(i64 p2)] (bo r):=by
 refine C0 (fk func206 ntmps206 m0 (by with_unfolding_all rfl)) (nl W) ?_
 unfold La at h
 refine B5 (s0:=⟨T [(0,(.d _)),(1,(.d _))],G []⟩) (E3 W W) ?_
 refine B1<|sm W<|sv W<|A1<|B1<|sv W<|sv W<|sv W<|gt W (fun _=>W)<|gp W (I8 W) (fun _=>W) (gt W (vl W G_hit W)<|gt W (fun w4=>(D0<|A3 w4))<|gt W (fun w5=>(L4 (A3 w5) (A3 w5) W))<|sa W W W<|sv W<|gt W (fun _=>(A6 W G_hit W W))<|bs h fun v1 hv1 h=> ?_)
 refine I9 _ (i64 v1) (I8 W) (fun w7=>⟨_,[(.d (.agg (O8 p1)))],_,_,(by simp only [A3 w7];rfl),W,A2,Rw _ _<|C2 w7 hv1,(.inl W)⟩) ?_
 refine gt W (vb W W W)<|sa W W W<|sv W<|A1<|B2 ?_
 cases h
 exact A7 (.inr W) (B4 (B3 W) B8) (.refl _)
def Fq [Lp](p1:Signal)(p2:Int)(x2:(Int×Int)):Option (Stp (Int×Int) (Sum Unit Bool)):=
  cond (decide (x2.2< (p1.Phases.length:Int))) ((C8 p1.Phases x2.2).bind fun v5=>cond (decide (x2.1≥v5.Ticks)) (some (.go ((C9 (x2.1 - v5.Ticks)),(C9 (x2.2+1))))) ((M2 v5.Green p2).bind fun v6=>some (.out (.inr v6)))) (some (.out (.inl ())))
def Sa (p1:Signal)(x1:(Int×Int)):Option (Stp (Int×Int) Int):=
  cond (decide (x1.2< (p1.Phases.length:Int))) ((C8 p1.Phases x1.2).bind fun v1=>some (.go ((C9 (x1.1+v1.Ticks)),(C9 (x1.2+1))))) (some (.out x1.1))
def Jc [Lp](p1:Signal)(p2:Int)(p3:Int):Option Bool:=
  (loop (Sa p1) (0,0)).bind fun y1=>(Xr p1.Offset y1).bind fun v2=>(Xr p3 y1).bind fun v3=>(Xr (C9 (v2+v3)) y1).bind fun v4=>thenS (loop (Fq p1 p2) (v4,0)) (fun _=>some false) (fun r=>some r)
theorem Yj(p1 p2 p3 r)(h:Jc p1 p2 p3=some r):PCall prog 248 [(.agg [(i64 p1.Offset),(.list (List.map Dq p1.Phases))]),(i64 p2),(i64 p3)] (bo r):=by
 refine C0 (fk func248 ntmps248 m0 (by with_unfolding_all rfl)) (nl W) ?_
 unfold Jc at h
 refine B5 (s0:=⟨T [(0,(.d _)),(1,(.d _)),(2,(.d _))],G []⟩) (E3 W W) ?_
 refine lr<|fun u1 _=>sm W<|sv W<|A1<|fE<|B1<|sv W<|A1<|A4<|B1<|sq W<|sl W G_hit W<|sd W (D0 W)<|sv W<|A1<|bs h fun y1 hy1 h=>D3 (fun s=> ∃g1:Unit,Sb ⟨T [(1,(di p2)),(2,(di p3)),(3,(.ptr (3,u1) 0)),(7,(di y1))],G [((3,u1),some<|.box 120 [(di p1.Offset),(dl Dq p1.Phases)])]⟩ s) ?_ ?_
 refine A9<|D7 (Sa p1) (fun (x1:(Int×Int)) (g2:Unit)=>⟨T [(1,(di p2)),(2,(di p3)),(3,(.ptr (3,u1) 0)),(7,(di x1.1)),(14,(dl Dq p1.Phases)),(15,(di (p1.Phases.length:Int))),(16,(di x1.2))],G [((3,u1),some<|.box 120 [(di p1.Offset),(dl Dq p1.Phases)])]⟩) (0,0) () _ hy1 (E3 W W) ?_
 intro x1 g2 z1 hz1 ez1
 unfold Sa at hz1
 refine B1<|sv W<|A1<|A4<|cc W hz1 (fun c1 hz1=> ?_)<|fun c1 hz1=> ?_
 refine A8<|A4<|A9<|B1<|bs hz1 fun v1 hv1 hz1=>sd W (C5 W W hv1 W)<|sd W (C7 W hv1 W W)<|sm W<|Q4 W G_hit [(di v1.Ticks),(dl A5 v1.Green)] W (A1<|C1<|sv W<|sq W<|sl W G_hit W<|sv W<|sv W<|A1<|D4<|C1<|sv W<|sv W<|A1<|D6 ?_)
 cases hz1
 exact ⟨W,(),(E3 W W)⟩
 refine C6 W ?_
 cases hz1
 obtain rfl:=ez1 _ rfl
 refine ⟨nofun,C3 W<|T4 ?_⟩
 exact ⟨(),(E3 W W)⟩
 rintro _ ⟨g1,q1⟩
 refine B5 q1<|A4<|D5 W<|sq W<|sl W G_hit W<|sv W<|bs h fun _ hv2 h=>sd W (CP W W hv2)<|sv W<|sv W<|bs h fun _ hv3 h=>sd W (CP W W hv3)<|sv W<|sv W<|bs h fun v4 hv4 h=>sd W (CP W W hv4)<|sv W<|A1<|A4<|A8<|A4<|B1<|sq W<|sl W G_hit W<|sd W (D0 W)<|sv W<|A1<|js h fun z2 hz2 h=>D3 (fun s=> ∃(y2:Unit) (g3:Unit),z2= .inl y2∧Sb ⟨T [],G []⟩ s) ?_ ?_
 refine A9<|D7 (Fq p1 p2) (fun (x2:(Int×Int)) (g4:Unit)=>⟨T [(1,(di p2)),(10,(di x2.1)),(36,(dl Dq p1.Phases)),(37,(di (p1.Phases.length:Int))),(38,(di x2.2))],G []⟩) (v4,0) () _ hz2 (E3 W W) ?_
 intro x2 g4 z3 hz3 ez3
 unfold Fq at hz3
 refine B1<|sv W<|A1<|A4<|cc W hz3 (fun c2 hz3=> ?_)<|fun c2 hz3=> ?_
 refine A8<|A4<|A9<|B1<|bs hz3 fun v5 hv5 hz3=>sd W (C5 W W hv5 W)<|sd W (C7 W hv5 W W)<|sm W<|Q4 W G_hit [(di v5.Ticks),(dl A5 v5.Green)] W (A1<|A4<|B1<|sv W<|sq W<|sl W G_hit W<|sv W<|A1<|cc W hz3 (fun c3 hz3=> ?_)<|fun c3 hz3=> ?_)
 refine B1<|sv W<|sq W<|sl W G_hit W<|sv W<|sv W<|A1<|Mx W<|C1<|sv W<|sv W<|A1<|D6 ?_
 cases hz3
 exact ⟨W,(),(E3 W W)⟩
 refine A8<|B1<|sq W<|sl W G_hit W<|sv W<|bs hz3 fun _ hv6 hz3=>B0 W W A2 (Ct _ _ _ hv6) (.inl W) (sv W<|A1<|B2 ?_)
 cases hz3
 obtain rfl:=ez3 _ rfl
 refine ⟨nofun,E5 ?_⟩
 rw [bT]at h
 cases h
 exact A7 (.inr W) (B4 (B3 W) B8) (.refl _)
 refine C6 W ?_
 cases hz3
 obtain rfl:=ez3 _ rfl
 refine ⟨nofun,C3 W<|T4 ?_⟩
 exact ⟨_,(),W,(E3 W W)⟩
 rintro _ ⟨y2,g3,rfl,q2⟩
 rw [bS]at h
 refine B5 q2<|B1<|sv W<|A1<|B2 ?_
 cases h
 exact A7 (.inr W) (B4 (B3 W) B8) (.refl _)
def Mk [Lp](p1:Map)(p2:Int)(p3:Int)(p4:Int):Option Bool:=
  ((cond (((decide (p4≥0))&& (decide (p2≥0)))&& (decide (p2< (p1.Signals.length:Int)))) (La p1 p3) (some default))).bind fun v1=>((cond ((((decide (p4≥0))&& (decide (p2≥0)))&& (decide (p2< (p1.Signals.length:Int))))&&v1) (C8 p1.Signals p2) (some default))).bind fun v2=>((cond ((((decide (p4≥0))&& (decide (p2≥0)))&& (decide (p2< (p1.Signals.length:Int))))&&v1) (Jc v2 p3 p4) (some default))).bind fun v3=>some (((((decide (p4≥0))&& (decide (p2≥0)))&& (decide (p2< (p1.Signals.length:Int))))&&v1)&&v3)
theorem IP(p1 p2 p3 p4 r)(h:Mk p1 p2 p3 p4=some r):PCall prog 219 [(.agg (O8 p1)),(i64 p2),(i64 p3),(i64 p4)] (bo r):=by
 refine C0 (fk func219 ntmps219 m0 (by with_unfolding_all rfl)) (nl W) ?_
 unfold Mk at h
 refine B5 (s0:=⟨T [(0,(.d _)),(1,(.d _)),(2,(.d _)),(3,(.d _))],G []⟩) (E3 W W) ?_
 refine B1<|sm W<|sv W<|A1<|B1<|sv W<|sv W<|sv W<|gt W (fun _=>W)<|gt W (vb W W W)<|sa W W W<|sv W<|gt W (fun _=>W)<|gp W (I8 W) (fun _=>W) (gt W (vl W G_hit W)<|gt W (fun w6=>(D0<|A3 w6))<|gt W (fun w7=>(L4 (A3 w7) (A3 w7) W))<|sa W W W<|sv W<|gt W (fun _=>(A6 W G_hit W W))<|gt W (fun _=>W)<|bs h fun v1 hv1 h=> ?_)
 refine I9 _ (bo v1) (I8 W) (fun w10=>⟨_,[(.d (.agg (O8 p1))),(di p3)],_,_,(by simp only [A3 w10];rfl),W,A2,Yi _ _ _<|C2 w10 hv1,(.inl W)⟩) ?_
 refine sa W W W<|sv W<|gp W (I8 W) (fun _=>W) (gt W (vl W G_hit W)<|gt W (fun _=>W)<|bs h fun v2 hv2 h=>gt W (fun w14=>(C5 (A3 w14) (A3 w14) (C2 w14 hv2) W))<|gt W (fun w15=>(C7 (A3 w15) (C2 w15 hv2) W W))<|gt W (fun _=>W)<|gt W (fun _=>W)<|bs h fun v3 hv3 h=> ?_)
 refine I9 _ (bo v3) (I8 W) (fun w18=>⟨_,[(.d (.agg [(i64 v2.Offset),(.list (List.map Dq v2.Phases))])),(di p3),(di p4)],_,_,(by simp only [A3 w18];rfl),W,A2,Yj _ _ _ _<|C2 w18 hv3,(.inl W)⟩) ?_
 refine sa W W W<|sv W<|A1<|B2 ?_
 cases h
 exact A7 (.inr W) (B4 (B3 W) B8) (.refl _)
def Sc (p1:Part)(p2:Int):Option Bool:=
  some (p1.Lane_==p2)
theorem DC(p1 p2 r)(h:Sc p1 p2=some r):PCall prog 221 [(.agg (Cs p1)),(.bp [(i64 p2)] 0)] (bo r):=by
 refine C0 (fk func221 ntmps221 m0 (by with_unfolding_all rfl)) (nl W) ?_
 unfold Sc at h
 refine B5 (s0:=⟨T [(0,(.d _)),(1,(.d _))],G []⟩) (E3 W W) ?_
 refine B1<|sm W<|sv W<|A1<|B1<|sq W<|sl W G_hit W<|sv W<|sv W<|sv W<|A1<|B2 ?_
 cases h
 exact A7 (.inr W) (B4 (B3 W) B8) (.refl _)
def R8 (p1:(List Part))(p2:Int)(x1:Int):Option (Stp Int (Sum Unit Int)):=
  cond (decide (x1< (p1.length:Int))) ((C8 p1 x1).bind fun v1=>(Sc v1 p2).bind fun v2=>cond v2 (some (.out (.inr x1))) (some (.go (C9 (x1+1))))) (some (.out (.inl ())))
def K5 [Lp](p1:(List Part))(p2:Int):Option Int:=
  thenS (loop (R8 p1 p2) 0) (fun _=>some (-1)) (fun r=>some r)
theorem Gh(p1 p2 r)(h:K5 p1 p2=some r):PCall prog 220 [(.list (List.map Cs p1)),(.fn (.func 221) [] [(.bp [(i64 p2)] 0)])] (i64 r):=by
 refine C0 (fk func220 ntmps220 m0 (by with_unfolding_all rfl)) (nl W) ?_
 unfold K5 at h
 refine B5 (s0:=⟨T [(0,(.d _)),(1,(.d _))],G []⟩) (E3 W W) ?_
 refine B1<|sv W<|A1<|A4<|B1<|sv W<|sd W (D0 W)<|sv W<|A1<|js h fun z1 hz1 h=>D3 (fun s=> ∃(y1:Unit) (g1:Unit),z1= .inl y1∧Sb ⟨T [],G []⟩ s) ?_ ?_
 refine A9<|D7 (R8 p1 p2) (fun (x1:Int) (g2:Unit)=>⟨T [(0,(dl Cs p1)),(1,(.d (.fn (.func 221) [] [(.bp [(i64 p2)] 0)]))),(7,(di (p1.length:Int))),(8,(di x1))],G []⟩) 0 () _ hz1 (E3 W W) ?_
 intro x1 g2 z2 hz2 ez2
 unfold R8 at hz2
 refine B1<|sv W<|A1<|A4<|cc W hz2 (fun c1 hz2=> ?_)<|fun c1 hz2=> ?_
 refine A8<|A4<|A9<|B1<|sv W<|sv W<|A1<|B1<|sv W<|sv W<|sv W<|bs hz2 fun _ hv1 hz2=>sd W (C5 W W hv1 W)<|sd W (C7 W hv1 W W)<|bs hz2 fun _ hv2 hz2=>B0 W W A2 (DC _ _ _ hv2) (.inl W) (A1<|cc W hz2 (fun c2 hz2=> ?_)<|fun c2 hz2=> ?_)
 refine B1<|sv W<|sv W<|A1<|B2 ?_
 cases hz2
 obtain rfl:=ez2 _ rfl
 refine ⟨nofun,E5 ?_⟩
 rw [bT]at h
 cases h
 exact A7 (.inr W) (B4 (B3 W) B8) (.refl _)
 refine A8<|D4<|C1<|sv W<|sv W<|A1<|D6 ?_
 cases hz2
 exact ⟨W,(),(E3 W W)⟩
 refine C6 W ?_
 cases hz2
 obtain rfl:=ez2 _ rfl
 refine ⟨nofun,C3 W<|T4 ?_⟩
 exact ⟨_,(),W,(E3 W W)⟩
 rintro _ ⟨y1,g1,rfl,q1⟩
 rw [bS]at h
 refine B5 q1<|B1<|sv W<|A1<|B2 ?_
 cases h
 exact A7 (.inr W) (B4 (B3 W) B8) (.refl _)
def Ma [Lp](p1:Map)(p2:Agent)(p3:Int)(p4:Int):Option Int:=
  (Gk p1 p2.Route p3).bind fun v1=>cond (decide (v1<0)) (some 0) ((C8 p1.Zones p3).bind fun v2=>((cond (decide (v2.Signal_>0)) (Mk p1 (C9 (v2.Signal_ - 1)) v1 p4) (some default))).bind fun v3=>cond ((decide (v2.Signal_>0))&&v3) (some 2) (cond (decide (v2.Signal_>0)) (some 0) ((K5 v2.Parts v1).bind fun v4=>(C8 v2.Parts v4).bind fun v5=>some v5.Rank)))
theorem AA(p1 p2 p3 p4 r)(h:Ma p1 p2 p3 p4=some r):PCall prog 173 [(.agg (O8 p1)),(.agg (E4 p2)),(i64 p3),(i64 p4)] (i64 r):=by
 refine C0 (fk func173 ntmps173 m0 (by with_unfolding_all rfl)) (nl W) ?_
 unfold Ma at h
 refine B5 (s0:=⟨T [(0,(.d _)),(1,(.d _)),(2,(.d _)),(3,(.d _))],G []⟩) (E3 W W) ?_
 refine B1<|sm W<|sn W W<|sv W<|A1<|B1<|sd W (A6 W (gq W) W W)<|sq W<|sl W G_hit W<|sv W<|bs h fun v1 hv1 h=>B0 W W A2 (Rz _ _ _ _ hv1) (.inl W) (sm W<|Q4 W G_hit [(di v1)] W (A1<|A4<|B1<|sl W G_hit W<|sv W<|A1<|cc W h (fun c1 h=> ?_)<|fun c1 h=> ?_))
 refine B1<|sv W<|A1<|B2 ?_
 cases h
 exact A7 (.inr W) (B4 (B3 W) B8) (.refl _)
 refine A8<|B1<|sq W<|sl W (gq W) W (sv W<|bs h fun v2 hv2 h=>sd W (C5 W W hv2 W)<|sd W (C7 W hv2 W W)<|sm W<|Q4 W G_hit [(dl Cs v2.Parts),(di v2.Signal_)] W (A1<|A4<|A9<|B1<|sq W<|sl W G_hit W<|sv W<|sv W<|gt W (fun _=>(A6 W (gq W) W W))<|gp W (I8 W) (fun _=>W) (gt W (vl W G_hit W)<|gt W (vb W W W)<|gt W (fun _=>(N8 W (gq W) W))<|gt W (fun _=>W)<|bs h fun v3 hv3 h=> ?_)))
 refine I9 _ (bo v3) (I8 W) (fun w7=>⟨_,[(.d (.agg (O8 p1))),(di<|C9 (v2.Signal_ - 1)),(di v1),(di p4)],_,_,(by simp only [A3 w7];rfl),W,A2,IP _ _ _ _ _<|C2 w7 hv3,(.inl W)⟩) ?_
 refine sa W W W<|sv W<|A1<|cc W h (fun c2 h=> ?_)<|fun c2 h=> ?_
 refine B1<|sv W<|A1<|B2 ?_
 cases h
 exact A7 (.inr W) (B4 (B3 W) B8) (.refl _)
 refine B1<|sq W<|sl W G_hit W<|sv W<|sv W<|A1<|cc W h (fun c3 h=> ?_)<|fun c3 h=> ?_
 refine B1<|sv W<|A1<|B2 ?_
 cases h
 exact A7 (.inr W) (B4 (B3 W) B8) (.refl _)
 refine A8<|D4<|A4<|D5 W<|sq W<|sl W G_hit W<|sq W<|sl W G_hit W<|B9 (.fn _ _ _) W W (bs h fun _ hv4 h=>B0 W (rD<|E0 (Zu F0<|E0 (Ab (gq W)<|rD F0) F0) F0) A2 (Gh _ _ _ hv4) (.inr W) (bs h fun _ hv5 h=>sd W (C5 W W hv5 W)<|sv W<|sd W (D1 W hv5 W)<|sv W<|A1<|B2 ?_))
 cases h
 exact A7 (.inr W) (B4 (B3 W) B8) (.refl _)
def V5 [Lp](p1:WorldScene)(x1:(Int× (List Stay)))(v1:Agent)(x2:(Int× (List Stay))):Option (Stp (Int× (List Stay)) (List Stay)):=
  cond (decide (x2.1< (p1.m.Zones.length:Int))) ((O0 (WorldScene.mk p1.m p1.before (State.mk p1.after.Tick p1.after.Agents x2.2) p1.acts p1.crashes) x1.1 x2.1).bind fun v2=>cond (!v2) (some (.go ((C9 (x2.1+1)),x2.2))) ((E6 p1.before.In (Stay.mk x1.1 x2.1 p1.before.Tick 0)).bind fun v3=>(cond v3.2 ((C8 p1.before.In v3.1).bind fun v4=>some v4) ((Ma p1.m v1 x2.1 p1.before.Tick).bind fun v5=>some (Stay.mk x1.1 x2.1 p1.before.Tick v5))).bind fun y2=>(Fk x2.2 [y2]).bind fun v6=>some (.go ((C9 (x2.1+1)),v6)))) (some (.out x2.2))
def V6 [Lp](p1:WorldScene)(x1:(Int× (List Stay))):Option (Stp (Int× (List Stay)) WorldScene):=
  cond (decide (x1.1< (p1.before.Agents.length:Int))) ((C8 p1.before.Agents x1.1).bind fun v1=>(loop (V5 p1 x1 v1) (0,x1.2)).bind fun y1=>some (.go ((C9 (x1.1+1)),y1))) (some (.out ((WorldScene.mk p1.m p1.before (State.mk p1.after.Tick p1.after.Agents x1.2) p1.acts p1.crashes))))
def Z6 [Lp](p1:WorldScene):Option WorldScene:=
  loop (V6 p1) (0,[])
theorem Vh(p1 r)(h:Z6 p1=some r):MCall prog 80 [(.ptr (900000,0) 0)] [(.box 135 (U6 p1))] (.d (.tup [])) [some (.box 135 (U6 r))] []:=by
 refine Td (fk func80 ntmps80 (fun r=>if r==13 then [1007]else []) (by with_unfolding_all rfl)) W (nl W) ?_
 unfold Z6 at h
 refine B5 (s0:=⟨T [(0,(.ptr _ _))],G [((900000,0),some<|.box 135 _)]⟩) (E3 W W) ?_
 refine B1<|sq W<|sp W W<|sq W<|sp W W<|Q4 W G_hit ((U6 p1).set 10 (.d .nilS)) W (A1<|B1<|sq W<|sp W W<|sq W<|sp W W<|sl W G_hit W<|sd W (D0 W)<|sv W<|A1<|A9<|D7 (V6 p1) (fun (x1:(Int× (List Stay))) (g1:Nat)=>⟨T [(0,(.ptr (900000,0) 0)),(16,(dl E4 p1.before.Agents)),(17,(di (p1.before.Agents.length:Int))),(18,(di x1.1))],G [((900000,0),some<|.box 135 ((U6 p1).set 10 (oS x1.2 (85,g1)))),((85,g1),oB 127 4 J5 x1.2)]⟩) (0,[]) 0 _ h (D2 (X5 W)<|B6 G_hit (.of W)<|O9 trivial) ?_)
 intro x1 g1 z1 hz1 ez1
 unfold V6 at hz1
 refine B1<|sv W<|A1<|A4<|cc W hz1 (fun c1 hz1=> ?_)<|fun c1 hz1=> ?_
 refine A8<|A4<|A9<|lr<|fun u4 _=>sv W<|bs hz1 fun v1 hv1 hz1=>sd W (C5 W W hv1 W)<|sd W (C7 W hv1 W W)<|sm W<|sv W<|Q4 W G_hit (W9 v1) W (A1<|B1<|sq W<|sp W W<|sq W<|sp W W<|sl W (gq W) W (sd W (D0 W)<|sv W<|A1<|bs hz1 fun y1 hy1 hz1=>D3 (fun s=> ∃g2:Nat,Sb ⟨T [(0,(.ptr (900000,0) 0)),(16,(dl E4 p1.before.Agents)),(17,(di (p1.before.Agents.length:Int))),(18,(di x1.1))],G [((900000,0),some<|.box 135 ((U6 p1).set 10 (oS y1 (85,g2)))),((85,g2),oB 127 4 J5 y1)]⟩ s) ?_ ?_))
 refine A9<|D7 (V5 p1 x1 v1) (fun (x2:(Int× (List Stay))) (g3:Nat)=>⟨T [(0,(.ptr (900000,0) 0)),(2,(di x1.1)),(3,(.ptr (3,u4) 0)),(16,(dl E4 p1.before.Agents)),(17,(di (p1.before.Agents.length:Int))),(18,(di x1.1)),(28,(di (p1.m.Zones.length:Int))),(29,(di x2.1))],G [((900000,0),some<|.box 135 ((U6 p1).set 10 (oS x2.2 (85,g3)))),((3,u4),some<|.box 45 (W9 v1)),((85,g3),oB 127 4 J5 x2.2)]⟩) (0,x1.2) g1 _ hy1 (D2 (X5 W)<|sg W<|B6 G_hit (.of W)<|B7 (gq W) trivial) ?_
 intro x2 g3 z2 hz2 ez2
 unfold V5 at hz2
 refine B1<|sv W<|A1<|A4<|cc W hz2 (fun c2 hz2=> ?_)<|fun c2 hz2=> ?_
 refine A8<|A4<|A9<|B1<|sv W<|sv W<|A1<|A4<|B1<|sq W<|sv W<|sv W<|bs hz2 fun v2 hv2 hz2=>B0 W (E0 (Ab G_hit<|rD<|rD<|rD<|rD<|rD<|rD<|rD<|rD<|rD<|rD<|E0 (U4<|gq W)<|rD<|rD F0)<|rD<|rD F0) (.cons (DLe.bp<|ca W<|ca W<|ca W<|ca W<|ca W<|ca W<|ca W<|ca W<|ca W<|ca W<|.cons ⟨U3,W⟩ (cz W)) (.cons (.refl _) A2)) (Av _ _ _ _ hv2) (.inr W) (B9 (.d (bo (!v2))) W W (A1<|cc W hz2 (fun c3 hz2=> ?_)<|fun c3 hz2=> ?_))
 refine Mx W<|C1<|sv W<|sv W<|A1<|D6 ?_
 cases hz2
 exact ⟨W,g3,(D2 (X5 W)<|B6 G_hit (.of W)<|sg W<|B7 (gq W) trivial)⟩
 refine A8<|lr<|fun u10 _=>sv W<|sv W<|sq W<|sp W W<|sq W<|sp W W<|sl W G_hit W<|sv W<|sm W<|Q4 W G_hit [(di x1.1),(di x2.1),(di p1.before.Tick),(di 0)] W (A1<|A4<|A4<|D5 W<|sq W<|sq W<|sp W W<|sq W<|sl W (gq W) W (sd W (A6 W G_hit W W)<|bs hz2 fun _ hv3 hz2=>B0 W W A2 (N3 _ _ _ hv3) (.inl W) (sv W<|sv W<|sv W<|sv W<|sv W<|A1<|B1<|sv W<|A1<|bs hz2 fun y2 hy2 hz2=>D3 (fun s=> ∃g4:Unit,Sb ⟨T [(0,(.ptr (900000,0) 0)),(2,(di x1.1)),(3,(.ptr (3,u4) 0)),(5,(.ptr (5,u10) 0)),(16,(dl E4 p1.before.Agents)),(17,(di (p1.before.Agents.length:Int))),(18,(di x1.1)),(28,(di (p1.m.Zones.length:Int))),(29,(di x2.1))],G [((900000,0),some<|.box 135 ((U6 p1).set 10 (oS x2.2 (85,g3)))),((3,u4),some<|.box 45 (W9 v1)),((5,u10),some<|.box 127 (Vx y2)),((85,g3),oB 127 4 J5 x2.2)]⟩ s) ?_ ?_)))
 refine cc W hy2 (fun c4 hy2=> ?_)<|fun c4 hy2=> ?_
 refine C1<|sq W<|sq W<|sp W W<|sq W<|sl W (gq W) W (sv W<|bs hy2 fun v4 hv4 hy2=>sd W (C5 W W hv4 W)<|sd W (C7 W hv4 W W)<|Q4 W G_hit (Vx v4) W (A1 ?_))
 obtain rfl:=(lC hy2)
 exact T4 ⟨(),(D2 (X5 W)<|sg W<|sg W<|B6 G_hit (.of W)<|B7 (gq W) trivial)⟩
 refine D5 W<|sq W<|sq W<|sp W W<|sd W (A6 W (gq W) W W)<|sd W (A6 W (gq W) W W)<|sv W<|sq W<|sp W W<|sq W<|sp W W<|sl W (gq W) W (bs hy2 fun v5 hv5 hy2=>B0 W W A2 (AA _ _ _ _ _ hv5) (.inl W) (sq W<|Q4 W G_hit [(di x1.1),(di x2.1),(di p1.before.Tick),(di v5)] W (A1 ?_)))
 cases hy2
 exact T4 ⟨(),(D2 (X5 W)<|sg W<|sg W<|B6 G_hit (.of W)<|B7 (gq W) trivial)⟩
 rintro _ ⟨g4,q1⟩
 refine B5 q1<|Fj W fun u15 _=>sq W<|sq W<|sp W W<|sq W<|sp W W<|B9 (oS x2.2 (85,g3)) W (N8 W G_hit W) (sd W (A6 W (gq W) W W)<|B9 (dl J5 [y2]) W W (bs hz2 fun _ hv6 hz2=>O1 J5 (85,g3) x2.2 y2 [] _ (M0<|fun _=>W) W (gq W) hv6 (sq W<|sp W W<|sq W<|Q4 W (gq W) ((U6 p1).set 10 (.sl (85,u15))) W (A1<|D4<|C1<|sv W<|sv W<|A1<|D6 ?_))))
 cases hz2
 exact ⟨W,u15,(D2 (X5 W)<|B6 G_hit (.box (cv<|cv<|cv<|cv<|cv<|cv<|cv<|cv<|cv<|cv<|.cons (.of (S5<|T0 hv6).symm) cw))<|sg W<|L9 (gq W) trivial)⟩
 refine C6 W ?_
 cases hz2
 obtain rfl:=ez2 _ rfl
 refine ⟨nofun,C3 W<|T4 ?_⟩
 exact ⟨g3,(D2 (X5 W)<|B6 G_hit (.of W)<|B7 (gq W) trivial)⟩
 rintro _ ⟨g2,q2⟩
 refine D4<|B5 q2<|C1<|sv W<|sv W<|A1<|D6 ?_
 cases hz1
 exact ⟨W,g2,(D2 (X5 W)<|B6 G_hit (.of W)<|B7 (gq W) trivial)⟩
 refine C6 W ?_
 cases hz1
 obtain rfl:=ez1 _ rfl
 refine ⟨nofun,C3 W<|D6 ?_⟩
 exact Vc (.inl W) [(85,g1)] BA (.refl _) ⟨⟨_,_,_,G_hit,(XB W W8),(rD<|rD<|rD<|rD<|rD<|rD<|rD<|rD<|rD<|rD<|E0 (U4<|kE (.head _)<|gq W)<|rD<|rD F0),(.cons (.refl _) (.cons (.refl _) (.cons (.refl _) (.cons (.refl _) (.cons (.refl _) (.cons (.refl _) (.cons (.refl _) (.cons (.refl _) (.cons (.refl _) (.cons (.refl _) (.cons U3 (.cons (.refl _) A2)))))))))))),W⟩,trivial⟩
def EO (s:State)(i:Nat):Nat→Nat→Option (List (Int×Int))
  |0,_=>some []
  |k+1,j=>(Ce s i).bind fun a=>(Ce s j).bind fun b=>(EO s i k (j+1)).bind fun l=>some (cond (a&&b) (((i:Int),(j:Int))::l) l)
def IQ (s:State)(n:Nat):Nat→Nat→Option (List (Int×Int))
  |0,_=>some []
  |k+1,i=>(EO s i (n - (i+1)) (i+1)).bind fun a=>(IQ s n k (i+1)).bind fun b=>some (a++b)
def OF (s:State):Option (List (Int×Int)):=if s.Agents.length≤1000000 then IQ s s.Agents.length s.Agents.length 0 else none
abbrev IR (a:Int×Int):List D:= [i64 a.1,i64 a.2]
def Vi (kb ks:F2)(s:State)(h:E1):Prop:=h kb=some (.box 133 [.ptr ks 0])∧∃c0 c1 c2 c3 c4 c8 c9 c10 c11 c12,h ks=some (.box 135 [c0,c1,c2,c3,c4, .d (i64 s.Tick), .d (.list (List.map E4 s.Agents)), .d (.list (List.map J5 s.In)),c8,c9,c10,c11,c12])
theorem IS {s:State}{L:List (Int×Int)}(h:OF s=some L)(kb ks:F2):iB prog (.fn (.func 174) [] [.ptr kb 0]) (Vi kb ks s) (L.map IR):=by
  unfold OF at h
  split at h
  case isFalse=>cases h
  rename_i hlen
  refine ⟨174,[],[.ptr kb 0],W,?_⟩
  intro k h0 Inv Stop hi0 hcan hy
  refine HY (fk func174 ntmps174 (fun r=>if r==6 then [18]else []) (by with_unfolding_all rfl)) (by simp) (fD ?_)
  obtain ⟨g0,S0,i0,c0⟩:=hcan 0 h0 hi0
  have hLm:(L.map IR).length=L.length:=lP ..
  rw [hLm]
  refine B5 (s0:=⟨T [(0, .yld k),(1, .ptr kb 0)],g0⟩) ⟨fun i=> ?_,S0.h⟩ ?_
  ·match i with
   |0=>exact .refl _
   |1=>exact .refl _
   |n+2=>exact .any _
  have c0':=c0
  obtain ⟨e1,a0,a1,a2,a3,a4,a8,a9,a10,a11,a12,e2⟩:=c0'
  refine A4 ?_
  refine Tl fun u hu=> ?_
  refine F1 (.ptr ks 0) W (N8 W e1 W) ?_
  refine F1 (.ptr ks 0) W W ?_
  refine F1 (.ptr ks 5) W W ?_
  refine F1 (.ptr ks 6) W W ?_
  refine F1 (.d (.list (List.map E4 s.Agents))) W (N8 W e2 W) ?_
  refine F1 (.d (i64 s.Agents.length)) W (D0 (f:=E4) W) ?_
  refine F1 (.d (i64 0)) W W ?_
  refine Ag ?_
  refine A9 ?_
  refine VU (α:=Nat×Nat×E1) (fun x=>⟨T [(0, .yld k),(1, .ptr kb 0),(10, .d (i64 s.Agents.length)),(11, .d (i64 (x.1:Int)))],x.2.2⟩) (fun x=>s.Agents.length - x.1)
    (fun x=>Inv x.2.1 x.2.2∧Vi kb ks s x.2.2∧x.1≤s.Agents.length∧x.2.1≤L.length∧IQ s s.Agents.length (s.Agents.length - x.1) x.1=some (L.drop x.2.1)) (0,0,g0) ⟨i0,c0,bV _,bV _,h⟩ (Xp ⟨rfl,rfl,rfl,rfl,trivial⟩ fun _ _ h=>h) ?_
  rintro ⟨i,pos,hh⟩ ⟨hinv,hrq,hi,hpos,hgo⟩
  dsimp only at hinv hrq hi hpos hgo ⊢
  refine A4 ?_
  refine Tl fun u hu=> ?_
  refine F1 (.d (bo<|decide ((i:Int)< (s.Agents.length:Int)))) W W ?_
  refine Ag ?_
  refine A4 ?_
  refine TO (decide ((i:Int)< (s.Agents.length:Int))) W (fun hlt=> ?_) (fun hlt=> ?_)
  ·refine A8 ?_
   have hlt:i<s.Agents.length:=by simpa using hlt
   have hw1: ∀n:Nat,n≤1000000→IntKind.i64.wrap ((n:Int)+1)=((n+1:Nat):Int):=fun n _=>(Go.IntWalk.i64_in _ (by omega)).trans (by omega)
   obtain ⟨m,hm⟩: ∃m,s.Agents.length - i=m+1:=⟨s.Agents.length - i - 1,by omega⟩
   rw [hm,IQ]at hgo
   obtain ⟨l1,hl1,hgo⟩:=bind_some hgo
   obtain ⟨l2,hl2,hgo⟩:=bind_some hgo
   have hgo:l1++l2=L.drop pos:=lC hgo
   refine A4 ?_
   refine A9 ?_
   refine A4 ?_
   refine Tl fun u hu=> ?_
   refine F1 (.d (i64 i)) W W ?_
   refine F1 (.d (i64 i)) W W ?_
   refine Ag ?_
   refine A4 ?_
   refine Tl fun u hu=> ?_
   refine F1 (.d (i64 i)) W W ?_
   refine F1 (.d (i64 ((i+1:Nat):Int))) W (by rw [← hw1 i (by omega)];rfl) ?_
   refine F1 (.d (i64 ((i+1:Nat):Int))) W W ?_
   refine Ag ?_
   refine A9 ?_
   refine VU (α:=Nat×Nat×E1) (fun x=>⟨T [(0, .yld k),(1, .ptr kb 0),(3, .d (i64 (i:Int))),(4, .d (i64 (x.1:Int))),(10, .d (i64 s.Agents.length)),(11, .d (i64 (i:Int)))],x.2.2⟩) (fun x=>s.Agents.length - x.1)
     (fun x=>Inv x.2.1 x.2.2∧Vi kb ks s x.2.2∧x.1≤s.Agents.length∧x.2.1≤L.length∧∃l,EO s i (s.Agents.length - x.1) x.1=some l∧l++l2=L.drop x.2.1) (i+1,pos,hh) ⟨hinv,hrq,hlt,hpos,l1,hl1,hgo⟩ (Xp ⟨rfl,rfl,rfl,rfl,rfl,rfl,trivial⟩ fun _ _ h=>h) ?_
   rintro ⟨j,pos,hh⟩ ⟨hinv,hrq,hj,hpos,l,hl,hgo⟩
   dsimp only at hinv hrq hj hpos hl hgo ⊢
   have hrq':=hrq
   obtain ⟨e1,a0,a1,a2,a3,a4,a8,a9,a10,a11,a12,e2⟩:=hrq'
   refine A4 ?_
   refine A4 ?_
   refine Tl fun u hu=> ?_
   refine F1 (.d (i64 j)) W W ?_
   refine F1 (.ptr ks 0) W (N8 W e1 W) ?_
   refine F1 (.ptr ks 0) W W ?_
   refine F1 (.ptr ks 5) W W ?_
   refine F1 (.ptr ks 6) W W ?_
   refine F1 (.d (.list (List.map E4 s.Agents))) W (N8 W e2 W) ?_
   refine F1 (.d (i64 s.Agents.length)) W (D0 (f:=E4) W) ?_
   refine F1 (.d (bo<|decide ((j:Int)< (s.Agents.length:Int)))) W W ?_
   refine Ag ?_
   refine TO (decide ((j:Int)< (s.Agents.length:Int))) W (fun hjl=> ?_) (fun hjl=> ?_)
   ·refine A8 ?_
    have hjl:j<s.Agents.length:=by simpa using hjl
    obtain ⟨m',hm'⟩: ∃m',s.Agents.length - j=m'+1:=⟨s.Agents.length - j - 1,by omega⟩
    rw [hm',EO]at hl
    obtain ⟨a,ha,hl⟩:=bind_some hl
    obtain ⟨b,hb,hl⟩:=bind_some hl
    obtain ⟨l',hl',hl⟩:=bind_some hl
    have hl:cond (a&&b) (((i:Int),(j:Int))::l') l'=l:=lC hl
    have hm1:s.Agents.length - (j+1)=m':=by omega
    -- what a round leaves
    have hend: ∀(p':Nat) (h':E1),Inv p' h'→Vi kb ks s h'→p'≤L.length→l'++l2=L.drop p'→∃y:Nat×Nat×E1,(Inv y.2.1 y.2.2∧Vi kb ks s y.2.2∧y.1≤s.Agents.length∧y.2.1≤L.length∧∃l,EO s i (s.Agents.length - y.1) y.1=some l∧l++l2=L.drop y.2.1)∧s.Agents.length - y.1<s.Agents.length - j∧y=(j+1,p',h'):=fun p' h' q1 q2 q3 q4=>⟨(j+1,p',h'),⟨q1,q2,hjl,q3,l',by dsimp only;rw [hm1];exact hl',q4⟩,by dsimp only;omega,rfl⟩
    refine A4 ?_
    refine A9 ?_
    refine A4 ?_
    refine Tl fun u hu=> ?_
    refine F1 (.ptr ks 0) W (N8 W e1 W) ?_
    refine F1 (.ptr ks 0) W W ?_
    refine F1 (.ptr ks 5) W W ?_
    refine F1 (.d (.agg [i64 s.Tick, .list (List.map E4 s.Agents), .list (List.map J5 s.In)])) W (A6 W e2 W W) ?_
    refine F1 (.d (i64 i)) W W ?_
    refine Zg W W (Fo s i _ ha) (.inl W) ?_
    refine F1 (.d (bo a)) W W ?_
    cases a with
    |false=>
     iterate 6 (refine TW rfl rfl ?_)
     refine F1 (.d (bo false)) W W ?_
     refine F1 (.d (bo false)) W W ?_
     iterate 5 (refine TW rfl rfl ?_)
     refine F1 (.d (bo false)) W W ?_
     refine Ag ?_
     refine Qt W<|A8<|D4 ?_
     refine Tl fun u hu=> ?_
     refine F1 (.d (i64 j)) W W ?_
     refine F1 (.d (i64 ((j+1:Nat):Int))) W (by rw [← hw1 j (by omega)];rfl) ?_
     refine F1 (.d (i64 ((j+1:Nat):Int))) W W ?_
     refine Ag ?_
     obtain ⟨y,y1,y2,rfl⟩:=hend pos hh hinv hrq hpos (by rw [← hgo,← hl];rfl)
     exact D6 ⟨_,y1,y2,Xp ⟨W,W,W,W,W,W,trivial⟩ fun _ _ h=>h⟩
    |true=>
     refine Vw W ?_
     refine F1 (.ptr ks 0) W (N8 W e1 W) ?_
     refine Vw W ?_
     refine F1 (.ptr ks 0) W W ?_
     refine Vw W ?_
     refine F1 (.ptr ks 5) W W ?_
     refine Vw W ?_
     refine F1 (.d (.agg [i64 s.Tick, .list (List.map E4 s.Agents), .list (List.map J5 s.In)])) W (A6 W e2 W W) ?_
     refine Vw W ?_
     refine F1 (.d (i64 j)) W W ?_
     refine Vw W ?_
     refine Zg W W (Fo s j _ hb) (.inl W) ?_
     refine F1 (.d (bo b)) W W ?_
     refine F1 (.d (bo b)) W W ?_
     cases b with
     |false=>
      iterate 5 (refine TW rfl rfl ?_)
      refine F1 (.d (bo false)) W W ?_
      refine Ag ?_
      refine Qt W<|A8<|D4 ?_
      refine Tl fun u hu=> ?_
      refine F1 (.d (i64 j)) W W ?_
      refine F1 (.d (i64 ((j+1:Nat):Int))) W (by rw [← hw1 j (by omega)];rfl) ?_
      refine F1 (.d (i64 ((j+1:Nat):Int))) W W ?_
      refine Ag ?_
      obtain ⟨y,y1,y2,rfl⟩:=hend pos hh hinv hrq hpos (by rw [← hgo,← hl];rfl)
      exact D6 ⟨_,y1,y2,Xp ⟨W,W,W,W,W,W,trivial⟩ fun _ _ h=>h⟩
     |true=>
      have hcons:((i:Int),(j:Int))::(l'++l2)=L.drop pos:=by rw [← hgo,← hl];rfl
      have hLi:(L.map IR)[pos]? =some (IR ((i:Int),(j:Int))):=by
        have:=congrArg (fun z=>z[0]?) hcons
        rw [lI]
        simp at this
        rw [← this];rfl
      have hLd:L.drop (pos+1)=l'++l2:=by
        have:=congrArg (fun z=>z.drop 1) hcons
        simpa using this.symm
      have hplt:pos+1≤L.length:=by
        have:=congrArg List.length hcons
        simp at this
        omega
      refine Vw W ?_
      refine F1 (.yld k) W W ?_
      refine Vw W ?_
      refine F1 (.d (i64 i)) W W ?_
      refine Vw W ?_
      refine F1 (.d (i64 j)) W W ?_
      refine Vw W ?_
      refine XE k ((IR ((i:Int),(j:Int))).map .d) W W ?_
      refine (hy pos hh _ hLi hinv).mono ?_
      rintro v' h' (⟨rfl,hin⟩|⟨rfl,hst⟩)
      ·obtain ⟨h1,S1,i1,q1⟩:=hcan _ _ hin
       refine ⟨h1,S1,fun u4 hu4=> ?_⟩
       refine Vw W ?_
       refine F1 (.d (bo false)) W W ?_
       refine F1 (.d (bo false)) W W ?_
       refine Ag ?_
       refine Qt W<|A8<|D4 ?_
       refine Tl fun u hu=> ?_
       refine F1 (.d (i64 j)) W W ?_
       refine F1 (.d (i64 ((j+1:Nat):Int))) W (by rw [← hw1 j (by omega)];rfl) ?_
       refine F1 (.d (i64 ((j+1:Nat):Int))) W W ?_
       refine Ag ?_
       obtain ⟨y,y1,y2,rfl⟩:=hend (pos+1) h1 i1 q1 hplt hLd.symm
       exact D6 ⟨_,y1,y2,Xp ⟨W,W,W,W,W,W,trivial⟩ fun _ _ h=>h⟩
      ·refine ⟨h',Sb.refl _,fun u4 hu4=> ?_⟩
       refine Vw W ?_
       refine F1 (.d (bo true)) W W ?_
       refine F1 (.d (bo true)) W W ?_
       refine Ag ?_
       refine Tb W ?_
       refine B2<|E5<|E5 ?_
       exact ⟨Or.inr W,AV.tup [],W,Or.inr hst⟩
   ·refine C6 rfl ?_
    have hjn:j=s.Agents.length:=by
      have: ¬((j:Int)< (s.Agents.length:Int)):=by simpa using hjl
      omega
    subst hjn
    rw [Nat.sub_self,EO]at hl
    cases hl
    refine C3 (r':= [.b 1, .c _]) W (D4 ?_)
    refine Tl fun u hu=> ?_
    refine F1 (.d (i64 ((i+1:Nat):Int))) W (by rw [← hw1 i (by omega)];rfl) ?_
    refine F1 (.d (i64 ((i+1:Nat):Int))) W W ?_
    refine Ag ?_
    refine D6 ⟨(i+1,pos,hh),⟨hinv,hrq,hlt,hpos,?_⟩,by dsimp only;omega,Xp ⟨rfl,rfl,rfl,rfl,trivial⟩ fun _ _ h=>h⟩
    dsimp only
    rw [show s.Agents.length - (i+1)=m by omega,hl2]
    exact congrArg some hgo
  ·refine C6 rfl ?_
   have hin:i=s.Agents.length:=by
     have: ¬((i:Int)< (s.Agents.length:Int)):=by simpa using hlt
     omega
   subst hin
   rw [Nat.sub_self,IQ]at hgo
   have h1:L.drop pos= []:=(lC hgo).symm
   have h2:=List.drop_eq_nil_iff.1 h1
   have h3:pos=L.length:=by omega
   subst h3
   refine C3 (r':= []) W (D6 ?_)
   exact ⟨.inl W,AV.tup [],W, .inl hinv⟩
def Bo (p1:WorldSpan)(p2:Int):Option WorldSpan:=
  some (WorldSpan.mk (C9 (p1.from_ - p2)) (C9 (p1.to - p2)))
theorem Gw(p1 p2 r)(h:Bo p1 p2=some r):PCall prog 141 [(.agg [(i64 p1.from_),(i64 p1.to)]),(i64 p2)] (.agg [(i64 r.from_),(i64 r.to)]):=by
 refine C0 (fk func141 ntmps141 m0 (by with_unfolding_all rfl)) (nl W) ?_
 unfold Bo at h
 refine B5 (s0:=⟨T [(0,(.d _)),(1,(.d _))],G []⟩) (E3 W W) ?_
 refine B1<|sm W<|sn W W<|A1<|B1<|sq W<|sl W (gq W) W (sv W<|sv W<|sq W<|sl W (gq W) W (sv W<|sv W<|sv W<|Q4 W G_hit [(di<|C9 (p1.from_ - p2)),(di<|C9 (p1.to - p2))] W (A1<|B2 ?_)))
 cases h
 exact A7 (.inr W) (B4 (G5 W G_hit (nl W) W) B8) (.refl _)
def Z1 [Lp](p1:Map)(p2:Int):Option Int:=
  (La p1 p2).bind fun v1=>cond (!v1) (some 0) ((Bn p1 p2).bind fun v2=>some v2)
theorem Ls(p1 p2 r)(h:Z1 p1 p2=some r):PCall prog 143 [(.agg (O8 p1)),(i64 p2)] (i64 r):=by
 refine C0 (fk func143 ntmps143 m0 (by with_unfolding_all rfl)) (nl W) ?_
 unfold Z1 at h
 refine B5 (s0:=⟨T [(0,(.d _)),(1,(.d _))],G []⟩) (E3 W W) ?_
 refine B1<|sm W<|sv W<|A1<|A4<|B1<|sd W (A6 W G_hit W W)<|sv W<|bs h fun v1 hv1 h=>B0 W W A2 (Yi _ _ _ hv1) (.inl W) (B9 (.d (bo (!v1))) W W (A1<|cc W h (fun c1 h=> ?_)<|fun c1 h=> ?_))
 refine B1<|sv W<|A1<|B2 ?_
 cases h
 exact A7 (.inr W) (B4 (B3 W) B8) (.refl _)
 refine A8<|B1<|sd W (A6 W G_hit W W)<|sv W<|bs h fun _ hv2 h=>B0 W W A2 (Ot _ _ _ hv2) (.inl W) (sv W<|A1<|B2 ?_)
 cases h
 exact A7 (.inr W) (B4 (B3 W) B8) (.refl _)
def Cv (p1:WorldSpan)(p2:WorldSpan):Option WorldSpan:=
  some (WorldSpan.mk (He true p1.from_ p2.from_) (He false p1.to p2.to))
theorem Nf(p1 p2 r)(h:Cv p1 p2=some r):PCall prog 142 [(.agg [(i64 p1.from_),(i64 p1.to)]),(.agg [(i64 p2.from_),(i64 p2.to)])] (.agg [(i64 r.from_),(i64 r.to)]):=by
 refine C0 (fk func142 ntmps142 m0 (by with_unfolding_all rfl)) (nl W) ?_
 unfold Cv at h
 refine B5 (s0:=⟨T [(0,(.d _)),(1,(.d _))],G []⟩) (E3 W W) ?_
 refine B1<|sm W<|sn W W<|sm W<|A1<|B1<|sq W<|sl W (gq W) W (sq W<|sl W (gq W) W (sv W<|sq W<|sl W (gq W) W (sq W<|sl W (gq W) W (sv W<|sv W<|Q4 W G_hit [(di<|He true p1.from_ p2.from_),(di<|He false p1.to p2.to)] W (A1<|B2 ?_)))))
 cases h
 exact A7 (.inr W) (B4 (G5 W G_hit (nl W) W) B8) (.refl _)
def Ai (p1:WorldSpan):Option Bool:=
  some (decide (p1.from_>p1.to))
theorem Kr(p1 r)(h:Ai p1=some r):PCall prog 144 [(.agg [(i64 p1.from_),(i64 p1.to)])] (bo r):=by
 refine C0 (fk func144 ntmps144 m0 (by with_unfolding_all rfl)) (nl W) ?_
 unfold Ai at h
 refine B5 (s0:=⟨T [(0,(.d _))],G []⟩) (E3 W W) ?_
 refine B1<|sm W<|sv W<|A1<|B1<|sq W<|sl W G_hit W<|sq W<|sl W G_hit W<|sv W<|sv W<|A1<|B2 ?_
 cases h
 exact A7 (.inr W) (B4 (B3 W) B8) (.refl _)
def Aw [Lp](p1:Map)(p2:Agent)(v2:(List Int))(x1:((List Span)×Int)):Option (Stp ((List Span)×Int) (List Span)):=
  cond (decide (x1.2< (v2.length:Int))) ((C8 v2 x1.2).bind fun v3=>(C8 p2.Route x1.2).bind fun v4=>(Es p2).bind fun v5=>(Bo v5 v3).bind fun v6=>(Z1 p1 v4).bind fun v7=>(Cv v6 (WorldSpan.mk 0 v7)).bind fun v8=>(Ai v8).bind fun v9=>cond (!v9) ((Fk x1.1 [(Span.mk v4 v8.from_ v8.to)]).bind fun v10=>some (.go (v10,(C9 (x1.2+1))))) (some (.go (x1.1,(C9 (x1.2+1)))))) (some (.out x1.1))
def Cw [Lp](p1:Map)(p2:Agent):Option (List Span):=
  (Oc p2).bind fun v1=>cond (!v1) (some []) ((Au p1 p2.Route).bind fun v2=>(loop (Aw p1 p2 v2) ([],0)).bind fun y1=>some y1)
theorem Ou(p1 p2 r)(h:Cw p1 p2=some r):PCall prog 67 [(.agg (O8 p1)),(.agg (E4 p2))] (.list (List.map J2 r)):=by
 refine C0 (fk func67 ntmps67 (fun r=>if r==10 then [1007]else []) (by with_unfolding_all rfl)) (nl W) ?_
 unfold Cw at h
 refine B5 (s0:=⟨T [(0,(.d _)),(1,(.d _))],G []⟩) (E3 W W) ?_
 refine lr<|fun u1 _=>sm W<|sm W<|sv W<|A1<|A4<|B1<|sd W (A6 W G_hit W W)<|bs h fun v1 hv1 h=>B0 W W A2 (Tq _ _ hv1) (.inl W) (B9 (.d (bo (!v1))) W W (A1<|cc W h (fun c1 h=> ?_)<|fun c1 h=> ?_))
 refine B1<|sv W<|A1<|B2 ?_
 cases h
 exact A7 (.inr W) (B4 (B3 W) B8) DLe.nil
 refine A8<|B1<|sv W<|A1<|A4<|B1<|sd W (A6 W (gq W) W W)<|sq W<|sl W G_hit W<|bs h fun v2 hv2 h=>B0 W W A2 (Qa _ _ _ hv2) (.inl W) (sd W (D0 W)<|sv W<|A1<|bs h fun y1 hy1 h=>D3 (fun s=> ∃g1:Nat,Sb ⟨T [(5,(oS y1 (48,g1)))],G [((48,g1),oB 93 3 J2 y1)]⟩ s) ?_ ?_)
 refine A9<|D7 (Aw p1 p2 v2) (fun (x1:((List Span)×Int)) (g2:Nat)=>⟨T [(2,(.ptr (2,u1) 0)),(3,(.ptr (3,u1) 0)),(5,(oS x1.1 (48,g2))),(16,(dl A5 v2)),(17,(di (v2.length:Int))),(18,(di x1.2))],G [((2,u1),some<|.box 33 (K7 p1)),((3,u1),some<|.box 45 (W9 p2)),((48,g2),oB 93 3 J2 x1.1)]⟩) ([],0) 0 _ hy1 (D2 (X5 W)<|sg W<|B6 G_hit (.of W)<|O9 trivial) ?_
 intro x1 g2 z1 hz1 ez1
 unfold Aw at hz1
 refine B1<|sv W<|A1<|A4<|cc W hz1 (fun c2 hz1=> ?_)<|fun c2 hz1=> ?_
 refine A8<|A4<|A9<|B1<|sv W<|bs hz1 fun _ hv3 hz1=>sd W (C5 W W hv3 W)<|sd W (D1 W hv3 W)<|sv W<|sv W<|A1<|B1<|sq W<|sl W (gq W) W (sv W<|bs hz1 fun v4 hv4 hz1=>sd W (C5 W W hv4 W)<|sd W (D1 W hv4 W)<|sv W<|A1<|A4<|D5 W<|sd W (A6 W (gq W) W W)<|bs hz1 fun _ hv5 hz1=>B0 W W A2 (Hz _ _ hv5) (.inl W) (sv W<|bs hz1 fun _ hv6 hz1=>B0 W W A2 (Gw _ _ _ hv6) (.inl W) (sd W (A6 W G_hit W W)<|sv W<|bs hz1 fun _ hv7 hz1=>B0 W W A2 (Ls _ _ _ hv7) (.inl W) (sv W<|bs hz1 fun v8 hv8 hz1=>B0 W W A2 (Nf _ _ _ hv8) (.inl W) (sm W<|Q4 W G_hit [(di v8.from_),(di v8.to)] W (A1<|B1<|sd W (A6 W G_hit W W)<|bs hz1 fun v9 hv9 hz1=>B0 W W A2 (Kr _ _ hv9) (.inl W) (B9 (.d (bo (!v9))) W W (A1<|cc W hz1 (fun c3 hz1=> ?_)<|fun c3 hz1=> ?_))))))))
 refine Be fun u11 _=>B9 (oS x1.1 (48,g2)) W W (sv W<|sq W<|sl W G_hit W<|sq W<|sl W G_hit W<|sv W<|B9 (dl J2 [(Span.mk v4 v8.from_ v8.to)]) W W (bs hz1 fun _ hv10 hz1=>O1 J2 (48,g2) x1.1 (Span.mk v4 v8.from_ v8.to) [] _ (M0<|fun _=>W) W (gq W) hv10 (ss W<|A1<|D4<|C1<|sv W<|sv W<|A1<|D6 ?_)))
 cases hz1
 exact ⟨W,u11,(D2 ⟨.of W, .of W,(.of (S5<|T0 hv10).symm), .of W, .of W, .of W,trivial⟩<|sg W<|sg W<|L9 G_hit trivial)⟩
 refine A8<|D4<|C1<|sv W<|sv W<|A1<|D6 ?_
 cases hz1
 exact ⟨W,g2,(D2 (X5 W)<|sg W<|sg W<|B7 (gq W) trivial)⟩
 refine C6 W ?_
 cases hz1
 obtain rfl:=ez1 _ rfl
 refine ⟨nofun,C3 W<|T4 ?_⟩
 exact ⟨g2,(D2 ⟨.of W,trivial⟩<|B7 (gq W) trivial)⟩
 rintro _ ⟨g1,q1⟩
 refine B5 q1<|B1<|B9 (oS y1 (48,g1)) W W (B9 (oS y1 (48,g1)) W W (A1<|B2 ?_))
 cases h
 exact A7 (.inr W) (B4 (B3 W)<|U4 G_hit) U3
def Jd (p1:Span)(p2:Span):Option Bool:=
  ((cond (p2.Lane_==p1.Lane_) (Cv (WorldSpan.mk p2.From p2.To) (WorldSpan.mk p1.From p1.To)) (some default))).bind fun v1=>((cond (p2.Lane_==p1.Lane_) (Ai v1) (some default))).bind fun v2=>some ((p2.Lane_==p1.Lane_)&& (!v2))
theorem Ul(p1 p2 r)(h:Jd p1 p2=some r):PCall prog 147 [(.agg (J2 p1)),(.bp (J2 p2) 0)] (bo r):=by
 refine C0 (fk func147 ntmps147 m0 (by with_unfolding_all rfl)) (nl W) ?_
 unfold Jd at h
 refine B5 (s0:=⟨T [(0,(.d _)),(1,(.d _))],G []⟩) (E3 W W) ?_
 refine B1<|sm W<|sv W<|A1<|B1<|sv W<|sv W<|sq W<|sl W G_hit W<|sv W<|sv W<|gt W (fun _=>W) ?_
 refine gt W (fun w2=>(by simp only [A3 w2];rfl)) ?_
 refine gt W (fun _=>W) ?_
 refine gt W (fun w4=>(by simp only [A3 w4];rfl)) ?_
 refine gt W (fun w5=>(by simp only [A3 w5];rfl)) ?_
 refine gp W (I8 W) (fun _=>W) (gt W (vl W G_hit W)<|gp W (I8 W) (fun _=>W) (gt W (vl W G_hit W) ?_))
 refine gt W (fun w10=>(by simp only [A3 w10];rfl)) ?_
 refine bs h fun v1 hv1 h=> ?_
 refine I9 _ (.agg [(i64 v1.from_),(i64 v1.to)]) (I8 W) (fun w11=>⟨_,[(.d (.agg [(i64 p2.From),(i64 p2.To)])),(.d (.agg [(i64 p1.From),(i64 p1.To)]))],_,_,(by simp only [A3 w11];rfl),W,A2,Nf _ _ _<|C2 w11 hv1,(.inl W)⟩) ?_
 refine bs h fun v2 hv2 h=> ?_
 refine I9 _ (bo v2) (I8 W) (fun w12=>⟨_,[(.d (.agg [(i64 v1.from_),(i64 v1.to)]))],_,_,(by simp only [A3 w12];rfl),W,A2,Kr _ _<|C2 w12 hv2,(.inl W)⟩) ?_
 refine M5 _ (.d (bo (!v2))) W (I8 W) (fun w13=>(by simp only [A3 w13];rfl)) ?_
 refine sa W W W<|sv W<|A1<|B2 ?_
 cases h
 exact A7 (.inr W) (B4 (B3 W) B8) (.refl _)
def O5 (p1:(List Span))(p2:Span)(x1:Int):Option (Stp Int (Sum Unit Int)):=
  cond (decide (x1< (p1.length:Int))) ((C8 p1 x1).bind fun v1=>(Jd v1 p2).bind fun v2=>cond v2 (some (.out (.inr x1))) (some (.go (C9 (x1+1))))) (some (.out (.inl ())))
def H9 [Lp](p1:(List Span))(p2:Span):Option Int:=
  thenS (loop (O5 p1 p2) 0) (fun _=>some (-1)) (fun r=>some r)
theorem Dm(p1 p2 r)(h:H9 p1 p2=some r):PCall prog 208 [(.list (List.map J2 p1)),(.fn (.func 147) [] [(.bp (J2 p2) 0)])] (i64 r):=by
 refine C0 (fk func208 ntmps208 m0 (by with_unfolding_all rfl)) (nl W) ?_
 unfold H9 at h
 refine B5 (s0:=⟨T [(0,(.d _)),(1,(.d _))],G []⟩) (E3 W W) ?_
 refine B1<|sv W<|A1<|A4<|B1<|sv W<|sd W (D0 W)<|sv W<|A1<|js h fun z1 hz1 h=>D3 (fun s=> ∃(y1:Unit) (g1:Unit),z1= .inl y1∧Sb ⟨T [],G []⟩ s) ?_ ?_
 refine A9<|D7 (O5 p1 p2) (fun (x1:Int) (g2:Unit)=>⟨T [(0,(dl J2 p1)),(1,(.d (.fn (.func 147) [] [(.bp (J2 p2) 0)]))),(7,(di (p1.length:Int))),(8,(di x1))],G []⟩) 0 () _ hz1 (E3 W W) ?_
 intro x1 g2 z2 hz2 ez2
 unfold O5 at hz2
 refine B1<|sv W<|A1<|A4<|cc W hz2 (fun c1 hz2=> ?_)<|fun c1 hz2=> ?_
 refine A8<|A4<|A9<|B1<|sv W<|sv W<|A1<|B1<|sv W<|sv W<|sv W<|bs hz2 fun _ hv1 hz2=>sd W (C5 W W hv1 W)<|sd W (C7 W hv1 W W)<|bs hz2 fun _ hv2 hz2=>B0 W W A2 (Ul _ _ _ hv2) (.inl W) (A1<|cc W hz2 (fun c2 hz2=> ?_)<|fun c2 hz2=> ?_)
 refine B1<|sv W<|sv W<|A1<|B2 ?_
 cases hz2
 obtain rfl:=ez2 _ rfl
 refine ⟨nofun,E5 ?_⟩
 rw [bT]at h
 cases h
 exact A7 (.inr W) (B4 (B3 W) B8) (.refl _)
 refine A8<|D4<|C1<|sv W<|sv W<|A1<|D6 ?_
 cases hz2
 exact ⟨W,(),(E3 W W)⟩
 refine C6 W ?_
 cases hz2
 obtain rfl:=ez2 _ rfl
 refine ⟨nofun,C3 W<|T4 ?_⟩
 exact ⟨_,(),W,(E3 W W)⟩
 rintro _ ⟨y1,g1,rfl,q1⟩
 rw [bS]at h
 refine B5 q1<|B1<|sv W<|A1<|B2 ?_
 cases h
 exact A7 (.inr W) (B4 (B3 W) B8) (.refl _)
def G6 [Lp](p1:(List Span))(p2:Span):Option Bool:=
  (H9 p1 p2).bind fun v1=>some (decide (v1≥0))
theorem Bw(p1 p2 r)(h:G6 p1 p2=some r):PCall prog 145 [(.list (List.map J2 p1)),(.fn (.func 147) [] [(.bp (J2 p2) 0)])] (bo r):=by
 refine C0 (fk func145 ntmps145 m0 (by with_unfolding_all rfl)) (nl W) ?_
 unfold G6 at h
 refine B5 (s0:=⟨T [(0,(.d _)),(1,(.d _))],G []⟩) (E3 W W) ?_
 refine B1<|sv W<|A1<|B1<|sv W<|sv W<|bs h fun _ hv1 h=>B0 W W A2 (Dm _ _ _ hv1) (.inl W) (sv W<|sv W<|A1<|B2 ?_)
 cases h
 exact A7 (.inr W) (B4 (B3 W) B8) (.refl _)
def Aj [Lp](p1:Span)(p2:(List Span)):Option Bool:=
  (G6 p2 p1).bind fun v1=>some v1
theorem Wt(p1 p2 r)(h:Aj p1 p2=some r):PCall prog 146 [(.agg (J2 p1)),(.bp [(.list (List.map J2 p2))] 0)] (bo r):=by
 refine C0 (fk func146 ntmps146 m0 (by with_unfolding_all rfl)) (nl W) ?_
 unfold Aj at h
 refine B5 (s0:=⟨T [(0,(.d _)),(1,(.d _))],G []⟩) (E3 W W) ?_
 refine B1<|sm W<|sv W<|A1<|B1<|sv W<|B9 (.fn _ _ _) W W (bs h fun _ hv1 h=>B0 W (rD<|E0 (Zu F0<|E0 (Ab G_hit<|rD<|rD<|rD F0) F0) F0) A2 (Bw _ _ _ hv1) (.inr W) (sv W<|A1<|B2 ?_))
 cases h
 exact A7 (.inr W) (B4 (B3 W) B8) (.refl _)
def H5 [Lp](p1:(List Span))(p2:(List Span))(x1:Int):Option (Stp Int (Sum Unit Int)):=
  cond (decide (x1< (p1.length:Int))) ((C8 p1 x1).bind fun v1=>(Aj v1 p2).bind fun v2=>cond v2 (some (.out (.inr x1))) (some (.go (C9 (x1+1))))) (some (.out (.inl ())))
def J1 [Lp](p1:(List Span))(p2:(List Span)):Option Int:=
  thenS (loop (H5 p1 p2) 0) (fun _=>some (-1)) (fun r=>some r)
theorem Ei(p1 p2 r)(h:J1 p1 p2=some r):PCall prog 208 [(.list (List.map J2 p1)),(.fn (.func 146) [] [(.bp [(.list (List.map J2 p2))] 0)])] (i64 r):=by
 refine C0 (fk func208 ntmps208 m0 (by with_unfolding_all rfl)) (nl W) ?_
 unfold J1 at h
 refine B5 (s0:=⟨T [(0,(.d _)),(1,(.d _))],G []⟩) (E3 W W) ?_
 refine B1<|sv W<|A1<|A4<|B1<|sv W<|sd W (D0 W)<|sv W<|A1<|js h fun z1 hz1 h=>D3 (fun s=> ∃(y1:Unit) (g1:Unit),z1= .inl y1∧Sb ⟨T [],G []⟩ s) ?_ ?_
 refine A9<|D7 (H5 p1 p2) (fun (x1:Int) (g2:Unit)=>⟨T [(0,(dl J2 p1)),(1,(.d (.fn (.func 146) [] [(.bp [(.list (List.map J2 p2))] 0)]))),(7,(di (p1.length:Int))),(8,(di x1))],G []⟩) 0 () _ hz1 (E3 W W) ?_
 intro x1 g2 z2 hz2 ez2
 unfold H5 at hz2
 refine B1<|sv W<|A1<|A4<|cc W hz2 (fun c1 hz2=> ?_)<|fun c1 hz2=> ?_
 refine A8<|A4<|A9<|B1<|sv W<|sv W<|A1<|B1<|sv W<|sv W<|sv W<|bs hz2 fun _ hv1 hz2=>sd W (C5 W W hv1 W)<|sd W (C7 W hv1 W W)<|bs hz2 fun _ hv2 hz2=>B0 W W A2 (Wt _ _ _ hv2) (.inl W) (A1<|cc W hz2 (fun c2 hz2=> ?_)<|fun c2 hz2=> ?_)
 refine B1<|sv W<|sv W<|A1<|B2 ?_
 cases hz2
 obtain rfl:=ez2 _ rfl
 refine ⟨nofun,E5 ?_⟩
 rw [bT]at h
 cases h
 exact A7 (.inr W) (B4 (B3 W) B8) (.refl _)
 refine A8<|D4<|C1<|sv W<|sv W<|A1<|D6 ?_
 cases hz2
 exact ⟨W,(),(E3 W W)⟩
 refine C6 W ?_
 cases hz2
 obtain rfl:=ez2 _ rfl
 refine ⟨nofun,C3 W<|T4 ?_⟩
 exact ⟨_,(),W,(E3 W W)⟩
 rintro _ ⟨y1,g1,rfl,q1⟩
 rw [bS]at h
 refine B5 q1<|B1<|sv W<|A1<|B2 ?_
 cases h
 exact A7 (.inr W) (B4 (B3 W) B8) (.refl _)
def H6 [Lp](p1:(List Span))(p2:(List Span)):Option Bool:=
  (J1 p1 p2).bind fun v1=>some (decide (v1≥0))
theorem Cx(p1 p2 r)(h:H6 p1 p2=some r):PCall prog 145 [(.list (List.map J2 p1)),(.fn (.func 146) [] [(.bp [(.list (List.map J2 p2))] 0)])] (bo r):=by
 refine C0 (fk func145 ntmps145 m0 (by with_unfolding_all rfl)) (nl W) ?_
 unfold H6 at h
 refine B5 (s0:=⟨T [(0,(.d _)),(1,(.d _))],G []⟩) (E3 W W) ?_
 refine B1<|sv W<|A1<|B1<|sv W<|sv W<|bs h fun _ hv1 h=>B0 W W A2 (Ei _ _ _ hv1) (.inl W) (sv W<|sv W<|A1<|B2 ?_)
 cases h
 exact A7 (.inr W) (B4 (B3 W) B8) (.refl _)
def Fr [Lp](p1:Map)(p2:Agent)(p3:Agent):Option Bool:=
  (Cw p1 p3).bind fun v1=>(Cw p1 p2).bind fun v2=>(H6 v2 v1).bind fun v3=>some v3
theorem DD(p1 p2 p3 r)(h:Fr p1 p2 p3=some r):PCall prog 68 [(.agg (O8 p1)),(.agg (E4 p2)),(.agg (E4 p3))] (bo r):=by
 refine C0 (fk func68 ntmps68 m0 (by with_unfolding_all rfl)) (nl W) ?_
 unfold Fr at h
 refine B5 (s0:=⟨T [(0,(.d _)),(1,(.d _)),(2,(.d _))],G []⟩) (E3 W W) ?_
 refine B1<|sm W<|sn W W<|sm W<|sv W<|A1<|B1<|sd W (A6 W (gq W) W W)<|sd W (A6 W G_hit W W)<|bs h fun v1 hv1 h=>B0 W W A2 (Ou _ _ _ hv1) (.inl W) (sm W<|Q4 W G_hit [(dl J2 v1)] W (A1<|B1<|sd W (A6 W (gq W) W W)<|sd W (A6 W (gq W) W W)<|bs h fun _ hv2 h=>B0 W W A2 (Ou _ _ _ hv2) (.inl W) (B9 (.fn _ _ _) W W (bs h fun _ hv3 h=>B0 W (rD<|E0 (Zu F0<|E0 (Ab G_hit<|rD F0) F0) F0) A2 (Cx _ _ _ hv3) (.inr W) (sv W<|A1<|B2 ?_)))))
 cases h
 exact A7 (.inr W) (B4 (B3 W) B8) (.refl _)
def V7 [Lp](p1:WorldScene)(p2:Int)(p3:Int)(p4:Int):Option Bool:=
  (O0 p1 p2 p4).bind fun v1=>((cond v1 (O0 p1 p3 p4) (some default))).bind fun v2=>((cond (v1&&v2) (C8 p1.before.Agents p2) (some default))).bind fun v3=>((cond (v1&&v2) (Gk p1.m v3.Route p4) (some default))).bind fun v4=>((cond (v1&&v2) (C8 p1.before.Agents p3) (some default))).bind fun v5=>((cond (v1&&v2) (Gk p1.m v5.Route p4) (some default))).bind fun v6=>some ((v1&&v2)&& (v4 !=v6))
theorem Ng(p1 p2 p3 p4 r)(h:V7 p1 p2 p3 p4=some r):PCall prog 82 [(.bp (Ph p1) 0),(i64 p2),(i64 p3),(i64 p4)] (bo r):=by
 refine C0 (fk func82 ntmps82 m0 (by with_unfolding_all rfl)) (nl W) ?_
 unfold V7 at h
 refine B5 (s0:=⟨T [(0,(.d _)),(1,(.d _)),(2,(.d _)),(3,(.d _))],G []⟩) (E3 W W) ?_
 refine B1<|sv W<|A1<|A4<|D5 W<|sv W<|sv W<|sv W<|bs h fun v1 hv1 h=>B0 W W A2 (Av _ _ _ _ hv1) (.inl W) (sv W<|gt W (fun _=>W)<|gt W (fun _=>W)<|gt W (fun _=>W)<|bs h fun v2 hv2 h=> ?_)
 refine I9 v1 (bo v2) (I8 W) (fun w4=>⟨_,[(.d (.bp (Ph p1) 0)),(di p3),(di p4)],_,_,(by simp only [A3 w4];rfl),W,A2,Av _ _ _ _<|C2 w4 hv2,(.inl W)⟩) ?_
 refine sa W W W<|sv W<|gt W (fun _=>W) ?_
 refine gt W (fun w6=>(by simp only [A3 w6];rfl)) ?_
 refine gt W (fun w7=>(by simp only [A3 w7];rfl)) ?_
 refine gt W (fun w8=>(by simp only [A3 w8];rfl)) ?_
 refine gt W (fun _=>W) ?_
 refine gt W (fun w10=>(by simp only [A3 w10];rfl)) ?_
 refine gt W (fun w11=>(by simp only [A3 w11];rfl)) ?_
 refine gt W (fun w12=>(by simp only [A3 w12];rfl)) ?_
 refine gt W (fun w13=>(by simp only [A3 w13];rfl)) ?_
 refine gt W (fun _=>W)<|bs h fun v3 hv3 h=>gt W (fun w15=>(C5 (A3 w15) (A3 w15) (C2 w15 hv3) W)) ?_
 refine gt W (fun w16=>(by simp only [A3 w16];rfl)) ?_
 refine gt W (fun w17=>(D1 (A3 w17) (C2 w17 hv3) W))<|gt W (fun _=>W)<|bs h fun v4 hv4 h=> ?_
 refine I9 _ (i64 v4) (I8 W) (fun w19=>⟨_,[(.d (.agg (O8 p1.m))),(dl A5 v3.Route),(di p4)],_,_,(by simp only [A3 w19];rfl),W,A2,Rz _ _ _ _<|C2 w19 hv4,(.inl W)⟩) ?_
 refine gt W (fun _=>W) ?_
 refine gt W (fun w21=>(by simp only [A3 w21];rfl)) ?_
 refine gt W (fun w22=>(by simp only [A3 w22];rfl)) ?_
 refine gt W (fun w23=>(by simp only [A3 w23];rfl)) ?_
 refine gt W (fun _=>W) ?_
 refine gt W (fun w25=>(by simp only [A3 w25];rfl)) ?_
 refine gt W (fun w26=>(by simp only [A3 w26];rfl)) ?_
 refine gt W (fun w27=>(by simp only [A3 w27];rfl)) ?_
 refine gt W (fun w28=>(by simp only [A3 w28];rfl)) ?_
 refine gt W (fun _=>W)<|bs h fun v5 hv5 h=>gt W (fun w30=>(C5 (A3 w30) (A3 w30) (C2 w30 hv5) W)) ?_
 refine gt W (fun w31=>(by simp only [A3 w31];rfl)) ?_
 refine gt W (fun w32=>(D1 (A3 w32) (C2 w32 hv5) W))<|gt W (fun _=>W)<|bs h fun v6 hv6 h=> ?_
 refine I9 _ (i64 v6) (I8 W) (fun w34=>⟨_,[(.d (.agg (O8 p1.m))),(dl A5 v5.Route),(di p4)],_,_,(by simp only [A3 w34];rfl),W,A2,Rz _ _ _ _<|C2 w34 hv6,(.inl W)⟩) ?_
 refine gt W (fun w35=>(L4 (A3 w35) (A3 w35) W))<|sa W W W<|sv W<|A1<|B2 ?_
 cases h
 exact A7 (.inr W) (B4 (B3 W) B8) (.refl _)
def Jw [Lp](p1:Map)(v5:WorldScene)(a1:(Int×Int))(x2:Int):Option (Stp Int (Sum Unit (State×Int))):=
  cond (decide (x2< (p1.Zones.length:Int))) ((V7 v5 a1.1 a1.2 x2).bind fun v10=>cond v10 (some (.out (.inr ((State.mk 0 [] []),12)))) (some (.go (C9 (x2+1))))) (some (.out (.inl ())))
def Jx [Lp](p1:Map)(p2:(List Agent))(v5:WorldScene)(x1:Unit)(a1:(Int×Int)):Option (Stp Unit (Sum Unit (State×Int))):=
  (C8 p2 a1.1).bind fun v7=>(C8 p2 a1.2).bind fun v8=>(Fr p1 v7 v8).bind fun v9=>cond v9 (some (.out (.inr ((State.mk 0 [] []),12)))) (thenS (loop (Jw p1 v5 a1) 0) (fun _=>some (.go ())) (fun r=>some (.out (.inr r))))
def DE:Option Unit:=
  some ()
def Re [Lp](p1:Map)(p2:(List Agent)):Option (State×Int):=
  (Lz (State.mk 0 p2 [])).bind fun v1=>(Ba p1 v1).bind fun v2=>cond (v2 !=0) (some ((State.mk 0 [] []),v2)) ((J3 p2).bind fun v3=>cond v3 (some ((State.mk 0 [] []),10)) ((Lz v1).bind fun v4=>(Z6 (WorldScene.mk p1 v1 v4 [] [])).bind fun v5=>(DE).bind fun y1=>thenS ((OF v5.before).bind fun v6=>loopL (Jx p1 p2 v5) (fun (x1:Unit)=> .inl ()) v6 ()) (fun _=>some (v5.after,0)) (fun r=>some r)))
theorem OG(p1 p2 r)(h:Re p1 p2=some r):PCall prog 27 [(.agg (O8 p1)),(.list (List.map E4 p2))] (.tup [(.agg (U5 r.1)),(i64 r.2)]):=by
 refine C0 (fk func27 ntmps27 (fun r=>if r==8 then [1008001]else if r==9 then [1]else []) (by with_unfolding_all rfl)) (nl W) ?_
 unfold Re at h
 refine B5 (s0:=⟨T [(0,(.d _)),(1,(.d _))],G []⟩) (E3 W W) ?_
 refine lr<|fun u1 _=>sm W<|sm W<|sn W W<|sm W<|A1<|B1<|sl W (gq W) W (sv W<|bs h fun v1 hv1 h=>B0 W W (.cons (.agg (ca W<|ca W<|.cons ⟨DLe.nil,W⟩ .nil)) .nil) (Zw _ _ hv1) (.inl W) (sm W<|Q4 W G_hit (J8 v1) W (A1<|A4<|B1<|sd W (A6 W (gq W) W W)<|sd W (A6 W G_hit W W)<|bs h fun v2 hv2 h=>B0 W W A2 (Nd _ _ _ hv2) (.inl W) (sv W<|A1<|B1<|sv W<|sv W<|A1<|cc W h (fun c1 h=> ?_)<|fun c1 h=> ?_))))
 refine B1<|sv W<|sv W<|Q4 W (gq W) [(di 0),(.d .nilS),(.d .nilS)] W (Q4 W (gq W) [(di v2)] W (A1<|B2 ?_))
 cases h
 exact A7 (.inr W) (Iz (G5 W (gq W) (nl W) W) (Xq W G_hit W) B8 B8) (.tup (.cons (.agg (ca W<|.cons ⟨DLe.nil,W⟩ (.cons ⟨DLe.nil,W⟩ .nil))) A2))
 refine A8<|A4<|B1<|sl W (gq W) W (bs h fun _ hv3 h=>B0 W W A2 (Eu _ _ hv3) (.inl W) (A1<|cc W h (fun c2 h=> ?_)<|fun c2 h=> ?_))
 refine B1<|sv W<|Q4 W (gq W) [(di 0),(.d .nilS),(.d .nilS)] W (Q4 W (gq W) [(di 10)] W (A1<|B2 ?_))
 cases h
 exact A7 (.inr W) (Iz (G5 W (gq W) (nl W) W) (Xq W G_hit W) B8 B8) (.tup (.cons (.agg (ca W<|.cons ⟨DLe.nil,W⟩ (.cons ⟨DLe.nil,W⟩ .nil))) A2))
 refine A8<|A4<|Fj W fun u8 _=>sd W (A6 W (gq W) W W)<|sd W (A6 W G_hit W W)<|sd W (A6 W G_hit W W)<|bs h fun _ hv4 h=>B0 W W A2 (Zw _ _ hv4) (.inl W) (sv W<|sm W<|sn W W<|Q4 W G_hit [(.ptr (30,u8) 0)] W (A1<|B1<|sp W (N8 W G_hit W)<|bs h fun v5 hv5 h=>GD (v:= .d (.tup [])) (us:= [(30,u8)]) (EI (Vh _ _ hv5) [(30,u8)] [(30,u8)] _ (((30,u8),some<|.box 135 (U6 v5))::_) W Is (R4 (AZ (C4 W<|C4 W G_hit) W) Px) (Ah (C4 W<|C4 W G_hit) Eb) ⟨⟨_,(C4 W<|C4 W G_hit), .box (.cons (.of W) (.cons (.of W) (.cons (.of W) (.cons (.of W) (.cons (.of W) (.cons (.of W) (.cons (.of W) (.cons (.of W) (.cons (.of W) (.cons (.of W) (.cons (.of W) (.cons (DLe.d DLe.nil) (.cons (DLe.d DLe.nil) .nil)))))))))))))⟩,trivial⟩ (fun _ h=>h) nd1 W W W) (A1<|A4<|B1<|sp W (N8 W (gq W) W)<|bs h fun _ hy1 h=>Vd (fk func81 ntmps81 m0 (by with_unfolding_all rfl)) (fun (g1:Nat)=> [(2,(.ptr (2,u1) 0)),(3,(.ptr (3,u1) 0)),(4,(.ptr (4,u1) 0)),(5,(.ptr (5,u1) 0)),(8,(.ptr (8,u8) 0)),(34,(.fn (.func 174) [] [(.ptr (1,g1) 0)]))]) (fun (g1:Nat)=> [((2,u1),some<|.box 33 (K7 p1)),((3,u1),some<|.box 22 [(dl E4 p2)]),((4,u1),some<|.box 25 [(di 0),(.d .nilS),(.d .nilS)]),((5,u1),some<|.box 36 [(di 0)]),((8,u8),some<|.box 133 [(.ptr (30,u8) 0)]),((30,u8),some<|.box 135 (U6 v5)),((1,g1),some<|.box 133 [(.ptr (30,u8) 0)])]) W (nl W) ?_ ?_)))
 unfold DE at hy1
 refine B5 (s0:=⟨T [(0,(.ptr _ _))],G [((30,u8),some<|.box 135 _),((2,u1),some<|.box 33 _),((3,u1),some<|.box 22 _),((4,u1),some<|.box 25 _),((5,u1),some<|.box 36 _),((8,u8),some<|.box 133 _)]⟩) (E3 W W) ?_
 refine lr<|fun u11 _=>sm W<|sv W<|A1<|B1<|B9 (.fn _ _ _) W W (B9 (.fn _ _ _) W W (A1<|B2 ?_))
 cases hy1
 exact CX (.inr W) (LZ<|B3 W) u11 (X5 W) (sg W<|sg W<|sg W<|sg W<|sg W<|sg W<|B6 G_hit (.of W) trivial)
 intro g1
 intro u13 hu13
 refine A1<|js h fun z1 hz1 h=>D3 (fun s=> ∃(y2:Unit) (g2:Unit),z1= .inl y2∧Sb ⟨T [(4,(.ptr (4,u1) 0)),(5,(.ptr (5,u1) 0)),(8,(.ptr (8,u8) 0))],G [((4,u1),some<|.box 25 [(di 0),(.d .nilS),(.d .nilS)]),((5,u1),some<|.box 36 [(di 0)]),((8,u8),some<|.box 133 [(.ptr (30,u8) 0)]),((30,u8),some<|.box 135 (U6 v5))]⟩ s) ?_ ?_
 refine A9<|bs hz1 fun v6 hv6 hz1=>B5 (s0:=⟨T [(2,(.ptr _ _)),(3,(.ptr _ _)),(4,(.ptr _ _)),(5,(.ptr _ _)),(8,(.ptr _ _)),(34,(.fn _ _ _))],G [((2,u1),some<|.box 33 _),((3,u1),some<|.box 22 _),((4,u1),some<|.box 25 _),((5,u1),some<|.box 36 _),((8,u8),some<|.box 133 _),((30,u8),some<|.box 135 _),((1,g1),some<|.box 133 _)]⟩) (E3 W W) ?_
 refine QS (.fn (.func 174) [] [(.ptr (1,g1) 0)]) (Vi (1,g1) (30,u8) v5.before) IR v6 (Jx p1 p2 v5) (fun (x1:Unit)=>(.inl ():Sum Unit (State×Int))) (fun (x1:Unit) (g3:Unit)=> [((2,u1),some<|.box 33 (K7 p1)),((3,u1),some<|.box 22 [(dl E4 p2)]),((4,u1),some<|.box 25 [(di 0),(.d .nilS),(.d .nilS)]),((5,u1),some<|.box 36 [(di 0)]),((8,u8),some<|.box 133 [(.ptr (30,u8) 0)]),((1,g1),some<|.box 133 [(.ptr (30,u8) 0)]),((30,u8),some<|.box 135 (U6 v5))]) () () _ W (IS hv6 _ _) (fun x1 g3 _ _=>⟨C4 W<|gq W,_,_,_,_,_,_,_,_,_,_,C4 W<|gq W⟩) (fun _=>W) hz1 (E3 W W) nofun ?_ ?_
 intro u15 hu15 hku15
 refine ⟨fun x1 g3=>(C4 W<|C4 W<|C4 W<|C4 W<|C4 W<|C4 W<|C4 W W),?_⟩
 intro r1 x1 g3 a1 z2 hrr1 hz2 ez2
 unfold Jx at hz2
 show Bt _ _ _ _ _ _ ⟨T [(36,(di a1.2)),(35,(di a1.1)),(2,(.ptr (2,u1) 0)),(3,(.ptr (3,u1) 0)),(4,(.ptr (4,u1) 0)),(5,(.ptr (5,u1) 0)),(8,(.ptr (8,u8) 0)),(34,(.fn (.func 174) [] [(.ptr (1,g1) 0)]))],G [((1000000,u15),some (.obj (T [(2,(.ptr (2,u1) 0)),(3,(.ptr (3,u1) 0)),(4,(.ptr (4,u1) 0)),(5,(.ptr (5,u1) 0)),(8,(.ptr (8,u8) 0)),(34,(.fn (.func 174) [] [(.ptr (1,g1) 0)]))]) r1)),((2,u1),some (.box 33 (K7 p1))),((3,u1),some (.box 22 [(dl E4 p2)])),((4,u1),some (.box 25 [(di 0),(.d .nilS),(.d .nilS)])),((5,u1),some (.box 36 [(di 0)])),((8,u8),some (.box 133 [(.ptr (30,u8) 0)])),((1,g1),some (.box 133 [(.ptr (30,u8) 0)])),((30,u8),some (.box 135 (U6 v5)))]⟩
 refine B1<|sv W<|A1<|C1<|sv W<|A1<|T4<|NS G_hit ?_
 refine A9<|A4<|A4<|D5 W<|sd W (A6 W (gq W) W W)<|sl W (gq W) W (sv W<|bs hz2 fun _ hv7 hz2=>sd W (C5 W W hv7 W)<|sd W (C7 W hv7 W W)<|sl W (gq W) W (sv W<|bs hz2 fun _ hv8 hz2=>sd W (C5 W W hv8 W)<|sd W (C7 W hv8 W W)<|bs hz2 fun _ hv9 hz2=>B0 W W A2 (DD _ _ _ _ hv9) (.inl W) (A1<|cc W hz2 (fun c3 hz2=> ?_)<|fun c3 hz2=> ?_)))
 refine B1<|sv W<|Q4 W (gq W) [(di 0),(.d .nilS),(.d .nilS)] W (Q4 W (gq W) [(di 12)] W (A1<|B2 ?_))
 cases hz2
 obtain rfl:=ez2 _ rfl
 refine VM (gq W) nofun (E5 ?_)
 rw [bT]at h
 cases h
 exact A7 (.inr W) (Iz (G5 W (gq W) (nl W) W) (Xq W (gq W) W) B8 B8) (.tup (.cons (.agg (ca W<|.cons ⟨DLe.nil,W⟩ (.cons ⟨DLe.nil,W⟩ .nil))) A2))
 refine A8<|B1<|sq W<|sl W (gq W) W (sd W (D0 W)<|sv W<|A1<|js hz2 fun z3 hz3 hz2=>D3 (fun s=> ∃(y3:Unit) (g4:Unit),z3= .inl y3∧Sb ⟨T [],G [((2,u1),some<|.box 33 (K7 p1)),((3,u1),some<|.box 22 [(dl E4 p2)]),((4,u1),some<|.box 25 [(di 0),(.d .nilS),(.d .nilS)]),((5,u1),some<|.box 36 [(di 0)]),((8,u8),some<|.box 133 [(.ptr (30,u8) 0)]),((1,g1),some<|.box 133 [(.ptr (30,u8) 0)]),((1000000,u15),some<|.obj (T [(2,(.ptr (2,u1) 0)),(3,(.ptr (3,u1) 0)),(4,(.ptr (4,u1) 0)),(5,(.ptr (5,u1) 0)),(8,(.ptr (8,u8) 0)),(34,(.fn (.func 174) [] [(.ptr (1,g1) 0)]))]) {r1 with state:= .busy}),((30,u8),some<|.box 135 (U6 v5))]⟩ s) ?_ ?_)
 refine A9<|D7 (Jw p1 v5 a1) (fun (x2:Int) (g5:Unit)=>⟨T [(4,(.ptr (4,u1) 0)),(5,(.ptr (5,u1) 0)),(8,(.ptr (8,u8) 0)),(9,(di a1.1)),(10,(di a1.2)),(50,(di (p1.Zones.length:Int))),(51,(di x2))],G [((4,u1),some<|.box 25 [(di 0),(.d .nilS),(.d .nilS)]),((5,u1),some<|.box 36 [(di 0)]),((8,u8),some<|.box 133 [(.ptr (30,u8) 0)]),((2,u1),some<|.box 33 (K7 p1)),((3,u1),some<|.box 22 [(dl E4 p2)]),((1,g1),some<|.box 133 [(.ptr (30,u8) 0)]),((1000000,u15),some<|.obj (T [(2,(.ptr (2,u1) 0)),(3,(.ptr (3,u1) 0)),(4,(.ptr (4,u1) 0)),(5,(.ptr (5,u1) 0)),(8,(.ptr (8,u8) 0)),(34,(.fn (.func 174) [] [(.ptr (1,g1) 0)]))]) {r1 with state:= .busy}),((30,u8),some<|.box 135 (U6 v5))]⟩) 0 () _ hz3 (E3 W W) ?_
 intro x2 g5 z4 hz4 ez4
 unfold Jw at hz4
 refine B1<|sv W<|A1<|A4<|cc W hz4 (fun c4 hz4=> ?_)<|fun c4 hz4=> ?_
 refine A8<|A4<|A9<|B1<|sv W<|sv W<|A1<|B1<|sp W (N8 W (gq W) W)<|sv W<|sv W<|sv W<|bs hz4 fun _ hv10 hz4=>B0 W (E0 (Ab (gq W)<|rD<|rD<|rD<|rD<|rD<|rD<|rD<|rD<|rD<|rD<|rD<|rD<|rD F0)<|rD<|rD<|rD F0) A2 (Ng _ _ _ _ _ hv10) (.inr W) (A1<|cc W hz4 (fun c5 hz4=> ?_)<|fun c5 hz4=> ?_)
 refine B1<|sv W<|Q4 W G_hit [(di 0),(.d .nilS),(.d .nilS)] W (Q4 W (gq W) [(di 12)] W (A1<|B2 ?_))
 cases hz4
 obtain rfl:=ez4 _ rfl
 refine ⟨nofun,E5 ?_⟩
 rw [bT]at hz2
 cases hz2
 obtain rfl:=ez2 _ rfl
 refine VM (gq W) nofun (E5 ?_)
 rw [bT]at h
 cases h
 exact A7 (.inr W) (Iz (G5 W (gq W) (nl W) W) (Xq W (gq W) W) B8 B8) (.tup (.cons (.agg (ca W<|.cons ⟨DLe.nil,W⟩ (.cons ⟨DLe.nil,W⟩ .nil))) A2))
 refine A8<|D4<|C1<|sv W<|sv W<|A1<|D6 ?_
 cases hz4
 exact ⟨W,(),(E3 W W)⟩
 refine C6 W ?_
 cases hz4
 obtain rfl:=ez4 _ rfl
 refine ⟨nofun,C3 W<|T4 ?_⟩
 exact ⟨_,(),W,(E3 W W)⟩
 rintro _ ⟨y3,g4,rfl,q1⟩
 rw [bS]at hz2
 refine D4<|D6 ?_
 cases hz2
 exact fF q1 (gq W) () (B6 G_hit (.of W)<|sg W<|sg W<|sg W<|sg W<|sg W<|sg W trivial)
 rintro x1 g3 _ rfl qx1
 refine D4<|T4 ?_
 exact ⟨_,(),W,(Sb.after qx1<|E3 W W)⟩
 rintro _ ⟨y2,g2,rfl,q2⟩
 rw [bS]at h
 refine B5 q2<|B1<|sp W (N8 W (gq W) W)<|sq W<|sp W W<|sd W (A6 W (gq W) W W)<|Q4 W G_hit (J8 v5.after) W (Q4 W (gq W) [(di 0)] W (A1<|B2 ?_))
 cases h
 exact A7 (.inr W) (Iz (G5 W (gq W) (nl W) W) (Xq W G_hit W) B8 B8) (.refl _)
def Qc (p1:Int):Option Int:=
  (cond (decide (p1≥4294967296)) (some ((p1.fdiv (2^ (min (32:Int).toNat (IntKind.bits .u64)))),32)) (some (p1,0))).bind fun y1=>(cond (decide (y1.1≥65536)) (some ((y1.1.fdiv (2^ (min (16:Int).toNat (IntKind.bits .u64)))),(C9 (y1.2+16)))) (some (y1.1,y1.2))).bind fun y2=>cond (decide (y2.1≥256)) ((fT (ByteArray.mk #[0,1,2,2,3,3,3,3,4,4,4,4,4,4,4,4,5,5,5,5,5,5,5,5,5,5,5,5,5,5,5,5,6,6,6,6,6,6,6,6,6,6,6,6,6,6,6,6,6,6,6,6,6,6,6,6,6,6,6,6,6,6,6,6,7,7,7,7,7,7,7,7,7,7,7,7,7,7,7,7,7,7,7,7,7,7,7,7,7,7,7,7,7,7,7,7,7,7,7,7,7,7,7,7,7,7,7,7,7,7,7,7,7,7,7,7,7,7,7,7,7,7,7,7,7,7,7,7,8,8,8,8,8,8,8,8,8,8,8,8,8,8,8,8,8,8,8,8,8,8,8,8,8,8,8,8,8,8,8,8,8,8,8,8,8,8,8,8,8,8,8,8,8,8,8,8,8,8,8,8,8,8,8,8,8,8,8,8,8,8,8,8,8,8,8,8,8,8,8,8,8,8,8,8,8,8,8,8,8,8,8,8,8,8,8,8,8,8,8,8,8,8,8,8,8,8,8,8,8,8,8,8,8,8,8,8,8,8,8,8,8,8,8,8,8,8,8,8,8,8,8,8,8,8,8,8]) (IntKind.wrap .u8 (y2.1.fdiv (2^ (min (8:Int).toNat (IntKind.bits .u64)))))).bind fun v1=>some (C9 ((C9 (y2.2+8))+ (C9 v1)))) ((fT (ByteArray.mk #[0,1,2,2,3,3,3,3,4,4,4,4,4,4,4,4,5,5,5,5,5,5,5,5,5,5,5,5,5,5,5,5,6,6,6,6,6,6,6,6,6,6,6,6,6,6,6,6,6,6,6,6,6,6,6,6,6,6,6,6,6,6,6,6,7,7,7,7,7,7,7,7,7,7,7,7,7,7,7,7,7,7,7,7,7,7,7,7,7,7,7,7,7,7,7,7,7,7,7,7,7,7,7,7,7,7,7,7,7,7,7,7,7,7,7,7,7,7,7,7,7,7,7,7,7,7,7,7,8,8,8,8,8,8,8,8,8,8,8,8,8,8,8,8,8,8,8,8,8,8,8,8,8,8,8,8,8,8,8,8,8,8,8,8,8,8,8,8,8,8,8,8,8,8,8,8,8,8,8,8,8,8,8,8,8,8,8,8,8,8,8,8,8,8,8,8,8,8,8,8,8,8,8,8,8,8,8,8,8,8,8,8,8,8,8,8,8,8,8,8,8,8,8,8,8,8,8,8,8,8,8,8,8,8,8,8,8,8,8,8,8,8,8,8,8,8,8,8,8,8,8,8,8,8,8,8]) (IntKind.wrap .u8 y2.1)).bind fun v2=>some (C9 (y2.2+ (C9 v2))))
theorem BE(p1 r)(h:Qc p1=some r):PCall prog 281 [(.v (.int .u64 p1))] (i64 r):=by
 refine C0 (fk func281 ntmps281 m0 (by with_unfolding_all rfl)) (nl W) ?_
 unfold Qc at h
 refine B5 (s0:=⟨T [(0,(.d _))],G []⟩) (E3 W W) ?_
 refine B1<|sv W<|A1<|A4<|B1<|sv W<|sv W<|A1<|bs h fun y1 hy1 h=>D3 (fun s=> ∃g1:Unit,Sb ⟨T [(0,(.d (.v (.int .u64 y1.1)))),(2,(di y1.2))],G []⟩ s) ?_ ?_
 refine cc W hy1 (fun c1 hy1=> ?_)<|fun c1 hy1=> ?_
 refine B1<|sv W<|sv W<|sv W<|A1<|C1<|sv W<|A1 ?_
 cases hy1
 exact T4 ⟨(),(E3 W W)⟩
 refine A8 ?_
 cases hy1
 exact T4 ⟨(),(E3 W W)⟩
 rintro _ ⟨g1,q1⟩
 refine B5 q1<|A4<|B1<|sv W<|sv W<|A1<|bs h fun y2 hy2 h=>D3 (fun s=> ∃g2:Unit,Sb ⟨T [(0,(.d (.v (.int .u64 y2.1)))),(2,(di y2.2))],G []⟩ s) ?_ ?_
 refine cc W hy2 (fun c2 hy2=> ?_)<|fun c2 hy2=> ?_
 refine B1<|sv W<|sv W<|sv W<|A1<|C1<|sv W<|sv W<|sv W<|A1 ?_
 cases hy2
 exact T4 ⟨(),(E3 W W)⟩
 refine A8 ?_
 cases hy2
 exact T4 ⟨(),(E3 W W)⟩
 rintro _ ⟨g2,q2⟩
 refine B5 q2<|A4<|B1<|sv W<|sv W<|A1<|cc W h (fun c3 h=> ?_)<|fun c3 h=> ?_
 refine B1<|sv W<|sv W<|sv W<|A1<|C1<|sv W<|sv W<|sv W<|A1<|B1<|sv W<|sv W<|sv W<|bs h fun _ hv1 h=>sd W (cH W W hv1)<|sv W<|sv W<|sv W<|A1<|B2 ?_
 cases h
 exact A7 (.inr W) (B4 (B3 W) B8) (.refl _)
 refine A8<|B1<|sv W<|sv W<|sv W<|bs h fun _ hv2 h=>sd W (cH W W hv2)<|sv W<|sv W<|sv W<|A1<|B2 ?_
 cases h
 exact A7 (.inr W) (B4 (B3 W) B8) (.refl _)
def Ov (p1:Int):Option Int:=
  (Qc p1).bind fun v1=>some v1
theorem Um(p1 r)(h:Ov p1=some r):PCall prog 267 [(.v (.int .u64 p1))] (i64 r):=by
 refine C0 (fk func267 ntmps267 m0 (by with_unfolding_all rfl)) (nl W) ?_
 unfold Ov at h
 refine B5 (s0:=⟨T [(0,(.d _))],G []⟩) (E3 W W) ?_
 refine B1<|sv W<|A1<|A4<|Qt W<|A8<|B1<|sv W<|bs h fun _ hv1 h=>B0 W W A2 (BE _ _ hv1) (.inl W) (sv W<|A1<|B2 ?_)
 cases h
 exact A7 (.inr W) (B4 (B3 W) B8) (.refl _)
def Sd (p1:Int)(p2:Int):Option Bool:=
  (Dt p1).bind fun v1=>((cond v1 (Dt p2) (some default))).bind fun v2=>some ((v1&& (!v2))||(decide (p1<p2)))
theorem DF(p1 p2 r)(h:Sd p1 p2=some r):PCall prog 277 [(i64 p1),(i64 p2)] (bo r):=by
 refine C0 (fk func277 ntmps277 m0 (by with_unfolding_all rfl)) (nl W) ?_
 unfold Sd at h
 refine B5 (s0:=⟨T [(0,(.d _)),(1,(.d _))],G []⟩) (E3 W W) ?_
 refine B1<|sv W<|A1<|B1<|sv W<|bs h fun v1 hv1 h=>B0 W W A2 (Gv _ _ hv1) (.inl W) (sv W<|gt W (fun _=>W)<|bs h fun v2 hv2 h=> ?_)
 refine I9 v1 (bo v2) (I8 W) (fun w2=>⟨_,[(di p2)],_,_,(by simp only [A3 w2];rfl),W,A2,Gv _ _<|C2 w2 hv2,(.inl W)⟩) ?_
 refine M5 _ (.d (bo (!v2))) W (I8 W) (fun w3=>(by simp only [A3 w3];rfl)) ?_
 refine sa W W W<|sv W<|gf W (fun _=>W)<|gf W (fun _=>W)<|gf W (fun w6=>(L4 (A3 w6) (A3 w6) W))<|sd W (L8 W W<|fun hc=>A3<|G0 hc)<|sv W<|A1<|B2 ?_
 cases h
 exact A7 (.inr W) (B4 (B3 W) B8) (.refl _)
def U7 (p2:Int)(x2:(Int× (List Int))):Option (Stp (Int× (List Int)) (List Int)):=
  ((cond (decide (x2.1>p2)) (C8 x2.2 x2.1) (some default))).bind fun v1=>((cond (decide (x2.1>p2)) (C8 x2.2 (C9 (x2.1 - 1))) (some default))).bind fun v2=>((cond (decide (x2.1>p2)) (Sd v1 v2) (some default))).bind fun v3=>cond ((decide (x2.1>p2))&&v3) ((C8 x2.2 (C9 (x2.1 - 1))).bind fun v4=>(C8 x2.2 x2.1).bind fun v5=>(C8 x2.2 x2.1).bind fun v6=>(C8 (Qu x2.2 x2.1 v4) (C9 (x2.1 - 1))).bind fun v7=>some (.go ((C9 (x2.1 - 1)),(Qu (Qu x2.2 x2.1 v4) (C9 (x2.1 - 1)) v5)))) (some (.out x2.2))
def L0 [Lp](p2:Int)(p3:Int)(x1:(Int× (List Int))):Option (Stp (Int× (List Int)) (List Int)):=
  cond (decide (x1.1<p3)) ((loop (U7 p2) (x1.1,x1.2)).bind fun y1=>some (.go ((C9 (x1.1+1)),y1))) (some (.out (x1.2)))
def M3 [Lp](p1:(List Int))(p2:Int)(p3:Int):Option (List Int):=
  loop (L0 p2 p3) ((C9 (p2+1)),p1)
theorem Je(p1 p2 p3 r)(h:M3 p1 p2 p3=some r):MCall prog 271 [(.sl (900000,0)),(di p2),(di p3)] [(.arr 2 1 (List.map A5 p1))] (.d (.tup [])) [some (.arr 2 1 (List.map A5 r))] []:=by
 refine Td (fk func271 ntmps271 m0 (by with_unfolding_all rfl)) W (nl W) ?_
 unfold M3 at h
 refine B5 (s0:=⟨T [(0,(.sl _)),(1,(.d _)),(2,(.d _))],G [((900000,0),some _)]⟩) (E3 W W) ?_
 refine B1<|sv W<|sv W<|sv W<|A1<|A9<|D7 (L0 p2 p3) (fun (x1:(Int× (List Int))) (g1:Unit)=>⟨T [(0,(.sl (900000,0))),(1,(di p2)),(2,(di p3)),(6,(di x1.1))],G [((900000,0),some<|.arr 2 1 (List.map A5 x1.2))]⟩) ((C9 (p2+1)),p1) () _ h (E3 W W) ?_
 intro x1 g1 z1 hz1 ez1
 unfold L0 at hz1
 refine A4<|B1<|sv W<|sv W<|sv W<|A1<|cc W hz1 (fun c1 hz1=> ?_)<|fun c1 hz1=> ?_
 refine A8<|A4<|A9<|B1<|sv W<|sv W<|A1<|bs hz1 fun y1 hy1 hz1=>D3 (fun s=> ∃g2:Unit,Sb ⟨T [(0,(.sl (900000,0))),(1,(di p2)),(2,(di p3)),(6,(di x1.1))],G [((900000,0),some<|.arr 2 1 (List.map A5 y1))]⟩ s) ?_ ?_
 refine A9<|D7 (U7 p2) (fun (x2:(Int× (List Int))) (g3:Unit)=>⟨T [(0,(.sl (900000,0))),(1,(di p2)),(2,(di p3)),(6,(di x1.1)),(7,(di x2.1))],G [((900000,0),some<|.arr 2 1 (List.map A5 x2.2))]⟩) (x1.1,x1.2) () _ hy1 (E3 W W) ?_
 intro x2 g3 z2 hz2 ez2
 unfold U7 at hz2
 refine A4<|A4<|D5 W<|sv W<|sv W<|sv W<|sv W<|M5 _ (.sl _) W (I8 W) (fun _=>W) (gt W (fun _=>W)<|bs hz2 fun v1 hv1 hz2=>M5 _ (.aptr _ _ _ _) W (I8 W) (fun w3=>(Kp (A3 w3) (A3 w3) G_hit (C2 w3 hv1))) (gt W (fun w4=>(Vb (A3 w4) G_hit (C2 w4 hv1) W))<|M5 _ (.sl _) W (I8 W) (fun _=>W) (gt W (fun _=>W)<|gt W (vb W W W)<|bs hz2 fun v2 hv2 hz2=>M5 _ (.aptr _ _ _ _) W (I8 W) (fun w8=>(Kp (A3 w8) (A3 w8) G_hit (C2 w8 hv2))) (gt W (fun w9=>(Vb (A3 w9) G_hit (C2 w9 hv2) W))<|bs hz2 fun v3 hv3 hz2=> ?_))))
 refine I9 _ (bo v3) (I8 W) (fun w10=>⟨_,[(di v1),(di v2)],_,_,(by simp only [A3 w10];rfl),W,A2,DF _ _ _<|C2 w10 hv3,(.inl W)⟩) ?_
 refine sa W W W<|A1<|cc W hz2 (fun c2 hz2=> ?_)<|fun c2 hz2=> ?_
 refine A8<|A4<|A9<|D5 W<|ss W<|sv W<|ss W<|sv W<|sv W<|ss W<|sv W<|sv W<|bs hz2 fun v4 hv4 hz2=>B9 (.aptr _ _ _ _) W (Kp W W G_hit hv4) (sd W (Vb W G_hit hv4 W)<|ss W<|sv W<|bs hz2 fun v5 hv5 hz2=>B9 (.aptr _ _ _ _) W (Kp W W G_hit hv5) (sd W (Vb W G_hit hv5 W)<|bs hz2 fun _ hv6 hz2=>B9 (.aptr _ _ _ _) W (Kp W W G_hit hv6) (Pg A5 _ _ _ (x2.1) _ v4 [(i64 v4)] W W W G_hit hv6 (nl W) W (bs hz2 fun _ hv7 hz2=>B9 (.aptr _ _ _ _) W (Kp W W G_hit hv7) (Pg A5 _ _ _ ((C9 (x2.1 - 1))) _ v5 [(i64 v5)] W W W G_hit hv7 (nl W) W (A1<|D4<|C1<|sv W<|sv W<|sv W<|A1<|D6 ?_))))))
 cases hz2
 exact ⟨W,(),(E3 W W)⟩
 refine C6 W ?_
 cases hz2
 obtain rfl:=ez2 _ rfl
 refine ⟨nofun,C3 W<|T4 ?_⟩
 exact ⟨(),(E3 W W)⟩
 rintro _ ⟨g2,q1⟩
 refine D4<|B5 q1<|C1<|sv W<|sv W<|sv W<|A1<|D6 ?_
 cases hz1
 exact ⟨W,(),(E3 W W)⟩
 refine C6 W ?_
 cases hz1
 obtain rfl:=ez1 _ rfl
 refine ⟨nofun,C3 W<|D6 ?_⟩
 exact Vc (.inl W) [] BA (.refl _) ⟨⟨G_hit,W8⟩,trivial⟩
def M9 [Lp](p1:(List Int))(x1:(Int×Int×Int×Bool×Bool)):Option (Stp (Int×Int×Int×Bool×Bool) (List Int)):=
  cond (decide ((C9 (x1.2.1 - x1.1))≤12)) ((M3 p1 x1.1 x1.2.1).bind fun v1=>some (.out (v1))) (cond (x1.2.2.1==0) (none) ((cond (!x1.2.2.2.1) (none) (some ())).bind fun _=>none))
def O3 [Lp](p1:(List Int))(p2:Int)(p3:Int)(p4:Int):Option (List Int):=
  loop (M9 p1) (p2,p3,p4,true,true)
theorem Nh(p1 p2 p3 p4 r)(h:O3 p1 p2 p3 p4=some r):MCall prog 266 [(.sl (900000,0)),(di p2),(di p3),(di p4)] [(.arr 2 1 (List.map A5 p1))] (.d (.tup [])) [some (.arr 2 1 (List.map A5 r))] []:=by
 refine Td (fk func266 ntmps266 (fun r=>if r==4 then [1004003]else []) (by with_unfolding_all rfl)) W (nl W) ?_
 unfold O3 at h
 refine B5 (s0:=⟨T [(0,(.sl _)),(1,(.d _)),(2,(.d _)),(3,(.d _))],G [((900000,0),some _)]⟩) (E3 W W) ?_
 refine B1<|sv W<|A1<|B1<|sv W<|A1<|A9<|D7 (M9 p1) (fun (x1:(Int×Int×Int×Bool×Bool)) (g1:Unit)=>⟨T [(0,(.sl (900000,0))),(1,(di x1.1)),(2,(di x1.2.1)),(3,(di x1.2.2.1)),(8,(.d (bo x1.2.2.2.1))),(9,(.d (bo x1.2.2.2.2)))],G [((900000,0),some<|.arr 2 1 (List.map A5 p1))]⟩) (p2,p3,p4,true,true) () _ h (E3 W W) ?_
 intro x1 g1 z1 hz1 ez1
 unfold M9 at hz1
 refine A9<|B1<|sv W<|sv W<|sv W<|sv W<|A1<|A4<|B1<|sv W<|sv W<|A1<|cc W hz1 (fun c1 hz1=> ?_)<|fun c1 hz1=> ?_
 refine B1<|ss W<|sv W<|sv W<|bs hz1 fun v1 hv1 hz1=>GD (v:= .d (.tup [])) (us:= [(900000,0)]) (EI (Je _ _ _ _ hv1) [(900000,0)] [(900000,0)] _ (((900000,0),some<|.arr 2 1 (List.map A5 v1))::_) W Is (R4 FK<|R4 Xy<|R4 Xy Px) (Ah G_hit Eb) ⟨⟨_,G_hit, .of W⟩,trivial⟩ (fun _ h=>h) nd1 W W W) (A1<|B2 ?_)
 cases hz1
 obtain rfl:=ez1 _ rfl
 refine ⟨nofun,E5 ?_⟩
 exact Vc (.inr W) [] BA (.refl _) ⟨⟨G_hit,W8⟩,trivial⟩
 refine A8<|A4<|B1<|sv W<|sv W<|A1<|cc W hz1 (fun c2 hz1=> ?_)<|fun c2 hz1=> ?_
 refine B1<|ss W<|sv W<|sv W ?_
 cases hz1
 refine A8<|A4<|B1<|sv W<|B9 (.d (bo (!x1.2.2.2.1))) W W (A1<|bs hz1 fun _ hy1 hz1=>D3 (fun s=> ∃g2:Unit,Sb ⟨T [(0,(.sl (900000,0))),(1,(di x1.1)),(2,(di x1.2.1)),(3,(di x1.2.2.1)),(8,(.d (bo x1.2.2.2.1))),(9,(.d (bo x1.2.2.2.2))),(10,(di<|C9 (x1.2.1 - x1.1)))],G [((900000,0),some<|.arr 2 1 (List.map A5 p1))]⟩ s) ?_ ?_)
 refine cc W hy1 (fun c3 hy1=> ?_)<|fun c3 hy1=> ?_
 refine B1<|ss W<|sv W<|sv W ?_
 cases hy1
 refine A8 ?_
 cases hy1
 exact T4 ⟨(),(E3 W W)⟩
 rintro _ ⟨g2,q1⟩
 refine B5 q1<|B1<|ss W<|sv W<|sv W ?_
 cases hz1
def S8 [Lp](p1:(List Int)):Option (List Int):=
  (Ov (IntKind.wrap .u64 (p1.length:Int))).bind fun v1=>(O3 p1 0 (p1.length:Int) v1).bind fun v2=>some v2
theorem Qd(p1 r)(h:S8 p1=some r):MCall prog 252 [(.sl (900000,0))] [(.arr 2 1 (List.map A5 p1))] (.d (.tup [])) [some (.arr 2 1 (List.map A5 r))] []:=by
 refine Td (fk func252 ntmps252 (fun r=>if r==1 then [1001005]else []) (by with_unfolding_all rfl)) W (nl W) ?_
 unfold S8 at h
 refine B5 (s0:=⟨T [(0,(.sl _))],G [((900000,0),some _)]⟩) (E3 W W) ?_
 refine B1<|ss W<|sd W (TS (f:=A5) W G_hit)<|sv W<|A1<|C1<|ss W<|sv W<|sv W<|sv W<|bs h fun _ hv1 h=>B0 W W A2 (Um _ _ hv1) (.inl W) (bs h fun v2 hv2 h=>GD (v:= .d (.tup [])) (us:= [(900000,0)]) (EI (Nh _ _ _ _ _ hv2) [(900000,0)] [(900000,0)] _ (((900000,0),some<|.arr 2 1 (List.map A5 v2))::_) W Is (R4 FK<|R4 Xy<|R4 Xy<|R4 Xy Px) (Ah G_hit Eb) ⟨⟨_,G_hit, .of W⟩,trivial⟩ (fun _ h=>h) nd1 W W W) (A1<|D6 ?_))
 obtain rfl:=(lC h)
 exact Vc (.inl W) [] BA (.refl _) ⟨⟨G_hit,W8⟩,trivial⟩
section
open Go.RowKit Go.Lib
def mC:Go.Shelf.Ren:=⟨fun n=>if n=43 then 253 else 0,fun t=>if t=22 then 48 else if t=23 then 2 else t,fun x=>x⟩
theorem cmp_lay:SlLaysE.n43 prog mC where
  mixed:=by kernel_rfl
  f43:=⟨Tryz.f253.name,by decide,by kernel_rfl⟩
  t0:=Tryz.underlying0
  a0:=Tryz.isAgg0
  z0:=Tryz.sizeOf0
  v0:=Tryz.zeroValue0
  t3:=Tryz.underlying3
  a3:=Tryz.isAgg3
  z3:=Tryz.sizeOf3
  v3:=Tryz.zeroValue3
  t4:=Tryz.underlying4
  a4:=Tryz.isAgg4
  z4:=Tryz.sizeOf4
  v4:=Tryz.zeroValue4
  t22:=Tryz.underlying48
  a22:=Tryz.isAgg48
  z22:=Tryz.sizeOf48
  v22:=Tryz.zeroValue48
  a23:=Tryz.isAgg2
  z23:=Tryz.sizeOf2
theorem XG (g cap:Nat)(d:Array Int)(w:World)(hH:Go.Sort.Holds (Value.int .i64) w g 0 d)(hsz:d.size≤9223372036854775807)(hcap:d.size≤cap):
    Calls prog 253 #[.slice (some ⟨g,0,none⟩) d.size cap] w fun e w'=>e= .returned (.slice (some ⟨g,0,none⟩) (Go.Lib.compactUpTo d d.size).length cap)∧∃q,w'=Go.Sort.putRow (Value.int .i64) (Go.Sort.ahead w q) g 0 (Go.Lib.compactUpTo d d.size++List.replicate (d.size - (Go.Lib.compactUpTo d d.size).length) 0).toArray:=
  AnyE.slices_Compact cmp_lay (Value.int .i64) (fun _=>rfl) (.intD _ _ _) (.intD _ _ _) 0 Tryz.zeroValue2 g 0 cap d w hH hsz hcap
theorem fV (d:Array Int):(Go.Lib.compactUpTo d d.size).length≤d.size:=by
  unfold Go.Lib.compactUpTo
  rw [lP]
  refine bY (List.length_filter_le _ _) ?_
  rw [List.length_range];exact bU _
theorem ME (xs:List Int): ∀m,m≤xs.length→Go.Lib.compactUpTo xs.toArray m=Py (xs.take m)
  |0,_=>rfl
  |m+1,h=>by
   rw [Go.Lib.compactUpTo_succ,ME xs m (by omega),List.take_add_one,lG (by omega),Option.toList_some,FM]
   congr 1
   have hm:m<xs.length:=by omega
   have e1:xs.toArray[m]! =xs[m]:=by rw [getElem!_pos xs.toArray m (by simpa using hm)];simp
   rw [Go.Lib.keeps,e1]
   cases m with
   |zero=>simp
   |succ k=>
    have e2:xs.toArray[k]! =xs[k]:=by rw [getElem!_pos xs.toArray k (by rw [List.size_toArray];omega)];simp
    have e3:(xs.take (k+1)).getLast? =some xs[k]:=by rw [List.take_add_one,lG (by omega),Option.toList_some,List.getLast?_append];simp
    rw [Nat.add_sub_cancel,e2,e3]
    by_cases e:xs[k+1]=xs[k]
    ·simp [e]
    ·rw [bF (by simp [e]),bG (fun q=>e (lC q).symm)]
theorem kL (xs r:List Int)(hr:II xs=some r):MCall prog 253 [.sl (900000,0)] [.arr 2 1 (List.map A5 xs)] (.sl (800000,0)) [none] [some (.arr 2 1 (List.map A5 r))]:=by
  obtain ⟨hx,rfl⟩:=OD hr
  clear hr
  refine ⟨W,fun vs w=> ?_,fun w I ρ vs H hlen hrep=> ?_⟩
  ·have hn': ¬Tryz.f253.name= "runtime.NumGoroutine" :=by decide
   have hb: ∃c,Tryz.f253.body=some c:=⟨_,rfl⟩
   obtain ⟨c,hb⟩:=hb
   simp [callFunc,func253,hb,hn']
  have hnx:0<xs.length:=List.length_pos_iff.2 hx
  obtain ⟨a,rfl⟩: ∃a,vs= [a]:=by
    match vs,hlen with
    | [a],_=>exact ⟨a,rfl⟩
  have r0:=hrep 0 _ rfl
  simp only [List.getD_cons_zero]at r0
  have hb0:G (Wr 0 [Blk.arr 2 1 (List.map A5 xs)]) (Y8 0)=some (.arr 2 1 (List.map A5 xs)):=rfl
  obtain ⟨x0,cx,p1,p2,p3,p4⟩:=H.blk _ _ hb0
  have e0:a=x0:=by
    cases r0 with
    |sl _ _ h=>exact lC (h.symm.trans p1)
  subst e0
  obtain ⟨hxl,hx'|⟨g,c,cur,rfl,_,hg,hnc,hcm,hcs,hxc⟩⟩:=p2
  ·rw [lP]at hx';omega
  rw [lP]at hxl hnc hxc
  have hval: ∀i (hi:i<xs.length),cur[i]? =some (.int .i64 xs[i]):=by
    intro i hi
    obtain ⟨_,g2⟩:=p4 i 0 (.v (.int .i64 xs[i])) (by simp [Rl,hi,A5])
    have:cx.getD (i*1+0) undef= .int .i64 xs[i]:=by generalize cx.getD (i*1+0) undef=y at g2;cases g2;rfl
    rw [← hxc,List.getD,l6,bF (by omega),Nat.mul_one,Nat.add_zero,Array.getElem?_toList]at this
    rw [Array.getElem?_eq_getElem (by omega)]at this ⊢
    rw [Option.getD_some]at this
    rw [this]
  have hH:Go.Sort.Holds (Value.int .i64) w g 0 xs.toArray:=by
    intro j hj
    rw [List.size_toArray]at hj
    have h2:=hval j hj
    refine ⟨?_,by simp [World.frozen?,hg]⟩
    simp [World.cell?,hg,h2,hj]
  have locx:N1 ρ (Y8 0) (.arr 2 1 (List.map A5 xs))=some g:=by simp [N1,p1,Value.ownBlock]
  have hca:=XG g c xs.toArray w hH (by rw [List.size_toArray];unfold maxLen at hcm;omega) (by rw [List.size_toArray];exact hnc)
  have hcl:=fV xs.toArray
  rw [List.size_toArray]at hca hcl
  rw [lP]
  refine hca.mono ?_
  rintro e w' ⟨rfl,q,hw'⟩
  have hheap: ∀k,w'.heap[k]? =if k=g then some (.cells (Go.Sort.putCells (Value.int .i64) 0 (Go.Lib.compactUpTo xs.toArray xs.length++List.replicate (xs.length - (Go.Lib.compactUpTo xs.toArray xs.length).length) 0).toArray cur) 2 (0,0))else w.heap[k]?:=by
    intro k
    rw [hw']
    show (w.heap.modify g _)[k]? =_
    rw [Array.getElem?_modify]
    by_cases e:g=k
    ·subst e;rw [bF rfl,bF rfl,hg];rfl
    ·rw [bG e,bG (Ne.symm e)]
  have hos:w'.os=w.os∧w'.tape=w.tape∧w'.output=w.output∧w'.heap.size=w.heap.size:=by rw [hw'];exact ⟨rfl,rfl,rfl,by simp⟩
  clear hw' hca hH
  generalize hC:Go.Lib.compactUpTo xs.toArray xs.length=C at hcl hheap ⊢
  have hCc:Py xs=C:=by rw [← hC,ME xs _ (bU _),List.take_length]
  rw [hCc]
  obtain ⟨Z,hZ⟩: ∃Z:Array Int,Z=(C++List.replicate (xs.length - C.length) 0).toArray:=⟨_,rfl⟩
  rw [← hZ]at hheap
  have hZs:Z.size=xs.length:=by rw [hZ];simp;omega
  have hZg: ∀i (hi:i<C.length),Z[i]! =C[i]:=by
    intro i hi
    have hlt:i<Z.size:=by omega
    rw [getElem!_pos Z i hlt]
    subst hZ
    rw [List.getElem_toArray,List.getElem_append_left hi]
  clear hZ hC hCc
  obtain ⟨u0,hu0⟩:=H.fresh
  have hk0:ρ (7,u0)=none:=hu0 7 u0 (bU _)
  have hgI: ¬I g:=H.notI _ _ g hb0 locx
  have hgo:own ρ (G (Wr 0 [Blk.arr 2 1 (List.map A5 xs)])) g:=⟨_,_,hb0,locx⟩
  have hother: ∀k,k≠g→w'.heap[k]? =w.heap[k]?:=fun k hk=>by rw [hheap,bG hk]
  have hI': ∀b,I b→w'.heap[b]? =w.heap[b]?:=fun b hb=>hother b (fun e=>hgI (e▸hb))
  have H0:HeapOK w' I ρ (fun _=>none):=⟨fun k b hb=>(by cases hb),fun k k' b b' g h1=>(by cases h1),fun k b g h1=>(by cases h1),fun k b g h1=>(by cases h1),fun b hb=>by rw [hos.2.2.2];exact H.ilt b hb,⟨u0,hu0⟩,H.rone⟩
  have hloc: ∀k,N1 (Af ρ (7,u0) (some (Value.slice (some ⟨g,0,none⟩) C.length c))) (7,u0) (.arr 2 1 (List.map A5 C))=some k→k=g:=by
    intro k hk
    have:some g=some k:=by simpa [N1,F8,Value.ownBlock] using hk
    exact (lC this).symm
  have hown: ∀g,¬own ρ (fun _=>none) g:=fun g ⟨k,b,h,_⟩=>by cases h
  have hsz:(Go.Sort.putCells (Value.int .i64) 0 Z cur).size=c:=by unfold Go.Sort.putCells;rw [Array.size_mapIdx,hcs,Nat.mul_one]
  have Hn:=PG H0 (7,u0) (Value.slice (some ⟨g,0,none⟩) C.length c) (.arr 2 1 (List.map A5 C)) hk0 rfl (fun k hk=>by
    rw [hloc k hk]
    exact ⟨hown g,hgI,by rw [hos.2.2.2];exact H.lt _ _ g hb0 locx⟩)
    ⟨_,C.map (Value.int .i64),F8 _ _ _,⟨by simp, .inr ⟨g,c,_,by rw [lP],bV _,by rw [hheap,bF rfl],by rw [lP];omega,hcm,by rw [hsz,Nat.mul_one],by
      rw [lP,Nat.mul_one]
      apply List.ext_getElem
      ·have h3:(Go.Sort.putCells (Value.int .i64) 0 Z cur).toList.length=c:=hsz
       rw [lT,h3,lP];omega
      ·intro i h1 h2
       rw [lP]at h2
       rw [List.getElem_take,Array.getElem_toList,List.getElem_map]
       unfold Go.Sort.putCells
       rw [Array.getElem_mapIdx,bF ⟨bV _,by omega⟩,Nat.sub_zero,hZg i h2]⟩⟩,by
      intro q hq
      obtain ⟨z,_,rfl⟩:=List.mem_map.1 hq
      rfl,by
      intro r j d' hd'
      unfold Rl at hd'
      rw [lI]at hd'
      cases hr:C[r]? with
      |none=>rw [hr]at hd';cases hd'
      |some z=>
       rw [hr]at hd'
       match j,hd' with
       |0,hd'=>
        cases hd'
        refine ⟨W,?_⟩
        rw [Nat.mul_one,Nat.add_zero,List.getD,lI,hr]
        exact .v _
       |j+1,hd'=>simp [A5]at hd'⟩
  refine ⟨_, .sl (7,u0),I,_,_,W, .sl _ _ (F8 _ _ _),Hn,⟨hos.1,hos.2.1,hos.2.2.1,by rw [hos.2.2.2];exact bU _,fun b hb hn'=>hother b<|fun e=>hn' (e▸hgo),fun _ hb=>hb,fun _ hb _=> .inl hb,?_,NC hk0⟩,fun _=>(7,u0),W,?_,?_,?_,?_⟩
  ·rintro k ⟨k',b',h1,h2⟩ hl
   by_cases ek:k'=(7,u0)
   ·subst ek
    rw [F8]at h1
    cases h1
    rw [hloc k h2];exact hgo
   ·rw [K8 _ _ _ _ ek]at h1;cases h1
  ·intro j b hb
   match j,hb with
   |0,hb=>cases hb
   |j+1,hb=>simp at hb
  ·intro j b hb
   match j,hb with
   |0,hb=>cases hb;exact F8 _ _ _
   |j+1,hb=>simp at hb
  ·intro j _ i _ e;simp only [Y8,Prod.mk.injEq]at e;omega
  ·intro j j' h1 h2 _
   simp only [lJ,lL]at h1 h2
   omega
theorem cL (A:Option Addr)(w:World):Calls prog 253 #[.slice A 0 0] w fun e w'=>e= .returned (.slice A 0 0)∧∃q,w'=w.drewN q:=by
  have mixed:=cmp_lay.mixed
  have v0:=Tryz.zeroValue2
  go_enter func253,ntmps253
  go_wp2
  go_ret
  exact ⟨W,0,W⟩
theorem fW:PCall prog 253 [.nilS] .nilS:=by
  refine ⟨fun vs w=> ?_,fun w I vs hI hlen hrep=> ?_⟩
  ·have hn': ¬Tryz.f253.name= "runtime.NumGoroutine" :=by decide
   have hb: ∃c,Tryz.f253.body=some c:=⟨_,rfl⟩
   obtain ⟨c,hb⟩:=hb
   simp [callFunc,func253,hb,hn']
  obtain ⟨a,rfl⟩: ∃a,vs= [a]:=by
    match vs,hlen with
    | [a],_=>exact ⟨a,rfl⟩
  have r0:=hrep 0 _ rfl
  simp only [List.getD_cons_zero]at r0
  cases r0 with
  |nilS A=>
   refine (cL A w).mono ?_
   rintro e w' ⟨rfl,q,rfl⟩
   exact ⟨_,I,W, .nilS A,W,W,W,bU _,fun _ _=>W,fun _ hb=>hb,fun _ hb _=>hb,hI⟩
end
def U8 (p1:Int)(x2:Int):Option (Stp Int Unit):=
  ((cond (decide (x2>p1)) ((none:Option Unit)) (some default))).bind fun v1=>cond ((decide (x2>p1))&&false) (none) (some (.out ()))
def L3 [Lp](p1:Int)(p2:Int)(x1:Int):Option (Stp Int Unit):=
  cond (decide (x1<p2)) ((loop (U8 p1) x1).bind fun _=>some (.go (C9 (x1+1)))) (some (.out (())))
def M4 [Lp](p1:Int)(p2:Int):Option Unit:=
  loop (L3 p1 p2) (C9 (p1+1))
theorem Jf(p1 p2 r)(h:M4 p1 p2=some r):PCall prog 271 [.nilS,(i64 p1),(i64 p2)] (.tup []):=by
 refine C0 (fk func271 ntmps271 m0 (by with_unfolding_all rfl)) (nl W) ?_
 unfold M4 at h
 refine B5 (s0:=⟨T [(0,(.d _)),(1,(.d _)),(2,(.d _))],G []⟩) (E3 W W) ?_
 refine B1<|sv W<|sv W<|sv W<|A1<|A9<|D7 (L3 p1 p2) (fun (x1:Int) (g1:Unit)=>⟨T [(0,(.d .nilS)),(1,(di p1)),(2,(di p2)),(6,(di x1))],G []⟩) (C9 (p1+1)) () _ h (E3 W W) ?_
 intro x1 g1 z1 hz1 ez1
 unfold L3 at hz1
 refine A4<|B1<|sv W<|sv W<|sv W<|A1<|cc W hz1 (fun c1 hz1=> ?_)<|fun c1 hz1=> ?_
 refine A8<|A4<|A9<|B1<|sv W<|sv W<|A1<|bs hz1 fun _ hy1 hz1=>D3 (fun s=> ∃g2:Unit,Sb ⟨T [(0,(.d .nilS)),(1,(di p1)),(2,(di p2)),(6,(di x1))],G []⟩ s) ?_ ?_
 refine A9<|D7 (U8 p1) (fun (x2:Int) (g3:Unit)=>⟨T [(0,(.d .nilS)),(1,(di p1)),(2,(di p2)),(6,(di x1)),(7,(di x2))],G []⟩) x1 () _ hy1 (E3 W W) ?_
 intro x2 g3 z2 hz2 ez2
 unfold U8 at hz2
 refine A4<|A4<|D5 W<|sv W<|sv W<|sv W<|sv W<|gt W (fun _=>W)<|gt W (fun _=>W)<|bs hz2 fun _ hv1 hz2=>M5 _ (.d (.tup [])) W (I8 W) (fun w3=>nomatch C2 w3 hv1) (M5 _ (di 0) W (I8 W) (fun w4=>nomatch C2 w4 hv1) (M5 _ (.d (.tup [])) W (I8 W) (fun w5=>nomatch C2 w5 hv1) (M5 _ (di 0) W (I8 W) (fun w6=>nomatch C2 w6 hv1) (M5 _ (di 0) W (I8 W) (fun w7=>nomatch C2 w7 hv1) (M5 _ (.d (.tup [])) W (I8 W) (fun w8=>nomatch C2 w8 hv1) (M5 _ (di 0) W (I8 W) (fun w9=>nomatch C2 w9 hv1) (I9 _ (bo false) (I8 W) (fun w10=>nomatch C2 w10 hv1) (sa W W W<|A1<|cc W hz2 (fun c2 hz2=> ?_)<|fun c2 hz2=> ?_))))))))
 refine A8<|A4<|A9<|D5 W<|sv W<|sv W<|sv W<|sv W<|sv W<|sv W<|sv W<|sv W ?_
 cases hz2
 refine C6 W ?_
 cases hz2
 obtain rfl:=ez2 _ rfl
 refine ⟨nofun,C3 W<|T4 ?_⟩
 exact ⟨(),(E3 W W)⟩
 rintro _ ⟨g2,q1⟩
 refine D4<|B5 q1<|C1<|sv W<|sv W<|sv W<|A1<|D6 ?_
 cases hz1
 exact ⟨W,(),(E3 W W)⟩
 refine C6 W ?_
 cases hz1
 obtain rfl:=ez1 _ rfl
 refine ⟨nofun,C3 W<|D6 ?_⟩
 exact A7 (.inl W) W (.refl _)
def N0 [Lp](x1:(Int×Int×Int×Bool×Bool)):Option (Stp (Int×Int×Int×Bool×Bool) Unit):=
  cond (decide ((C9 (x1.2.1 - x1.1))≤12)) ((M4 x1.1 x1.2.1).bind fun v1=>some (.out (()))) (cond (x1.2.2.1==0) (none) ((cond (!x1.2.2.2.1) (none) (some ())).bind fun _=>none))
def O4 [Lp](p1:Int)(p2:Int)(p3:Int):Option Unit:=
  loop (N0) (p1,p2,p3,true,true)
theorem Ni(p1 p2 p3 r)(h:O4 p1 p2 p3=some r):PCall prog 266 [.nilS,(i64 p1),(i64 p2),(i64 p3)] (.tup []):=by
 refine C0 (fk func266 ntmps266 m0 (by with_unfolding_all rfl)) (nl W) ?_
 unfold O4 at h
 refine B5 (s0:=⟨T [(0,(.d _)),(1,(.d _)),(2,(.d _)),(3,(.d _))],G []⟩) (E3 W W) ?_
 refine B1<|sv W<|A1<|B1<|sv W<|A1<|A9<|D7 (N0) (fun (x1:(Int×Int×Int×Bool×Bool)) (g1:Unit)=>⟨T [(0,(.d .nilS)),(1,(di x1.1)),(2,(di x1.2.1)),(3,(di x1.2.2.1)),(8,(.d (bo x1.2.2.2.1))),(9,(.d (bo x1.2.2.2.2)))],G []⟩) (p1,p2,p3,true,true) () _ h (E3 W W) ?_
 intro x1 g1 z1 hz1 ez1
 unfold N0 at hz1
 refine A9<|B1<|sv W<|sv W<|sv W<|sv W<|A1<|A4<|B1<|sv W<|sv W<|A1<|cc W hz1 (fun c1 hz1=> ?_)<|fun c1 hz1=> ?_
 refine B1<|sv W<|sv W<|sv W<|bs hz1 fun _ hv1 hz1=>B0 W W A2 (Jf _ _ _ hv1) (.inl W) (A1<|B2 ?_)
 cases hz1
 obtain rfl:=ez1 _ rfl
 refine ⟨nofun,E5 ?_⟩
 exact A7 (.inr W) W (.refl _)
 refine A8<|A4<|B1<|sv W<|sv W<|A1<|cc W hz1 (fun c2 hz1=> ?_)<|fun c2 hz1=> ?_
 refine B1<|sv W<|sv W<|sv W ?_
 cases hz1
 refine A8<|A4<|B1<|sv W<|B9 (.d (bo (!x1.2.2.2.1))) W W (A1<|bs hz1 fun _ hy1 hz1=>D3 (fun s=> ∃g2:Unit,Sb ⟨T [(0,(.d .nilS)),(1,(di x1.1)),(2,(di x1.2.1)),(3,(di x1.2.2.1)),(8,(.d (bo x1.2.2.2.1))),(9,(.d (bo x1.2.2.2.2))),(10,(di<|C9 (x1.2.1 - x1.1)))],G []⟩ s) ?_ ?_)
 refine cc W hy1 (fun c3 hy1=> ?_)<|fun c3 hy1=> ?_
 refine B1<|sv W<|sv W<|sv W ?_
 cases hy1
 refine A8 ?_
 cases hy1
 exact T4 ⟨(),(E3 W W)⟩
 rintro _ ⟨g2,q1⟩
 refine B5 q1<|B1<|sv W<|sv W<|sv W ?_
 cases hz1
def S9 [Lp]:Option Unit:=
  (Ov (IntKind.wrap .u64 0)).bind fun v1=>(O4 0 0 v1).bind fun v2=>some ()
theorem Qe(r)(h:S9=some r):PCall prog 252 [.nilS] (.tup []):=by
 refine C0 (fk func252 ntmps252 m0 (by with_unfolding_all rfl)) (nl W) ?_
 unfold S9 at h
 refine B5 (s0:=⟨T [(0,(.d _))],G []⟩) (E3 W W) ?_
 refine B1<|sv W<|sv W<|sv W<|A1<|C1<|sv W<|sv W<|sv W<|sv W<|bs h fun _ hv1 h=>B0 W W A2 (Um _ _ hv1) (.inl W) (bs h fun _ hv2 h=>B0 W W A2 (Ni _ _ _ _ hv2) (.inl W) (A1<|D6 ?_))
 cases h
 exact A7 (.inl W) W (.refl _)
def Jy [Lp](p1:Map)(p2:Int)(p3:Int)(v1:Zone)(x2:((List Int)×Int)):Option (Stp ((List Int)×Int) (List Int)):=
  cond (decide (x2.2< (v1.Parts.length:Int))) ((C8 v1.Parts x2.2).bind fun v2=>((cond (v2.Lane_==p2) (C8 p1.Signals (C9 (v1.Signal_ - 1))) (some default))).bind fun v3=>((cond (v2.Lane_==p2) (Jc v3 p2 p3) (some default))).bind fun v4=>cond ((v2.Lane_==p2)&& (!v4)) ((Fk x2.1 [v2.From]).bind fun v5=>some (.go (v5,(C9 (x2.2+1))))) (some (.go (x2.1,(C9 (x2.2+1)))))) (some (.out x2.1))
def Jz [Lp](p1:Map)(p2:Int)(p3:Int)(x1:((List Int)×Int)):Option (Stp ((List Int)×Int) (List Int)):=
  cond (decide (x1.2< (p1.Zones.length:Int))) ((C8 p1.Zones x1.2).bind fun v1=>cond (v1.Signal_==0) (some (.go (x1.1,(C9 (x1.2+1))))) ((loop (Jy p1 p2 p3 v1) (x1.1,0)).bind fun y2=>some (.go (y2,(C9 (x1.2+1)))))) (some (.out x1.1))
def Rf [Lp](p1:Map)(p2:Int)(p3:Int):Option (List Int):=
  (loop (Jz p1 p2 p3) ([],0)).bind fun y1=>cond (List.isEmpty y1) ((S9).bind fun v8=>some []) ((S8 y1).bind fun v6=>(II v6).bind fun v7=>some v7)
theorem OH(p1 p2 p3 r)(h:Rf p1 p2 p3=some r):PCall prog 223 [(.agg (O8 p1)),(i64 p2),(i64 p3)] (.list (List.map A5 r)):=by
 refine C0 (fk func223 ntmps223 (fun r=>if r==10 then [1003]else if r==13 then [1013001]else if r==14 then [1014001]else []) (by with_unfolding_all rfl)) (nl W) ?_
 unfold Rf at h
 refine B5 (s0:=⟨T [(0,(.d _)),(1,(.d _)),(2,(.d _))],G []⟩) (E3 W W) ?_
 refine lr<|fun u1 _=>sm W<|sv W<|A1<|B1<|sv W<|A1<|A4<|B1<|sq W<|sl W G_hit W<|sd W (D0 W)<|sv W<|A1<|bs h fun y1 hy1 h=>D3 (fun s=> ∃g1:Nat,Sb ⟨T [(7,(oS y1 (50,g1)))],G [((50,g1),oB 2 1 A5 y1)]⟩ s) ?_ ?_
 refine A9<|D7 (Jz p1 p2 p3) (fun (x1:((List Int)×Int)) (g2:Nat)=>⟨T [(1,(di p2)),(2,(di p3)),(3,(.ptr (3,u1) 0)),(7,(oS x1.1 (50,g2))),(13,(dl Dp p1.Zones)),(14,(di (p1.Zones.length:Int))),(15,(di x1.2))],G [((3,u1),some<|.box 33 (K7 p1)),((50,g2),oB 2 1 A5 x1.1)]⟩) ([],0) 0 _ hy1 (D2 (X5 W)<|B6 G_hit (.of W)<|O9 trivial) ?_
 intro x1 g2 z1 hz1 ez1
 unfold Jz at hz1
 refine B1<|sv W<|A1<|A4<|cc W hz1 (fun c1 hz1=> ?_)<|fun c1 hz1=> ?_
 refine A8<|A4<|A9<|lr<|fun u5 _=>bs hz1 fun v1 hv1 hz1=>sd W (C5 W W hv1 W)<|sd W (C7 W hv1 W W)<|sm W<|Q4 W G_hit [(dl Cs v1.Parts),(di v1.Signal_)] W (A1<|A4<|B1<|sq W<|sl W G_hit W<|sv W<|A1<|cc W hz1 (fun c2 hz1=> ?_)<|fun c2 hz1=> ?_)
 refine Mx W<|C1<|sv W<|sv W<|A1<|D6 ?_
 cases hz1
 exact ⟨W,g2,(D2 (X5 W)<|sg W<|B7 (gq W) trivial)⟩
 refine A8<|B1<|sq W<|sl W G_hit W<|sd W (D0 W)<|sv W<|A1<|bs hz1 fun y2 hy2 hz1=>D3 (fun s=> ∃g3:Nat,Sb ⟨T [(1,(di p2)),(2,(di p3)),(3,(.ptr (3,u1) 0)),(7,(oS y2 (50,g3))),(13,(dl Dp p1.Zones)),(14,(di (p1.Zones.length:Int))),(15,(di x1.2))],G [((3,u1),some<|.box 33 (K7 p1)),((50,g3),oB 2 1 A5 y2)]⟩ s) ?_ ?_
 refine A9<|D7 (Jy p1 p2 p3 v1) (fun (x2:((List Int)×Int)) (g4:Nat)=>⟨T [(1,(di p2)),(2,(di p3)),(3,(.ptr (3,u1) 0)),(7,(oS x2.1 (50,g4))),(9,(.ptr (9,u5) 0)),(13,(dl Dp p1.Zones)),(14,(di (p1.Zones.length:Int))),(15,(di x1.2)),(23,(dl Cs v1.Parts)),(24,(di (v1.Parts.length:Int))),(25,(di x2.2))],G [((3,u1),some<|.box 33 (K7 p1)),((9,u5),some<|.box 117 [(dl Cs v1.Parts),(di v1.Signal_)]),((50,g4),oB 2 1 A5 x2.1)]⟩) (x1.1,0) g2 _ hy2 (D2 (X5 W)<|sg W<|B6 G_hit (.of W)<|B7 (gq W) trivial) ?_
 intro x2 g4 z2 hz2 ez2
 unfold Jy at hz2
 refine B1<|sv W<|A1<|A4<|cc W hz2 (fun c3 hz2=> ?_)<|fun c3 hz2=> ?_
 refine A8<|A4<|A9<|B1<|bs hz2 fun v2 hv2 hz2=>sd W (C5 W W hv2 W)<|sd W (C7 W hv2 W W)<|sm W<|Q4 W G_hit (IK v2) W (A1<|B1<|sq W<|sl W G_hit W<|sv W<|sv W<|sv W<|gp W (I8 W) (fun _=>W) (gt W (vl W (gq W) W)<|gp W (I8 W) (fun _=>W) (gt W (vl W (gq W) W)<|gt W (vb W W W)<|bs hz2 fun v3 hv3 hz2=>gt W (fun w6=>(C5 (A3 w6) (A3 w6) (C2 w6 hv3) W))<|gt W (fun w7=>(C7 (A3 w7) (C2 w7 hv3) W W))<|gt W (fun _=>W)<|gt W (fun _=>W)<|bs hz2 fun v4 hv4 hz2=> ?_)))
 refine I9 _ (bo v4) (I8 W) (fun w10=>⟨_,[(.d (.agg [(i64 v3.Offset),(.list (List.map Dq v3.Phases))])),(di p2),(di p3)],_,_,(by simp only [A3 w10];rfl),W,A2,Yj _ _ _ _<|C2 w10 hv4,(.inl W)⟩) ?_
 refine M5 _ (.d (bo (!v4))) W (I8 W) (fun w11=>(by simp only [A3 w11];rfl)) ?_
 refine sa W W W<|A1<|cc W hz2 (fun c4 hz2=> ?_)<|fun c4 hz2=> ?_
 refine Be fun u12 _=>B9 (oS x2.1 (50,g4)) W W (sq W<|sl W G_hit W<|B9 (dl A5 [v2.From]) W W (bs hz2 fun _ hv5 hz2=>O1 A5 (50,g4) x2.1 v2.From [] _ (M0<|fun _=>W) W (gq W) hv5 (ss W<|A1<|D4<|C1<|sv W<|sv W<|A1<|D6 ?_)))
 cases hz2
 exact ⟨W,u12,(D2 ⟨.of W, .of W, .of W,(.of (S5<|T0 hv5).symm), .of W, .of W, .of W, .of W, .of W, .of W, .of W,trivial⟩<|sg W<|sg W<|L9 G_hit trivial)⟩
 refine A8<|D4<|C1<|sv W<|sv W<|A1<|D6 ?_
 cases hz2
 exact ⟨W,g4,(D2 (X5 W)<|sg W<|sg W<|B7 (gq W) trivial)⟩
 refine C6 W ?_
 cases hz2
 obtain rfl:=ez2 _ rfl
 refine ⟨nofun,C3 W<|T4 ?_⟩
 exact ⟨g4,(D2 (X5 W)<|B6 G_hit (.of W)<|B7 (gq W) trivial)⟩
 rintro _ ⟨g3,q1⟩
 refine D4<|B5 q1<|C1<|sv W<|sv W<|A1<|D6 ?_
 cases hz1
 exact ⟨W,g3,(D2 (X5 W)<|B6 G_hit (.of W)<|B7 (gq W) trivial)⟩
 refine C6 W ?_
 cases hz1
 obtain rfl:=ez1 _ rfl
 refine ⟨nofun,C3 W<|T4 ?_⟩
 exact ⟨g2,(D2 ⟨.of W,trivial⟩<|B7 (gq W) trivial)⟩
 rintro _ ⟨g1,q2⟩
 refine B5 q2<|A4 ?_
 rcases MC h with ⟨e1,h⟩|⟨e1,h⟩
 refine B5 (s0:=⟨T [(7,(.d .nilS))],G []⟩) (D2 ⟨.of (cI e1),trivial⟩ trivial) ?_
 refine C1<|sv W<|bs h fun _ hv8 h=>GD (v:= .d (.tup [])) (us:= []) (jA [] _ W W A2 (Qe _ hv8) W W) (A1<|B1<|sv W<|GD (v:= .d .nilS) (us:= []) (jA [] _ W W A2 fW W W) (sv W<|A1<|B2 ?_))
 cases h
 exact A7 (.inr W) (B4 (B3 W) B8) DLe.nil
 refine B5 (s0:=⟨T [(7,(.sl (50,g1)))],G [((50,g1),some<|.arr 2 1 (List.map A5 y1))]⟩) (D2 ⟨.of (S5 e1),trivial⟩<|B6 (My G_hit e1) (.of W) trivial) ?_
 refine C1<|ss W<|bs h fun v6 hv6 h=>GD (v:= .d (.tup [])) (us:= [(50,g1)]) (EI (Qd _ _ hv6) [(50,g1)] [(50,g1)] _ (((50,g1),some<|.arr 2 1 (List.map A5 v6))::_) W Is (R4 FK Px) (Ah G_hit Eb) ⟨⟨_,G_hit, .of W⟩,trivial⟩ (fun _ h=>h) nd1 W W W) (A1<|lr<|fun u18 _=>ss W<|bs h fun v7 hv7 h=>GD (v:= .sl (10140010,u18)) (us:= [(50,g1),(10140010,u18)]) (EI (kL _ _ hv7) [(50,g1)] [(50,g1)] _ (((10140010,u18),some<|.arr 2 1 (List.map A5 v7))::((50,g1),none)::_) W Is (R4 FK Px) (Ah G_hit Eb) ⟨⟨_,G_hit, .of W⟩,trivial⟩ (fun _ h=>h) nd1 W W W) (ss W<|A1<|B2 ?_))
 cases h
 exact A7 (.inr W) (B4 (B3 W)<|QC G_hit) (.refl _)
def Rg [Lp](p1:Map)(p2:Int)(p3:Int):Option (List Int):=
  ((cond (!(decide (p3<0))) (La p1 p2) (some default))).bind fun v1=>cond ((decide (p3<0))||(!v1)) (some []) ((Rf p1 p2 p3).bind fun v2=>some v2)
theorem OI(p1 p2 p3 r)(h:Rg p1 p2 p3=some r):PCall prog 180 [(.agg (O8 p1)),(i64 p2),(i64 p3)] (.list (List.map A5 r)):=by
 refine C0 (fk func180 ntmps180 m0 (by with_unfolding_all rfl)) (nl W) ?_
 unfold Rg at h
 refine B5 (s0:=⟨T [(0,(.d _)),(1,(.d _)),(2,(.d _))],G []⟩) (E3 W W) ?_
 refine B1<|sm W<|sv W<|A1<|A4<|B1<|sv W<|sv W<|sv W<|gf W (fun _=>(A6 W G_hit W W))<|gf W (fun _=>W)<|bs h fun v1 hv1 h=> ?_
 refine I9 _ (bo v1) (H8 W) (fun w3=>⟨_,[(.d (.agg (O8 p1))),(di p2)],_,_,(by simp only [A3 w3];rfl),W,A2,Yi _ _ _<|C2 w3 hv1,(.inl W)⟩) ?_
 refine M5 _ (.d (bo (!v1))) W (H8 W) (fun w4=>(by simp only [A3 w4];rfl)) ?_
 refine sd W (L8 W W<|fun hc=>A3<|G0 hc)<|A1<|cc W h (fun c1 h=> ?_)<|fun c1 h=> ?_
 refine B1<|sv W<|A1<|B2 ?_
 cases h
 exact A7 (.inr W) (B4 (B3 W) B8) DLe.nil
 refine A8<|B1<|sd W (A6 W G_hit W W)<|sv W<|sv W<|bs h fun _ hv2 h=>B0 W W A2 (OH _ _ _ _ hv2) (.inl W) (sv W<|A1<|B2 ?_)
 cases h
 exact A7 (.inr W) (B4 (B3 W) B8) (.refl _)
def Ka (p1:Int)(p2:Agent)(p3:Int):Option Int:=
  some (He true 0 (He false (C9 (p2.V+p1)) p3))
theorem Qo(p1 p2 p3 r)(h:Ka p1 p2 p3=some r):PCall prog 179 [(i64 p1),(.bp (E4 p2) 0),(.bp [(i64 p3)] 0)] (i64 r):=by
 refine C0 (fk func179 ntmps179 m0 (by with_unfolding_all rfl)) (nl W) ?_
 unfold Ka at h
 refine B5 (s0:=⟨T [(0,(.d _)),(1,(.d _)),(2,(.d _))],G []⟩) (E3 W W) ?_
 refine B1<|sv W<|A1<|B1<|sv W<|sv W<|sv W<|sv W<|sv W<|sv W<|sv W<|sv W<|A1<|B2 ?_
 cases h
 exact A7 (.inr W) (B4 (B3 W) B8) (.refl _)
def Se (p1:Int)(p2:Int):Option Int:=
  cond ((decide (p1<1))||(decide (p2<1))) (some 0) ((QE .i64 (C9 ((He false p1 1000000) - 1)) (He false p2 1000000)).bind fun v1=>some (C9 ((C9 (v1* (He false p1 1000000))) - (C9 ((He false p2 1000000)* (C9 ((C9 (v1* (C9 (v1+1)))).tdiv 2)))))))
theorem Ts(p1 p2 r)(h:Se p1 p2=some r):PCall prog 41 [(i64 p1),(i64 p2)] (i64 r):=by
 refine C0 (fk func41 ntmps41 m0 (by with_unfolding_all rfl)) (nl W) ?_
 unfold Se at h
 refine B5 (s0:=⟨T [(0,(.d _)),(1,(.d _))],G []⟩) (E3 W W) ?_
 refine B1<|sv W<|A1<|A4<|B1<|sv W<|sv W<|sv W<|gf W (fun _=>W)<|gf W (vb W W W)<|sd W (L8 W W<|fun hc=>A3<|G0 hc)<|A1<|cc W h (fun c1 h=> ?_)<|fun c1 h=> ?_
 refine B1<|sv W<|A1<|B2 ?_
 cases h
 exact A7 (.inr W) (B4 (B3 W) B8) (.refl _)
 refine A8<|B1<|sv W<|sv W<|sv W<|sv W<|sv W<|sv W<|A1<|B1<|sv W<|sv W<|sv W<|bs h fun _ hv1 h=>sd W (aS W W hv1)<|sv W<|A1<|B1<|sv W<|sv W<|sv W<|sv W<|sv W<|sv W<|sv W<|sv W<|sv W<|sv W<|sv W<|sv W<|A1<|B2 ?_
 cases h
 exact A7 (.inr W) (B4 (B3 W) B8) (.refl _)
end
end Go.Abs.World
