/-
  The functions, part 2.
-/
import Derived.Test.YtgjdiioennhoeaaGreatFns1
set_option maxRecDepth 20000
set_option maxHeartbeats 4000000
set_option linter.unusedVariables false
namespace Go.Abs.World
noncomputable section
open Go Go.Abs Go.Proofs Tryz
attribute [local irreducible] L6 Ew Cw
def D1 [Lp](p2:Int)(x2:(Int× (List Pass))):Option (Stp (Int× (List Pass)) (List Pass)):=
  ((cond (decide (x2.1>p2)) (C0 x2.2 x2.1) (some default))).bind fun v1=>((cond (decide (x2.1>p2)) (C0 x2.2 (D6 (x2.1 - 1))) (some default))).bind fun v2=>((cond (decide (x2.1>p2)) (By v1 v2) (some default))).bind fun v3=>cond ((decide (x2.1>p2))&& (decide (v3<0))) ((C0 x2.2 (D6 (x2.1 - 1))).bind fun v4=>(C0 x2.2 x2.1).bind fun v5=>(C0 x2.2 x2.1).bind fun v6=>(C0 (Ln x2.2 x2.1 v4) (D6 (x2.1 - 1))).bind fun v7=>some (.go ((D6 (x2.1 - 1)),(Ln (Ln x2.2 x2.1 v4) (D6 (x2.1 - 1)) v5)))) (some (.out x2.2))
def D7 [Lp](p2:Int)(p3:Int)(x1:(Int× (List Pass))):Option (Stp (Int× (List Pass)) (List Pass)):=
  cond (decide (x1.1<p3)) ((loop (D1 p2) (x1.1,x1.2)).bind fun y1=>some (.go ((D6 (x1.1+1)),y1))) (some (.out (x1.2)))
def D4 [Lp](p1:(List Pass))(p2:Int)(p3:Int):Option (List Pass):=
  loop (D7 p2 p3) ((D6 (p2+1)),p1)
theorem V5(p1 p2 p3 r)(h:D4 p1 p2 p3=some r):MCall prog 282 [(.sl (900000,0)),(di p2),(di p3),(.d (.fn (.func 264) [] []))] [(.arr 229 4 (List.map Q6 p1))] (.d (.tup [])) [some (.arr 229 4 (List.map Q6 r))] []:=by
 refine Vm (fk func282 ntmps282 m0 (by with_unfolding_all rfl)) W (nl W) ?_
 unfold D4 at h
 refine B4 (s0:=⟨T [(0,(.sl _)),(1,(.d _)),(2,(.d _)),(3,(.d _))],G [((900000,0),some _)]⟩) (F3 W W) ?_
 refine B0<|sv W<|sv W<|sv W<|A1<|A7<|E3 (D7 p2 p3) (fun (x1:(Int× (List Pass))) (g1:Unit)=>⟨T [(0,(.sl (900000,0))),(1,(di p2)),(2,(di p3)),(3,(.d (.fn (.func 264) [] []))),(8,(di x1.1))],G [((900000,0),some<|.arr 229 4 (List.map Q6 x1.2))]⟩) ((D6 (p2+1)),p1) () _ h (F3 W W) ?_
 intro x1 g1 z1 hz1 ez1
 unfold D7 at hz1
 refine A5<|B0<|sv W<|sv W<|sv W<|A1<|cc W hz1 (fun c1 hz1=> ?_)<|fun c1 hz1=> ?_
 refine A8<|A5<|A7<|B0<|sv W<|sv W<|A1<|bs hz1 fun y1 hy1 hz1=>D9 (fun s=> ∃g2:Unit,Sb ⟨T [(0,(.sl (900000,0))),(1,(di p2)),(2,(di p3)),(3,(.d (.fn (.func 264) [] []))),(8,(di x1.1))],G [((900000,0),some<|.arr 229 4 (List.map Q6 y1))]⟩ s) ?_ ?_
 refine A7<|E3 (D1 p2) (fun (x2:(Int× (List Pass))) (g3:Unit)=>⟨T [(0,(.sl (900000,0))),(1,(di p2)),(2,(di p3)),(3,(.d (.fn (.func 264) [] []))),(8,(di x1.1)),(9,(di x2.1))],G [((900000,0),some<|.arr 229 4 (List.map Q6 x2.2))]⟩) (x1.1,x1.2) () _ hy1 (F3 W W) ?_
 intro x2 g3 z2 hz2 ez2
 unfold D1 at hz2
 refine A5<|A5<|E8 W<|sv W<|sv W<|sv W<|sv W<|gt W (fun _=>W)<|M8 _ (.sl _) W (M6 W) (fun _=>W) (gt W (fun _=>W)<|bs hz2 fun v1 hv1 hz2=>M8 _ (.aptr _ _ _ _) W (M6 W) (fun w4=>(Jw (A2 w4) (A2 w4) G_hit (C1 w4 hv1))) (gt W (fun w5=>(Ps (A2 w5) G_hit (C1 w5 hv1) W W))<|M8 _ (.sl _) W (M6 W) (fun _=>W) (gt W (fun _=>W)<|gt W (vb W W W)<|bs hz2 fun v2 hv2 hz2=>M8 _ (.aptr _ _ _ _) W (M6 W) (fun w9=>(Jw (A2 w9) (A2 w9) G_hit (C1 w9 hv2))) (gt W (fun w10=>(Ps (A2 w10) G_hit (C1 w10 hv2) W W))<|bs hz2 fun v3 hv3 hz2=> ?_))))
 refine O3 _ (i64 v3) (M6 W) (fun w11=>⟨_,[(.d (.agg (Q6 v1))),(.d (.agg (Q6 v2)))],_,_,(by simp only [A2 w11];rfl),W,A3,EG _ _ _<|C1 w11 hv3,(.inl W)⟩) ?_
 refine gt W (vb W W W)<|sa W W W<|A1<|cc W hz2 (fun c2 hz2=> ?_)<|fun c2 hz2=> ?_
 refine A8<|A5<|A7<|E8 W<|ss W<|sv W<|ss W<|sv W<|sv W<|ss W<|sv W<|sv W<|bs hz2 fun v4 hv4 hz2=>B9 (.aptr _ _ _ _) W (Jw W W G_hit hv4) (sd W (Ps W G_hit hv4 W W)<|ss W<|sv W<|bs hz2 fun v5 hv5 hz2=>B9 (.aptr _ _ _ _) W (Jw W W G_hit hv5) (sd W (Ps W G_hit hv5 W W)<|bs hz2 fun _ hv6 hz2=>B9 (.aptr _ _ _ _) W (Jw W W G_hit hv6) (Pr Q6 _ _ _ (x2.1) _ v4 (Q6 v4) W W W G_hit hv6 (nl W) W (bs hz2 fun _ hv7 hz2=>B9 (.aptr _ _ _ _) W (Jw W W G_hit hv7) (Pr Q6 _ _ _ ((D6 (x2.1 - 1))) _ v5 (Q6 v5) W W W G_hit hv7 (nl W) W (A1<|E2<|B8<|sv W<|sv W<|sv W<|A1<|E4 ?_))))))
 cases hz2
 exact ⟨W,(),(F3 W W)⟩
 refine C8 W ?_
 cases hz2
 obtain rfl:=ez2 _ rfl
 refine ⟨nofun,C7 W<|U7 ?_⟩
 exact ⟨(),(F3 W W)⟩
 rintro _ ⟨g2,q1⟩
 refine E2<|B4 q1<|B8<|sv W<|sv W<|sv W<|A1<|E4 ?_
 cases hz1
 exact ⟨W,(),(F3 W W)⟩
 refine C8 W ?_
 cases hz1
 obtain rfl:=ez1 _ rfl
 refine ⟨nofun,C7 W<|E4 ?_⟩
 exact CC (.inl W) [] CD (.refl _) ⟨⟨G_hit,Fs⟩,trivial⟩
def R8 (p2:Int)(x3:(Int×Int)):Option (Stp (Int×Int) Int):=
  cond (decide (x3.2≤p2)) (none) (some (.out x3.1))
def H4 [Lp](p2:Int)(v2:(List Pass))(x2:Int):Option (Stp Int (List Pass)):=
  cond (decide (x2<p2)) ((loop (R8 p2) (0,(D6 (2*x2)))).bind fun y2=>cond (decide ((D6 (y2+x2))<p2)) (none) (some (.go (D6 (x2*2))))) (some (.out (v2)))
def E0 [Lp](p2:Int)(x1:(Int×Int× (List Pass))):Option (Stp (Int×Int× (List Pass)) (Int× (List Pass))):=
  cond (decide (x1.2.1≤p2)) ((D4 x1.2.2 x1.1 x1.2.1).bind fun v1=>some (.go (x1.2.1,(D6 (x1.2.1+20)),v1))) (some (.out (x1.1,x1.2.2)))
def J8 [Lp](p1:(List Pass))(p2:Int):Option (List Pass):=
  (loop (E0 p2) (0,20,p1)).bind fun y1=>(D4 y1.2 y1.1 p2).bind fun v2=>loop (H4 p2 v2) 20
theorem Gp(p1 p2 r)(h:J8 p1 p2=some r):MCall prog 270 [(.sl (900000,0)),(di p2),(.d (.fn (.func 264) [] []))] [(.arr 229 4 (List.map Q6 p1))] (.d (.tup [])) [some (.arr 229 4 (List.map Q6 r))] []:=by
 refine Vm (fk func270 ntmps270 (fun r=>if r==3 then [1003004]else if r==6 then [1006004]else []) (by with_unfolding_all rfl)) W (nl W) ?_
 unfold J8 at h
 refine B4 (s0:=⟨T [(0,(.sl _)),(1,(.d _)),(2,(.d _))],G [((900000,0),some _)]⟩) (F3 W W) ?_
 refine B0<|sv W<|A1<|B0<|sv W<|sv W<|sv W<|A1<|A5<|bs h fun y1 hy1 h=>D9 (fun s=> ∃g1:Unit,Sb ⟨T [(0,(.sl (900000,0))),(1,(di p2)),(2,(.d (.fn (.func 264) [] []))),(6,(di 20)),(7,(di y1.1))],G [((900000,0),some<|.arr 229 4 (List.map Q6 y1.2))]⟩ s) ?_ ?_
 refine A7<|E3 (E0 p2) (fun (x1:(Int×Int× (List Pass))) (g2:Unit)=>⟨T [(0,(.sl (900000,0))),(1,(di p2)),(2,(.d (.fn (.func 264) [] []))),(6,(di 20)),(7,(di x1.1)),(8,(di x1.2.1))],G [((900000,0),some<|.arr 229 4 (List.map Q6 x1.2.2))]⟩) (0,20,p1) () _ hy1 (F3 W W) ?_
 intro x1 g2 z1 hz1 ez1
 unfold E0 at hz1
 refine A5<|B0<|sv W<|sv W<|sv W<|A1<|cc W hz1 (fun c1 hz1=> ?_)<|fun c1 hz1=> ?_
 refine A8<|A7<|B0<|ss W<|sv W<|sv W<|sv W<|bs hz1 fun v1 hv1 hz1=>FN (v:= .d (.tup [])) (us:= [(900000,0)]) (MD (V5 _ _ _ _ hv1) [(900000,0)] [(900000,0)] _ (((900000,0),some<|.arr 229 4 (List.map Q6 v1))::_) W Nm (Y1 EA<|Y1 CB<|Y1 CB<|Y1 CB Tv) (Kr G_hit Iw) ⟨⟨_,G_hit, .of W⟩,trivial⟩ (fun _ h=>h) nd1 W W W) (A1<|B0<|sv W<|sv W<|A1<|B8<|sv W<|sv W<|sv W<|sv W<|A1<|E2<|E4 ?_)
 cases hz1
 exact ⟨W,(),(F3 W W)⟩
 refine C8 W ?_
 cases hz1
 obtain rfl:=ez1 _ rfl
 refine ⟨nofun,C7 W<|U7 ?_⟩
 exact ⟨(),(F3 W W)⟩
 rintro _ ⟨g1,q1⟩
 refine B4 q1<|B0<|ss W<|sv W<|sv W<|sv W<|bs h fun v2 hv2 h=>FN (v:= .d (.tup [])) (us:= [(900000,0)]) (MD (V5 _ _ _ _ hv2) [(900000,0)] [(900000,0)] _ (((900000,0),some<|.arr 229 4 (List.map Q6 v2))::_) W Nm (Y1 EA<|Y1 CB<|Y1 CB<|Y1 CB Tv) (Kr G_hit Iw) ⟨⟨_,G_hit, .of W⟩,trivial⟩ (fun _ h=>h) nd1 W W W) (A1<|A7<|E3 (H4 p2 v2) (fun (x2:Int) (g3:Unit)=>⟨T [(0,(.sl (900000,0))),(1,(di p2)),(2,(.d (.fn (.func 264) [] []))),(6,(di x2))],G [((900000,0),some<|.arr 229 4 (List.map Q6 v2))]⟩) 20 () _ h (F3 W W) ?_)
 intro x2 g3 z2 hz2 ez2
 unfold H4 at hz2
 refine A5<|B0<|sv W<|sv W<|sv W<|A1<|cc W hz2 (fun c2 hz2=> ?_)<|fun c2 hz2=> ?_
 refine A8<|A7<|B0<|sv W<|sv W<|sv W<|sv W<|A1<|A5<|bs hz2 fun y2 hy2 hz2=>D9 (fun s=> ∃g4:Unit,Sb ⟨T [(0,(.sl (900000,0))),(1,(di p2)),(2,(.d (.fn (.func 264) [] []))),(6,(di x2)),(7,(di y2))],G [((900000,0),some<|.arr 229 4 (List.map Q6 v2))]⟩ s) ?_ ?_
 refine A7<|E3 (R8 p2) (fun (x3:(Int×Int)) (g5:Unit)=>⟨T [(0,(.sl (900000,0))),(1,(di p2)),(2,(.d (.fn (.func 264) [] []))),(6,(di x2)),(7,(di x3.1)),(8,(di x3.2))],G [((900000,0),some<|.arr 229 4 (List.map Q6 v2))]⟩) (0,(D6 (2*x2))) () _ hy2 (F3 W W) ?_
 intro x3 g5 z3 hz3 ez3
 unfold R8 at hz3
 refine A5<|B0<|sv W<|sv W<|sv W<|A1<|cc W hz3 (fun c3 hz3=> ?_)<|fun c3 hz3=> ?_
 refine A8<|A7<|B0<|ss W<|sv W<|sv W<|sv W<|sv W<|sv W<|sv W ?_
 cases hz3
 refine C8 W ?_
 cases hz3
 obtain rfl:=ez3 _ rfl
 refine ⟨nofun,C7 W<|U7 ?_⟩
 exact ⟨(),(F3 W W)⟩
 rintro _ ⟨g4,q2⟩
 refine B4 q2<|A5<|B0<|sv W<|sv W<|sv W<|sv W<|A1<|B0<|sv W<|sv W<|sv W<|A1<|cc W hz2 (fun c4 hz2=> ?_)<|fun c4 hz2=> ?_
 refine B8<|ss W<|sv W<|sv W<|sv W<|sv W ?_
 cases hz2
 refine A8<|B8<|sv W<|sv W<|sv W<|A1<|E2<|E4 ?_
 cases hz2
 exact ⟨W,(),(F3 W W)⟩
 refine C8 W ?_
 cases hz2
 obtain rfl:=ez2 _ rfl
 refine ⟨nofun,C7 W<|E4 ?_⟩
 exact CC (.inl W) [] CD (.refl _) ⟨⟨G_hit,Fs⟩,trivial⟩
def F9 [Lp](p1:(List Pass)):Option (List Pass):=
  (J8 p1 (p1.length:Int)).bind fun v1=>some v1
theorem Dn(p1 r)(h:F9 p1=some r):MCall prog 263 [(.sl (900000,0)),(.d (.fn (.func 264) [] []))] [(.arr 229 4 (List.map Q6 p1))] (.d (.tup [])) [some (.arr 229 4 (List.map Q6 r))] []:=by
 refine Vm (fk func263 ntmps263 (fun r=>if r==0 then [1000004]else []) (by with_unfolding_all rfl)) W (nl W) ?_
 unfold F9 at h
 refine B4 (s0:=⟨T [(0,(.sl _)),(1,(.d _))],G [((900000,0),some _)]⟩) (F3 W W) ?_
 refine B8<|ss W<|ss W<|sd W (VO (f:=Q6) W G_hit)<|sv W<|bs h fun v1 hv1 h=>FN (v:= .d (.tup [])) (us:= [(900000,0)]) (MD (Gp _ _ _ hv1) [(900000,0)] [(900000,0)] _ (((900000,0),some<|.arr 229 4 (List.map Q6 v1))::_) W Nm (Y1 EA<|Y1 CB<|Y1 CB Tv) (Kr G_hit Iw) ⟨⟨_,G_hit, .of W⟩,trivial⟩ (fun _ h=>h) nd1 W W W) (A1<|E4 ?_)
 obtain rfl:=(lD h)
 exact CC (.inl W) [] CD (.refl _) ⟨⟨G_hit,Fs⟩,trivial⟩
def P1 (p1:Int)(x2:Int):Option (Stp Int Unit):=
  ((cond (decide (x2>p1)) ((none:Option Unit)) (some default))).bind fun v1=>cond ((decide (x2>p1))&&false) (none) (some (.out ()))
def I5 [Lp](p1:Int)(p2:Int)(x1:Int):Option (Stp Int Unit):=
  cond (decide (x1<p2)) ((loop (P1 p1) x1).bind fun _=>some (.go (D6 (x1+1)))) (some (.out (())))
def E9 [Lp](p1:Int)(p2:Int):Option Unit:=
  loop (I5 p1 p2) (D6 (p1+1))
theorem V6(p1 p2 r)(h:E9 p1 p2=some r):PCall prog 282 [.nilS,(i64 p1),(i64 p2),(.fn (.func 264) [] [])] (.tup []):=by
 refine C4 (fk func282 ntmps282 m0 (by with_unfolding_all rfl)) (nl W) ?_
 unfold E9 at h
 refine B4 (s0:=⟨T [(0,(.d _)),(1,(.d _)),(2,(.d _)),(3,(.d _))],G []⟩) (F3 W W) ?_
 refine B0<|sv W<|sv W<|sv W<|A1<|A7<|E3 (I5 p1 p2) (fun (x1:Int) (g1:Unit)=>⟨T [(0,(.d .nilS)),(1,(di p1)),(2,(di p2)),(3,(.d (.fn (.func 264) [] []))),(8,(di x1))],G []⟩) (D6 (p1+1)) () _ h (F3 W W) ?_
 intro x1 g1 z1 hz1 ez1
 unfold I5 at hz1
 refine A5<|B0<|sv W<|sv W<|sv W<|A1<|cc W hz1 (fun c1 hz1=> ?_)<|fun c1 hz1=> ?_
 refine A8<|A5<|A7<|B0<|sv W<|sv W<|A1<|bs hz1 fun _ hy1 hz1=>D9 (fun s=> ∃g2:Unit,Sb ⟨T [(0,(.d .nilS)),(1,(di p1)),(2,(di p2)),(3,(.d (.fn (.func 264) [] []))),(8,(di x1))],G []⟩ s) ?_ ?_
 refine A7<|E3 (P1 p1) (fun (x2:Int) (g3:Unit)=>⟨T [(0,(.d .nilS)),(1,(di p1)),(2,(di p2)),(3,(.d (.fn (.func 264) [] []))),(8,(di x1)),(9,(di x2))],G []⟩) x1 () _ hy1 (F3 W W) ?_
 intro x2 g3 z2 hz2 ez2
 unfold P1 at hz2
 refine A5<|A5<|E8 W<|sv W<|sv W<|sv W<|sv W<|gt W (fun _=>W)<|gt W (fun _=>W)<|gt W (fun _=>W)<|bs hz2 fun _ hv1 hz2=>M8 _ (.d (.tup [])) W (M6 W) (fun w4=>nomatch C1 w4 hv1) (M8 _ (.d (.tup [])) W (M6 W) (fun w5=>nomatch C1 w5 hv1) (M8 _ (.d (.tup [])) W (M6 W) (fun w6=>nomatch C1 w6 hv1) (M8 _ (di 0) W (M6 W) (fun w7=>nomatch C1 w7 hv1) (M8 _ (di 0) W (M6 W) (fun w8=>nomatch C1 w8 hv1) (M8 _ (.d (.tup [])) W (M6 W) (fun w9=>nomatch C1 w9 hv1) (M8 _ (.d (.tup [])) W (M6 W) (fun w10=>nomatch C1 w10 hv1) (O3 _ (i64 0) (M6 W) (fun w11=>nomatch C1 w11 hv1) (M8 _ (.d (bo false)) W (M6 W) (fun w12=>nomatch C1 w12 hv1) (sa W W W<|A1<|cc W hz2 (fun c2 hz2=> ?_)<|fun c2 hz2=> ?_)))))))))
 refine A8<|A5<|A7<|E8 W<|sv W<|sv W<|sv W<|sv W<|sv W<|sv W<|sv W<|sv W ?_
 cases hz2
 refine C8 W ?_
 cases hz2
 obtain rfl:=ez2 _ rfl
 refine ⟨nofun,C7 W<|U7 ?_⟩
 exact ⟨(),(F3 W W)⟩
 rintro _ ⟨g2,q1⟩
 refine E2<|B4 q1<|B8<|sv W<|sv W<|sv W<|A1<|E4 ?_
 cases hz1
 exact ⟨W,(),(F3 W W)⟩
 refine C8 W ?_
 cases hz1
 obtain rfl:=ez1 _ rfl
 refine ⟨nofun,C7 W<|E4 ?_⟩
 exact A6 (.inl W) W (.refl _)
def R9 (p1:Int)(x3:(Int×Int)):Option (Stp (Int×Int) Int):=
  cond (decide (x3.2≤p1)) (none) (some (.out x3.1))
def I6 [Lp](p1:Int)(x2:Int):Option (Stp Int Unit):=
  cond (decide (x2<p1)) ((loop (R9 p1) (0,(D6 (2*x2)))).bind fun y2=>cond (decide ((D6 (y2+x2))<p1)) (none) (some (.go (D6 (x2*2))))) (some (.out (())))
def I7 [Lp](p1:Int)(x1:(Int×Int)):Option (Stp (Int×Int) Int):=
  cond (decide (x1.2≤p1)) ((E9 x1.1 x1.2).bind fun v1=>some (.go (x1.2,(D6 (x1.2+20))))) (some (.out x1.1))
def J9 [Lp](p1:Int):Option Unit:=
  (loop (I7 p1) (0,20)).bind fun y1=>(E9 y1 p1).bind fun v2=>loop (I6 p1) 20
theorem Gq(p1 r)(h:J9 p1=some r):PCall prog 270 [.nilS,(i64 p1),(.fn (.func 264) [] [])] (.tup []):=by
 refine C4 (fk func270 ntmps270 m0 (by with_unfolding_all rfl)) (nl W) ?_
 unfold J9 at h
 refine B4 (s0:=⟨T [(0,(.d _)),(1,(.d _)),(2,(.d _))],G []⟩) (F3 W W) ?_
 refine B0<|sv W<|A1<|B0<|sv W<|sv W<|sv W<|A1<|A5<|bs h fun y1 hy1 h=>D9 (fun s=> ∃g1:Unit,Sb ⟨T [(0,(.d .nilS)),(1,(di p1)),(2,(.d (.fn (.func 264) [] []))),(6,(di 20)),(7,(di y1))],G []⟩ s) ?_ ?_
 refine A7<|E3 (I7 p1) (fun (x1:(Int×Int)) (g2:Unit)=>⟨T [(0,(.d .nilS)),(1,(di p1)),(2,(.d (.fn (.func 264) [] []))),(6,(di 20)),(7,(di x1.1)),(8,(di x1.2))],G []⟩) (0,20) () _ hy1 (F3 W W) ?_
 intro x1 g2 z1 hz1 ez1
 unfold I7 at hz1
 refine A5<|B0<|sv W<|sv W<|sv W<|A1<|cc W hz1 (fun c1 hz1=> ?_)<|fun c1 hz1=> ?_
 refine A8<|A7<|B0<|sv W<|sv W<|sv W<|sv W<|bs hz1 fun _ hv1 hz1=>A9 W W A3 (V6 _ _ _ hv1) (.inl W) (A1<|B0<|sv W<|sv W<|A1<|B8<|sv W<|sv W<|sv W<|sv W<|A1<|E2<|E4 ?_)
 cases hz1
 exact ⟨W,(),(F3 W W)⟩
 refine C8 W ?_
 cases hz1
 obtain rfl:=ez1 _ rfl
 refine ⟨nofun,C7 W<|U7 ?_⟩
 exact ⟨(),(F3 W W)⟩
 rintro _ ⟨g1,q1⟩
 refine B4 q1<|B0<|sv W<|sv W<|sv W<|sv W<|bs h fun _ hv2 h=>A9 W W A3 (V6 _ _ _ hv2) (.inl W) (A1<|A7<|E3 (I6 p1) (fun (x2:Int) (g3:Unit)=>⟨T [(0,(.d .nilS)),(1,(di p1)),(2,(.d (.fn (.func 264) [] []))),(6,(di x2))],G []⟩) 20 () _ h (F3 W W) ?_)
 intro x2 g3 z2 hz2 ez2
 unfold I6 at hz2
 refine A5<|B0<|sv W<|sv W<|sv W<|A1<|cc W hz2 (fun c2 hz2=> ?_)<|fun c2 hz2=> ?_
 refine A8<|A7<|B0<|sv W<|sv W<|sv W<|sv W<|A1<|A5<|bs hz2 fun y2 hy2 hz2=>D9 (fun s=> ∃g4:Unit,Sb ⟨T [(0,(.d .nilS)),(1,(di p1)),(2,(.d (.fn (.func 264) [] []))),(6,(di x2)),(7,(di y2))],G []⟩ s) ?_ ?_
 refine A7<|E3 (R9 p1) (fun (x3:(Int×Int)) (g5:Unit)=>⟨T [(0,(.d .nilS)),(1,(di p1)),(2,(.d (.fn (.func 264) [] []))),(6,(di x2)),(7,(di x3.1)),(8,(di x3.2))],G []⟩) (0,(D6 (2*x2))) () _ hy2 (F3 W W) ?_
 intro x3 g5 z3 hz3 ez3
 unfold R9 at hz3
 refine A5<|B0<|sv W<|sv W<|sv W<|A1<|cc W hz3 (fun c3 hz3=> ?_)<|fun c3 hz3=> ?_
 refine A8<|A7<|B0<|sv W<|sv W<|sv W<|sv W<|sv W<|sv W<|sv W ?_
 cases hz3
 refine C8 W ?_
 cases hz3
 obtain rfl:=ez3 _ rfl
 refine ⟨nofun,C7 W<|U7 ?_⟩
 exact ⟨(),(F3 W W)⟩
 rintro _ ⟨g4,q2⟩
 refine B4 q2<|A5<|B0<|sv W<|sv W<|sv W<|sv W<|A1<|B0<|sv W<|sv W<|sv W<|A1<|cc W hz2 (fun c4 hz2=> ?_)<|fun c4 hz2=> ?_
 refine B8<|sv W<|sv W<|sv W<|sv W<|sv W ?_
 cases hz2
 refine A8<|B8<|sv W<|sv W<|sv W<|A1<|E2<|E4 ?_
 cases hz2
 exact ⟨W,(),(F3 W W)⟩
 refine C8 W ?_
 cases hz2
 obtain rfl:=ez2 _ rfl
 refine ⟨nofun,C7 W<|E4 ?_⟩
 exact A6 (.inl W) W (.refl _)
def G0 [Lp]:Option Unit:=
  (J9 0).bind fun v1=>some ()
theorem Do(r)(h:G0=some r):PCall prog 263 [.nilS,(.fn (.func 264) [] [])] (.tup []):=by
 refine C4 (fk func263 ntmps263 m0 (by with_unfolding_all rfl)) (nl W) ?_
 unfold G0 at h
 refine B4 (s0:=⟨T [(0,(.d _)),(1,(.d _))],G []⟩) (F3 W W) ?_
 refine B8<|sv W<|sv W<|sv W<|sv W<|bs h fun _ hv1 h=>A9 W W A3 (Gq _ _ hv1) (.inl W) (A1<|E4 ?_)
 cases h
 exact A6 (.inl W) W (.refl _)
def Ap (v1:RoadsWay)(x1:((List Pass)×Int))(v2:Int)(x2:((List Pass)×Int))(v3:Zone)(x3:((List Pass)×Int)):Option (Stp ((List Pass)×Int) (List Pass)):=
  cond (decide (x3.2< (v3.Parts.length:Int))) ((C0 v3.Parts x3.2).bind fun v4=>cond (v4.Lane_==v2) ((C0 v1.starts x1.2).bind fun v5=>(C0 v1.starts x1.2).bind fun v6=>(X3 x3.1 [(Pass.mk x2.2 x3.2 (D6 (v5+v4.From)) (D6 (v6+v4.To)))]).bind fun v7=>some (.go (v7,(D6 (x3.2+1))))) (some (.go (x3.1,(D6 (x3.2+1)))))) (some (.out x3.1))
def U3 [Lp](p1:Map)(v1:RoadsWay)(x1:((List Pass)×Int))(v2:Int)(x2:((List Pass)×Int)):Option (Stp ((List Pass)×Int) (List Pass)):=
  cond (decide (x2.2< (p1.Zones.length:Int))) ((C0 p1.Zones x2.2).bind fun v3=>(loop (Ap v1 x1 v2 x2 v3) (x2.1,0)).bind fun y3=>some (.go (y3,(D6 (x2.2+1))))) (some (.out x2.1))
def O4 [Lp](p1:Map)(v1:RoadsWay)(x1:((List Pass)×Int)):Option (Stp ((List Pass)×Int) (List Pass)):=
  cond (decide (x1.2< (v1.lanes.length:Int))) ((C0 v1.lanes x1.2).bind fun v2=>(loop (U3 p1 v1 x1 v2) (x1.1,0)).bind fun y2=>some (.go (y2,(D6 (x1.2+1))))) (some (.out x1.1))
def V7 [Lp](p1:Map)(p2:(List Int)):Option (List Pass):=
  (Z8 p1 p2).bind fun v1=>(loop (O4 p1 v1) ([],0)).bind fun y1=>cond (List.isEmpty y1) ((G0).bind fun v9=>some []) ((F9 y1).bind fun v8=>some v8)
theorem HX(p1 p2 r)(h:V7 p1 p2=some r):PCall prog 246 [(.agg (Q0 p1)),(.list (List.map A4 p2))] (.list (List.map Q6 r)):=by
 refine C4 (fk func246 ntmps246 (fun r=>if r==13 then [1020]else if r==17 then [1017001]else []) (by with_unfolding_all rfl)) (nl W) ?_
 unfold V7 at h
 refine B4 (s0:=⟨T [(0,(.d _)),(1,(.d _))],G []⟩) (F3 W W) ?_
 refine lr<|fun u1 _=>sm W<|sv W<|A1<|lr<|fun u2 _=>sd W (B1 W G_hit W W)<|sv W<|bs h fun v1 hv1 h=>A9 W W A3 (Ma _ _ _ hv1) (.inl W) (sm W<|U1 W G_hit (Oq v1) W (A1<|B0<|sv W<|A1<|A5<|B0<|sq W<|sl W G_hit W<|sd W (D8 W)<|sv W<|A1<|bs h fun y1 hy1 h=>D9 (fun s=> ∃g1:Nat,Sb ⟨T [(6,(oS y1 (65,g1)))],G [((65,g1),oB 229 4 Q6 y1)]⟩ s) ?_ ?_))
 refine A7<|E3 (O4 p1 v1) (fun (x1:((List Pass)×Int)) (g2:Nat)=>⟨T [(2,(.ptr (2,u1) 0)),(5,(.ptr (5,u2) 0)),(6,(oS x1.1 (65,g2))),(17,(dl A4 v1.lanes)),(18,(di (v1.lanes.length:Int))),(19,(di x1.2))],G [((2,u1),some<|.box 33 (L8 p1)),((5,u2),some<|.box 260 (Oq v1)),((65,g2),oB 229 4 Q6 x1.1)]⟩) ([],0) 0 _ hy1 (E1 (Z1 W)<|sg W<|B5 G_hit (.of W)<|S4 trivial) ?_
 intro x1 g2 z1 hz1 ez1
 unfold O4 at hz1
 refine B0<|sv W<|A1<|A5<|cc W hz1 (fun c1 hz1=> ?_)<|fun c1 hz1=> ?_
 refine A8<|A5<|A7<|B0<|sv W<|bs hz1 fun v2 hv2 hz1=>sd W (C5 W W hv2 W)<|sd W (C9 W hv2 W)<|sv W<|sv W<|A1<|B0<|sq W<|sl W G_hit W<|sd W (D8 W)<|sv W<|A1<|bs hz1 fun y2 hy2 hz1=>D9 (fun s=> ∃g3:Nat,Sb ⟨T [(2,(.ptr (2,u1) 0)),(5,(.ptr (5,u2) 0)),(6,(oS y2 (65,g3))),(17,(dl A4 v1.lanes)),(18,(di (v1.lanes.length:Int))),(19,(di x1.2))],G [((2,u1),some<|.box 33 (L8 p1)),((5,u2),some<|.box 260 (Oq v1)),((65,g3),oB 229 4 Q6 y2)]⟩ s) ?_ ?_
 refine A7<|E3 (U3 p1 v1 x1 v2) (fun (x2:((List Pass)×Int)) (g4:Nat)=>⟨T [(2,(.ptr (2,u1) 0)),(5,(.ptr (5,u2) 0)),(6,(oS x2.1 (65,g4))),(7,(di x1.2)),(8,(di v2)),(17,(dl A4 v1.lanes)),(18,(di (v1.lanes.length:Int))),(19,(di x1.2)),(25,(dl Gl p1.Zones)),(26,(di (p1.Zones.length:Int))),(27,(di x2.2))],G [((2,u1),some<|.box 33 (L8 p1)),((5,u2),some<|.box 260 (Oq v1)),((65,g4),oB 229 4 Q6 x2.1)]⟩) (x1.1,0) g2 _ hy2 (E1 (Z1 W)<|B5 G_hit (.of W)<|sg W<|B7 (gq W) trivial) ?_
 intro x2 g4 z2 hz2 ez2
 unfold U3 at hz2
 refine B0<|sv W<|A1<|A5<|cc W hz2 (fun c2 hz2=> ?_)<|fun c2 hz2=> ?_
 refine A8<|A5<|A7<|B0<|sv W<|bs hz2 fun v3 hv3 hz2=>sd W (C5 W W hv3 W)<|sd W (D3 W hv3 W W)<|sm W<|sv W<|U1 W G_hit [(dl Bk v3.Parts),(di v3.Signal_)] W (A1<|B0<|sq W<|sl W G_hit W<|sd W (D8 W)<|sv W<|A1<|bs hz2 fun y3 hy3 hz2=>D9 (fun s=> ∃g5:Nat,Sb ⟨T [(2,(.ptr (2,u1) 0)),(5,(.ptr (5,u2) 0)),(6,(oS y3 (65,g5))),(7,(di x1.2)),(8,(di v2)),(17,(dl A4 v1.lanes)),(18,(di (v1.lanes.length:Int))),(19,(di x1.2)),(25,(dl Gl p1.Zones)),(26,(di (p1.Zones.length:Int))),(27,(di x2.2))],G [((2,u1),some<|.box 33 (L8 p1)),((5,u2),some<|.box 260 (Oq v1)),((65,g5),oB 229 4 Q6 y3)]⟩ s) ?_ ?_)
 refine A7<|E3 (Ap v1 x1 v2 x2 v3) (fun (x3:((List Pass)×Int)) (g6:Nat)=>⟨T [(2,(.ptr (2,u1) 0)),(5,(.ptr (5,u2) 0)),(6,(oS x3.1 (65,g6))),(7,(di x1.2)),(8,(di v2)),(9,(di x2.2)),(17,(dl A4 v1.lanes)),(18,(di (v1.lanes.length:Int))),(19,(di x1.2)),(25,(dl Gl p1.Zones)),(26,(di (p1.Zones.length:Int))),(27,(di x2.2)),(33,(dl Bk v3.Parts)),(34,(di (v3.Parts.length:Int))),(35,(di x3.2))],G [((2,u1),some<|.box 33 (L8 p1)),((5,u2),some<|.box 260 (Oq v1)),((65,g6),oB 229 4 Q6 x3.1)]⟩) (x2.1,0) g4 _ hy3 (E1 (Z1 W)<|sg W<|sg W<|B7 (gq W) trivial) ?_
 intro x3 g6 z3 hz3 ez3
 unfold Ap at hz3
 refine B0<|sv W<|A1<|A5<|cc W hz3 (fun c3 hz3=> ?_)<|fun c3 hz3=> ?_
 refine A8<|A5<|A7<|B0<|sv W<|bs hz3 fun v4 hv4 hz3=>sd W (C5 W W hv4 W)<|sd W (D3 W hv4 W W)<|sm W<|sv W<|U1 W G_hit (AT v4) W (A1<|B0<|sq W<|sl W G_hit W<|sv W<|sv W<|A1<|cc W hz3 (fun c4 hz3=> ?_)<|fun c4 hz3=> ?_)
 refine Mi W fun u14 _=>B9 (oS x3.1 (65,g6)) W W (sv W<|sv W<|sq W<|sl W (gq W) W (sv W<|bs hz3 fun v5 hv5 hz3=>sd W (C5 W W hv5 W)<|sd W (C9 W hv5 W)<|sq W<|sl W G_hit W<|sv W<|sq W<|sl W (gq W) W (sv W<|bs hz3 fun v6 hv6 hz3=>sd W (C5 W W hv6 W)<|sd W (C9 W hv6 W)<|sq W<|sl W G_hit W<|sv W<|sv W<|B9 (dl Q6 [(Pass.mk x2.2 x3.2 (D6 (v5+v4.From))<|D6 (v6+v4.To))]) W W (bs hz3 fun _ hv7 hz3=>P9 Q6 (65,g6) x3.1 (Pass.mk x2.2 x3.2 (D6 (v5+v4.From))<|D6 (v6+v4.To)) [] _ (L7<|fun _=>W) W (gq W) hv7 (ss W<|A1<|E2<|B8<|sv W<|sv W<|A1<|E4 ?_)))))
 cases hz3
 exact ⟨W,u14,(E1 ⟨.of W, .of W,(.of (U8<|V0 hv7).symm), .of W, .of W, .of W, .of W, .of W, .of W, .of W, .of W, .of W, .of W, .of W, .of W,trivial⟩<|sg W<|sg W<|N7 G_hit trivial)⟩
 refine A8<|E2<|B8<|sv W<|sv W<|A1<|E4 ?_
 cases hz3
 exact ⟨W,g6,(E1 (Z1 W)<|sg W<|sg W<|B7 (gq W) trivial)⟩
 refine C8 W ?_
 cases hz3
 obtain rfl:=ez3 _ rfl
 refine ⟨nofun,C7 W<|U7 ?_⟩
 exact ⟨g6,(E1 (Z1 W)<|B5 G_hit (.of W)<|sg W<|B7 (gq W) trivial)⟩
 rintro _ ⟨g5,q1⟩
 refine E2<|B4 q1<|B8<|sv W<|sv W<|A1<|E4 ?_
 cases hz2
 exact ⟨W,g5,(E1 (Z1 W)<|B5 G_hit (.of W)<|sg W<|B7 (gq W) trivial)⟩
 refine C8 W ?_
 cases hz2
 obtain rfl:=ez2 _ rfl
 refine ⟨nofun,C7 W<|U7 ?_⟩
 exact ⟨g4,(E1 (Z1 W)<|B5 G_hit (.of W)<|sg W<|B7 (gq W) trivial)⟩
 rintro _ ⟨g3,q2⟩
 refine E2<|B4 q2<|B8<|sv W<|sv W<|A1<|E4 ?_
 cases hz1
 exact ⟨W,g3,(E1 (Z1 W)<|B5 G_hit (.of W)<|sg W<|B7 (gq W) trivial)⟩
 refine C8 W ?_
 cases hz1
 obtain rfl:=ez1 _ rfl
 refine ⟨nofun,C7 W<|U7 ?_⟩
 exact ⟨g2,(E1 ⟨.of W,trivial⟩<|B7 (gq W) trivial)⟩
 rintro _ ⟨g1,q3⟩
 refine B4 q3<|A5 ?_
 rcases NM h with ⟨e1,h⟩|⟨e1,h⟩
 refine B4 (s0:=⟨T [(6,(.d .nilS))],G []⟩) (E1 ⟨.of (fH e1),trivial⟩ trivial) ?_
 refine B8<|sv W<|bs h fun _ hv9 h=>FN (v:= .d (.tup [])) (us:= []) (jQ [] _ W W A3 (Do _ hv9) W W) (A1<|B0<|sv W<|sv W<|A1<|B2 ?_)
 cases h
 exact A6 (.inr W) (B6 (B3 W) C2) DLe.nil
 refine B4 (s0:=⟨T [(6,(.sl (65,g1)))],G [((65,g1),some<|.arr 229 4 (List.map Q6 y1))]⟩) (E1 ⟨.of (U8 e1),trivial⟩<|B5 (Ie G_hit e1) (.of W) trivial) ?_
 refine B8<|ss W<|bs h fun v8 hv8 h=>FN (v:= .d (.tup [])) (us:= [(65,g1)]) (MD (Dn _ _ hv8) [(65,g1)] [(65,g1)] _ (((65,g1),some<|.arr 229 4 (List.map Q6 v8))::_) W Nm (Y1 EA<|Y1 CB Tv) (Kr G_hit Iw) ⟨⟨_,G_hit, .of W⟩,trivial⟩ (fun _ h=>h) nd1 W W W) (A1<|B0<|ss W<|ss W<|A1<|B2 ?_)
 cases h
 exact A6 (.inr W) (B6 (B3 W)<|NH G_hit) (.refl _)
def Gs (p1:Pass)(p2:Int)(p3:WorldSpan):Option Bool:=
  some (((p1.Zone_==p2)&& (decide (p1.From≤p3.to)))&& (decide (p3.from_≤p1.To)))
theorem Vr(p1 p2 p3 r)(h:Gs p1 p2 p3=some r):PCall prog 247 [(.agg (Q6 p1)),(.bp [(i64 p2)] 0),(.bp [(i64 p3.from_),(i64 p3.to)] 0)] (bo r):=by
 refine C4 (fk func247 ntmps247 m0 (by with_unfolding_all rfl)) (nl W) ?_
 unfold Gs at h
 refine B4 (s0:=⟨T [(0,(.d _)),(1,(.d _)),(2,(.d _))],G []⟩) (F3 W W) ?_
 refine B0<|sm W<|sv W<|A1<|B0<|sq W<|sl W G_hit W<|sv W<|sv W<|sv W<|gp W (M6 W) (fun _=>W) (gt W (vl W G_hit W)<|gt W (fun _=>W) ?_)
 refine gt W (fun w4=>(by simp only [A2 w4];rfl)) ?_
 refine gt W (fun w5=>(M3 (A2 w5) (A2 w5) W))<|sa W W W<|sv W<|gt W (fun _=>W) ?_
 refine gt W (fun w7=>(by simp only [A2 w7];rfl)) ?_
 refine gp W (M6 W) (fun _=>W) (gt W (vl W G_hit W)<|gt W (fun w10=>(M3 (A2 w10) (A2 w10) W))<|sa W W W<|sv W<|A1<|B2 ?_)
 cases h
 exact A6 (.inr W) (B6 (B3 W) C2) (.refl _)
def L3 (p1:(List Pass))(p2:Int)(p3:WorldSpan)(x1:Int):Option (Stp Int (Sum Unit Int)):=
  cond (decide (x1< (p1.length:Int))) ((C0 p1 x1).bind fun v1=>(Gs v1 p2 p3).bind fun v2=>cond v2 (some (.out (.inr x1))) (some (.go (D6 (x1+1))))) (some (.out (.inl ())))
def J0 [Lp](p1:(List Pass))(p2:Int)(p3:WorldSpan):Option Int:=
  thenS (loop (L3 p1 p2 p3) 0) (fun _=>some (-1)) (fun r=>some r)
theorem Ff(p1 p2 p3 r)(h:J0 p1 p2 p3=some r):PCall prog 262 [(.list (List.map Q6 p1)),(.fn (.func 247) [] [(.bp [(i64 p2)] 0),(.bp [(i64 p3.from_),(i64 p3.to)] 0)])] (i64 r):=by
 refine C4 (fk func262 ntmps262 m0 (by with_unfolding_all rfl)) (nl W) ?_
 unfold J0 at h
 refine B4 (s0:=⟨T [(0,(.d _)),(1,(.d _))],G []⟩) (F3 W W) ?_
 refine B0<|sv W<|A1<|A5<|B0<|sv W<|sd W (D8 W)<|sv W<|A1<|js h fun z1 hz1 h=>D9 (fun s=> ∃(y1:Unit) (g1:Unit),z1= .inl y1∧Sb ⟨T [],G []⟩ s) ?_ ?_
 refine A7<|E3 (L3 p1 p2 p3) (fun (x1:Int) (g2:Unit)=>⟨T [(0,(dl Q6 p1)),(1,(.d (.fn (.func 247) [] [(.bp [(i64 p2)] 0),(.bp [(i64 p3.from_),(i64 p3.to)] 0)]))),(7,(di (p1.length:Int))),(8,(di x1))],G []⟩) 0 () _ hz1 (F3 W W) ?_
 intro x1 g2 z2 hz2 ez2
 unfold L3 at hz2
 refine B0<|sv W<|A1<|A5<|cc W hz2 (fun c1 hz2=> ?_)<|fun c1 hz2=> ?_
 refine A8<|A5<|A7<|B0<|sv W<|sv W<|A1<|B0<|sv W<|sv W<|sv W<|bs hz2 fun _ hv1 hz2=>sd W (C5 W W hv1 W)<|sd W (D3 W hv1 W W)<|bs hz2 fun _ hv2 hz2=>A9 W W A3 (Vr _ _ _ _ hv2) (.inl W) (A1<|cc W hz2 (fun c2 hz2=> ?_)<|fun c2 hz2=> ?_)
 refine B0<|sv W<|sv W<|A1<|B2 ?_
 cases hz2
 obtain rfl:=ez2 _ rfl
 refine ⟨nofun,E6 ?_⟩
 rw [wE]at h
 cases h
 exact A6 (.inr W) (B6 (B3 W) C2) (.refl _)
 refine A8<|E2<|B8<|sv W<|sv W<|A1<|E4 ?_
 cases hz2
 exact ⟨W,(),(F3 W W)⟩
 refine C8 W ?_
 cases hz2
 obtain rfl:=ez2 _ rfl
 refine ⟨nofun,C7 W<|U7 ?_⟩
 exact ⟨_,(),W,(F3 W W)⟩
 rintro _ ⟨y1,g1,rfl,q1⟩
 rw [wD]at h
 refine B4 q1<|B0<|sv W<|A1<|B2 ?_
 cases h
 exact A6 (.inr W) (B6 (B3 W) C2) (.refl _)
def G2 [Lp](p1:(List Pass))(p2:Int)(p3:WorldSpan):Option Bool:=
  (J0 p1 p2 p3).bind fun v1=>some (decide (v1≥0))
theorem Dw(p1 p2 p3 r)(h:G2 p1 p2 p3=some r):PCall prog 245 [(.list (List.map Q6 p1)),(.fn (.func 247) [] [(.bp [(i64 p2)] 0),(.bp [(i64 p3.from_),(i64 p3.to)] 0)])] (bo r):=by
 refine C4 (fk func245 ntmps245 m0 (by with_unfolding_all rfl)) (nl W) ?_
 unfold G2 at h
 refine B4 (s0:=⟨T [(0,(.d _)),(1,(.d _))],G []⟩) (F3 W W) ?_
 refine B0<|sv W<|A1<|B0<|sv W<|sv W<|bs h fun _ hv1 h=>A9 W W A3 (Ff _ _ _ _ hv1) (.inl W) (sv W<|sv W<|A1<|B2 ?_)
 cases h
 exact A6 (.inr W) (B6 (B3 W) C2) (.refl _)
def Di [Lp](p1:Map)(p2:Agent)(p3:Agent)(p4:Int):Option Bool:=
  (Mj p2).bind fun v1=>((cond (!(!v1)) (Mj p3) (some default))).bind fun v2=>cond ((!v1)||(!v2)) (some false) ((Z9 p2).bind fun v3=>(V7 p1 p2.Route).bind fun v4=>(G2 v4 p4 (WorldSpan.mk v3.from_ p3.S)).bind fun v5=>some v5)
theorem FS(p1 p2 p3 p4 r)(h:Di p1 p2 p3 p4=some r):PCall prog 218 [(.agg (Q0 p1)),(.agg (D0 p2)),(.agg (D0 p3)),(i64 p4)] (bo r):=by
 refine C4 (fk func218 ntmps218 m0 (by with_unfolding_all rfl)) (nl W) ?_
 unfold Di at h
 refine B4 (s0:=⟨T [(0,(.d _)),(1,(.d _)),(2,(.d _)),(3,(.d _))],G []⟩) (F3 W W) ?_
 refine B0<|sm W<|sn W W<|sm W<|sn W W<|sv W<|A1<|A5<|B0<|sd W (B1 W (gq W) W W)<|bs h fun v1 hv1 h=>A9 W W A3 (Tz _ _ hv1) (.inl W) (B9 (.d (bo (!v1))) W W (sv W<|gf W (fun _=>(B1 W (gq W) W W))<|bs h fun v2 hv2 h=> ?_))
 refine O3 _ (bo v2) (K6 W) (fun w2=>⟨_,[(.d (.agg (D0 p3)))],_,_,(by simp only [A2 w2];rfl),W,A3,Tz _ _<|C1 w2 hv2,(.inl W)⟩) ?_
 refine M8 _ (.d (bo (!v2))) W (K6 W) (fun w3=>(by simp only [A2 w3];rfl)) ?_
 refine sd W (N9 W W<|fun hc=>A2<|J4 hc)<|A1<|cc W h (fun c1 h=> ?_)<|fun c1 h=> ?_
 refine B0<|sv W<|A1<|B2 ?_
 cases h
 exact A6 (.inr W) (B6 (B3 W) C2) (.refl _)
 refine A8<|A5<|E8 W<|sd W (B1 W (gq W) W W)<|bs h fun v3 hv3 h=>A9 W W A3 (Ji _ _ hv3) (.inl W) (sv W<|sq W<|sl W (gq W) W (sv W<|sm W<|U1 W G_hit [(di v3.from_),(di p3.S)] W (A1<|B0<|sd W (B1 W (gq W) W W)<|sq W<|sl W (gq W) W (bs h fun _ hv4 h=>A9 W W A3 (HX _ _ _ hv4) (.inl W) (B9 (.fn _ _ _) W W (bs h fun _ hv5 h=>A9 W (rD<|E7 (AP G1<|E7 (Ay (gq W)<|rD G1)<|E7 (Ay G_hit<|rD<|rD G1) G1) G1) A3 (Dw _ _ _ _ hv5) (.inr W) (sv W<|A1<|B2 ?_)))))))
 cases h
 exact A6 (.inr W) (B6 (B3 W) C2) (.refl _)
def N6 [Lp](p1:WorldScene)(p2:Int)(p3:Int):Option Bool:=
  (Hu p1.before p2).bind fun v1=>((cond v1 (C0 p1.before.Agents p2) (some default))).bind fun v2=>((cond v1 (C0 p1.after.Agents p2) (some default))).bind fun v3=>((cond v1 (Di p1.m v2 v3 p3) (some default))).bind fun v4=>some (v1&&v4)
theorem Bo(p1 p2 p3 r)(h:N6 p1 p2 p3=some r):PCall prog 171 [(.bp (Pt p1) 0),(i64 p2),(i64 p3)] (bo r):=by
 refine C4 (fk func171 ntmps171 m0 (by with_unfolding_all rfl)) (nl W) ?_
 unfold N6 at h
 refine B4 (s0:=⟨T [(0,(.d _)),(1,(.d _)),(2,(.d _))],G []⟩) (F3 W W) ?_
 refine B0<|sv W<|A1<|A5<|E8 W<|sv W<|sv W<|sv W<|sv W<|sv W<|bs h fun v1 hv1 h=>A9 W W A3 (Nr _ _ _ hv1) (.inl W) (sv W<|gt W (fun _=>W) ?_)
 refine gt W (fun w2=>(by simp only [A2 w2];rfl)) ?_
 refine gt W (fun w3=>(by simp only [A2 w3];rfl)) ?_
 refine gt W (fun w4=>(by simp only [A2 w4];rfl)) ?_
 refine gt W (fun _=>W) ?_
 refine gt W (fun w6=>(by simp only [A2 w6];rfl)) ?_
 refine gt W (fun w7=>(by simp only [A2 w7];rfl)) ?_
 refine gt W (fun w8=>(by simp only [A2 w8];rfl)) ?_
 refine gt W (fun w9=>(by simp only [A2 w9];rfl)) ?_
 refine gt W (fun _=>W)<|bs h fun v2 hv2 h=>gt W (fun w11=>(C5 (A2 w11) (A2 w11) (C1 w11 hv2) W))<|gt W (fun w12=>(D3 (A2 w12) (C1 w12 hv2) W W))<|gt W (fun _=>W) ?_
 refine gt W (fun w14=>(by simp only [A2 w14];rfl)) ?_
 refine gt W (fun w15=>(by simp only [A2 w15];rfl)) ?_
 refine gt W (fun w16=>(by simp only [A2 w16];rfl)) ?_
 refine gt W (fun w17=>(by simp only [A2 w17];rfl)) ?_
 refine gt W (fun _=>W)<|bs h fun v3 hv3 h=>gt W (fun w19=>(C5 (A2 w19) (A2 w19) (C1 w19 hv3) W))<|gt W (fun w20=>(D3 (A2 w20) (C1 w20 hv3) W W))<|gt W (fun _=>W)<|bs h fun v4 hv4 h=> ?_
 refine O3 v1 (bo v4) (M6 W) (fun w22=>⟨_,[(.d (.agg (Q0 p1.m))),(.d (.agg (D0 v2))),(.d (.agg (D0 v3))),(di p3)],_,_,(by simp only [A2 w22];rfl),W,A3,FS _ _ _ _ _<|C1 w22 hv4,(.inl W)⟩) ?_
 refine sa W W W<|sv W<|A1<|B2 ?_
 cases h
 exact A6 (.inr W) (B6 (B3 W) C2) (.refl _)
def D5 [Lp](p1:(List Stay))(p2:Stay)(x1:(Int×Int)):Option (Stp (Int×Int) Int):=
  cond (decide (x1.1<x1.2)) ((C0 p1 (D6 ((IntKind.wrap .u64 (D6 (x1.1+x1.2))).fdiv (2^ (min (1:Int).toNat (IntKind.bits .u64)))))).bind fun v1=>(Dg v1 p2).bind fun v2=>cond (decide (v2<0)) (some (.go ((D6 ((D6 ((IntKind.wrap .u64 (D6 (x1.1+x1.2))).fdiv (2^ (min (1:Int).toNat (IntKind.bits .u64)))))+1)),x1.2))) (some (.go (x1.1,(D6 ((IntKind.wrap .u64 (D6 (x1.1+x1.2))).fdiv (2^ (min (1:Int).toNat (IntKind.bits .u64))))))))) (some (.out x1.1))
def D2 [Lp](p1:(List Stay))(p2:Stay):Option (Int×Bool):=
  (loop (D5 p1 p2) (0,(p1.length:Int))).bind fun y1=>((cond (decide (y1< (p1.length:Int))) (C0 p1 y1) (some default))).bind fun v3=>((cond (decide (y1< (p1.length:Int))) (Dg v3 p2) (some default))).bind fun v4=>some (y1,((decide (y1< (p1.length:Int)))&& (v4==0)))
theorem O9(p1 p2 r)(h:D2 p1 p2=some r):PCall prog 172 [(.list (List.map J7 p1)),(.agg (J7 p2)),(.fn (.func 73) [] [])] (.tup [(i64 r.1),(bo r.2)]):=by
 refine C4 (fk func172 ntmps172 m0 (by with_unfolding_all rfl)) (nl W) ?_
 unfold D2 at h
 refine B4 (s0:=⟨T [(0,(.d _)),(1,(.d _)),(2,(.d _))],G []⟩) (F3 W W) ?_
 refine lr<|fun u1 _=>sm W<|sv W<|sv W<|A1<|B0<|sv W<|sd W (D8 W)<|sv W<|A1<|B0<|sv W<|sv W<|sv W<|A1<|A5<|bs h fun y1 hy1 h=>D9 (fun s=> ∃g1:Unit,Sb ⟨T [(0,(dl J7 p1)),(2,(.d (.fn (.func 73) [] []))),(4,(.ptr (4,u1) 0)),(8,(di (p1.length:Int))),(9,(di y1))],G [((4,u1),some<|.box 127 (Ws p2))]⟩ s) ?_ ?_
 refine A7<|E3 (D5 p1 p2) (fun (x1:(Int×Int)) (g2:Unit)=>⟨T [(0,(dl J7 p1)),(2,(.d (.fn (.func 73) [] []))),(4,(.ptr (4,u1) 0)),(8,(di (p1.length:Int))),(9,(di x1.1)),(10,(di x1.2))],G [((4,u1),some<|.box 127 (Ws p2))]⟩) (0,(p1.length:Int)) () _ hy1 (F3 W W) ?_
 intro x1 g2 z1 hz1 ez1
 unfold D5 at hz1
 refine A5<|B0<|sv W<|sv W<|sv W<|A1<|cc W hz1 (fun c1 hz1=> ?_)<|fun c1 hz1=> ?_
 refine A8<|A7<|B0<|sv W<|sv W<|sv W<|sv W<|sv W<|sv W<|sv W<|A1<|A5<|E8 W<|sv W<|sv W<|sv W<|bs hz1 fun _ hv1 hz1=>sd W (C5 W W hv1 W)<|sd W (D3 W hv1 W W)<|sd W (B1 W G_hit W W)<|bs hz1 fun _ hv2 hz1=>A9 W W A3 (Rz _ _ _ hv2) (.inl W) (sv W<|A1<|cc W hz1 (fun c2 hz1=> ?_)<|fun c2 hz1=> ?_)
 refine B8<|sv W<|sv W<|sv W<|A1<|E2<|E4 ?_
 cases hz1
 exact ⟨W,(),(F3 W W)⟩
 refine B8<|sv W<|sv W<|A1<|E2<|E4 ?_
 cases hz1
 exact ⟨W,(),(F3 W W)⟩
 refine C8 W ?_
 cases hz1
 obtain rfl:=ez1 _ rfl
 refine ⟨nofun,C7 W<|U7 ?_⟩
 exact ⟨(),(F3 W W)⟩
 rintro _ ⟨g1,q1⟩
 refine B4 q1<|A5<|E8 W<|sv W<|sv W<|sv W<|sv W<|sv W<|gt W (fun _=>W)<|gt W (fun _=>W)<|gt W (fun _=>W)<|bs h fun v3 hv3 h=>gt W (fun w4=>(C5 (A2 w4) (A2 w4) (C1 w4 hv3) W))<|gt W (fun w5=>(D3 (A2 w5) (C1 w5 hv3) W W))<|gt W (fun _=>(B1 W G_hit W W))<|bs h fun v4 hv4 h=> ?_
 refine O3 _ (i64 v4) (M6 W) (fun w7=>⟨_,[(.d (.agg (J7 v3))),(.d (.agg (J7 p2)))],_,_,(by simp only [A2 w7];rfl),W,A3,Rz _ _ _<|C1 w7 hv4,(.inl W)⟩) ?_
 refine gt W (vb W W W)<|sa W W W<|sv W<|sv W<|A1<|B2 ?_
 cases h
 exact A6 (.inr W) (Mt (B3 W) (B3 W) C2 C2) (.refl _)
def Ns (p1:Part)(p2:Int):Option Bool:=
  some (p1.Lane_==p2)
theorem EH(p1 p2 r)(h:Ns p1 p2=some r):PCall prog 265 [(.agg (Bk p1)),(.bp [(i64 p2)] 0)] (bo r):=by
 refine C4 (fk func265 ntmps265 m0 (by with_unfolding_all rfl)) (nl W) ?_
 unfold Ns at h
 refine B4 (s0:=⟨T [(0,(.d _)),(1,(.d _))],G []⟩) (F3 W W) ?_
 refine B0<|sm W<|sv W<|A1<|B0<|sq W<|sl W G_hit W<|sv W<|sv W<|sv W<|A1<|B2 ?_
 cases h
 exact A6 (.inr W) (B6 (B3 W) C2) (.refl _)
def M4 (p1:(List Part))(p2:Int)(x1:Int):Option (Stp Int (Sum Unit Int)):=
  cond (decide (x1< (p1.length:Int))) ((C0 p1 x1).bind fun v1=>(Ns v1 p2).bind fun v2=>cond v2 (some (.out (.inr x1))) (some (.go (D6 (x1+1))))) (some (.out (.inl ())))
def K4 [Lp](p1:(List Part))(p2:Int):Option Int:=
  thenS (loop (M4 p1 p2) 0) (fun _=>some (-1)) (fun r=>some r)
theorem Hp(p1 p2 r)(h:K4 p1 p2=some r):PCall prog 220 [(.list (List.map Bk p1)),(.fn (.func 265) [] [(.bp [(i64 p2)] 0)])] (i64 r):=by
 refine C4 (fk func220 ntmps220 m0 (by with_unfolding_all rfl)) (nl W) ?_
 unfold K4 at h
 refine B4 (s0:=⟨T [(0,(.d _)),(1,(.d _))],G []⟩) (F3 W W) ?_
 refine B0<|sv W<|A1<|A5<|B0<|sv W<|sd W (D8 W)<|sv W<|A1<|js h fun z1 hz1 h=>D9 (fun s=> ∃(y1:Unit) (g1:Unit),z1= .inl y1∧Sb ⟨T [],G []⟩ s) ?_ ?_
 refine A7<|E3 (M4 p1 p2) (fun (x1:Int) (g2:Unit)=>⟨T [(0,(dl Bk p1)),(1,(.d (.fn (.func 265) [] [(.bp [(i64 p2)] 0)]))),(7,(di (p1.length:Int))),(8,(di x1))],G []⟩) 0 () _ hz1 (F3 W W) ?_
 intro x1 g2 z2 hz2 ez2
 unfold M4 at hz2
 refine B0<|sv W<|A1<|A5<|cc W hz2 (fun c1 hz2=> ?_)<|fun c1 hz2=> ?_
 refine A8<|A5<|A7<|B0<|sv W<|sv W<|A1<|B0<|sv W<|sv W<|sv W<|bs hz2 fun _ hv1 hz2=>sd W (C5 W W hv1 W)<|sd W (D3 W hv1 W W)<|bs hz2 fun _ hv2 hz2=>A9 W W A3 (EH _ _ _ hv2) (.inl W) (A1<|cc W hz2 (fun c2 hz2=> ?_)<|fun c2 hz2=> ?_)
 refine B0<|sv W<|sv W<|A1<|B2 ?_
 cases hz2
 obtain rfl:=ez2 _ rfl
 refine ⟨nofun,E6 ?_⟩
 rw [wE]at h
 cases h
 exact A6 (.inr W) (B6 (B3 W) C2) (.refl _)
 refine A8<|E2<|B8<|sv W<|sv W<|A1<|E4 ?_
 cases hz2
 exact ⟨W,(),(F3 W W)⟩
 refine C8 W ?_
 cases hz2
 obtain rfl:=ez2 _ rfl
 refine ⟨nofun,C7 W<|U7 ?_⟩
 exact ⟨_,(),W,(F3 W W)⟩
 rintro _ ⟨y1,g1,rfl,q1⟩
 rw [wD]at h
 refine B4 q1<|B0<|sv W<|A1<|B2 ?_
 cases h
 exact A6 (.inr W) (B6 (B3 W) C2) (.refl _)
def Jz [Lp](p1:Zone)(p2:Int):Option (Part×Bool):=
  (K4 p1.Parts p2).bind fun v1=>cond (decide (v1<0)) (some ((Part.mk 0 0 0 0),false)) ((C0 p1.Parts v1).bind fun v2=>some (v2,true))
theorem MF(p1 p2 r)(h:Jz p1 p2=some r):PCall prog 251 [(.agg [(.list (List.map Bk p1.Parts)),(i64 p1.Signal_)]),(i64 p2)] (.tup [(.agg (Bk r.1)),(bo r.2)]):=by
 refine C4 (fk func251 ntmps251 m0 (by with_unfolding_all rfl)) (nl W) ?_
 unfold Jz at h
 refine B4 (s0:=⟨T [(0,(.d _)),(1,(.d _))],G []⟩) (F3 W W) ?_
 refine B0<|sm W<|sn W W<|sm W<|sv W<|A1<|B0<|sq W<|sl W (gq W) W (B9 (.fn _ _ _) W W (bs h fun _ hv1 h=>A9 W (rD<|E7 (AP G1<|E7 (Ay (gq W)<|rD G1) G1) G1) A3 (Hp _ _ _ hv1) (.inr W) (sv W<|A1<|A5<|B0<|sv W<|sv W<|A1<|cc W h (fun c1 h=> ?_)<|fun c1 h=> ?_)))
 refine B0<|sv W<|U1 W G_hit (zs 4) W (sv W<|A1<|B2 ?_)
 cases h
 exact A6 (.inr W) (Mt (K1 W G_hit (nl W) W) (B3 W) C2 C2) (.refl _)
 refine A8<|B0<|sq W<|sl W (gq W) W (sv W<|bs h fun v2 hv2 h=>sd W (C5 W W hv2 W)<|sd W (D3 W hv2 W W)<|U1 W G_hit (AT v2) W (sv W<|A1<|B2 ?_))
 cases h
 exact A6 (.inr W) (Mt (K1 W G_hit (nl W) W) (B3 W) C2 C2) (.refl _)
def Ad [Lp](p1:Int)(p2:Map)(p3:Int):Option Bool:=
  (C0 p2.Zones p3).bind fun v1=>(Jz v1 p1).bind fun v2=>some v2.2
theorem Ys(p1 p2 p3 r)(h:Ad p1 p2 p3=some r):PCall prog 250 [(i64 p1),(.bp (Q0 p2) 0),(.bp [(i64 p3)] 0)] (bo r):=by
 refine C4 (fk func250 ntmps250 m0 (by with_unfolding_all rfl)) (nl W) ?_
 unfold Ad at h
 refine B4 (s0:=⟨T [(0,(.d _)),(1,(.d _)),(2,(.d _))],G []⟩) (F3 W W) ?_
 refine B0<|sv W<|A1<|B0<|sv W<|sv W<|sv W<|bs h fun _ hv1 h=>sd W (C5 W W hv1 W)<|sd W (D3 W hv1 W W)<|sv W<|bs h fun v2 hv2 h=>A9 W W A3 (MF _ _ _ hv2) (.inl W) (sv W<|sv W<|sv W<|sm W<|U1 W G_hit (AT v2.1) W (sv W<|A1<|B0<|sv W<|sv W<|A1<|B2 ?_))
 cases h
 exact A6 (.inr W) (B6 (B3 W) C2) (.refl _)
def H8 [Lp](p1:(List Int))(p2:Map)(p3:Int)(x1:Int):Option (Stp Int (Sum Unit Int)):=
  cond (decide (x1< (p1.length:Int))) ((C0 p1 x1).bind fun v1=>(Ad v1 p2 p3).bind fun v2=>cond v2 (some (.out (.inr x1))) (some (.go (D6 (x1+1))))) (some (.out (.inl ())))
def I8 [Lp](p1:(List Int))(p2:Map)(p3:Int):Option Int:=
  thenS (loop (H8 p1 p2 p3) 0) (fun _=>some (-1)) (fun r=>some r)
theorem Hq(p1 p2 p3 r)(h:I8 p1 p2 p3=some r):PCall prog 249 [(.list (List.map A4 p1)),(.fn (.func 250) [] [(.bp (Q0 p2) 0),(.bp [(i64 p3)] 0)])] (i64 r):=by
 refine C4 (fk func249 ntmps249 m0 (by with_unfolding_all rfl)) (nl W) ?_
 unfold I8 at h
 refine B4 (s0:=⟨T [(0,(.d _)),(1,(.d _))],G []⟩) (F3 W W) ?_
 refine B0<|sv W<|A1<|A5<|B0<|sv W<|sd W (D8 W)<|sv W<|A1<|js h fun z1 hz1 h=>D9 (fun s=> ∃(y1:Unit) (g1:Unit),z1= .inl y1∧Sb ⟨T [],G []⟩ s) ?_ ?_
 refine A7<|E3 (H8 p1 p2 p3) (fun (x1:Int) (g2:Unit)=>⟨T [(0,(dl A4 p1)),(1,(.d (.fn (.func 250) [] [(.bp (Q0 p2) 0),(.bp [(i64 p3)] 0)]))),(7,(di (p1.length:Int))),(8,(di x1))],G []⟩) 0 () _ hz1 (F3 W W) ?_
 intro x1 g2 z2 hz2 ez2
 unfold H8 at hz2
 refine B0<|sv W<|A1<|A5<|cc W hz2 (fun c1 hz2=> ?_)<|fun c1 hz2=> ?_
 refine A8<|A5<|A7<|B0<|sv W<|sv W<|A1<|B0<|sv W<|sv W<|sv W<|bs hz2 fun _ hv1 hz2=>sd W (C5 W W hv1 W)<|sd W (C9 W hv1 W)<|bs hz2 fun _ hv2 hz2=>A9 W W A3 (Ys _ _ _ _ hv2) (.inl W) (A1<|cc W hz2 (fun c2 hz2=> ?_)<|fun c2 hz2=> ?_)
 refine B0<|sv W<|sv W<|A1<|B2 ?_
 cases hz2
 obtain rfl:=ez2 _ rfl
 refine ⟨nofun,E6 ?_⟩
 rw [wE]at h
 cases h
 exact A6 (.inr W) (B6 (B3 W) C2) (.refl _)
 refine A8<|E2<|B8<|sv W<|sv W<|A1<|E4 ?_
 cases hz2
 exact ⟨W,(),(F3 W W)⟩
 refine C8 W ?_
 cases hz2
 obtain rfl:=ez2 _ rfl
 refine ⟨nofun,C7 W<|U7 ?_⟩
 exact ⟨_,(),W,(F3 W W)⟩
 rintro _ ⟨y1,g1,rfl,q1⟩
 rw [wD]at h
 refine B4 q1<|B0<|sv W<|A1<|B2 ?_
 cases h
 exact A6 (.inr W) (B6 (B3 W) C2) (.refl _)
def Hv [Lp](p1:Map)(p2:(List Int))(p3:Int):Option Int:=
  (Z8 p1 p2).bind fun v1=>cond ((decide (p3<0))||(decide (p3≥(p1.Zones.length:Int)))) (some (-1)) ((I8 v1.lanes p1 p3).bind fun v2=>some v2)
theorem KC(p1 p2 p3 r)(h:Hv p1 p2 p3=some r):PCall prog 222 [(.agg (Q0 p1)),(.list (List.map A4 p2)),(i64 p3)] (i64 r):=by
 refine C4 (fk func222 ntmps222 m0 (by with_unfolding_all rfl)) (nl W) ?_
 unfold Hv at h
 refine B4 (s0:=⟨T [(0,(.d _)),(1,(.d _)),(2,(.d _))],G []⟩) (F3 W W) ?_
 refine B0<|sm W<|sn W W<|sv W<|A1<|B0<|sd W (B1 W (gq W) W W)<|sv W<|bs h fun v1 hv1 h=>A9 W W A3 (Ma _ _ _ hv1) (.inl W) (sm W<|U1 W G_hit (Oq v1) W (A1<|A5<|B0<|sl W (gq W) W (sv W<|sv W<|gf W (fun _=>(P6 W (gq W) W))<|gp W (K6 W) (fun _=>W) (gf W (vl W (gq W) W)<|gf W (fun w4=>(D8<|A2 w4))<|gf W (fun w5=>(M3 (A2 w5) (A2 w5) W))<|sd W (N9 W W<|fun hc=>A2<|J4 hc)<|A1<|cc W h (fun c1 h=> ?_)<|fun c1 h=> ?_))))
 refine B0<|sv W<|A1<|B2 ?_
 cases h
 exact A6 (.inr W) (B6 (B3 W) C2) (.refl _)
 refine A8<|B0<|sq W<|sl W G_hit W<|B9 (.fn _ _ _) W W (bs h fun _ hv2 h=>A9 W (rD<|E7 (AP G1<|E7 (Ay (gq W)<|rD<|rD<|rD<|rD<|rD G1)<|E7 (Ay (gq W)<|rD G1) G1) G1) A3 (Hq _ _ _ _ hv2) (.inr W) (sv W<|A1<|B2 ?_))
 cases h
 exact A6 (.inr W) (B6 (B3 W) C2) (.refl _)
def Dj [Lp](p1:Map)(p2:(List Int))(p3:Int):Option Int:=
  (Hv p1 p2 p3).bind fun v1=>cond (decide (v1≥0)) ((C0 p2 v1).bind fun v2=>some v2) (some (-1))
theorem Sc(p1 p2 p3 r)(h:Dj p1 p2 p3=some r):PCall prog 175 [(.agg (Q0 p1)),(.list (List.map A4 p2)),(i64 p3)] (i64 r):=by
 refine C4 (fk func175 ntmps175 m0 (by with_unfolding_all rfl)) (nl W) ?_
 unfold Dj at h
 refine B4 (s0:=⟨T [(0,(.d _)),(1,(.d _)),(2,(.d _))],G []⟩) (F3 W W) ?_
 refine B0<|sm W<|sv W<|A1<|A5<|B0<|sd W (B1 W G_hit W W)<|sv W<|sv W<|bs h fun _ hv1 h=>A9 W W A3 (KC _ _ _ _ hv1) (.inl W) (sv W<|A1<|B0<|sv W<|sv W<|A1<|cc W h (fun c1 h=> ?_)<|fun c1 h=> ?_)
 refine B0<|sv W<|sv W<|bs h fun _ hv2 h=>sd W (C5 W W hv2 W)<|sd W (C9 W hv2 W)<|sv W<|A1<|B2 ?_
 cases h
 exact A6 (.inr W) (B6 (B3 W) C2) (.refl _)
 refine A8<|B0<|sv W<|A1<|B2 ?_
 cases h
 exact A6 (.inr W) (B6 (B3 W) C2) (.refl _)
def Ls [Lp](p1:Map)(p2:Int):Option Bool:=
  ((cond ((decide (p2≥0))&& (decide (p2< (p1.Lanes.length:Int)))) (Bx p1) (some default))).bind fun v1=>some (((decide (p2≥0))&& (decide (p2< (p1.Lanes.length:Int))))&& (v1==0))
theorem Yt(p1 p2 r)(h:Ls p1 p2=some r):PCall prog 206 [(.agg (Q0 p1)),(i64 p2)] (bo r):=by
 refine C4 (fk func206 ntmps206 m0 (by with_unfolding_all rfl)) (nl W) ?_
 unfold Ls at h
 refine B4 (s0:=⟨T [(0,(.d _)),(1,(.d _))],G []⟩) (F3 W W) ?_
 refine B0<|sm W<|sv W<|A1<|B0<|sv W<|sv W<|sv W<|gt W (fun _=>W)<|gp W (M6 W) (fun _=>W) (gt W (vl W G_hit W)<|gt W (fun w4=>(D8<|A2 w4))<|gt W (fun w5=>(M3 (A2 w5) (A2 w5) W))<|sa W W W<|sv W<|gt W (fun _=>(B1 W G_hit W W))<|bs h fun v1 hv1 h=> ?_)
 refine O3 _ (i64 v1) (M6 W) (fun w7=>⟨_,[(.d (.agg (Q0 p1)))],_,_,(by simp only [A2 w7];rfl),W,A3,Ry _ _<|C1 w7 hv1,(.inl W)⟩) ?_
 refine gt W (vb W W W)<|sa W W W<|sv W<|A1<|B2 ?_
 cases h
 exact A6 (.inr W) (B6 (B3 W) C2) (.refl _)
def U4 [Lp](p1:Signal)(p2:Int)(x2:(Int×Int)):Option (Stp (Int×Int) (Sum Unit Bool)):=
  cond (decide (x2.2< (p1.Phases.length:Int))) ((C0 p1.Phases x2.2).bind fun v5=>cond (decide (x2.1≥v5.Ticks)) (some (.go ((D6 (x2.1 - v5.Ticks)),(D6 (x2.2+1))))) ((N4 v5.Green p2).bind fun v6=>some (.out (.inr v6)))) (some (.out (.inl ())))
def Bz (p1:Signal)(x1:(Int×Int)):Option (Stp (Int×Int) Int):=
  cond (decide (x1.2< (p1.Phases.length:Int))) ((C0 p1.Phases x1.2).bind fun v1=>some (.go ((D6 (x1.1+v1.Ticks)),(D6 (x1.2+1))))) (some (.out x1.1))
def Fg [Lp](p1:Signal)(p2:Int)(p3:Int):Option Bool:=
  (loop (Bz p1) (0,0)).bind fun y1=>(Vl p1.Offset y1).bind fun v2=>(Vl p3 y1).bind fun v3=>(Vl (D6 (v2+v3)) y1).bind fun v4=>thenS (loop (U4 p1 p2) (v4,0)) (fun _=>some false) (fun r=>some r)
theorem Yu(p1 p2 p3 r)(h:Fg p1 p2 p3=some r):PCall prog 248 [(.agg [(i64 p1.Offset),(.list (List.map Az p1.Phases))]),(i64 p2),(i64 p3)] (bo r):=by
 refine C4 (fk func248 ntmps248 m0 (by with_unfolding_all rfl)) (nl W) ?_
 unfold Fg at h
 refine B4 (s0:=⟨T [(0,(.d _)),(1,(.d _)),(2,(.d _))],G []⟩) (F3 W W) ?_
 refine lr<|fun u1 _=>sm W<|sv W<|A1<|jG<|B0<|sv W<|A1<|A5<|B0<|sq W<|sl W G_hit W<|sd W (D8 W)<|sv W<|A1<|bs h fun y1 hy1 h=>D9 (fun s=> ∃g1:Unit,Sb ⟨T [(1,(di p2)),(2,(di p3)),(3,(.ptr (3,u1) 0)),(7,(di y1))],G [((3,u1),some<|.box 120 [(di p1.Offset),(dl Az p1.Phases)])]⟩ s) ?_ ?_
 refine A7<|E3 (Bz p1) (fun (x1:(Int×Int)) (g2:Unit)=>⟨T [(1,(di p2)),(2,(di p3)),(3,(.ptr (3,u1) 0)),(7,(di x1.1)),(14,(dl Az p1.Phases)),(15,(di (p1.Phases.length:Int))),(16,(di x1.2))],G [((3,u1),some<|.box 120 [(di p1.Offset),(dl Az p1.Phases)])]⟩) (0,0) () _ hy1 (F3 W W) ?_
 intro x1 g2 z1 hz1 ez1
 unfold Bz at hz1
 refine B0<|sv W<|A1<|A5<|cc W hz1 (fun c1 hz1=> ?_)<|fun c1 hz1=> ?_
 refine A8<|A5<|A7<|B0<|bs hz1 fun v1 hv1 hz1=>sd W (C5 W W hv1 W)<|sd W (D3 W hv1 W W)<|sm W<|U1 W G_hit [(di v1.Ticks),(dl A4 v1.Green)] W (A1<|B8<|sv W<|sq W<|sl W G_hit W<|sv W<|sv W<|A1<|E2<|B8<|sv W<|sv W<|A1<|E4 ?_)
 cases hz1
 exact ⟨W,(),(F3 W W)⟩
 refine C8 W ?_
 cases hz1
 obtain rfl:=ez1 _ rfl
 refine ⟨nofun,C7 W<|U7 ?_⟩
 exact ⟨(),(F3 W W)⟩
 rintro _ ⟨g1,q1⟩
 refine B4 q1<|A5<|E8 W<|sq W<|sl W G_hit W<|sv W<|bs h fun _ hv2 h=>sd W (AQ W W hv2)<|sv W<|sv W<|bs h fun _ hv3 h=>sd W (AQ W W hv3)<|sv W<|sv W<|bs h fun v4 hv4 h=>sd W (AQ W W hv4)<|sv W<|A1<|A5<|A8<|A5<|B0<|sq W<|sl W G_hit W<|sd W (D8 W)<|sv W<|A1<|js h fun z2 hz2 h=>D9 (fun s=> ∃(y2:Unit) (g3:Unit),z2= .inl y2∧Sb ⟨T [],G []⟩ s) ?_ ?_
 refine A7<|E3 (U4 p1 p2) (fun (x2:(Int×Int)) (g4:Unit)=>⟨T [(1,(di p2)),(10,(di x2.1)),(36,(dl Az p1.Phases)),(37,(di (p1.Phases.length:Int))),(38,(di x2.2))],G []⟩) (v4,0) () _ hz2 (F3 W W) ?_
 intro x2 g4 z3 hz3 ez3
 unfold U4 at hz3
 refine B0<|sv W<|A1<|A5<|cc W hz3 (fun c2 hz3=> ?_)<|fun c2 hz3=> ?_
 refine A8<|A5<|A7<|B0<|bs hz3 fun v5 hv5 hz3=>sd W (C5 W W hv5 W)<|sd W (D3 W hv5 W W)<|sm W<|U1 W G_hit [(di v5.Ticks),(dl A4 v5.Green)] W (A1<|A5<|B0<|sv W<|sq W<|sl W G_hit W<|sv W<|A1<|cc W hz3 (fun c3 hz3=> ?_)<|fun c3 hz3=> ?_)
 refine B0<|sv W<|sq W<|sl W G_hit W<|sv W<|sv W<|A1<|Tu W<|B8<|sv W<|sv W<|A1<|E4 ?_
 cases hz3
 exact ⟨W,(),(F3 W W)⟩
 refine A8<|B0<|sq W<|sl W G_hit W<|sv W<|bs hz3 fun _ hv6 hz3=>A9 W W A3 (Dv _ _ _ hv6) (.inl W) (sv W<|A1<|B2 ?_)
 cases hz3
 obtain rfl:=ez3 _ rfl
 refine ⟨nofun,E6 ?_⟩
 rw [wE]at h
 cases h
 exact A6 (.inr W) (B6 (B3 W) C2) (.refl _)
 refine C8 W ?_
 cases hz3
 obtain rfl:=ez3 _ rfl
 refine ⟨nofun,C7 W<|U7 ?_⟩
 exact ⟨_,(),W,(F3 W W)⟩
 rintro _ ⟨y2,g3,rfl,q2⟩
 rw [wD]at h
 refine B4 q2<|B0<|sv W<|A1<|B2 ?_
 cases h
 exact A6 (.inr W) (B6 (B3 W) C2) (.refl _)
def Hy [Lp](p1:Map)(p2:Int)(p3:Int)(p4:Int):Option Bool:=
  ((cond (((decide (p4≥0))&& (decide (p2≥0)))&& (decide (p2< (p1.Signals.length:Int)))) (Ls p1 p3) (some default))).bind fun v1=>((cond ((((decide (p4≥0))&& (decide (p2≥0)))&& (decide (p2< (p1.Signals.length:Int))))&&v1) (C0 p1.Signals p2) (some default))).bind fun v2=>((cond ((((decide (p4≥0))&& (decide (p2≥0)))&& (decide (p2< (p1.Signals.length:Int))))&&v1) (Fg v2 p3 p4) (some default))).bind fun v3=>some (((((decide (p4≥0))&& (decide (p2≥0)))&& (decide (p2< (p1.Signals.length:Int))))&&v1)&&v3)
theorem KD(p1 p2 p3 p4 r)(h:Hy p1 p2 p3 p4=some r):PCall prog 219 [(.agg (Q0 p1)),(i64 p2),(i64 p3),(i64 p4)] (bo r):=by
 refine C4 (fk func219 ntmps219 m0 (by with_unfolding_all rfl)) (nl W) ?_
 unfold Hy at h
 refine B4 (s0:=⟨T [(0,(.d _)),(1,(.d _)),(2,(.d _)),(3,(.d _))],G []⟩) (F3 W W) ?_
 refine B0<|sm W<|sv W<|A1<|B0<|sv W<|sv W<|sv W<|gt W (fun _=>W)<|gt W (vb W W W)<|sa W W W<|sv W<|gt W (fun _=>W)<|gp W (M6 W) (fun _=>W) (gt W (vl W G_hit W)<|gt W (fun w6=>(D8<|A2 w6))<|gt W (fun w7=>(M3 (A2 w7) (A2 w7) W))<|sa W W W<|sv W<|gt W (fun _=>(B1 W G_hit W W))<|gt W (fun _=>W)<|bs h fun v1 hv1 h=> ?_)
 refine O3 _ (bo v1) (M6 W) (fun w10=>⟨_,[(.d (.agg (Q0 p1))),(di p3)],_,_,(by simp only [A2 w10];rfl),W,A3,Yt _ _ _<|C1 w10 hv1,(.inl W)⟩) ?_
 refine sa W W W<|sv W<|gp W (M6 W) (fun _=>W) (gt W (vl W G_hit W)<|gt W (fun _=>W)<|bs h fun v2 hv2 h=>gt W (fun w14=>(C5 (A2 w14) (A2 w14) (C1 w14 hv2) W))<|gt W (fun w15=>(D3 (A2 w15) (C1 w15 hv2) W W))<|gt W (fun _=>W)<|gt W (fun _=>W)<|bs h fun v3 hv3 h=> ?_)
 refine O3 _ (bo v3) (M6 W) (fun w18=>⟨_,[(.d (.agg [(i64 v2.Offset),(.list (List.map Az v2.Phases))])),(di p3),(di p4)],_,_,(by simp only [A2 w18];rfl),W,A3,Yu _ _ _ _<|C1 w18 hv3,(.inl W)⟩) ?_
 refine sa W W W<|sv W<|A1<|B2 ?_
 cases h
 exact A6 (.inr W) (B6 (B3 W) C2) (.refl _)
def Nt (p1:Part)(p2:Int):Option Bool:=
  some (p1.Lane_==p2)
theorem EI(p1 p2 r)(h:Nt p1 p2=some r):PCall prog 221 [(.agg (Bk p1)),(.bp [(i64 p2)] 0)] (bo r):=by
 refine C4 (fk func221 ntmps221 m0 (by with_unfolding_all rfl)) (nl W) ?_
 unfold Nt at h
 refine B4 (s0:=⟨T [(0,(.d _)),(1,(.d _))],G []⟩) (F3 W W) ?_
 refine B0<|sm W<|sv W<|A1<|B0<|sq W<|sl W G_hit W<|sv W<|sv W<|sv W<|A1<|B2 ?_
 cases h
 exact A6 (.inr W) (B6 (B3 W) C2) (.refl _)
def M5 (p1:(List Part))(p2:Int)(x1:Int):Option (Stp Int (Sum Unit Int)):=
  cond (decide (x1< (p1.length:Int))) ((C0 p1 x1).bind fun v1=>(Nt v1 p2).bind fun v2=>cond v2 (some (.out (.inr x1))) (some (.go (D6 (x1+1))))) (some (.out (.inl ())))
def I9 [Lp](p1:(List Part))(p2:Int):Option Int:=
  thenS (loop (M5 p1 p2) 0) (fun _=>some (-1)) (fun r=>some r)
theorem Hr(p1 p2 r)(h:I9 p1 p2=some r):PCall prog 220 [(.list (List.map Bk p1)),(.fn (.func 221) [] [(.bp [(i64 p2)] 0)])] (i64 r):=by
 refine C4 (fk func220 ntmps220 m0 (by with_unfolding_all rfl)) (nl W) ?_
 unfold I9 at h
 refine B4 (s0:=⟨T [(0,(.d _)),(1,(.d _))],G []⟩) (F3 W W) ?_
 refine B0<|sv W<|A1<|A5<|B0<|sv W<|sd W (D8 W)<|sv W<|A1<|js h fun z1 hz1 h=>D9 (fun s=> ∃(y1:Unit) (g1:Unit),z1= .inl y1∧Sb ⟨T [],G []⟩ s) ?_ ?_
 refine A7<|E3 (M5 p1 p2) (fun (x1:Int) (g2:Unit)=>⟨T [(0,(dl Bk p1)),(1,(.d (.fn (.func 221) [] [(.bp [(i64 p2)] 0)]))),(7,(di (p1.length:Int))),(8,(di x1))],G []⟩) 0 () _ hz1 (F3 W W) ?_
 intro x1 g2 z2 hz2 ez2
 unfold M5 at hz2
 refine B0<|sv W<|A1<|A5<|cc W hz2 (fun c1 hz2=> ?_)<|fun c1 hz2=> ?_
 refine A8<|A5<|A7<|B0<|sv W<|sv W<|A1<|B0<|sv W<|sv W<|sv W<|bs hz2 fun _ hv1 hz2=>sd W (C5 W W hv1 W)<|sd W (D3 W hv1 W W)<|bs hz2 fun _ hv2 hz2=>A9 W W A3 (EI _ _ _ hv2) (.inl W) (A1<|cc W hz2 (fun c2 hz2=> ?_)<|fun c2 hz2=> ?_)
 refine B0<|sv W<|sv W<|A1<|B2 ?_
 cases hz2
 obtain rfl:=ez2 _ rfl
 refine ⟨nofun,E6 ?_⟩
 rw [wE]at h
 cases h
 exact A6 (.inr W) (B6 (B3 W) C2) (.refl _)
 refine A8<|E2<|B8<|sv W<|sv W<|A1<|E4 ?_
 cases hz2
 exact ⟨W,(),(F3 W W)⟩
 refine C8 W ?_
 cases hz2
 obtain rfl:=ez2 _ rfl
 refine ⟨nofun,C7 W<|U7 ?_⟩
 exact ⟨_,(),W,(F3 W W)⟩
 rintro _ ⟨y1,g1,rfl,q1⟩
 rw [wD]at h
 refine B4 q1<|B0<|sv W<|A1<|B2 ?_
 cases h
 exact A6 (.inr W) (B6 (B3 W) C2) (.refl _)
def Fx [Lp](p1:Map)(p2:Agent)(p3:Int)(p4:Int):Option Int:=
  (Dj p1 p2.Route p3).bind fun v1=>cond (decide (v1<0)) (some 0) ((C0 p1.Zones p3).bind fun v2=>((cond (decide (v2.Signal_>0)) (Hy p1 (D6 (v2.Signal_ - 1)) v1 p4) (some default))).bind fun v3=>cond ((decide (v2.Signal_>0))&&v3) (some 2) (cond (decide (v2.Signal_>0)) (some 0) ((I9 v2.Parts v1).bind fun v4=>(C0 v2.Parts v4).bind fun v5=>some v5.Rank)))
theorem BB(p1 p2 p3 p4 r)(h:Fx p1 p2 p3 p4=some r):PCall prog 173 [(.agg (Q0 p1)),(.agg (D0 p2)),(i64 p3),(i64 p4)] (i64 r):=by
 refine C4 (fk func173 ntmps173 m0 (by with_unfolding_all rfl)) (nl W) ?_
 unfold Fx at h
 refine B4 (s0:=⟨T [(0,(.d _)),(1,(.d _)),(2,(.d _)),(3,(.d _))],G []⟩) (F3 W W) ?_
 refine B0<|sm W<|sn W W<|sv W<|A1<|B0<|sd W (B1 W (gq W) W W)<|sq W<|sl W G_hit W<|sv W<|bs h fun v1 hv1 h=>A9 W W A3 (Sc _ _ _ _ hv1) (.inl W) (sm W<|U1 W G_hit [(di v1)] W (A1<|A5<|B0<|sl W G_hit W<|sv W<|A1<|cc W h (fun c1 h=> ?_)<|fun c1 h=> ?_))
 refine B0<|sv W<|A1<|B2 ?_
 cases h
 exact A6 (.inr W) (B6 (B3 W) C2) (.refl _)
 refine A8<|B0<|sq W<|sl W (gq W) W (sv W<|bs h fun v2 hv2 h=>sd W (C5 W W hv2 W)<|sd W (D3 W hv2 W W)<|sm W<|U1 W G_hit [(dl Bk v2.Parts),(di v2.Signal_)] W (A1<|A5<|A7<|B0<|sq W<|sl W G_hit W<|sv W<|sv W<|gt W (fun _=>(B1 W (gq W) W W))<|gp W (M6 W) (fun _=>W) (gt W (vl W G_hit W)<|gt W (vb W W W)<|gt W (fun _=>(P6 W (gq W) W))<|gt W (fun _=>W)<|bs h fun v3 hv3 h=> ?_)))
 refine O3 _ (bo v3) (M6 W) (fun w7=>⟨_,[(.d (.agg (Q0 p1))),(di<|D6 (v2.Signal_ - 1)),(di v1),(di p4)],_,_,(by simp only [A2 w7];rfl),W,A3,KD _ _ _ _ _<|C1 w7 hv3,(.inl W)⟩) ?_
 refine sa W W W<|sv W<|A1<|cc W h (fun c2 h=> ?_)<|fun c2 h=> ?_
 refine B0<|sv W<|A1<|B2 ?_
 cases h
 exact A6 (.inr W) (B6 (B3 W) C2) (.refl _)
 refine B0<|sq W<|sl W G_hit W<|sv W<|sv W<|A1<|cc W h (fun c3 h=> ?_)<|fun c3 h=> ?_
 refine B0<|sv W<|A1<|B2 ?_
 cases h
 exact A6 (.inr W) (B6 (B3 W) C2) (.refl _)
 refine A8<|E2<|A5<|E8 W<|sq W<|sl W G_hit W<|sq W<|sl W G_hit W<|B9 (.fn _ _ _) W W (bs h fun _ hv4 h=>A9 W (rD<|E7 (AP G1<|E7 (Ay (gq W)<|rD G1) G1) G1) A3 (Hr _ _ _ hv4) (.inr W) (bs h fun _ hv5 h=>sd W (C5 W W hv5 W)<|sv W<|sd W (C9 W hv5 W)<|sv W<|A1<|B2 ?_))
 cases h
 exact A6 (.inr W) (B6 (B3 W) C2) (.refl _)
def X0 [Lp](p1:WorldScene)(x1:(Int× (List Stay)))(v1:Agent)(x2:(Int× (List Stay))):Option (Stp (Int× (List Stay)) (List Stay)):=
  cond (decide (x2.1< (p1.m.Zones.length:Int))) ((N6 (WorldScene.mk p1.m p1.before (State.mk p1.after.Tick p1.after.Agents x2.2) p1.acts p1.crashes) x1.1 x2.1).bind fun v2=>cond (!v2) (some (.go ((D6 (x2.1+1)),x2.2))) ((D2 p1.before.In (Stay.mk x1.1 x2.1 p1.before.Tick 0)).bind fun v3=>(cond v3.2 ((C0 p1.before.In v3.1).bind fun v4=>some v4) ((Fx p1.m v1 x2.1 p1.before.Tick).bind fun v5=>some (Stay.mk x1.1 x2.1 p1.before.Tick v5))).bind fun y2=>(X3 x2.2 [y2]).bind fun v6=>some (.go ((D6 (x2.1+1)),v6)))) (some (.out x2.2))
def X1 [Lp](p1:WorldScene)(x1:(Int× (List Stay))):Option (Stp (Int× (List Stay)) WorldScene):=
  cond (decide (x1.1< (p1.before.Agents.length:Int))) ((C0 p1.before.Agents x1.1).bind fun v1=>(loop (X0 p1 x1 v1) (0,x1.2)).bind fun y1=>some (.go ((D6 (x1.1+1)),y1))) (some (.out ((WorldScene.mk p1.m p1.before (State.mk p1.after.Tick p1.after.Agents x1.2) p1.acts p1.crashes))))
def Am [Lp](p1:WorldScene):Option WorldScene:=
  loop (X1 p1) (0,[])
theorem Vs(p1 r)(h:Am p1=some r):MCall prog 80 [(.ptr (900000,0) 0)] [(.box 135 (W1 p1))] (.d (.tup [])) [some (.box 135 (W1 r))] []:=by
 refine Vm (fk func80 ntmps80 (fun r=>if r==13 then [1007]else []) (by with_unfolding_all rfl)) W (nl W) ?_
 unfold Am at h
 refine B4 (s0:=⟨T [(0,(.ptr _ _))],G [((900000,0),some<|.box 135 _)]⟩) (F3 W W) ?_
 refine B0<|sq W<|sp W W<|sq W<|sp W W<|U1 W G_hit ((W1 p1).set 10 (.d .nilS)) W (A1<|B0<|sq W<|sp W W<|sq W<|sp W W<|sl W G_hit W<|sd W (D8 W)<|sv W<|A1<|A7<|E3 (X1 p1) (fun (x1:(Int× (List Stay))) (g1:Nat)=>⟨T [(0,(.ptr (900000,0) 0)),(16,(dl D0 p1.before.Agents)),(17,(di (p1.before.Agents.length:Int))),(18,(di x1.1))],G [((900000,0),some<|.box 135 ((W1 p1).set 10 (oS x1.2 (85,g1)))),((85,g1),oB 127 4 J7 x1.2)]⟩) (0,[]) 0 _ h (E1 (Z1 W)<|B5 G_hit (.of W)<|S4 trivial) ?_)
 intro x1 g1 z1 hz1 ez1
 unfold X1 at hz1
 refine B0<|sv W<|A1<|A5<|cc W hz1 (fun c1 hz1=> ?_)<|fun c1 hz1=> ?_
 refine A8<|A5<|A7<|lr<|fun u4 _=>sv W<|bs hz1 fun v1 hv1 hz1=>sd W (C5 W W hv1 W)<|sd W (D3 W hv1 W W)<|sm W<|sv W<|U1 W G_hit (R7 v1) W (A1<|B0<|sq W<|sp W W<|sq W<|sp W W<|sl W (gq W) W (sd W (D8 W)<|sv W<|A1<|bs hz1 fun y1 hy1 hz1=>D9 (fun s=> ∃g2:Nat,Sb ⟨T [(0,(.ptr (900000,0) 0)),(16,(dl D0 p1.before.Agents)),(17,(di (p1.before.Agents.length:Int))),(18,(di x1.1))],G [((900000,0),some<|.box 135 ((W1 p1).set 10 (oS y1 (85,g2)))),((85,g2),oB 127 4 J7 y1)]⟩ s) ?_ ?_))
 refine A7<|E3 (X0 p1 x1 v1) (fun (x2:(Int× (List Stay))) (g3:Nat)=>⟨T [(0,(.ptr (900000,0) 0)),(2,(di x1.1)),(3,(.ptr (3,u4) 0)),(16,(dl D0 p1.before.Agents)),(17,(di (p1.before.Agents.length:Int))),(18,(di x1.1)),(28,(di (p1.m.Zones.length:Int))),(29,(di x2.1))],G [((900000,0),some<|.box 135 ((W1 p1).set 10 (oS x2.2 (85,g3)))),((3,u4),some<|.box 45 (R7 v1)),((85,g3),oB 127 4 J7 x2.2)]⟩) (0,x1.2) g1 _ hy1 (E1 (Z1 W)<|sg W<|B5 G_hit (.of W)<|B7 (gq W) trivial) ?_
 intro x2 g3 z2 hz2 ez2
 unfold X0 at hz2
 refine B0<|sv W<|A1<|A5<|cc W hz2 (fun c2 hz2=> ?_)<|fun c2 hz2=> ?_
 refine A8<|A5<|A7<|B0<|sv W<|sv W<|A1<|A5<|B0<|sq W<|sv W<|sv W<|bs hz2 fun v2 hv2 hz2=>A9 W (E7 (Ay G_hit<|rD<|rD<|rD<|rD<|rD<|rD<|rD<|rD<|rD<|rD<|E7 (T7<|gq W)<|rD<|rD G1)<|rD<|rD G1) (.cons (DLe.bp<|ca W<|ca W<|ca W<|ca W<|ca W<|ca W<|ca W<|ca W<|ca W<|ca W<|.cons ⟨T6,W⟩ (cz W)) (.cons (.refl _) A3)) (Bo _ _ _ _ hv2) (.inr W) (B9 (.d (bo (!v2))) W W (A1<|cc W hz2 (fun c3 hz2=> ?_)<|fun c3 hz2=> ?_))
 refine Tu W<|B8<|sv W<|sv W<|A1<|E4 ?_
 cases hz2
 exact ⟨W,g3,(E1 (Z1 W)<|B5 G_hit (.of W)<|sg W<|B7 (gq W) trivial)⟩
 refine A8<|lr<|fun u10 _=>sv W<|sv W<|sq W<|sp W W<|sq W<|sp W W<|sl W G_hit W<|sv W<|sm W<|U1 W G_hit [(di x1.1),(di x2.1),(di p1.before.Tick),(di 0)] W (A1<|A5<|A5<|E8 W<|sq W<|sq W<|sp W W<|sq W<|sl W (gq W) W (sd W (B1 W G_hit W W)<|bs hz2 fun _ hv3 hz2=>A9 W W A3 (O9 _ _ _ hv3) (.inl W) (sv W<|sv W<|sv W<|sv W<|sv W<|A1<|B0<|sv W<|A1<|bs hz2 fun y2 hy2 hz2=>D9 (fun s=> ∃g4:Unit,Sb ⟨T [(0,(.ptr (900000,0) 0)),(2,(di x1.1)),(3,(.ptr (3,u4) 0)),(5,(.ptr (5,u10) 0)),(16,(dl D0 p1.before.Agents)),(17,(di (p1.before.Agents.length:Int))),(18,(di x1.1)),(28,(di (p1.m.Zones.length:Int))),(29,(di x2.1))],G [((900000,0),some<|.box 135 ((W1 p1).set 10 (oS x2.2 (85,g3)))),((3,u4),some<|.box 45 (R7 v1)),((5,u10),some<|.box 127 (Ws y2)),((85,g3),oB 127 4 J7 x2.2)]⟩ s) ?_ ?_)))
 refine cc W hy2 (fun c4 hy2=> ?_)<|fun c4 hy2=> ?_
 refine B8<|sq W<|sq W<|sp W W<|sq W<|sl W (gq W) W (sv W<|bs hy2 fun v4 hv4 hy2=>sd W (C5 W W hv4 W)<|sd W (D3 W hv4 W W)<|U1 W G_hit (Ws v4) W (A1 ?_))
 obtain rfl:=(lD hy2)
 exact U7 ⟨(),(E1 (Z1 W)<|sg W<|sg W<|B5 G_hit (.of W)<|B7 (gq W) trivial)⟩
 refine E8 W<|sq W<|sq W<|sp W W<|sd W (B1 W (gq W) W W)<|sd W (B1 W (gq W) W W)<|sv W<|sq W<|sp W W<|sq W<|sp W W<|sl W (gq W) W (bs hy2 fun v5 hv5 hy2=>A9 W W A3 (BB _ _ _ _ _ hv5) (.inl W) (sq W<|U1 W G_hit [(di x1.1),(di x2.1),(di p1.before.Tick),(di v5)] W (A1 ?_)))
 cases hy2
 exact U7 ⟨(),(E1 (Z1 W)<|sg W<|sg W<|B5 G_hit (.of W)<|B7 (gq W) trivial)⟩
 rintro _ ⟨g4,q1⟩
 refine B4 q1<|Mi W fun u15 _=>sq W<|sq W<|sp W W<|sq W<|sp W W<|B9 (oS x2.2 (85,g3)) W (P6 W G_hit W) (sd W (B1 W (gq W) W W)<|B9 (dl J7 [y2]) W W (bs hz2 fun _ hv6 hz2=>P9 J7 (85,g3) x2.2 y2 [] _ (L7<|fun _=>W) W (gq W) hv6 (sq W<|sp W W<|sq W<|U1 W (gq W) ((W1 p1).set 10 (.sl (85,u15))) W (A1<|E2<|B8<|sv W<|sv W<|A1<|E4 ?_))))
 cases hz2
 exact ⟨W,u15,(E1 (Z1 W)<|B5 G_hit (.box (cv<|cv<|cv<|cv<|cv<|cv<|cv<|cv<|cv<|cv<|.cons (.of (U8<|V0 hv6).symm) cw))<|sg W<|N7 (gq W) trivial)⟩
 refine C8 W ?_
 cases hz2
 obtain rfl:=ez2 _ rfl
 refine ⟨nofun,C7 W<|U7 ?_⟩
 exact ⟨g3,(E1 (Z1 W)<|B5 G_hit (.of W)<|B7 (gq W) trivial)⟩
 rintro _ ⟨g2,q2⟩
 refine E2<|B4 q2<|B8<|sv W<|sv W<|A1<|E4 ?_
 cases hz1
 exact ⟨W,g2,(E1 (Z1 W)<|B5 G_hit (.of W)<|B7 (gq W) trivial)⟩
 refine C8 W ?_
 cases hz1
 obtain rfl:=ez1 _ rfl
 refine ⟨nofun,C7 W<|E4 ?_⟩
 exact CC (.inl W) [(85,g1)] CD (.refl _) ⟨⟨_,_,_,G_hit,(ZK W Fs),(rD<|rD<|rD<|rD<|rD<|rD<|rD<|rD<|rD<|rD<|E7 (T7<|SF (.head _)<|gq W)<|rD<|rD G1),(.cons (.refl _) (.cons (.refl _) (.cons (.refl _) (.cons (.refl _) (.cons (.refl _) (.cons (.refl _) (.cons (.refl _) (.cons (.refl _) (.cons (.refl _) (.cons (.refl _) (.cons T6 (.cons (.refl _) A3)))))))))))),W⟩,trivial⟩
def Yv (s:State)(i:Nat):Nat→Nat→Option (List (Int×Int))
  |0,_=>some []
  |k+1,j=>(Hu s i).bind fun a=>(Hu s j).bind fun b=>(Yv s i k (j+1)).bind fun l=>some (cond (a&&b) (((i:Int),(j:Int))::l) l)
def CJ (s:State)(n:Nat):Nat→Nat→Option (List (Int×Int))
  |0,_=>some []
  |k+1,i=>(Yv s i (n - (i+1)) (i+1)).bind fun a=>(CJ s n k (i+1)).bind fun b=>some (a++b)
def FT (s:State):Option (List (Int×Int)):=if s.Agents.length≤1000000 then CJ s s.Agents.length s.Agents.length 0 else none
abbrev KE (a:Int×Int):List D:= [i64 a.1,i64 a.2]
def Vt (kb ks:F7)(s:State)(h:E5):Prop:=h kb=some (.box 133 [.ptr ks 0])∧∃c0 c1 c2 c3 c4 c8 c9 c10 c11 c12,h ks=some (.box 135 [c0,c1,c2,c3,c4, .d (i64 s.Tick), .d (.list (List.map D0 s.Agents)), .d (.list (List.map J7 s.In)),c8,c9,c10,c11,c12])
theorem KF {s:State}{L:List (Int×Int)}(h:FT s=some L)(kb ks:F7):mP prog (.fn (.func 174) [] [.ptr kb 0]) (Vt kb ks s) (L.map KE):=by
  unfold FT at h
  split at h
  case isFalse=>cases h
  rename_i hlen
  refine ⟨174,[],[.ptr kb 0],W,?_⟩
  intro k h0 Inv Stop hi0 hcan hy
  refine JP (fk func174 ntmps174 (fun r=>if r==6 then [18]else []) (by with_unfolding_all rfl)) (by simp) (jF ?_)
  obtain ⟨g0,S0,i0,c0⟩:=hcan 0 h0 hi0
  have hLm:(L.map KE).length=L.length:=lS ..
  rw [hLm]
  refine B4 (s0:=⟨T [(0, .yld k),(1, .ptr kb 0)],g0⟩) ⟨fun i=> ?_,S0.h⟩ ?_
  ·match i with
   |0=>exact .refl _
   |1=>exact .refl _
   |n+2=>exact .any _
  have c0':=c0
  obtain ⟨e1,a0,a1,a2,a3,a4,a8,a9,a10,a11,a12,e2⟩:=c0'
  refine A5 ?_
  refine Tw fun u hu=> ?_
  refine G5 (.ptr ks 0) W (P6 W e1 W) ?_
  refine G5 (.ptr ks 0) W W ?_
  refine G5 (.ptr ks 5) W W ?_
  refine G5 (.ptr ks 6) W W ?_
  refine G5 (.d (.list (List.map D0 s.Agents))) W (P6 W e2 W) ?_
  refine G5 (.d (i64 s.Agents.length)) W (D8 (f:=D0) W) ?_
  refine G5 (.d (i64 0)) W W ?_
  refine Ax ?_
  refine A7 ?_
  refine XX (α:=Nat×Nat×E5) (fun x=>⟨T [(0, .yld k),(1, .ptr kb 0),(10, .d (i64 s.Agents.length)),(11, .d (i64 (x.1:Int)))],x.2.2⟩) (fun x=>s.Agents.length - x.1)
    (fun x=>Inv x.2.1 x.2.2∧Vt kb ks s x.2.2∧x.1≤s.Agents.length∧x.2.1≤L.length∧CJ s s.Agents.length (s.Agents.length - x.1) x.1=some (L.drop x.2.1)) (0,0,g0) ⟨i0,c0,wI _,wI _,h⟩ (Yd ⟨rfl,rfl,rfl,rfl,trivial⟩ fun _ _ h=>h) ?_
  rintro ⟨i,pos,hh⟩ ⟨hinv,hrq,hi,hpos,hgo⟩
  dsimp only at hinv hrq hi hpos hgo ⊢
  refine A5 ?_
  refine Tw fun u hu=> ?_
  refine G5 (.d (bo<|decide ((i:Int)< (s.Agents.length:Int)))) W W ?_
  refine Ax ?_
  refine A5 ?_
  refine VK (decide ((i:Int)< (s.Agents.length:Int))) W (fun hlt=> ?_) (fun hlt=> ?_)
  ·refine A8 ?_
   have hlt:i<s.Agents.length:=by simpa using hlt
   have hw1: ∀n:Nat,n≤1000000→IntKind.i64.wrap ((n:Int)+1)=((n+1:Nat):Int):=fun n _=>(Go.IntWalk.i64_in _ (by omega)).trans (by omega)
   obtain ⟨m,hm⟩: ∃m,s.Agents.length - i=m+1:=⟨s.Agents.length - i - 1,by omega⟩
   rw [hm,CJ]at hgo
   obtain ⟨l1,hl1,hgo⟩:=bind_some hgo
   obtain ⟨l2,hl2,hgo⟩:=bind_some hgo
   have hgo:l1++l2=L.drop pos:=lD hgo
   refine A5 ?_
   refine A7 ?_
   refine A5 ?_
   refine Tw fun u hu=> ?_
   refine G5 (.d (i64 i)) W W ?_
   refine G5 (.d (i64 i)) W W ?_
   refine Ax ?_
   refine A5 ?_
   refine Tw fun u hu=> ?_
   refine G5 (.d (i64 i)) W W ?_
   refine G5 (.d (i64 ((i+1:Nat):Int))) W (by rw [← hw1 i (by omega)];rfl) ?_
   refine G5 (.d (i64 ((i+1:Nat):Int))) W W ?_
   refine Ax ?_
   refine A7 ?_
   refine XX (α:=Nat×Nat×E5) (fun x=>⟨T [(0, .yld k),(1, .ptr kb 0),(3, .d (i64 (i:Int))),(4, .d (i64 (x.1:Int))),(10, .d (i64 s.Agents.length)),(11, .d (i64 (i:Int)))],x.2.2⟩) (fun x=>s.Agents.length - x.1)
     (fun x=>Inv x.2.1 x.2.2∧Vt kb ks s x.2.2∧x.1≤s.Agents.length∧x.2.1≤L.length∧∃l,Yv s i (s.Agents.length - x.1) x.1=some l∧l++l2=L.drop x.2.1) (i+1,pos,hh) ⟨hinv,hrq,hlt,hpos,l1,hl1,hgo⟩ (Yd ⟨rfl,rfl,rfl,rfl,rfl,rfl,trivial⟩ fun _ _ h=>h) ?_
   rintro ⟨j,pos,hh⟩ ⟨hinv,hrq,hj,hpos,l,hl,hgo⟩
   dsimp only at hinv hrq hj hpos hl hgo ⊢
   have hrq':=hrq
   obtain ⟨e1,a0,a1,a2,a3,a4,a8,a9,a10,a11,a12,e2⟩:=hrq'
   refine A5 ?_
   refine A5 ?_
   refine Tw fun u hu=> ?_
   refine G5 (.d (i64 j)) W W ?_
   refine G5 (.ptr ks 0) W (P6 W e1 W) ?_
   refine G5 (.ptr ks 0) W W ?_
   refine G5 (.ptr ks 5) W W ?_
   refine G5 (.ptr ks 6) W W ?_
   refine G5 (.d (.list (List.map D0 s.Agents))) W (P6 W e2 W) ?_
   refine G5 (.d (i64 s.Agents.length)) W (D8 (f:=D0) W) ?_
   refine G5 (.d (bo<|decide ((j:Int)< (s.Agents.length:Int)))) W W ?_
   refine Ax ?_
   refine VK (decide ((j:Int)< (s.Agents.length:Int))) W (fun hjl=> ?_) (fun hjl=> ?_)
   ·refine A8 ?_
    have hjl:j<s.Agents.length:=by simpa using hjl
    obtain ⟨m',hm'⟩: ∃m',s.Agents.length - j=m'+1:=⟨s.Agents.length - j - 1,by omega⟩
    rw [hm',Yv]at hl
    obtain ⟨a,ha,hl⟩:=bind_some hl
    obtain ⟨b,hb,hl⟩:=bind_some hl
    obtain ⟨l',hl',hl⟩:=bind_some hl
    have hl:cond (a&&b) (((i:Int),(j:Int))::l') l'=l:=lD hl
    have hm1:s.Agents.length - (j+1)=m':=by omega
    -- what a round leaves
    have hend: ∀(p':Nat) (h':E5),Inv p' h'→Vt kb ks s h'→p'≤L.length→l'++l2=L.drop p'→∃y:Nat×Nat×E5,(Inv y.2.1 y.2.2∧Vt kb ks s y.2.2∧y.1≤s.Agents.length∧y.2.1≤L.length∧∃l,Yv s i (s.Agents.length - y.1) y.1=some l∧l++l2=L.drop y.2.1)∧s.Agents.length - y.1<s.Agents.length - j∧y=(j+1,p',h'):=fun p' h' q1 q2 q3 q4=>⟨(j+1,p',h'),⟨q1,q2,hjl,q3,l',by dsimp only;rw [hm1];exact hl',q4⟩,by dsimp only;omega,rfl⟩
    refine A5 ?_
    refine A7 ?_
    refine A5 ?_
    refine Tw fun u hu=> ?_
    refine G5 (.ptr ks 0) W (P6 W e1 W) ?_
    refine G5 (.ptr ks 0) W W ?_
    refine G5 (.ptr ks 5) W W ?_
    refine G5 (.d (.agg [i64 s.Tick, .list (List.map D0 s.Agents), .list (List.map J7 s.In)])) W (B1 W e2 W W) ?_
    refine G5 (.d (i64 i)) W W ?_
    refine Zp W W (Nr s i _ ha) (.inl W) ?_
    refine G5 (.d (bo a)) W W ?_
    cases a with
    |false=>
     iterate 6 (refine VR rfl rfl ?_)
     refine G5 (.d (bo false)) W W ?_
     refine G5 (.d (bo false)) W W ?_
     iterate 5 (refine VR rfl rfl ?_)
     refine G5 (.d (bo false)) W W ?_
     refine Ax ?_
     refine Th W<|A8<|E2 ?_
     refine Tw fun u hu=> ?_
     refine G5 (.d (i64 j)) W W ?_
     refine G5 (.d (i64 ((j+1:Nat):Int))) W (by rw [← hw1 j (by omega)];rfl) ?_
     refine G5 (.d (i64 ((j+1:Nat):Int))) W W ?_
     refine Ax ?_
     obtain ⟨y,y1,y2,rfl⟩:=hend pos hh hinv hrq hpos (by rw [← hgo,← hl];rfl)
     exact E4 ⟨_,y1,y2,Yd ⟨W,W,W,W,W,W,trivial⟩ fun _ _ h=>h⟩
    |true=>
     refine Wr W ?_
     refine G5 (.ptr ks 0) W (P6 W e1 W) ?_
     refine Wr W ?_
     refine G5 (.ptr ks 0) W W ?_
     refine Wr W ?_
     refine G5 (.ptr ks 5) W W ?_
     refine Wr W ?_
     refine G5 (.d (.agg [i64 s.Tick, .list (List.map D0 s.Agents), .list (List.map J7 s.In)])) W (B1 W e2 W W) ?_
     refine Wr W ?_
     refine G5 (.d (i64 j)) W W ?_
     refine Wr W ?_
     refine Zp W W (Nr s j _ hb) (.inl W) ?_
     refine G5 (.d (bo b)) W W ?_
     refine G5 (.d (bo b)) W W ?_
     cases b with
     |false=>
      iterate 5 (refine VR rfl rfl ?_)
      refine G5 (.d (bo false)) W W ?_
      refine Ax ?_
      refine Th W<|A8<|E2 ?_
      refine Tw fun u hu=> ?_
      refine G5 (.d (i64 j)) W W ?_
      refine G5 (.d (i64 ((j+1:Nat):Int))) W (by rw [← hw1 j (by omega)];rfl) ?_
      refine G5 (.d (i64 ((j+1:Nat):Int))) W W ?_
      refine Ax ?_
      obtain ⟨y,y1,y2,rfl⟩:=hend pos hh hinv hrq hpos (by rw [← hgo,← hl];rfl)
      exact E4 ⟨_,y1,y2,Yd ⟨W,W,W,W,W,W,trivial⟩ fun _ _ h=>h⟩
     |true=>
      have hcons:((i:Int),(j:Int))::(l'++l2)=L.drop pos:=by rw [← hgo,← hl];rfl
      have hLi:(L.map KE)[pos]? =some (KE ((i:Int),(j:Int))):=by
        have:=congrArg (fun z=>z[0]?) hcons
        rw [lK]
        simp at this
        rw [← this];rfl
      have hLd:L.drop (pos+1)=l'++l2:=by
        have:=congrArg (fun z=>z.drop 1) hcons
        simpa using this.symm
      have hplt:pos+1≤L.length:=by
        have:=congrArg List.length hcons
        simp at this
        omega
      refine Wr W ?_
      refine G5 (.yld k) W W ?_
      refine Wr W ?_
      refine G5 (.d (i64 i)) W W ?_
      refine Wr W ?_
      refine G5 (.d (i64 j)) W W ?_
      refine Wr W ?_
      refine ZP k ((KE ((i:Int),(j:Int))).map .d) W W ?_
      refine (hy pos hh _ hLi hinv).mono ?_
      rintro v' h' (⟨rfl,hin⟩|⟨rfl,hst⟩)
      ·obtain ⟨h1,S1,i1,q1⟩:=hcan _ _ hin
       refine ⟨h1,S1,fun u4 hu4=> ?_⟩
       refine Wr W ?_
       refine G5 (.d (bo false)) W W ?_
       refine G5 (.d (bo false)) W W ?_
       refine Ax ?_
       refine Th W<|A8<|E2 ?_
       refine Tw fun u hu=> ?_
       refine G5 (.d (i64 j)) W W ?_
       refine G5 (.d (i64 ((j+1:Nat):Int))) W (by rw [← hw1 j (by omega)];rfl) ?_
       refine G5 (.d (i64 ((j+1:Nat):Int))) W W ?_
       refine Ax ?_
       obtain ⟨y,y1,y2,rfl⟩:=hend (pos+1) h1 i1 q1 hplt hLd.symm
       exact E4 ⟨_,y1,y2,Yd ⟨W,W,W,W,W,W,trivial⟩ fun _ _ h=>h⟩
      ·refine ⟨h',Sb.refl _,fun u4 hu4=> ?_⟩
       refine Wr W ?_
       refine G5 (.d (bo true)) W W ?_
       refine G5 (.d (bo true)) W W ?_
       refine Ax ?_
       refine Zq W ?_
       refine B2<|E6<|E6 ?_
       exact ⟨Or.inr W,AV.tup [],W,Or.inr hst⟩
   ·refine C8 rfl ?_
    have hjn:j=s.Agents.length:=by
      have: ¬((j:Int)< (s.Agents.length:Int)):=by simpa using hjl
      omega
    subst hjn
    rw [Nat.sub_self,Yv]at hl
    cases hl
    refine C7 (r':= [.b 1, .c _]) W (E2 ?_)
    refine Tw fun u hu=> ?_
    refine G5 (.d (i64 ((i+1:Nat):Int))) W (by rw [← hw1 i (by omega)];rfl) ?_
    refine G5 (.d (i64 ((i+1:Nat):Int))) W W ?_
    refine Ax ?_
    refine E4 ⟨(i+1,pos,hh),⟨hinv,hrq,hlt,hpos,?_⟩,by dsimp only;omega,Yd ⟨rfl,rfl,rfl,rfl,trivial⟩ fun _ _ h=>h⟩
    dsimp only
    rw [show s.Agents.length - (i+1)=m by omega,hl2]
    exact congrArg some hgo
  ·refine C8 rfl ?_
   have hin:i=s.Agents.length:=by
     have: ¬((i:Int)< (s.Agents.length:Int)):=by simpa using hlt
     omega
   subst hin
   rw [Nat.sub_self,CJ]at hgo
   have h1:L.drop pos= []:=(lD hgo).symm
   have h2:=List.drop_eq_nil_iff.1 h1
   have h3:pos=L.length:=by omega
   subst h3
   refine C7 (r':= []) W (E4 ?_)
   exact ⟨.inl W,AV.tup [],W, .inl hinv⟩
def Y3 (p1:WorldSpan)(p2:Int):Option WorldSpan:=
  some (WorldSpan.mk (D6 (p1.from_ - p2)) (D6 (p1.to - p2)))
theorem Ij(p1 p2 r)(h:Y3 p1 p2=some r):PCall prog 141 [(.agg [(i64 p1.from_),(i64 p1.to)]),(i64 p2)] (.agg [(i64 r.from_),(i64 r.to)]):=by
 refine C4 (fk func141 ntmps141 m0 (by with_unfolding_all rfl)) (nl W) ?_
 unfold Y3 at h
 refine B4 (s0:=⟨T [(0,(.d _)),(1,(.d _))],G []⟩) (F3 W W) ?_
 refine B0<|sm W<|sn W W<|A1<|B0<|sq W<|sl W (gq W) W (sv W<|sv W<|sq W<|sl W (gq W) W (sv W<|sv W<|sv W<|U1 W G_hit [(di<|D6 (p1.from_ - p2)),(di<|D6 (p1.to - p2))] W (A1<|B2 ?_)))
 cases h
 exact A6 (.inr W) (B6 (K1 W G_hit (nl W) W) C2) (.refl _)
def Bp [Lp](p1:Map)(p2:Int):Option Int:=
  (Ls p1 p2).bind fun v1=>cond (!v1) (some 0) ((Cq p1 p2).bind fun v2=>some v2)
theorem Qh(p1 p2 r)(h:Bp p1 p2=some r):PCall prog 143 [(.agg (Q0 p1)),(i64 p2)] (i64 r):=by
 refine C4 (fk func143 ntmps143 m0 (by with_unfolding_all rfl)) (nl W) ?_
 unfold Bp at h
 refine B4 (s0:=⟨T [(0,(.d _)),(1,(.d _))],G []⟩) (F3 W W) ?_
 refine B0<|sm W<|sv W<|A1<|A5<|B0<|sd W (B1 W G_hit W W)<|sv W<|bs h fun v1 hv1 h=>A9 W W A3 (Yt _ _ _ hv1) (.inl W) (B9 (.d (bo (!v1))) W W (A1<|cc W h (fun c1 h=> ?_)<|fun c1 h=> ?_))
 refine B0<|sv W<|A1<|B2 ?_
 cases h
 exact A6 (.inr W) (B6 (B3 W) C2) (.refl _)
 refine A8<|B0<|sd W (B1 W G_hit W W)<|sv W<|bs h fun _ hv2 h=>A9 W W A3 (Pi _ _ _ hv2) (.inl W) (sv W<|A1<|B2 ?_)
 cases h
 exact A6 (.inr W) (B6 (B3 W) C2) (.refl _)
def Gy (p1:WorldSpan)(p2:WorldSpan):Option WorldSpan:=
  some (WorldSpan.mk (Mg true p1.from_ p2.from_) (Mg false p1.to p2.to))
theorem Tl(p1 p2 r)(h:Gy p1 p2=some r):PCall prog 142 [(.agg [(i64 p1.from_),(i64 p1.to)]),(.agg [(i64 p2.from_),(i64 p2.to)])] (.agg [(i64 r.from_),(i64 r.to)]):=by
 refine C4 (fk func142 ntmps142 m0 (by with_unfolding_all rfl)) (nl W) ?_
 unfold Gy at h
 refine B4 (s0:=⟨T [(0,(.d _)),(1,(.d _))],G []⟩) (F3 W W) ?_
 refine B0<|sm W<|sn W W<|sm W<|A1<|B0<|sq W<|sl W (gq W) W (sq W<|sl W (gq W) W (sv W<|sq W<|sl W (gq W) W (sq W<|sl W (gq W) W (sv W<|sv W<|U1 W G_hit [(di<|Mg true p1.from_ p2.from_),(di<|Mg false p1.to p2.to)] W (A1<|B2 ?_)))))
 cases h
 exact A6 (.inr W) (B6 (K1 W G_hit (nl W) W) C2) (.refl _)
def Dp (p1:WorldSpan):Option Bool:=
  some (decide (p1.from_>p1.to))
theorem Qr(p1 r)(h:Dp p1=some r):PCall prog 144 [(.agg [(i64 p1.from_),(i64 p1.to)])] (bo r):=by
 refine C4 (fk func144 ntmps144 m0 (by with_unfolding_all rfl)) (nl W) ?_
 unfold Dp at h
 refine B4 (s0:=⟨T [(0,(.d _))],G []⟩) (F3 W W) ?_
 refine B0<|sm W<|sv W<|A1<|B0<|sq W<|sl W G_hit W<|sq W<|sl W G_hit W<|sv W<|sv W<|A1<|B2 ?_
 cases h
 exact A6 (.inr W) (B6 (B3 W) C2) (.refl _)
def Bq [Lp](p1:Map)(p2:Agent)(v2:(List Int))(x1:((List Span)×Int)):Option (Stp ((List Span)×Int) (List Span)):=
  cond (decide (x1.2< (v2.length:Int))) ((C0 v2 x1.2).bind fun v3=>(C0 p2.Route x1.2).bind fun v4=>(Z9 p2).bind fun v5=>(Y3 v5 v3).bind fun v6=>(Bp p1 v4).bind fun v7=>(Gy v6 (WorldSpan.mk 0 v7)).bind fun v8=>(Dp v8).bind fun v9=>cond (!v9) ((X3 x1.1 [(Span.mk v4 v8.from_ v8.to)]).bind fun v10=>some (.go (v10,(D6 (x1.2+1))))) (some (.go (x1.1,(D6 (x1.2+1)))))) (some (.out x1.1))
def Ik [Lp](p1:Map)(p2:Agent):Option (List Span):=
  (Mj p2).bind fun v1=>cond (!v1) (some []) ((Bn p1 p2.Route).bind fun v2=>(loop (Bq p1 p2 v2) ([],0)).bind fun y1=>some y1)
theorem BC(p1 p2 r)(h:Ik p1 p2=some r):PCall prog 67 [(.agg (Q0 p1)),(.agg (D0 p2))] (.list (List.map Cu r)):=by
 refine C4 (fk func67 ntmps67 (fun r=>if r==10 then [1007]else []) (by with_unfolding_all rfl)) (nl W) ?_
 unfold Ik at h
 refine B4 (s0:=⟨T [(0,(.d _)),(1,(.d _))],G []⟩) (F3 W W) ?_
 refine lr<|fun u1 _=>sm W<|sm W<|sv W<|A1<|A5<|B0<|sd W (B1 W G_hit W W)<|bs h fun v1 hv1 h=>A9 W W A3 (Tz _ _ hv1) (.inl W) (B9 (.d (bo (!v1))) W W (A1<|cc W h (fun c1 h=> ?_)<|fun c1 h=> ?_))
 refine B0<|sv W<|A1<|B2 ?_
 cases h
 exact A6 (.inr W) (B6 (B3 W) C2) DLe.nil
 refine A8<|B0<|sv W<|A1<|A5<|B0<|sd W (B1 W (gq W) W W)<|sq W<|sl W G_hit W<|bs h fun v2 hv2 h=>A9 W W A3 (Qg _ _ _ hv2) (.inl W) (sd W (D8 W)<|sv W<|A1<|bs h fun y1 hy1 h=>D9 (fun s=> ∃g1:Nat,Sb ⟨T [(5,(oS y1 (48,g1)))],G [((48,g1),oB 93 3 Cu y1)]⟩ s) ?_ ?_)
 refine A7<|E3 (Bq p1 p2 v2) (fun (x1:((List Span)×Int)) (g2:Nat)=>⟨T [(2,(.ptr (2,u1) 0)),(3,(.ptr (3,u1) 0)),(5,(oS x1.1 (48,g2))),(16,(dl A4 v2)),(17,(di (v2.length:Int))),(18,(di x1.2))],G [((2,u1),some<|.box 33 (L8 p1)),((3,u1),some<|.box 45 (R7 p2)),((48,g2),oB 93 3 Cu x1.1)]⟩) ([],0) 0 _ hy1 (E1 (Z1 W)<|sg W<|B5 G_hit (.of W)<|S4 trivial) ?_
 intro x1 g2 z1 hz1 ez1
 unfold Bq at hz1
 refine B0<|sv W<|A1<|A5<|cc W hz1 (fun c2 hz1=> ?_)<|fun c2 hz1=> ?_
 refine A8<|A5<|A7<|B0<|sv W<|bs hz1 fun _ hv3 hz1=>sd W (C5 W W hv3 W)<|sd W (C9 W hv3 W)<|sv W<|sv W<|A1<|B0<|sq W<|sl W (gq W) W (sv W<|bs hz1 fun v4 hv4 hz1=>sd W (C5 W W hv4 W)<|sd W (C9 W hv4 W)<|sv W<|A1<|A5<|E8 W<|sd W (B1 W (gq W) W W)<|bs hz1 fun _ hv5 hz1=>A9 W W A3 (Ji _ _ hv5) (.inl W) (sv W<|bs hz1 fun _ hv6 hz1=>A9 W W A3 (Ij _ _ _ hv6) (.inl W) (sd W (B1 W G_hit W W)<|sv W<|bs hz1 fun _ hv7 hz1=>A9 W W A3 (Qh _ _ _ hv7) (.inl W) (sv W<|bs hz1 fun v8 hv8 hz1=>A9 W W A3 (Tl _ _ _ hv8) (.inl W) (sm W<|U1 W G_hit [(di v8.from_),(di v8.to)] W (A1<|B0<|sd W (B1 W G_hit W W)<|bs hz1 fun v9 hv9 hz1=>A9 W W A3 (Qr _ _ hv9) (.inl W) (B9 (.d (bo (!v9))) W W (A1<|cc W hz1 (fun c3 hz1=> ?_)<|fun c3 hz1=> ?_))))))))
 refine Bj fun u11 _=>B9 (oS x1.1 (48,g2)) W W (sv W<|sq W<|sl W G_hit W<|sq W<|sl W G_hit W<|sv W<|B9 (dl Cu [(Span.mk v4 v8.from_ v8.to)]) W W (bs hz1 fun _ hv10 hz1=>P9 Cu (48,g2) x1.1 (Span.mk v4 v8.from_ v8.to) [] _ (L7<|fun _=>W) W (gq W) hv10 (ss W<|A1<|E2<|B8<|sv W<|sv W<|A1<|E4 ?_)))
 cases hz1
 exact ⟨W,u11,(E1 ⟨.of W, .of W,(.of (U8<|V0 hv10).symm), .of W, .of W, .of W,trivial⟩<|sg W<|sg W<|N7 G_hit trivial)⟩
 refine A8<|E2<|B8<|sv W<|sv W<|A1<|E4 ?_
 cases hz1
 exact ⟨W,g2,(E1 (Z1 W)<|sg W<|sg W<|B7 (gq W) trivial)⟩
 refine C8 W ?_
 cases hz1
 obtain rfl:=ez1 _ rfl
 refine ⟨nofun,C7 W<|U7 ?_⟩
 exact ⟨g2,(E1 ⟨.of W,trivial⟩<|B7 (gq W) trivial)⟩
 rintro _ ⟨g1,q1⟩
 refine B4 q1<|B0<|B9 (oS y1 (48,g1)) W W (B9 (oS y1 (48,g1)) W W (A1<|B2 ?_))
 cases h
 exact A6 (.inr W) (B6 (B3 W)<|T7 G_hit) T6
def Fh (p1:Span)(p2:Span):Option Bool:=
  ((cond (p2.Lane_==p1.Lane_) (Gy (WorldSpan.mk p2.From p2.To) (WorldSpan.mk p1.From p1.To)) (some default))).bind fun v1=>((cond (p2.Lane_==p1.Lane_) (Dp v1) (some default))).bind fun v2=>some ((p2.Lane_==p1.Lane_)&& (!v2))
theorem Uq(p1 p2 r)(h:Fh p1 p2=some r):PCall prog 147 [(.agg (Cu p1)),(.bp (Cu p2) 0)] (bo r):=by
 refine C4 (fk func147 ntmps147 m0 (by with_unfolding_all rfl)) (nl W) ?_
 unfold Fh at h
 refine B4 (s0:=⟨T [(0,(.d _)),(1,(.d _))],G []⟩) (F3 W W) ?_
 refine B0<|sm W<|sv W<|A1<|B0<|sv W<|sv W<|sq W<|sl W G_hit W<|sv W<|sv W<|gt W (fun _=>W) ?_
 refine gt W (fun w2=>(by simp only [A2 w2];rfl)) ?_
 refine gt W (fun _=>W) ?_
 refine gt W (fun w4=>(by simp only [A2 w4];rfl)) ?_
 refine gt W (fun w5=>(by simp only [A2 w5];rfl)) ?_
 refine gp W (M6 W) (fun _=>W) (gt W (vl W G_hit W)<|gp W (M6 W) (fun _=>W) (gt W (vl W G_hit W) ?_))
 refine gt W (fun w10=>(by simp only [A2 w10];rfl)) ?_
 refine bs h fun v1 hv1 h=> ?_
 refine O3 _ (.agg [(i64 v1.from_),(i64 v1.to)]) (M6 W) (fun w11=>⟨_,[(.d (.agg [(i64 p2.From),(i64 p2.To)])),(.d (.agg [(i64 p1.From),(i64 p1.To)]))],_,_,(by simp only [A2 w11];rfl),W,A3,Tl _ _ _<|C1 w11 hv1,(.inl W)⟩) ?_
 refine bs h fun v2 hv2 h=> ?_
 refine O3 _ (bo v2) (M6 W) (fun w12=>⟨_,[(.d (.agg [(i64 v1.from_),(i64 v1.to)]))],_,_,(by simp only [A2 w12];rfl),W,A3,Qr _ _<|C1 w12 hv2,(.inl W)⟩) ?_
 refine M8 _ (.d (bo (!v2))) W (M6 W) (fun w13=>(by simp only [A2 w13];rfl)) ?_
 refine sa W W W<|sv W<|A1<|B2 ?_
 cases h
 exact A6 (.inr W) (B6 (B3 W) C2) (.refl _)
def K8 (p1:(List Span))(p2:Span)(x1:Int):Option (Stp Int (Sum Unit Int)):=
  cond (decide (x1< (p1.length:Int))) ((C0 p1 x1).bind fun v1=>(Fh v1 p2).bind fun v2=>cond v2 (some (.out (.inr x1))) (some (.go (D6 (x1+1))))) (some (.out (.inl ())))
def I3 [Lp](p1:(List Span))(p2:Span):Option Int:=
  thenS (loop (K8 p1 p2) 0) (fun _=>some (-1)) (fun r=>some r)
theorem Ej(p1 p2 r)(h:I3 p1 p2=some r):PCall prog 208 [(.list (List.map Cu p1)),(.fn (.func 147) [] [(.bp (Cu p2) 0)])] (i64 r):=by
 refine C4 (fk func208 ntmps208 m0 (by with_unfolding_all rfl)) (nl W) ?_
 unfold I3 at h
 refine B4 (s0:=⟨T [(0,(.d _)),(1,(.d _))],G []⟩) (F3 W W) ?_
 refine B0<|sv W<|A1<|A5<|B0<|sv W<|sd W (D8 W)<|sv W<|A1<|js h fun z1 hz1 h=>D9 (fun s=> ∃(y1:Unit) (g1:Unit),z1= .inl y1∧Sb ⟨T [],G []⟩ s) ?_ ?_
 refine A7<|E3 (K8 p1 p2) (fun (x1:Int) (g2:Unit)=>⟨T [(0,(dl Cu p1)),(1,(.d (.fn (.func 147) [] [(.bp (Cu p2) 0)]))),(7,(di (p1.length:Int))),(8,(di x1))],G []⟩) 0 () _ hz1 (F3 W W) ?_
 intro x1 g2 z2 hz2 ez2
 unfold K8 at hz2
 refine B0<|sv W<|A1<|A5<|cc W hz2 (fun c1 hz2=> ?_)<|fun c1 hz2=> ?_
 refine A8<|A5<|A7<|B0<|sv W<|sv W<|A1<|B0<|sv W<|sv W<|sv W<|bs hz2 fun _ hv1 hz2=>sd W (C5 W W hv1 W)<|sd W (D3 W hv1 W W)<|bs hz2 fun _ hv2 hz2=>A9 W W A3 (Uq _ _ _ hv2) (.inl W) (A1<|cc W hz2 (fun c2 hz2=> ?_)<|fun c2 hz2=> ?_)
 refine B0<|sv W<|sv W<|A1<|B2 ?_
 cases hz2
 obtain rfl:=ez2 _ rfl
 refine ⟨nofun,E6 ?_⟩
 rw [wE]at h
 cases h
 exact A6 (.inr W) (B6 (B3 W) C2) (.refl _)
 refine A8<|E2<|B8<|sv W<|sv W<|A1<|E4 ?_
 cases hz2
 exact ⟨W,(),(F3 W W)⟩
 refine C8 W ?_
 cases hz2
 obtain rfl:=ez2 _ rfl
 refine ⟨nofun,C7 W<|U7 ?_⟩
 exact ⟨_,(),W,(F3 W W)⟩
 rintro _ ⟨y1,g1,rfl,q1⟩
 rw [wD]at h
 refine B4 q1<|B0<|sv W<|A1<|B2 ?_
 cases h
 exact A6 (.inr W) (B6 (B3 W) C2) (.refl _)
def F6 [Lp](p1:(List Span))(p2:Span):Option Bool:=
  (I3 p1 p2).bind fun v1=>some (decide (v1≥0))
theorem Da(p1 p2 r)(h:F6 p1 p2=some r):PCall prog 145 [(.list (List.map Cu p1)),(.fn (.func 147) [] [(.bp (Cu p2) 0)])] (bo r):=by
 refine C4 (fk func145 ntmps145 m0 (by with_unfolding_all rfl)) (nl W) ?_
 unfold F6 at h
 refine B4 (s0:=⟨T [(0,(.d _)),(1,(.d _))],G []⟩) (F3 W W) ?_
 refine B0<|sv W<|A1<|B0<|sv W<|sv W<|bs h fun _ hv1 h=>A9 W W A3 (Ej _ _ _ hv1) (.inl W) (sv W<|sv W<|A1<|B2 ?_)
 cases h
 exact A6 (.inr W) (B6 (B3 W) C2) (.refl _)
def Y5 [Lp](p1:Span)(p2:(List Span)):Option Bool:=
  (F6 p2 p1).bind fun v1=>some v1
theorem Xi(p1 p2 r)(h:Y5 p1 p2=some r):PCall prog 146 [(.agg (Cu p1)),(.bp [(.list (List.map Cu p2))] 0)] (bo r):=by
 refine C4 (fk func146 ntmps146 m0 (by with_unfolding_all rfl)) (nl W) ?_
 unfold Y5 at h
 refine B4 (s0:=⟨T [(0,(.d _)),(1,(.d _))],G []⟩) (F3 W W) ?_
 refine B0<|sm W<|sv W<|A1<|B0<|sv W<|B9 (.fn _ _ _) W W (bs h fun _ hv1 h=>A9 W (rD<|E7 (AP G1<|E7 (Ay G_hit<|rD<|rD<|rD G1) G1) G1) A3 (Da _ _ _ hv1) (.inr W) (sv W<|A1<|B2 ?_))
 cases h
 exact A6 (.inr W) (B6 (B3 W) C2) (.refl _)
def G3 [Lp](p1:(List Span))(p2:(List Span))(x1:Int):Option (Stp Int (Sum Unit Int)):=
  cond (decide (x1< (p1.length:Int))) ((C0 p1 x1).bind fun v1=>(Y5 v1 p2).bind fun v2=>cond v2 (some (.out (.inr x1))) (some (.go (D6 (x1+1))))) (some (.out (.inl ())))
def J1 [Lp](p1:(List Span))(p2:(List Span)):Option Int:=
  thenS (loop (G3 p1 p2) 0) (fun _=>some (-1)) (fun r=>some r)
theorem Fi(p1 p2 r)(h:J1 p1 p2=some r):PCall prog 208 [(.list (List.map Cu p1)),(.fn (.func 146) [] [(.bp [(.list (List.map Cu p2))] 0)])] (i64 r):=by
 refine C4 (fk func208 ntmps208 m0 (by with_unfolding_all rfl)) (nl W) ?_
 unfold J1 at h
 refine B4 (s0:=⟨T [(0,(.d _)),(1,(.d _))],G []⟩) (F3 W W) ?_
 refine B0<|sv W<|A1<|A5<|B0<|sv W<|sd W (D8 W)<|sv W<|A1<|js h fun z1 hz1 h=>D9 (fun s=> ∃(y1:Unit) (g1:Unit),z1= .inl y1∧Sb ⟨T [],G []⟩ s) ?_ ?_
 refine A7<|E3 (G3 p1 p2) (fun (x1:Int) (g2:Unit)=>⟨T [(0,(dl Cu p1)),(1,(.d (.fn (.func 146) [] [(.bp [(.list (List.map Cu p2))] 0)]))),(7,(di (p1.length:Int))),(8,(di x1))],G []⟩) 0 () _ hz1 (F3 W W) ?_
 intro x1 g2 z2 hz2 ez2
 unfold G3 at hz2
 refine B0<|sv W<|A1<|A5<|cc W hz2 (fun c1 hz2=> ?_)<|fun c1 hz2=> ?_
 refine A8<|A5<|A7<|B0<|sv W<|sv W<|A1<|B0<|sv W<|sv W<|sv W<|bs hz2 fun _ hv1 hz2=>sd W (C5 W W hv1 W)<|sd W (D3 W hv1 W W)<|bs hz2 fun _ hv2 hz2=>A9 W W A3 (Xi _ _ _ hv2) (.inl W) (A1<|cc W hz2 (fun c2 hz2=> ?_)<|fun c2 hz2=> ?_)
 refine B0<|sv W<|sv W<|A1<|B2 ?_
 cases hz2
 obtain rfl:=ez2 _ rfl
 refine ⟨nofun,E6 ?_⟩
 rw [wE]at h
 cases h
 exact A6 (.inr W) (B6 (B3 W) C2) (.refl _)
 refine A8<|E2<|B8<|sv W<|sv W<|A1<|E4 ?_
 cases hz2
 exact ⟨W,(),(F3 W W)⟩
 refine C8 W ?_
 cases hz2
 obtain rfl:=ez2 _ rfl
 refine ⟨nofun,C7 W<|U7 ?_⟩
 exact ⟨_,(),W,(F3 W W)⟩
 rintro _ ⟨y1,g1,rfl,q1⟩
 rw [wD]at h
 refine B4 q1<|B0<|sv W<|A1<|B2 ?_
 cases h
 exact A6 (.inr W) (B6 (B3 W) C2) (.refl _)
def G4 [Lp](p1:(List Span))(p2:(List Span)):Option Bool:=
  (J1 p1 p2).bind fun v1=>some (decide (v1≥0))
theorem Dx(p1 p2 r)(h:G4 p1 p2=some r):PCall prog 145 [(.list (List.map Cu p1)),(.fn (.func 146) [] [(.bp [(.list (List.map Cu p2))] 0)])] (bo r):=by
 refine C4 (fk func145 ntmps145 m0 (by with_unfolding_all rfl)) (nl W) ?_
 unfold G4 at h
 refine B4 (s0:=⟨T [(0,(.d _)),(1,(.d _))],G []⟩) (F3 W W) ?_
 refine B0<|sv W<|A1<|B0<|sv W<|sv W<|bs h fun _ hv1 h=>A9 W W A3 (Fi _ _ _ hv1) (.inl W) (sv W<|sv W<|A1<|B2 ?_)
 cases h
 exact A6 (.inr W) (B6 (B3 W) C2) (.refl _)
def Ca [Lp](p1:Map)(p2:Agent)(p3:Agent):Option Bool:=
  (Ik p1 p3).bind fun v1=>(Ik p1 p2).bind fun v2=>(G4 v2 v1).bind fun v3=>some v3
theorem EJ(p1 p2 p3 r)(h:Ca p1 p2 p3=some r):PCall prog 68 [(.agg (Q0 p1)),(.agg (D0 p2)),(.agg (D0 p3))] (bo r):=by
 refine C4 (fk func68 ntmps68 m0 (by with_unfolding_all rfl)) (nl W) ?_
 unfold Ca at h
 refine B4 (s0:=⟨T [(0,(.d _)),(1,(.d _)),(2,(.d _))],G []⟩) (F3 W W) ?_
 refine B0<|sm W<|sn W W<|sm W<|sv W<|A1<|B0<|sd W (B1 W (gq W) W W)<|sd W (B1 W G_hit W W)<|bs h fun v1 hv1 h=>A9 W W A3 (BC _ _ _ hv1) (.inl W) (sm W<|U1 W G_hit [(dl Cu v1)] W (A1<|B0<|sd W (B1 W (gq W) W W)<|sd W (B1 W (gq W) W W)<|bs h fun _ hv2 h=>A9 W W A3 (BC _ _ _ hv2) (.inl W) (B9 (.fn _ _ _) W W (bs h fun _ hv3 h=>A9 W (rD<|E7 (AP G1<|E7 (Ay G_hit<|rD G1) G1) G1) A3 (Dx _ _ _ hv3) (.inr W) (sv W<|A1<|B2 ?_)))))
 cases h
 exact A6 (.inr W) (B6 (B3 W) C2) (.refl _)
def S6 [Lp](p1:WorldScene)(p2:Int)(p3:Int)(p4:Int):Option Bool:=
  (N6 p1 p2 p4).bind fun v1=>((cond v1 (N6 p1 p3 p4) (some default))).bind fun v2=>((cond (v1&&v2) (C0 p1.before.Agents p2) (some default))).bind fun v3=>((cond (v1&&v2) (Dj p1.m v3.Route p4) (some default))).bind fun v4=>((cond (v1&&v2) (C0 p1.before.Agents p3) (some default))).bind fun v5=>((cond (v1&&v2) (Dj p1.m v5.Route p4) (some default))).bind fun v6=>some ((v1&&v2)&& (v4 !=v6))
theorem Nu(p1 p2 p3 p4 r)(h:S6 p1 p2 p3 p4=some r):PCall prog 82 [(.bp (Pt p1) 0),(i64 p2),(i64 p3),(i64 p4)] (bo r):=by
 refine C4 (fk func82 ntmps82 m0 (by with_unfolding_all rfl)) (nl W) ?_
 unfold S6 at h
 refine B4 (s0:=⟨T [(0,(.d _)),(1,(.d _)),(2,(.d _)),(3,(.d _))],G []⟩) (F3 W W) ?_
 refine B0<|sv W<|A1<|A5<|E8 W<|sv W<|sv W<|sv W<|bs h fun v1 hv1 h=>A9 W W A3 (Bo _ _ _ _ hv1) (.inl W) (sv W<|gt W (fun _=>W)<|gt W (fun _=>W)<|gt W (fun _=>W)<|bs h fun v2 hv2 h=> ?_)
 refine O3 v1 (bo v2) (M6 W) (fun w4=>⟨_,[(.d (.bp (Pt p1) 0)),(di p3),(di p4)],_,_,(by simp only [A2 w4];rfl),W,A3,Bo _ _ _ _<|C1 w4 hv2,(.inl W)⟩) ?_
 refine sa W W W<|sv W<|gt W (fun _=>W) ?_
 refine gt W (fun w6=>(by simp only [A2 w6];rfl)) ?_
 refine gt W (fun w7=>(by simp only [A2 w7];rfl)) ?_
 refine gt W (fun w8=>(by simp only [A2 w8];rfl)) ?_
 refine gt W (fun _=>W) ?_
 refine gt W (fun w10=>(by simp only [A2 w10];rfl)) ?_
 refine gt W (fun w11=>(by simp only [A2 w11];rfl)) ?_
 refine gt W (fun w12=>(by simp only [A2 w12];rfl)) ?_
 refine gt W (fun w13=>(by simp only [A2 w13];rfl)) ?_
 refine gt W (fun _=>W)<|bs h fun v3 hv3 h=>gt W (fun w15=>(C5 (A2 w15) (A2 w15) (C1 w15 hv3) W)) ?_
 refine gt W (fun w16=>(by simp only [A2 w16];rfl)) ?_
 refine gt W (fun w17=>(C9 (A2 w17) (C1 w17 hv3) W))<|gt W (fun _=>W)<|bs h fun v4 hv4 h=> ?_
 refine O3 _ (i64 v4) (M6 W) (fun w19=>⟨_,[(.d (.agg (Q0 p1.m))),(dl A4 v3.Route),(di p4)],_,_,(by simp only [A2 w19];rfl),W,A3,Sc _ _ _ _<|C1 w19 hv4,(.inl W)⟩) ?_
 refine gt W (fun _=>W) ?_
 refine gt W (fun w21=>(by simp only [A2 w21];rfl)) ?_
 refine gt W (fun w22=>(by simp only [A2 w22];rfl)) ?_
 refine gt W (fun w23=>(by simp only [A2 w23];rfl)) ?_
 refine gt W (fun _=>W) ?_
 refine gt W (fun w25=>(by simp only [A2 w25];rfl)) ?_
 refine gt W (fun w26=>(by simp only [A2 w26];rfl)) ?_
 refine gt W (fun w27=>(by simp only [A2 w27];rfl)) ?_
 refine gt W (fun w28=>(by simp only [A2 w28];rfl)) ?_
 refine gt W (fun _=>W)<|bs h fun v5 hv5 h=>gt W (fun w30=>(C5 (A2 w30) (A2 w30) (C1 w30 hv5) W)) ?_
 refine gt W (fun w31=>(by simp only [A2 w31];rfl)) ?_
 refine gt W (fun w32=>(C9 (A2 w32) (C1 w32 hv5) W))<|gt W (fun _=>W)<|bs h fun v6 hv6 h=> ?_
 refine O3 _ (i64 v6) (M6 W) (fun w34=>⟨_,[(.d (.agg (Q0 p1.m))),(dl A4 v5.Route),(di p4)],_,_,(by simp only [A2 w34];rfl),W,A3,Sc _ _ _ _<|C1 w34 hv6,(.inl W)⟩) ?_
 refine gt W (fun w35=>(M3 (A2 w35) (A2 w35) W))<|sa W W W<|sv W<|A1<|B2 ?_
 cases h
 exact A6 (.inr W) (B6 (B3 W) C2) (.refl _)
def Kt [Lp](p1:Map)(v5:WorldScene)(a1:(Int×Int))(x2:Int):Option (Stp Int (Sum Unit (State×Int))):=
  cond (decide (x2< (p1.Zones.length:Int))) ((S6 v5 a1.1 a1.2 x2).bind fun v10=>cond v10 (some (.out (.inr ((State.mk 0 [] []),12)))) (some (.go (D6 (x2+1))))) (some (.out (.inl ())))
def Ku [Lp](p1:Map)(p2:(List Agent))(v5:WorldScene)(x1:Unit)(a1:(Int×Int)):Option (Stp Unit (Sum Unit (State×Int))):=
  (C0 p2 a1.1).bind fun v7=>(C0 p2 a1.2).bind fun v8=>(Ca p1 v7 v8).bind fun v9=>cond v9 (some (.out (.inr ((State.mk 0 [] []),12)))) (thenS (loop (Kt p1 v5 a1) 0) (fun _=>some (.go ())) (fun r=>some (.out (.inr r))))
def EK:Option Unit:=
  some ()
def Rk [Lp](p1:Map)(p2:(List Agent)):Option (State×Int):=
  (If (State.mk 0 p2 [])).bind fun v1=>(Dh p1 v1).bind fun v2=>cond (v2 !=0) (some ((State.mk 0 [] []),v2)) ((K7 p2).bind fun v3=>cond v3 (some ((State.mk 0 [] []),10)) ((If v1).bind fun v4=>(Am (WorldScene.mk p1 v1 v4 [] [])).bind fun v5=>(EK).bind fun y1=>thenS ((FT v5.before).bind fun v6=>loopL (Ku p1 p2 v5) (fun (x1:Unit)=> .inl ()) v6 ()) (fun _=>some (v5.after,0)) (fun r=>some r)))
theorem PY(p1 p2 r)(h:Rk p1 p2=some r):PCall prog 27 [(.agg (Q0 p1)),(.list (List.map D0 p2))] (.tup [(.agg (Ba r.1)),(i64 r.2)]):=by
 refine C4 (fk func27 ntmps27 (fun r=>if r==8 then [1008001]else if r==9 then [1]else []) (by with_unfolding_all rfl)) (nl W) ?_
 unfold Rk at h
 refine B4 (s0:=⟨T [(0,(.d _)),(1,(.d _))],G []⟩) (F3 W W) ?_
 refine lr<|fun u1 _=>sm W<|sm W<|sn W W<|sm W<|A1<|B0<|sl W (gq W) W (sv W<|bs h fun v1 hv1 h=>A9 W W (.cons (.agg (ca W<|ca W<|.cons ⟨DLe.nil,W⟩ .nil)) .nil) (AU _ _ hv1) (.inl W) (sm W<|U1 W G_hit (K2 v1) W (A1<|A5<|B0<|sd W (B1 W (gq W) W W)<|sd W (B1 W G_hit W W)<|bs h fun v2 hv2 h=>A9 W W A3 (Sa _ _ _ hv2) (.inl W) (sv W<|A1<|B0<|sv W<|sv W<|A1<|cc W h (fun c1 h=> ?_)<|fun c1 h=> ?_))))
 refine B0<|sv W<|sv W<|U1 W (gq W) [(di 0),(.d .nilS),(.d .nilS)] W (U1 W (gq W) [(di v2)] W (A1<|B2 ?_))
 cases h
 exact A6 (.inr W) (Mt (K1 W (gq W) (nl W) W) (Ye W G_hit W) C2 C2) (.tup (.cons (.agg (ca W<|.cons ⟨DLe.nil,W⟩ (.cons ⟨DLe.nil,W⟩ .nil))) A3))
 refine A8<|A5<|B0<|sl W (gq W) W (bs h fun _ hv3 h=>A9 W W A3 (Fw _ _ hv3) (.inl W) (A1<|cc W h (fun c2 h=> ?_)<|fun c2 h=> ?_))
 refine B0<|sv W<|U1 W (gq W) [(di 0),(.d .nilS),(.d .nilS)] W (U1 W (gq W) [(di 10)] W (A1<|B2 ?_))
 cases h
 exact A6 (.inr W) (Mt (K1 W (gq W) (nl W) W) (Ye W G_hit W) C2 C2) (.tup (.cons (.agg (ca W<|.cons ⟨DLe.nil,W⟩ (.cons ⟨DLe.nil,W⟩ .nil))) A3))
 refine A8<|A5<|Mi W fun u8 _=>sd W (B1 W (gq W) W W)<|sd W (B1 W G_hit W W)<|sd W (B1 W G_hit W W)<|bs h fun _ hv4 h=>A9 W W A3 (AU _ _ hv4) (.inl W) (sv W<|sm W<|sn W W<|U1 W G_hit [(.ptr (30,u8) 0)] W (A1<|B0<|sp W (P6 W G_hit W)<|bs h fun v5 hv5 h=>FN (v:= .d (.tup [])) (us:= [(30,u8)]) (MD (Vs _ _ hv5) [(30,u8)] [(30,u8)] _ (((30,u8),some<|.box 135 (W1 v5))::_) W Nm (Y1 (nP (F4 W<|F4 W G_hit) W) Tv) (Kr (F4 W<|F4 W G_hit) Iw) ⟨⟨_,(F4 W<|F4 W G_hit), .box (.cons (.of W) (.cons (.of W) (.cons (.of W) (.cons (.of W) (.cons (.of W) (.cons (.of W) (.cons (.of W) (.cons (.of W) (.cons (.of W) (.cons (.of W) (.cons (.of W) (.cons (DLe.d DLe.nil) (.cons (DLe.d DLe.nil) .nil)))))))))))))⟩,trivial⟩ (fun _ h=>h) nd1 W W W) (A1<|A5<|B0<|sp W (P6 W (gq W) W)<|bs h fun _ hy1 h=>CH (fk func81 ntmps81 m0 (by with_unfolding_all rfl)) (fun (g1:Nat)=> [(2,(.ptr (2,u1) 0)),(3,(.ptr (3,u1) 0)),(4,(.ptr (4,u1) 0)),(5,(.ptr (5,u1) 0)),(8,(.ptr (8,u8) 0)),(34,(.fn (.func 174) [] [(.ptr (1,g1) 0)]))]) (fun (g1:Nat)=> [((2,u1),some<|.box 33 (L8 p1)),((3,u1),some<|.box 22 [(dl D0 p2)]),((4,u1),some<|.box 25 [(di 0),(.d .nilS),(.d .nilS)]),((5,u1),some<|.box 36 [(di 0)]),((8,u8),some<|.box 133 [(.ptr (30,u8) 0)]),((30,u8),some<|.box 135 (W1 v5)),((1,g1),some<|.box 133 [(.ptr (30,u8) 0)])]) W (nl W) ?_ ?_)))
 unfold EK at hy1
 refine B4 (s0:=⟨T [(0,(.ptr _ _))],G [((30,u8),some<|.box 135 _),((2,u1),some<|.box 33 _),((3,u1),some<|.box 22 _),((4,u1),some<|.box 25 _),((5,u1),some<|.box 36 _),((8,u8),some<|.box 133 _)]⟩) (F3 W W) ?_
 refine lr<|fun u11 _=>sm W<|sv W<|A1<|B0<|B9 (.fn _ _ _) W W (B9 (.fn _ _ _) W W (A1<|B2 ?_))
 cases hy1
 exact PU (.inr W) (SC<|B3 W) u11 (Z1 W) (sg W<|sg W<|sg W<|sg W<|sg W<|sg W<|B5 G_hit (.of W) trivial)
 intro g1
 intro u13 hu13
 refine A1<|js h fun z1 hz1 h=>D9 (fun s=> ∃(y2:Unit) (g2:Unit),z1= .inl y2∧Sb ⟨T [(4,(.ptr (4,u1) 0)),(5,(.ptr (5,u1) 0)),(8,(.ptr (8,u8) 0))],G [((4,u1),some<|.box 25 [(di 0),(.d .nilS),(.d .nilS)]),((5,u1),some<|.box 36 [(di 0)]),((8,u8),some<|.box 133 [(.ptr (30,u8) 0)]),((30,u8),some<|.box 135 (W1 v5))]⟩ s) ?_ ?_
 refine A7<|bs hz1 fun v6 hv6 hz1=>B4 (s0:=⟨T [(2,(.ptr _ _)),(3,(.ptr _ _)),(4,(.ptr _ _)),(5,(.ptr _ _)),(8,(.ptr _ _)),(34,(.fn _ _ _))],G [((2,u1),some<|.box 33 _),((3,u1),some<|.box 22 _),((4,u1),some<|.box 25 _),((5,u1),some<|.box 36 _),((8,u8),some<|.box 133 _),((30,u8),some<|.box 135 _),((1,g1),some<|.box 133 _)]⟩) (F3 W W) ?_
 refine SK (.fn (.func 174) [] [(.ptr (1,g1) 0)]) (Vt (1,g1) (30,u8) v5.before) KE v6 (Ku p1 p2 v5) (fun (x1:Unit)=>(.inl ():Sum Unit (State×Int))) (fun (x1:Unit) (g3:Unit)=> [((2,u1),some<|.box 33 (L8 p1)),((3,u1),some<|.box 22 [(dl D0 p2)]),((4,u1),some<|.box 25 [(di 0),(.d .nilS),(.d .nilS)]),((5,u1),some<|.box 36 [(di 0)]),((8,u8),some<|.box 133 [(.ptr (30,u8) 0)]),((1,g1),some<|.box 133 [(.ptr (30,u8) 0)]),((30,u8),some<|.box 135 (W1 v5))]) () () _ W (KF hv6 _ _) (fun x1 g3 _ _=>⟨F4 W<|gq W,_,_,_,_,_,_,_,_,_,_,F4 W<|gq W⟩) (fun _=>W) hz1 (F3 W W) nofun ?_ ?_
 intro u15 hu15 hku15
 refine ⟨fun x1 g3=>(F4 W<|F4 W<|F4 W<|F4 W<|F4 W<|F4 W<|F4 W W),?_⟩
 intro r1 x1 g3 a1 z2 hrr1 hz2 ez2
 unfold Ku at hz2
 show Cw _ _ _ _ _ _ ⟨T [(36,(di a1.2)),(35,(di a1.1)),(2,(.ptr (2,u1) 0)),(3,(.ptr (3,u1) 0)),(4,(.ptr (4,u1) 0)),(5,(.ptr (5,u1) 0)),(8,(.ptr (8,u8) 0)),(34,(.fn (.func 174) [] [(.ptr (1,g1) 0)]))],G [((1000000,u15),some (.obj (T [(2,(.ptr (2,u1) 0)),(3,(.ptr (3,u1) 0)),(4,(.ptr (4,u1) 0)),(5,(.ptr (5,u1) 0)),(8,(.ptr (8,u8) 0)),(34,(.fn (.func 174) [] [(.ptr (1,g1) 0)]))]) r1)),((2,u1),some (.box 33 (L8 p1))),((3,u1),some (.box 22 [(dl D0 p2)])),((4,u1),some (.box 25 [(di 0),(.d .nilS),(.d .nilS)])),((5,u1),some (.box 36 [(di 0)])),((8,u8),some (.box 133 [(.ptr (30,u8) 0)])),((1,g1),some (.box 133 [(.ptr (30,u8) 0)])),((30,u8),some (.box 135 (W1 v5)))]⟩
 refine B0<|sv W<|A1<|B8<|sv W<|A1<|U7<|VN G_hit ?_
 refine A7<|A5<|A5<|E8 W<|sd W (B1 W (gq W) W W)<|sl W (gq W) W (sv W<|bs hz2 fun _ hv7 hz2=>sd W (C5 W W hv7 W)<|sd W (D3 W hv7 W W)<|sl W (gq W) W (sv W<|bs hz2 fun _ hv8 hz2=>sd W (C5 W W hv8 W)<|sd W (D3 W hv8 W W)<|bs hz2 fun _ hv9 hz2=>A9 W W A3 (EJ _ _ _ _ hv9) (.inl W) (A1<|cc W hz2 (fun c3 hz2=> ?_)<|fun c3 hz2=> ?_)))
 refine B0<|sv W<|U1 W (gq W) [(di 0),(.d .nilS),(.d .nilS)] W (U1 W (gq W) [(di 12)] W (A1<|B2 ?_))
 cases hz2
 obtain rfl:=ez2 _ rfl
 refine XK (gq W) nofun (E6 ?_)
 rw [wE]at h
 cases h
 exact A6 (.inr W) (Mt (K1 W (gq W) (nl W) W) (Ye W (gq W) W) C2 C2) (.tup (.cons (.agg (ca W<|.cons ⟨DLe.nil,W⟩ (.cons ⟨DLe.nil,W⟩ .nil))) A3))
 refine A8<|B0<|sq W<|sl W (gq W) W (sd W (D8 W)<|sv W<|A1<|js hz2 fun z3 hz3 hz2=>D9 (fun s=> ∃(y3:Unit) (g4:Unit),z3= .inl y3∧Sb ⟨T [],G [((2,u1),some<|.box 33 (L8 p1)),((3,u1),some<|.box 22 [(dl D0 p2)]),((4,u1),some<|.box 25 [(di 0),(.d .nilS),(.d .nilS)]),((5,u1),some<|.box 36 [(di 0)]),((8,u8),some<|.box 133 [(.ptr (30,u8) 0)]),((1,g1),some<|.box 133 [(.ptr (30,u8) 0)]),((1000000,u15),some<|.obj (T [(2,(.ptr (2,u1) 0)),(3,(.ptr (3,u1) 0)),(4,(.ptr (4,u1) 0)),(5,(.ptr (5,u1) 0)),(8,(.ptr (8,u8) 0)),(34,(.fn (.func 174) [] [(.ptr (1,g1) 0)]))]) {r1 with state:= .busy}),((30,u8),some<|.box 135 (W1 v5))]⟩ s) ?_ ?_)
 refine A7<|E3 (Kt p1 v5 a1) (fun (x2:Int) (g5:Unit)=>⟨T [(4,(.ptr (4,u1) 0)),(5,(.ptr (5,u1) 0)),(8,(.ptr (8,u8) 0)),(9,(di a1.1)),(10,(di a1.2)),(50,(di (p1.Zones.length:Int))),(51,(di x2))],G [((4,u1),some<|.box 25 [(di 0),(.d .nilS),(.d .nilS)]),((5,u1),some<|.box 36 [(di 0)]),((8,u8),some<|.box 133 [(.ptr (30,u8) 0)]),((2,u1),some<|.box 33 (L8 p1)),((3,u1),some<|.box 22 [(dl D0 p2)]),((1,g1),some<|.box 133 [(.ptr (30,u8) 0)]),((1000000,u15),some<|.obj (T [(2,(.ptr (2,u1) 0)),(3,(.ptr (3,u1) 0)),(4,(.ptr (4,u1) 0)),(5,(.ptr (5,u1) 0)),(8,(.ptr (8,u8) 0)),(34,(.fn (.func 174) [] [(.ptr (1,g1) 0)]))]) {r1 with state:= .busy}),((30,u8),some<|.box 135 (W1 v5))]⟩) 0 () _ hz3 (F3 W W) ?_
 intro x2 g5 z4 hz4 ez4
 unfold Kt at hz4
 refine B0<|sv W<|A1<|A5<|cc W hz4 (fun c4 hz4=> ?_)<|fun c4 hz4=> ?_
 refine A8<|A5<|A7<|B0<|sv W<|sv W<|A1<|B0<|sp W (P6 W (gq W) W)<|sv W<|sv W<|sv W<|bs hz4 fun _ hv10 hz4=>A9 W (E7 (Ay (gq W)<|rD<|rD<|rD<|rD<|rD<|rD<|rD<|rD<|rD<|rD<|rD<|rD<|rD G1)<|rD<|rD<|rD G1) A3 (Nu _ _ _ _ _ hv10) (.inr W) (A1<|cc W hz4 (fun c5 hz4=> ?_)<|fun c5 hz4=> ?_)
 refine B0<|sv W<|U1 W G_hit [(di 0),(.d .nilS),(.d .nilS)] W (U1 W (gq W) [(di 12)] W (A1<|B2 ?_))
 cases hz4
 obtain rfl:=ez4 _ rfl
 refine ⟨nofun,E6 ?_⟩
 rw [wE]at hz2
 cases hz2
 obtain rfl:=ez2 _ rfl
 refine XK (gq W) nofun (E6 ?_)
 rw [wE]at h
 cases h
 exact A6 (.inr W) (Mt (K1 W (gq W) (nl W) W) (Ye W (gq W) W) C2 C2) (.tup (.cons (.agg (ca W<|.cons ⟨DLe.nil,W⟩ (.cons ⟨DLe.nil,W⟩ .nil))) A3))
 refine A8<|E2<|B8<|sv W<|sv W<|A1<|E4 ?_
 cases hz4
 exact ⟨W,(),(F3 W W)⟩
 refine C8 W ?_
 cases hz4
 obtain rfl:=ez4 _ rfl
 refine ⟨nofun,C7 W<|U7 ?_⟩
 exact ⟨_,(),W,(F3 W W)⟩
 rintro _ ⟨y3,g4,rfl,q1⟩
 rw [wD]at hz2
 refine E2<|E4 ?_
 cases hz2
 exact jH q1 (gq W) () (B5 G_hit (.of W)<|sg W<|sg W<|sg W<|sg W<|sg W<|sg W trivial)
 rintro x1 g3 _ rfl qx1
 refine E2<|U7 ?_
 exact ⟨_,(),W,(Sb.after qx1<|F3 W W)⟩
 rintro _ ⟨y2,g2,rfl,q2⟩
 rw [wD]at h
 refine B4 q2<|B0<|sp W (P6 W (gq W) W)<|sq W<|sp W W<|sd W (B1 W (gq W) W W)<|U1 W G_hit (K2 v5.after) W (U1 W (gq W) [(di 0)] W (A1<|B2 ?_))
 cases h
 exact A6 (.inr W) (Mt (K1 W (gq W) (nl W) W) (Ye W G_hit W) C2 C2) (.refl _)
def Qi (p1:Int):Option Int:=
  (cond (decide (p1≥4294967296)) (some ((p1.fdiv (2^ (min (32:Int).toNat (IntKind.bits .u64)))),32)) (some (p1,0))).bind fun y1=>(cond (decide (y1.1≥65536)) (some ((y1.1.fdiv (2^ (min (16:Int).toNat (IntKind.bits .u64)))),(D6 (y1.2+16)))) (some (y1.1,y1.2))).bind fun y2=>cond (decide (y2.1≥256)) ((jV (ByteArray.mk #[0,1,2,2,3,3,3,3,4,4,4,4,4,4,4,4,5,5,5,5,5,5,5,5,5,5,5,5,5,5,5,5,6,6,6,6,6,6,6,6,6,6,6,6,6,6,6,6,6,6,6,6,6,6,6,6,6,6,6,6,6,6,6,6,7,7,7,7,7,7,7,7,7,7,7,7,7,7,7,7,7,7,7,7,7,7,7,7,7,7,7,7,7,7,7,7,7,7,7,7,7,7,7,7,7,7,7,7,7,7,7,7,7,7,7,7,7,7,7,7,7,7,7,7,7,7,7,7,8,8,8,8,8,8,8,8,8,8,8,8,8,8,8,8,8,8,8,8,8,8,8,8,8,8,8,8,8,8,8,8,8,8,8,8,8,8,8,8,8,8,8,8,8,8,8,8,8,8,8,8,8,8,8,8,8,8,8,8,8,8,8,8,8,8,8,8,8,8,8,8,8,8,8,8,8,8,8,8,8,8,8,8,8,8,8,8,8,8,8,8,8,8,8,8,8,8,8,8,8,8,8,8,8,8,8,8,8,8,8,8,8,8,8,8,8,8,8,8,8,8,8,8,8,8,8,8]) (IntKind.wrap .u8 (y2.1.fdiv (2^ (min (8:Int).toNat (IntKind.bits .u64)))))).bind fun v1=>some (D6 ((D6 (y2.2+8))+ (D6 v1)))) ((jV (ByteArray.mk #[0,1,2,2,3,3,3,3,4,4,4,4,4,4,4,4,5,5,5,5,5,5,5,5,5,5,5,5,5,5,5,5,6,6,6,6,6,6,6,6,6,6,6,6,6,6,6,6,6,6,6,6,6,6,6,6,6,6,6,6,6,6,6,6,7,7,7,7,7,7,7,7,7,7,7,7,7,7,7,7,7,7,7,7,7,7,7,7,7,7,7,7,7,7,7,7,7,7,7,7,7,7,7,7,7,7,7,7,7,7,7,7,7,7,7,7,7,7,7,7,7,7,7,7,7,7,7,7,8,8,8,8,8,8,8,8,8,8,8,8,8,8,8,8,8,8,8,8,8,8,8,8,8,8,8,8,8,8,8,8,8,8,8,8,8,8,8,8,8,8,8,8,8,8,8,8,8,8,8,8,8,8,8,8,8,8,8,8,8,8,8,8,8,8,8,8,8,8,8,8,8,8,8,8,8,8,8,8,8,8,8,8,8,8,8,8,8,8,8,8,8,8,8,8,8,8,8,8,8,8,8,8,8,8,8,8,8,8,8,8,8,8,8,8,8,8,8,8,8,8,8,8,8,8,8,8]) (IntKind.wrap .u8 y2.1)).bind fun v2=>some (D6 (y2.2+ (D6 v2))))
theorem CK(p1 r)(h:Qi p1=some r):PCall prog 281 [(.v (.int .u64 p1))] (i64 r):=by
 refine C4 (fk func281 ntmps281 m0 (by with_unfolding_all rfl)) (nl W) ?_
 unfold Qi at h
 refine B4 (s0:=⟨T [(0,(.d _))],G []⟩) (F3 W W) ?_
 refine B0<|sv W<|A1<|A5<|B0<|sv W<|sv W<|A1<|bs h fun y1 hy1 h=>D9 (fun s=> ∃g1:Unit,Sb ⟨T [(0,(.d (.v (.int .u64 y1.1)))),(2,(di y1.2))],G []⟩ s) ?_ ?_
 refine cc W hy1 (fun c1 hy1=> ?_)<|fun c1 hy1=> ?_
 refine B0<|sv W<|sv W<|sv W<|A1<|B8<|sv W<|A1 ?_
 cases hy1
 exact U7 ⟨(),(F3 W W)⟩
 refine A8 ?_
 cases hy1
 exact U7 ⟨(),(F3 W W)⟩
 rintro _ ⟨g1,q1⟩
 refine B4 q1<|A5<|B0<|sv W<|sv W<|A1<|bs h fun y2 hy2 h=>D9 (fun s=> ∃g2:Unit,Sb ⟨T [(0,(.d (.v (.int .u64 y2.1)))),(2,(di y2.2))],G []⟩ s) ?_ ?_
 refine cc W hy2 (fun c2 hy2=> ?_)<|fun c2 hy2=> ?_
 refine B0<|sv W<|sv W<|sv W<|A1<|B8<|sv W<|sv W<|sv W<|A1 ?_
 cases hy2
 exact U7 ⟨(),(F3 W W)⟩
 refine A8 ?_
 cases hy2
 exact U7 ⟨(),(F3 W W)⟩
 rintro _ ⟨g2,q2⟩
 refine B4 q2<|A5<|B0<|sv W<|sv W<|A1<|cc W h (fun c3 h=> ?_)<|fun c3 h=> ?_
 refine B0<|sv W<|sv W<|sv W<|A1<|B8<|sv W<|sv W<|sv W<|A1<|B0<|sv W<|sv W<|sv W<|bs h fun _ hv1 h=>sd W (fG W W hv1)<|sv W<|sv W<|sv W<|A1<|B2 ?_
 cases h
 exact A6 (.inr W) (B6 (B3 W) C2) (.refl _)
 refine A8<|B0<|sv W<|sv W<|sv W<|bs h fun _ hv2 h=>sd W (fG W W hv2)<|sv W<|sv W<|sv W<|A1<|B2 ?_
 cases h
 exact A6 (.inr W) (B6 (B3 W) C2) (.refl _)
def Jk (p1:Int):Option Int:=
  (Qi p1).bind fun v1=>some v1
theorem Ur(p1 r)(h:Jk p1=some r):PCall prog 267 [(.v (.int .u64 p1))] (i64 r):=by
 refine C4 (fk func267 ntmps267 m0 (by with_unfolding_all rfl)) (nl W) ?_
 unfold Jk at h
 refine B4 (s0:=⟨T [(0,(.d _))],G []⟩) (F3 W W) ?_
 refine B0<|sv W<|A1<|A5<|Th W<|A8<|B0<|sv W<|bs h fun _ hv1 h=>A9 W W A3 (CK _ _ hv1) (.inl W) (sv W<|A1<|B2 ?_)
 cases h
 exact A6 (.inr W) (B6 (B3 W) C2) (.refl _)
def Ka (p1:Int)(p2:Int):Option Bool:=
  (W6 p1).bind fun v1=>((cond v1 (W6 p2) (some default))).bind fun v2=>some ((v1&& (!v2))||(decide (p1<p2)))
theorem EL(p1 p2 r)(h:Ka p1 p2=some r):PCall prog 277 [(i64 p1),(i64 p2)] (bo r):=by
 refine C4 (fk func277 ntmps277 m0 (by with_unfolding_all rfl)) (nl W) ?_
 unfold Ka at h
 refine B4 (s0:=⟨T [(0,(.d _)),(1,(.d _))],G []⟩) (F3 W W) ?_
 refine B0<|sv W<|A1<|B0<|sv W<|bs h fun v1 hv1 h=>A9 W W A3 (Ii _ _ hv1) (.inl W) (sv W<|gt W (fun _=>W)<|bs h fun v2 hv2 h=> ?_)
 refine O3 v1 (bo v2) (M6 W) (fun w2=>⟨_,[(di p2)],_,_,(by simp only [A2 w2];rfl),W,A3,Ii _ _<|C1 w2 hv2,(.inl W)⟩) ?_
 refine M8 _ (.d (bo (!v2))) W (M6 W) (fun w3=>(by simp only [A2 w3];rfl)) ?_
 refine sa W W W<|sv W<|gf W (fun _=>W)<|gf W (fun _=>W)<|gf W (fun w6=>(M3 (A2 w6) (A2 w6) W))<|sd W (N9 W W<|fun hc=>A2<|J4 hc)<|sv W<|A1<|B2 ?_
 cases h
 exact A6 (.inr W) (B6 (B3 W) C2) (.refl _)
def J5 (p2:Int)(x2:(Int× (List Int))):Option (Stp (Int× (List Int)) (List Int)):=
  ((cond (decide (x2.1>p2)) (C0 x2.2 x2.1) (some default))).bind fun v1=>((cond (decide (x2.1>p2)) (C0 x2.2 (D6 (x2.1 - 1))) (some default))).bind fun v2=>((cond (decide (x2.1>p2)) (Ka v1 v2) (some default))).bind fun v3=>cond ((decide (x2.1>p2))&&v3) ((C0 x2.2 (D6 (x2.1 - 1))).bind fun v4=>(C0 x2.2 x2.1).bind fun v5=>(C0 x2.2 x2.1).bind fun v6=>(C0 (Ln x2.2 x2.1 v4) (D6 (x2.1 - 1))).bind fun v7=>some (.go ((D6 (x2.1 - 1)),(Ln (Ln x2.2 x2.1 v4) (D6 (x2.1 - 1)) v5)))) (some (.out x2.2))
def G6 [Lp](p2:Int)(p3:Int)(x1:(Int× (List Int))):Option (Stp (Int× (List Int)) (List Int)):=
  cond (decide (x1.1<p3)) ((loop (J5 p2) (x1.1,x1.2)).bind fun y1=>some (.go ((D6 (x1.1+1)),y1))) (some (.out (x1.2)))
def J3 [Lp](p1:(List Int))(p2:Int)(p3:Int):Option (List Int):=
  loop (G6 p2 p3) ((D6 (p2+1)),p1)
theorem Kb(p1 p2 p3 r)(h:J3 p1 p2 p3=some r):MCall prog 271 [(.sl (900000,0)),(di p2),(di p3)] [(.arr 2 1 (List.map A4 p1))] (.d (.tup [])) [some (.arr 2 1 (List.map A4 r))] []:=by
 refine Vm (fk func271 ntmps271 m0 (by with_unfolding_all rfl)) W (nl W) ?_
 unfold J3 at h
 refine B4 (s0:=⟨T [(0,(.sl _)),(1,(.d _)),(2,(.d _))],G [((900000,0),some _)]⟩) (F3 W W) ?_
 refine B0<|sv W<|sv W<|sv W<|A1<|A7<|E3 (G6 p2 p3) (fun (x1:(Int× (List Int))) (g1:Unit)=>⟨T [(0,(.sl (900000,0))),(1,(di p2)),(2,(di p3)),(6,(di x1.1))],G [((900000,0),some<|.arr 2 1 (List.map A4 x1.2))]⟩) ((D6 (p2+1)),p1) () _ h (F3 W W) ?_
 intro x1 g1 z1 hz1 ez1
 unfold G6 at hz1
 refine A5<|B0<|sv W<|sv W<|sv W<|A1<|cc W hz1 (fun c1 hz1=> ?_)<|fun c1 hz1=> ?_
 refine A8<|A5<|A7<|B0<|sv W<|sv W<|A1<|bs hz1 fun y1 hy1 hz1=>D9 (fun s=> ∃g2:Unit,Sb ⟨T [(0,(.sl (900000,0))),(1,(di p2)),(2,(di p3)),(6,(di x1.1))],G [((900000,0),some<|.arr 2 1 (List.map A4 y1))]⟩ s) ?_ ?_
 refine A7<|E3 (J5 p2) (fun (x2:(Int× (List Int))) (g3:Unit)=>⟨T [(0,(.sl (900000,0))),(1,(di p2)),(2,(di p3)),(6,(di x1.1)),(7,(di x2.1))],G [((900000,0),some<|.arr 2 1 (List.map A4 x2.2))]⟩) (x1.1,x1.2) () _ hy1 (F3 W W) ?_
 intro x2 g3 z2 hz2 ez2
 unfold J5 at hz2
 refine A5<|A5<|E8 W<|sv W<|sv W<|sv W<|sv W<|M8 _ (.sl _) W (M6 W) (fun _=>W) (gt W (fun _=>W)<|bs hz2 fun v1 hv1 hz2=>M8 _ (.aptr _ _ _ _) W (M6 W) (fun w3=>(Jw (A2 w3) (A2 w3) G_hit (C1 w3 hv1))) (gt W (fun w4=>(Ph (A2 w4) G_hit (C1 w4 hv1) W))<|M8 _ (.sl _) W (M6 W) (fun _=>W) (gt W (fun _=>W)<|gt W (vb W W W)<|bs hz2 fun v2 hv2 hz2=>M8 _ (.aptr _ _ _ _) W (M6 W) (fun w8=>(Jw (A2 w8) (A2 w8) G_hit (C1 w8 hv2))) (gt W (fun w9=>(Ph (A2 w9) G_hit (C1 w9 hv2) W))<|bs hz2 fun v3 hv3 hz2=> ?_))))
 refine O3 _ (bo v3) (M6 W) (fun w10=>⟨_,[(di v1),(di v2)],_,_,(by simp only [A2 w10];rfl),W,A3,EL _ _ _<|C1 w10 hv3,(.inl W)⟩) ?_
 refine sa W W W<|A1<|cc W hz2 (fun c2 hz2=> ?_)<|fun c2 hz2=> ?_
 refine A8<|A5<|A7<|E8 W<|ss W<|sv W<|ss W<|sv W<|sv W<|ss W<|sv W<|sv W<|bs hz2 fun v4 hv4 hz2=>B9 (.aptr _ _ _ _) W (Jw W W G_hit hv4) (sd W (Ph W G_hit hv4 W)<|ss W<|sv W<|bs hz2 fun v5 hv5 hz2=>B9 (.aptr _ _ _ _) W (Jw W W G_hit hv5) (sd W (Ph W G_hit hv5 W)<|bs hz2 fun _ hv6 hz2=>B9 (.aptr _ _ _ _) W (Jw W W G_hit hv6) (Pr A4 _ _ _ (x2.1) _ v4 [(i64 v4)] W W W G_hit hv6 (nl W) W (bs hz2 fun _ hv7 hz2=>B9 (.aptr _ _ _ _) W (Jw W W G_hit hv7) (Pr A4 _ _ _ ((D6 (x2.1 - 1))) _ v5 [(i64 v5)] W W W G_hit hv7 (nl W) W (A1<|E2<|B8<|sv W<|sv W<|sv W<|A1<|E4 ?_))))))
 cases hz2
 exact ⟨W,(),(F3 W W)⟩
 refine C8 W ?_
 cases hz2
 obtain rfl:=ez2 _ rfl
 refine ⟨nofun,C7 W<|U7 ?_⟩
 exact ⟨(),(F3 W W)⟩
 rintro _ ⟨g2,q1⟩
 refine E2<|B4 q1<|B8<|sv W<|sv W<|sv W<|A1<|E4 ?_
 cases hz1
 exact ⟨W,(),(F3 W W)⟩
 refine C8 W ?_
 cases hz1
 obtain rfl:=ez1 _ rfl
 refine ⟨nofun,C7 W<|E4 ?_⟩
 exact CC (.inl W) [] CD (.refl _) ⟨⟨G_hit,Fs⟩,trivial⟩
def N0 [Lp](p1:(List Int))(x1:(Int×Int×Int×Bool×Bool)):Option (Stp (Int×Int×Int×Bool×Bool) (List Int)):=
  cond (decide ((D6 (x1.2.1 - x1.1))≤12)) ((J3 p1 x1.1 x1.2.1).bind fun v1=>some (.out (v1))) (cond (x1.2.2.1==0) (none) ((cond (!x1.2.2.2.1) (none) (some ())).bind fun _=>none))
def O0 [Lp](p1:(List Int))(p2:Int)(p3:Int)(p4:Int):Option (List Int):=
  loop (N0 p1) (p2,p3,p4,true,true)
theorem Nv(p1 p2 p3 p4 r)(h:O0 p1 p2 p3 p4=some r):MCall prog 266 [(.sl (900000,0)),(di p2),(di p3),(di p4)] [(.arr 2 1 (List.map A4 p1))] (.d (.tup [])) [some (.arr 2 1 (List.map A4 r))] []:=by
 refine Vm (fk func266 ntmps266 (fun r=>if r==4 then [1004003]else []) (by with_unfolding_all rfl)) W (nl W) ?_
 unfold O0 at h
 refine B4 (s0:=⟨T [(0,(.sl _)),(1,(.d _)),(2,(.d _)),(3,(.d _))],G [((900000,0),some _)]⟩) (F3 W W) ?_
 refine B0<|sv W<|A1<|B0<|sv W<|A1<|A7<|E3 (N0 p1) (fun (x1:(Int×Int×Int×Bool×Bool)) (g1:Unit)=>⟨T [(0,(.sl (900000,0))),(1,(di x1.1)),(2,(di x1.2.1)),(3,(di x1.2.2.1)),(8,(.d (bo x1.2.2.2.1))),(9,(.d (bo x1.2.2.2.2)))],G [((900000,0),some<|.arr 2 1 (List.map A4 p1))]⟩) (p2,p3,p4,true,true) () _ h (F3 W W) ?_
 intro x1 g1 z1 hz1 ez1
 unfold N0 at hz1
 refine A7<|B0<|sv W<|sv W<|sv W<|sv W<|A1<|A5<|B0<|sv W<|sv W<|A1<|cc W hz1 (fun c1 hz1=> ?_)<|fun c1 hz1=> ?_
 refine B0<|ss W<|sv W<|sv W<|bs hz1 fun v1 hv1 hz1=>FN (v:= .d (.tup [])) (us:= [(900000,0)]) (MD (Kb _ _ _ _ hv1) [(900000,0)] [(900000,0)] _ (((900000,0),some<|.arr 2 1 (List.map A4 v1))::_) W Nm (Y1 EA<|Y1 CB<|Y1 CB Tv) (Kr G_hit Iw) ⟨⟨_,G_hit, .of W⟩,trivial⟩ (fun _ h=>h) nd1 W W W) (A1<|B2 ?_)
 cases hz1
 obtain rfl:=ez1 _ rfl
 refine ⟨nofun,E6 ?_⟩
 exact CC (.inr W) [] CD (.refl _) ⟨⟨G_hit,Fs⟩,trivial⟩
 refine A8<|A5<|B0<|sv W<|sv W<|A1<|cc W hz1 (fun c2 hz1=> ?_)<|fun c2 hz1=> ?_
 refine B0<|ss W<|sv W<|sv W ?_
 cases hz1
 refine A8<|A5<|B0<|sv W<|B9 (.d (bo (!x1.2.2.2.1))) W W (A1<|bs hz1 fun _ hy1 hz1=>D9 (fun s=> ∃g2:Unit,Sb ⟨T [(0,(.sl (900000,0))),(1,(di x1.1)),(2,(di x1.2.1)),(3,(di x1.2.2.1)),(8,(.d (bo x1.2.2.2.1))),(9,(.d (bo x1.2.2.2.2))),(10,(di<|D6 (x1.2.1 - x1.1)))],G [((900000,0),some<|.arr 2 1 (List.map A4 p1))]⟩ s) ?_ ?_)
 refine cc W hy1 (fun c3 hy1=> ?_)<|fun c3 hy1=> ?_
 refine B0<|ss W<|sv W<|sv W ?_
 cases hy1
 refine A8 ?_
 cases hy1
 exact U7 ⟨(),(F3 W W)⟩
 rintro _ ⟨g2,q1⟩
 refine B4 q1<|B0<|ss W<|sv W<|sv W ?_
 cases hz1
def O5 [Lp](p1:(List Int)):Option (List Int):=
  (Jk (IntKind.wrap .u64 (p1.length:Int))).bind fun v1=>(O0 p1 0 (p1.length:Int) v1).bind fun v2=>some v2
theorem Qj(p1 r)(h:O5 p1=some r):MCall prog 252 [(.sl (900000,0))] [(.arr 2 1 (List.map A4 p1))] (.d (.tup [])) [some (.arr 2 1 (List.map A4 r))] []:=by
 refine Vm (fk func252 ntmps252 (fun r=>if r==1 then [1001005]else []) (by with_unfolding_all rfl)) W (nl W) ?_
 unfold O5 at h
 refine B4 (s0:=⟨T [(0,(.sl _))],G [((900000,0),some _)]⟩) (F3 W W) ?_
 refine B0<|ss W<|sd W (VO (f:=A4) W G_hit)<|sv W<|A1<|B8<|ss W<|sv W<|sv W<|sv W<|bs h fun _ hv1 h=>A9 W W A3 (Ur _ _ hv1) (.inl W) (bs h fun v2 hv2 h=>FN (v:= .d (.tup [])) (us:= [(900000,0)]) (MD (Nv _ _ _ _ _ hv2) [(900000,0)] [(900000,0)] _ (((900000,0),some<|.arr 2 1 (List.map A4 v2))::_) W Nm (Y1 EA<|Y1 CB<|Y1 CB<|Y1 CB Tv) (Kr G_hit Iw) ⟨⟨_,G_hit, .of W⟩,trivial⟩ (fun _ h=>h) nd1 W W W) (A1<|E4 ?_))
 obtain rfl:=(lD h)
 exact CC (.inl W) [] CD (.refl _) ⟨⟨G_hit,Fs⟩,trivial⟩
section
open Go.RowKit Go.Lib
def qQ:Go.Shelf.Ren:=⟨fun n=>if n=43 then 253 else 0,fun t=>if t=22 then 48 else if t=23 then 2 else t,fun x=>x⟩
theorem cmp_lay:SlLaysE.n43 prog qQ where
  mixed:=by kernel_rfl
  f43:=⟨Tryz.f253.name,by decide,by kernel_rfl⟩
  t0:=Tryz.underlying0
  a0:=Tryz.isAgg0
  z0:=Tryz.sizeOf0
  v0:=Tryz.zeroValue0
  t3:=Tryz.underlying3
  a3:=Tryz.isAgg3
  z3:=Tryz.sizeOf3
  v3:=Tryz.zeroValue3
  t4:=Tryz.underlying4
  a4:=Tryz.isAgg4
  z4:=Tryz.sizeOf4
  v4:=Tryz.zeroValue4
  t22:=Tryz.underlying48
  a22:=Tryz.isAgg48
  z22:=Tryz.sizeOf48
  v22:=Tryz.zeroValue48
  a23:=Tryz.isAgg2
  z23:=Tryz.sizeOf2
theorem ZR (g cap:Nat)(d:Array Int)(w:World)(hH:Go.Sort.Holds (Value.int .i64) w g 0 d)(hsz:d.size≤9223372036854775807)(hcap:d.size≤cap):
    Calls prog 253 #[.slice (some ⟨g,0,none⟩) d.size cap] w fun e w'=>e= .returned (.slice (some ⟨g,0,none⟩) (Go.Lib.compactUpTo d d.size).length cap)∧∃q,w'=Go.Sort.putRow (Value.int .i64) (Go.Sort.ahead w q) g 0 (Go.Lib.compactUpTo d d.size++List.replicate (d.size - (Go.Lib.compactUpTo d d.size).length) 0).toArray:=
  AnyE.slices_Compact cmp_lay (Value.int .i64) (fun _=>rfl) (.intD _ _ _) (.intD _ _ _) 0 Tryz.zeroValue2 g 0 cap d w hH hsz hcap
theorem jW (d:Array Int):(Go.Lib.compactUpTo d d.size).length≤d.size:=by
  unfold Go.Lib.compactUpTo
  rw [lS]
  refine wL (List.length_filter_le _ _) ?_
  rw [List.length_range];exact wH _
theorem NO (xs:List Int): ∀m,m≤xs.length→Go.Lib.compactUpTo xs.toArray m=Eo (xs.take m)
  |0,_=>rfl
  |m+1,h=>by
   rw [Go.Lib.compactUpTo_succ,NO xs m (by omega),List.take_add_one,lH (by omega),Option.toList_some,GZ]
   congr 1
   have hm:m<xs.length:=by omega
   have e1:xs.toArray[m]! =xs[m]:=by rw [getElem!_pos xs.toArray m (by simpa using hm)];simp
   rw [Go.Lib.keeps,e1]
   cases m with
   |zero=>simp
   |succ k=>
    have e2:xs.toArray[k]! =xs[k]:=by rw [getElem!_pos xs.toArray k (by rw [List.size_toArray];omega)];simp
    have e3:(xs.take (k+1)).getLast? =some xs[k]:=by rw [List.take_add_one,lH (by omega),Option.toList_some,List.getLast?_append];simp
    rw [Nat.add_sub_cancel,e2,e3]
    by_cases e:xs[k+1]=xs[k]
    ·simp [e]
    ·rw [bQ (by simp [e]),bR (fun q=>e (lD q).symm)]
theorem pQ (xs r:List Int)(hr:ED xs=some r):MCall prog 253 [.sl (900000,0)] [.arr 2 1 (List.map A4 xs)] (.sl (800000,0)) [none] [some (.arr 2 1 (List.map A4 r))]:=by
  obtain ⟨hx,rfl⟩:=PT hr
  clear hr
  refine ⟨W,fun vs w=> ?_,fun w I ρ vs H hlen hrep=> ?_⟩
  ·have hn': ¬Tryz.f253.name= "runtime.NumGoroutine" :=by decide
   have hb: ∃c,Tryz.f253.body=some c:=⟨_,rfl⟩
   obtain ⟨c,hb⟩:=hb
   simp [callFunc,func253,hb,hn']
  have hnx:0<xs.length:=List.length_pos_iff.2 hx
  obtain ⟨a,rfl⟩: ∃a,vs= [a]:=by
    match vs,hlen with
    | [a],_=>exact ⟨a,rfl⟩
  have r0:=hrep 0 _ rfl
  simp only [List.getD_cons_zero]at r0
  have hb0:G (Xg 0 [Blk.arr 2 1 (List.map A4 xs)]) (Z6 0)=some (.arr 2 1 (List.map A4 xs)):=rfl
  obtain ⟨x0,cx,p1,p2,p3,p4⟩:=H.blk _ _ hb0
  have e0:a=x0:=by
    cases r0 with
    |sl _ _ h=>exact lD (h.symm.trans p1)
  subst e0
  obtain ⟨hxl,hx'|⟨g,c,cur,rfl,_,hg,hnc,hcm,hcs,hxc⟩⟩:=p2
  ·rw [lS]at hx';omega
  rw [lS]at hxl hnc hxc
  have hval: ∀i (hi:i<xs.length),cur[i]? =some (.int .i64 xs[i]):=by
    intro i hi
    obtain ⟨_,g2⟩:=p4 i 0 (.v (.int .i64 xs[i])) (by simp [Rr,hi,A4])
    have:cx.getD (i*1+0) undef= .int .i64 xs[i]:=by generalize cx.getD (i*1+0) undef=y at g2;cases g2;rfl
    rw [← hxc,List.getD,bA,bQ (by omega),Nat.mul_one,Nat.add_zero,Array.getElem?_toList]at this
    rw [Array.getElem?_eq_getElem (by omega)]at this ⊢
    rw [Option.getD_some]at this
    rw [this]
  have hH:Go.Sort.Holds (Value.int .i64) w g 0 xs.toArray:=by
    intro j hj
    rw [List.size_toArray]at hj
    have h2:=hval j hj
    refine ⟨?_,by simp [World.frozen?,hg]⟩
    simp [World.cell?,hg,h2,hj]
  have locx:O7 ρ (Z6 0) (.arr 2 1 (List.map A4 xs))=some g:=by simp [O7,p1,Value.ownBlock]
  have hca:=ZR g c xs.toArray w hH (by rw [List.size_toArray];unfold maxLen at hcm;omega) (by rw [List.size_toArray];exact hnc)
  have hcl:=jW xs.toArray
  rw [List.size_toArray]at hca hcl
  rw [lS]
  refine hca.mono ?_
  rintro e w' ⟨rfl,q,hw'⟩
  have hheap: ∀k,w'.heap[k]? =if k=g then some (.cells (Go.Sort.putCells (Value.int .i64) 0 (Go.Lib.compactUpTo xs.toArray xs.length++List.replicate (xs.length - (Go.Lib.compactUpTo xs.toArray xs.length).length) 0).toArray cur) 2 (0,0))else w.heap[k]?:=by
    intro k
    rw [hw']
    show (w.heap.modify g _)[k]? =_
    rw [Array.getElem?_modify]
    by_cases e:g=k
    ·subst e;rw [bQ rfl,bQ rfl,hg];rfl
    ·rw [bR e,bR (Ne.symm e)]
  have hos:w'.os=w.os∧w'.tape=w.tape∧w'.output=w.output∧w'.heap.size=w.heap.size:=by rw [hw'];exact ⟨rfl,rfl,rfl,by simp⟩
  clear hw' hca hH
  generalize hC:Go.Lib.compactUpTo xs.toArray xs.length=C at hcl hheap ⊢
  have hCc:Eo xs=C:=by rw [← hC,NO xs _ (wH _),List.take_length]
  rw [hCc]
  obtain ⟨Z,hZ⟩: ∃Z:Array Int,Z=(C++List.replicate (xs.length - C.length) 0).toArray:=⟨_,rfl⟩
  rw [← hZ]at hheap
  have hZs:Z.size=xs.length:=by rw [hZ];simp;omega
  have hZg: ∀i (hi:i<C.length),Z[i]! =C[i]:=by
    intro i hi
    have hlt:i<Z.size:=by omega
    rw [getElem!_pos Z i hlt]
    subst hZ
    rw [List.getElem_toArray,List.getElem_append_left hi]
  clear hZ hC hCc
  obtain ⟨u0,hu0⟩:=H.fresh
  have hk0:ρ (7,u0)=none:=hu0 7 u0 (wH _)
  have hgI: ¬I g:=H.notI _ _ g hb0 locx
  have hgo:own ρ (G (Xg 0 [Blk.arr 2 1 (List.map A4 xs)])) g:=⟨_,_,hb0,locx⟩
  have hother: ∀k,k≠g→w'.heap[k]? =w.heap[k]?:=fun k hk=>by rw [hheap,bR hk]
  have hI': ∀b,I b→w'.heap[b]? =w.heap[b]?:=fun b hb=>hother b (fun e=>hgI (e▸hb))
  have H0:HeapOK w' I ρ (fun _=>none):=⟨fun k b hb=>(by cases hb),fun k k' b b' g h1=>(by cases h1),fun k b g h1=>(by cases h1),fun k b g h1=>(by cases h1),fun b hb=>by rw [hos.2.2.2];exact H.ilt b hb,⟨u0,hu0⟩,H.rone⟩
  have hloc: ∀k,O7 (Aw ρ (7,u0) (some (Value.slice (some ⟨g,0,none⟩) C.length c))) (7,u0) (.arr 2 1 (List.map A4 C))=some k→k=g:=by
    intro k hk
    have:some g=some k:=by simpa [O7,H7,Value.ownBlock] using hk
    exact (lD this).symm
  have hown: ∀g,¬own ρ (fun _=>none) g:=fun g ⟨k,b,h,_⟩=>by cases h
  have hsz:(Go.Sort.putCells (Value.int .i64) 0 Z cur).size=c:=by unfold Go.Sort.putCells;rw [Array.size_mapIdx,hcs,Nat.mul_one]
  have Hn:=QZ H0 (7,u0) (Value.slice (some ⟨g,0,none⟩) C.length c) (.arr 2 1 (List.map A4 C)) hk0 rfl (fun k hk=>by
    rw [hloc k hk]
    exact ⟨hown g,hgI,by rw [hos.2.2.2];exact H.lt _ _ g hb0 locx⟩)
    ⟨_,C.map (Value.int .i64),H7 _ _ _,⟨by simp, .inr ⟨g,c,_,by rw [lS],wI _,by rw [hheap,bQ rfl],by rw [lS];omega,hcm,by rw [hsz,Nat.mul_one],by
      rw [lS,Nat.mul_one]
      apply List.ext_getElem
      ·have h3:(Go.Sort.putCells (Value.int .i64) 0 Z cur).toList.length=c:=hsz
       rw [lV,h3,lS];omega
      ·intro i h1 h2
       rw [lS]at h2
       rw [List.getElem_take,Array.getElem_toList,List.getElem_map]
       unfold Go.Sort.putCells
       rw [Array.getElem_mapIdx,bQ ⟨wI _,by omega⟩,Nat.sub_zero,hZg i h2]⟩⟩,by
      intro q hq
      obtain ⟨z,_,rfl⟩:=List.mem_map.1 hq
      rfl,by
      intro r j d' hd'
      unfold Rr at hd'
      rw [lK]at hd'
      cases hr:C[r]? with
      |none=>rw [hr]at hd';cases hd'
      |some z=>
       rw [hr]at hd'
       match j,hd' with
       |0,hd'=>
        cases hd'
        refine ⟨W,?_⟩
        rw [Nat.mul_one,Nat.add_zero,List.getD,lK,hr]
        exact .v _
       |j+1,hd'=>simp [A4]at hd'⟩
  refine ⟨_, .sl (7,u0),I,_,_,W, .sl _ _ (H7 _ _ _),Hn,⟨hos.1,hos.2.1,hos.2.2.1,by rw [hos.2.2.2];exact wH _,fun b hb hn'=>hother b<|fun e=>hn' (e▸hgo),fun _ hb=>hb,fun _ hb _=> .inl hb,?_,OW hk0⟩,fun _=>(7,u0),W,?_,?_,?_,?_⟩
  ·rintro k ⟨k',b',h1,h2⟩ hl
   by_cases ek:k'=(7,u0)
   ·subst ek
    rw [H7]at h1
    cases h1
    rw [hloc k h2];exact hgo
   ·rw [M0 _ _ _ _ ek]at h1;cases h1
  ·intro j b hb
   match j,hb with
   |0,hb=>cases hb
   |j+1,hb=>simp at hb
  ·intro j b hb
   match j,hb with
   |0,hb=>cases hb;exact H7 _ _ _
   |j+1,hb=>simp at hb
  ·intro j _ i _ e;simp only [Z6,Prod.mk.injEq]at e;omega
  ·intro j j' h1 h2 _
   simp only [lL,lN]at h1 h2
   omega
theorem fJ (A:Option Addr)(w:World):Calls prog 253 #[.slice A 0 0] w fun e w'=>e= .returned (.slice A 0 0)∧∃q,w'=w.drewN q:=by
  have mixed:=cmp_lay.mixed
  have v0:=Tryz.zeroValue2
  go_enter func253,ntmps253
  go_wp2
  go_ret
  exact ⟨W,0,W⟩
theorem jX:PCall prog 253 [.nilS] .nilS:=by
  refine ⟨fun vs w=> ?_,fun w I vs hI hlen hrep=> ?_⟩
  ·have hn': ¬Tryz.f253.name= "runtime.NumGoroutine" :=by decide
   have hb: ∃c,Tryz.f253.body=some c:=⟨_,rfl⟩
   obtain ⟨c,hb⟩:=hb
   simp [callFunc,func253,hb,hn']
  obtain ⟨a,rfl⟩: ∃a,vs= [a]:=by
    match vs,hlen with
    | [a],_=>exact ⟨a,rfl⟩
  have r0:=hrep 0 _ rfl
  simp only [List.getD_cons_zero]at r0
  cases r0 with
  |nilS A=>
   refine (fJ A w).mono ?_
   rintro e w' ⟨rfl,q,rfl⟩
   exact ⟨_,I,W, .nilS A,W,W,W,wH _,fun _ _=>W,fun _ hb=>hb,fun _ hb _=>hb,hI⟩
end
def W2 (p1:Int)(x2:Int):Option (Stp Int Unit):=
  ((cond (decide (x2>p1)) ((none:Option Unit)) (some default))).bind fun v1=>cond ((decide (x2>p1))&&false) (none) (some (.out ()))
def M2 [Lp](p1:Int)(p2:Int)(x1:Int):Option (Stp Int Unit):=
  cond (decide (x1<p2)) ((loop (W2 p1) x1).bind fun _=>some (.go (D6 (x1+1)))) (some (.out (())))
def L9 [Lp](p1:Int)(p2:Int):Option Unit:=
  loop (M2 p1 p2) (D6 (p1+1))
theorem Kc(p1 p2 r)(h:L9 p1 p2=some r):PCall prog 271 [.nilS,(i64 p1),(i64 p2)] (.tup []):=by
 refine C4 (fk func271 ntmps271 m0 (by with_unfolding_all rfl)) (nl W) ?_
 unfold L9 at h
 refine B4 (s0:=⟨T [(0,(.d _)),(1,(.d _)),(2,(.d _))],G []⟩) (F3 W W) ?_
 refine B0<|sv W<|sv W<|sv W<|A1<|A7<|E3 (M2 p1 p2) (fun (x1:Int) (g1:Unit)=>⟨T [(0,(.d .nilS)),(1,(di p1)),(2,(di p2)),(6,(di x1))],G []⟩) (D6 (p1+1)) () _ h (F3 W W) ?_
 intro x1 g1 z1 hz1 ez1
 unfold M2 at hz1
 refine A5<|B0<|sv W<|sv W<|sv W<|A1<|cc W hz1 (fun c1 hz1=> ?_)<|fun c1 hz1=> ?_
 refine A8<|A5<|A7<|B0<|sv W<|sv W<|A1<|bs hz1 fun _ hy1 hz1=>D9 (fun s=> ∃g2:Unit,Sb ⟨T [(0,(.d .nilS)),(1,(di p1)),(2,(di p2)),(6,(di x1))],G []⟩ s) ?_ ?_
 refine A7<|E3 (W2 p1) (fun (x2:Int) (g3:Unit)=>⟨T [(0,(.d .nilS)),(1,(di p1)),(2,(di p2)),(6,(di x1)),(7,(di x2))],G []⟩) x1 () _ hy1 (F3 W W) ?_
 intro x2 g3 z2 hz2 ez2
 unfold W2 at hz2
 refine A5<|A5<|E8 W<|sv W<|sv W<|sv W<|sv W<|gt W (fun _=>W)<|gt W (fun _=>W)<|bs hz2 fun _ hv1 hz2=>M8 _ (.d (.tup [])) W (M6 W) (fun w3=>nomatch C1 w3 hv1) (M8 _ (di 0) W (M6 W) (fun w4=>nomatch C1 w4 hv1) (M8 _ (.d (.tup [])) W (M6 W) (fun w5=>nomatch C1 w5 hv1) (M8 _ (di 0) W (M6 W) (fun w6=>nomatch C1 w6 hv1) (M8 _ (di 0) W (M6 W) (fun w7=>nomatch C1 w7 hv1) (M8 _ (.d (.tup [])) W (M6 W) (fun w8=>nomatch C1 w8 hv1) (M8 _ (di 0) W (M6 W) (fun w9=>nomatch C1 w9 hv1) (O3 _ (bo false) (M6 W) (fun w10=>nomatch C1 w10 hv1) (sa W W W<|A1<|cc W hz2 (fun c2 hz2=> ?_)<|fun c2 hz2=> ?_))))))))
 refine A8<|A5<|A7<|E8 W<|sv W<|sv W<|sv W<|sv W<|sv W<|sv W<|sv W<|sv W ?_
 cases hz2
 refine C8 W ?_
 cases hz2
 obtain rfl:=ez2 _ rfl
 refine ⟨nofun,C7 W<|U7 ?_⟩
 exact ⟨(),(F3 W W)⟩
 rintro _ ⟨g2,q1⟩
 refine E2<|B4 q1<|B8<|sv W<|sv W<|sv W<|A1<|E4 ?_
 cases hz1
 exact ⟨W,(),(F3 W W)⟩
 refine C8 W ?_
 cases hz1
 obtain rfl:=ez1 _ rfl
 refine ⟨nofun,C7 W<|E4 ?_⟩
 exact A6 (.inl W) W (.refl _)
def N1 [Lp](x1:(Int×Int×Int×Bool×Bool)):Option (Stp (Int×Int×Int×Bool×Bool) Unit):=
  cond (decide ((D6 (x1.2.1 - x1.1))≤12)) ((L9 x1.1 x1.2.1).bind fun v1=>some (.out (()))) (cond (x1.2.2.1==0) (none) ((cond (!x1.2.2.2.1) (none) (some ())).bind fun _=>none))
def O1 [Lp](p1:Int)(p2:Int)(p3:Int):Option Unit:=
  loop (N1) (p1,p2,p3,true,true)
theorem Nw(p1 p2 p3 r)(h:O1 p1 p2 p3=some r):PCall prog 266 [.nilS,(i64 p1),(i64 p2),(i64 p3)] (.tup []):=by
 refine C4 (fk func266 ntmps266 m0 (by with_unfolding_all rfl)) (nl W) ?_
 unfold O1 at h
 refine B4 (s0:=⟨T [(0,(.d _)),(1,(.d _)),(2,(.d _)),(3,(.d _))],G []⟩) (F3 W W) ?_
 refine B0<|sv W<|A1<|B0<|sv W<|A1<|A7<|E3 (N1) (fun (x1:(Int×Int×Int×Bool×Bool)) (g1:Unit)=>⟨T [(0,(.d .nilS)),(1,(di x1.1)),(2,(di x1.2.1)),(3,(di x1.2.2.1)),(8,(.d (bo x1.2.2.2.1))),(9,(.d (bo x1.2.2.2.2)))],G []⟩) (p1,p2,p3,true,true) () _ h (F3 W W) ?_
 intro x1 g1 z1 hz1 ez1
 unfold N1 at hz1
 refine A7<|B0<|sv W<|sv W<|sv W<|sv W<|A1<|A5<|B0<|sv W<|sv W<|A1<|cc W hz1 (fun c1 hz1=> ?_)<|fun c1 hz1=> ?_
 refine B0<|sv W<|sv W<|sv W<|bs hz1 fun _ hv1 hz1=>A9 W W A3 (Kc _ _ _ hv1) (.inl W) (A1<|B2 ?_)
 cases hz1
 obtain rfl:=ez1 _ rfl
 refine ⟨nofun,E6 ?_⟩
 exact A6 (.inr W) W (.refl _)
 refine A8<|A5<|B0<|sv W<|sv W<|A1<|cc W hz1 (fun c2 hz1=> ?_)<|fun c2 hz1=> ?_
 refine B0<|sv W<|sv W<|sv W ?_
 cases hz1
 refine A8<|A5<|B0<|sv W<|B9 (.d (bo (!x1.2.2.2.1))) W W (A1<|bs hz1 fun _ hy1 hz1=>D9 (fun s=> ∃g2:Unit,Sb ⟨T [(0,(.d .nilS)),(1,(di x1.1)),(2,(di x1.2.1)),(3,(di x1.2.2.1)),(8,(.d (bo x1.2.2.2.1))),(9,(.d (bo x1.2.2.2.2))),(10,(di<|D6 (x1.2.1 - x1.1)))],G []⟩ s) ?_ ?_)
 refine cc W hy1 (fun c3 hy1=> ?_)<|fun c3 hy1=> ?_
 refine B0<|sv W<|sv W<|sv W ?_
 cases hy1
 refine A8 ?_
 cases hy1
 exact U7 ⟨(),(F3 W W)⟩
 rintro _ ⟨g2,q1⟩
 refine B4 q1<|B0<|sv W<|sv W<|sv W ?_
 cases hz1
def O6 [Lp]:Option Unit:=
  (Jk (IntKind.wrap .u64 0)).bind fun v1=>(O1 0 0 v1).bind fun v2=>some ()
theorem Qk(r)(h:O6=some r):PCall prog 252 [.nilS] (.tup []):=by
 refine C4 (fk func252 ntmps252 m0 (by with_unfolding_all rfl)) (nl W) ?_
 unfold O6 at h
 refine B4 (s0:=⟨T [(0,(.d _))],G []⟩) (F3 W W) ?_
 refine B0<|sv W<|sv W<|sv W<|A1<|B8<|sv W<|sv W<|sv W<|sv W<|bs h fun _ hv1 h=>A9 W W A3 (Ur _ _ hv1) (.inl W) (bs h fun _ hv2 h=>A9 W W A3 (Nw _ _ _ _ hv2) (.inl W) (A1<|E4 ?_))
 cases h
 exact A6 (.inl W) W (.refl _)
def Ae [Lp](p1:Map)(p2:Int)(p3:Int)(v1:Zone)(x2:((List Int)×Int)):Option (Stp ((List Int)×Int) (List Int)):=
  cond (decide (x2.2< (v1.Parts.length:Int))) ((C0 v1.Parts x2.2).bind fun v2=>((cond (v2.Lane_==p2) (C0 p1.Signals (D6 (v1.Signal_ - 1))) (some default))).bind fun v3=>((cond (v2.Lane_==p2) (Fg v3 p2 p3) (some default))).bind fun v4=>cond ((v2.Lane_==p2)&& (!v4)) ((X3 x2.1 [v2.From]).bind fun v5=>some (.go (v5,(D6 (x2.2+1))))) (some (.go (x2.1,(D6 (x2.2+1)))))) (some (.out x2.1))
def Af [Lp](p1:Map)(p2:Int)(p3:Int)(x1:((List Int)×Int)):Option (Stp ((List Int)×Int) (List Int)):=
  cond (decide (x1.2< (p1.Zones.length:Int))) ((C0 p1.Zones x1.2).bind fun v1=>cond (v1.Signal_==0) (some (.go (x1.1,(D6 (x1.2+1))))) ((loop (Ae p1 p2 p3 v1) (x1.1,0)).bind fun y2=>some (.go (y2,(D6 (x1.2+1)))))) (some (.out x1.1))
def Mw [Lp](p1:Map)(p2:Int)(p3:Int):Option (List Int):=
  (loop (Af p1 p2 p3) ([],0)).bind fun y1=>cond (List.isEmpty y1) ((O6).bind fun v8=>some []) ((O5 y1).bind fun v6=>(ED v6).bind fun v7=>some v7)
theorem PZ(p1 p2 p3 r)(h:Mw p1 p2 p3=some r):PCall prog 223 [(.agg (Q0 p1)),(i64 p2),(i64 p3)] (.list (List.map A4 r)):=by
 refine C4 (fk func223 ntmps223 (fun r=>if r==10 then [1003]else if r==13 then [1013001]else if r==14 then [1014001]else []) (by with_unfolding_all rfl)) (nl W) ?_
 unfold Mw at h
 refine B4 (s0:=⟨T [(0,(.d _)),(1,(.d _)),(2,(.d _))],G []⟩) (F3 W W) ?_
 refine lr<|fun u1 _=>sm W<|sv W<|A1<|B0<|sv W<|A1<|A5<|B0<|sq W<|sl W G_hit W<|sd W (D8 W)<|sv W<|A1<|bs h fun y1 hy1 h=>D9 (fun s=> ∃g1:Nat,Sb ⟨T [(7,(oS y1 (50,g1)))],G [((50,g1),oB 2 1 A4 y1)]⟩ s) ?_ ?_
 refine A7<|E3 (Af p1 p2 p3) (fun (x1:((List Int)×Int)) (g2:Nat)=>⟨T [(1,(di p2)),(2,(di p3)),(3,(.ptr (3,u1) 0)),(7,(oS x1.1 (50,g2))),(13,(dl Gl p1.Zones)),(14,(di (p1.Zones.length:Int))),(15,(di x1.2))],G [((3,u1),some<|.box 33 (L8 p1)),((50,g2),oB 2 1 A4 x1.1)]⟩) ([],0) 0 _ hy1 (E1 (Z1 W)<|B5 G_hit (.of W)<|S4 trivial) ?_
 intro x1 g2 z1 hz1 ez1
 unfold Af at hz1
 refine B0<|sv W<|A1<|A5<|cc W hz1 (fun c1 hz1=> ?_)<|fun c1 hz1=> ?_
 refine A8<|A5<|A7<|lr<|fun u5 _=>bs hz1 fun v1 hv1 hz1=>sd W (C5 W W hv1 W)<|sd W (D3 W hv1 W W)<|sm W<|U1 W G_hit [(dl Bk v1.Parts),(di v1.Signal_)] W (A1<|A5<|B0<|sq W<|sl W G_hit W<|sv W<|A1<|cc W hz1 (fun c2 hz1=> ?_)<|fun c2 hz1=> ?_)
 refine Tu W<|B8<|sv W<|sv W<|A1<|E4 ?_
 cases hz1
 exact ⟨W,g2,(E1 (Z1 W)<|sg W<|B7 (gq W) trivial)⟩
 refine A8<|B0<|sq W<|sl W G_hit W<|sd W (D8 W)<|sv W<|A1<|bs hz1 fun y2 hy2 hz1=>D9 (fun s=> ∃g3:Nat,Sb ⟨T [(1,(di p2)),(2,(di p3)),(3,(.ptr (3,u1) 0)),(7,(oS y2 (50,g3))),(13,(dl Gl p1.Zones)),(14,(di (p1.Zones.length:Int))),(15,(di x1.2))],G [((3,u1),some<|.box 33 (L8 p1)),((50,g3),oB 2 1 A4 y2)]⟩ s) ?_ ?_
 refine A7<|E3 (Ae p1 p2 p3 v1) (fun (x2:((List Int)×Int)) (g4:Nat)=>⟨T [(1,(di p2)),(2,(di p3)),(3,(.ptr (3,u1) 0)),(7,(oS x2.1 (50,g4))),(9,(.ptr (9,u5) 0)),(13,(dl Gl p1.Zones)),(14,(di (p1.Zones.length:Int))),(15,(di x1.2)),(23,(dl Bk v1.Parts)),(24,(di (v1.Parts.length:Int))),(25,(di x2.2))],G [((3,u1),some<|.box 33 (L8 p1)),((9,u5),some<|.box 117 [(dl Bk v1.Parts),(di v1.Signal_)]),((50,g4),oB 2 1 A4 x2.1)]⟩) (x1.1,0) g2 _ hy2 (E1 (Z1 W)<|sg W<|B5 G_hit (.of W)<|B7 (gq W) trivial) ?_
 intro x2 g4 z2 hz2 ez2
 unfold Ae at hz2
 refine B0<|sv W<|A1<|A5<|cc W hz2 (fun c3 hz2=> ?_)<|fun c3 hz2=> ?_
 refine A8<|A5<|A7<|B0<|bs hz2 fun v2 hv2 hz2=>sd W (C5 W W hv2 W)<|sd W (D3 W hv2 W W)<|sm W<|U1 W G_hit (AT v2) W (A1<|B0<|sq W<|sl W G_hit W<|sv W<|sv W<|sv W<|gp W (M6 W) (fun _=>W) (gt W (vl W (gq W) W)<|gp W (M6 W) (fun _=>W) (gt W (vl W (gq W) W)<|gt W (vb W W W)<|bs hz2 fun v3 hv3 hz2=>gt W (fun w6=>(C5 (A2 w6) (A2 w6) (C1 w6 hv3) W))<|gt W (fun w7=>(D3 (A2 w7) (C1 w7 hv3) W W))<|gt W (fun _=>W)<|gt W (fun _=>W)<|bs hz2 fun v4 hv4 hz2=> ?_)))
 refine O3 _ (bo v4) (M6 W) (fun w10=>⟨_,[(.d (.agg [(i64 v3.Offset),(.list (List.map Az v3.Phases))])),(di p2),(di p3)],_,_,(by simp only [A2 w10];rfl),W,A3,Yu _ _ _ _<|C1 w10 hv4,(.inl W)⟩) ?_
 refine M8 _ (.d (bo (!v4))) W (M6 W) (fun w11=>(by simp only [A2 w11];rfl)) ?_
 refine sa W W W<|A1<|cc W hz2 (fun c4 hz2=> ?_)<|fun c4 hz2=> ?_
 refine Bj fun u12 _=>B9 (oS x2.1 (50,g4)) W W (sq W<|sl W G_hit W<|B9 (dl A4 [v2.From]) W W (bs hz2 fun _ hv5 hz2=>P9 A4 (50,g4) x2.1 v2.From [] _ (L7<|fun _=>W) W (gq W) hv5 (ss W<|A1<|E2<|B8<|sv W<|sv W<|A1<|E4 ?_)))
 cases hz2
 exact ⟨W,u12,(E1 ⟨.of W, .of W, .of W,(.of (U8<|V0 hv5).symm), .of W, .of W, .of W, .of W, .of W, .of W, .of W,trivial⟩<|sg W<|sg W<|N7 G_hit trivial)⟩
 refine A8<|E2<|B8<|sv W<|sv W<|A1<|E4 ?_
 cases hz2
 exact ⟨W,g4,(E1 (Z1 W)<|sg W<|sg W<|B7 (gq W) trivial)⟩
 refine C8 W ?_
 cases hz2
 obtain rfl:=ez2 _ rfl
 refine ⟨nofun,C7 W<|U7 ?_⟩
 exact ⟨g4,(E1 (Z1 W)<|B5 G_hit (.of W)<|B7 (gq W) trivial)⟩
 rintro _ ⟨g3,q1⟩
 refine E2<|B4 q1<|B8<|sv W<|sv W<|A1<|E4 ?_
 cases hz1
 exact ⟨W,g3,(E1 (Z1 W)<|B5 G_hit (.of W)<|B7 (gq W) trivial)⟩
 refine C8 W ?_
 cases hz1
 obtain rfl:=ez1 _ rfl
 refine ⟨nofun,C7 W<|U7 ?_⟩
 exact ⟨g2,(E1 ⟨.of W,trivial⟩<|B7 (gq W) trivial)⟩
 rintro _ ⟨g1,q2⟩
 refine B4 q2<|A5 ?_
 rcases NM h with ⟨e1,h⟩|⟨e1,h⟩
 refine B4 (s0:=⟨T [(7,(.d .nilS))],G []⟩) (E1 ⟨.of (fH e1),trivial⟩ trivial) ?_
 refine B8<|sv W<|bs h fun _ hv8 h=>FN (v:= .d (.tup [])) (us:= []) (jQ [] _ W W A3 (Qk _ hv8) W W) (A1<|B0<|sv W<|FN (v:= .d .nilS) (us:= []) (jQ [] _ W W A3 jX W W) (sv W<|A1<|B2 ?_))
 cases h
 exact A6 (.inr W) (B6 (B3 W) C2) DLe.nil
 refine B4 (s0:=⟨T [(7,(.sl (50,g1)))],G [((50,g1),some<|.arr 2 1 (List.map A4 y1))]⟩) (E1 ⟨.of (U8 e1),trivial⟩<|B5 (Ie G_hit e1) (.of W) trivial) ?_
 refine B8<|ss W<|bs h fun v6 hv6 h=>FN (v:= .d (.tup [])) (us:= [(50,g1)]) (MD (Qj _ _ hv6) [(50,g1)] [(50,g1)] _ (((50,g1),some<|.arr 2 1 (List.map A4 v6))::_) W Nm (Y1 EA Tv) (Kr G_hit Iw) ⟨⟨_,G_hit, .of W⟩,trivial⟩ (fun _ h=>h) nd1 W W W) (A1<|lr<|fun u18 _=>ss W<|bs h fun v7 hv7 h=>FN (v:= .sl (10140010,u18)) (us:= [(50,g1),(10140010,u18)]) (MD (pQ _ _ hv7) [(50,g1)] [(50,g1)] _ (((10140010,u18),some<|.arr 2 1 (List.map A4 v7))::((50,g1),none)::_) W Nm (Y1 EA Tv) (Kr G_hit Iw) ⟨⟨_,G_hit, .of W⟩,trivial⟩ (fun _ h=>h) nd1 W W W) (ss W<|A1<|B2 ?_))
 cases h
 exact A6 (.inr W) (B6 (B3 W)<|NH G_hit) (.refl _)
def Es [Lp](p1:Map)(p2:Int)(p3:Int):Option (List Int):=
  ((cond (!(decide (p3<0))) (Ls p1 p2) (some default))).bind fun v1=>cond ((decide (p3<0))||(!v1)) (some []) ((Mw p1 p2 p3).bind fun v2=>some v2)
theorem QA(p1 p2 p3 r)(h:Es p1 p2 p3=some r):PCall prog 180 [(.agg (Q0 p1)),(i64 p2),(i64 p3)] (.list (List.map A4 r)):=by
 refine C4 (fk func180 ntmps180 m0 (by with_unfolding_all rfl)) (nl W) ?_
 unfold Es at h
 refine B4 (s0:=⟨T [(0,(.d _)),(1,(.d _)),(2,(.d _))],G []⟩) (F3 W W) ?_
 refine B0<|sm W<|sv W<|A1<|A5<|B0<|sv W<|sv W<|sv W<|gf W (fun _=>(B1 W G_hit W W))<|gf W (fun _=>W)<|bs h fun v1 hv1 h=> ?_
 refine O3 _ (bo v1) (K6 W) (fun w3=>⟨_,[(.d (.agg (Q0 p1))),(di p2)],_,_,(by simp only [A2 w3];rfl),W,A3,Yt _ _ _<|C1 w3 hv1,(.inl W)⟩) ?_
 refine M8 _ (.d (bo (!v1))) W (K6 W) (fun w4=>(by simp only [A2 w4];rfl)) ?_
 refine sd W (N9 W W<|fun hc=>A2<|J4 hc)<|A1<|cc W h (fun c1 h=> ?_)<|fun c1 h=> ?_
 refine B0<|sv W<|A1<|B2 ?_
 cases h
 exact A6 (.inr W) (B6 (B3 W) C2) DLe.nil
 refine A8<|B0<|sd W (B1 W G_hit W W)<|sv W<|sv W<|bs h fun _ hv2 h=>A9 W W A3 (PZ _ _ _ _ hv2) (.inl W) (sv W<|A1<|B2 ?_)
 cases h
 exact A6 (.inr W) (B6 (B3 W) C2) (.refl _)
def Y8 (p1:Int)(p2:Agent)(p3:Int):Option Int:=
  some (Mg true 0 (Mg false (D6 (p2.V+p1)) p3))
theorem Qs(p1 p2 p3 r)(h:Y8 p1 p2 p3=some r):PCall prog 179 [(i64 p1),(.bp (D0 p2) 0),(.bp [(i64 p3)] 0)] (i64 r):=by
 refine C4 (fk func179 ntmps179 m0 (by with_unfolding_all rfl)) (nl W) ?_
 unfold Y8 at h
 refine B4 (s0:=⟨T [(0,(.d _)),(1,(.d _)),(2,(.d _))],G []⟩) (F3 W W) ?_
 refine B0<|sv W<|A1<|B0<|sv W<|sv W<|sv W<|sv W<|sv W<|sv W<|sv W<|sv W<|A1<|B2 ?_
 cases h
 exact A6 (.inr W) (B6 (B3 W) C2) (.refl _)
def Mk (p1:Int)(p2:Int):Option Int:=
  cond ((decide (p1<1))||(decide (p2<1))) (some 0) ((PN .i64 (D6 ((Mg false p1 1000000) - 1)) (Mg false p2 1000000)).bind fun v1=>some (D6 ((D6 (v1* (Mg false p1 1000000))) - (D6 ((Mg false p2 1000000)* (D6 ((D6 (v1* (D6 (v1+1)))).tdiv 2)))))))
theorem Ua(p1 p2 r)(h:Mk p1 p2=some r):PCall prog 41 [(i64 p1),(i64 p2)] (i64 r):=by
 refine C4 (fk func41 ntmps41 m0 (by with_unfolding_all rfl)) (nl W) ?_
 unfold Mk at h
 refine B4 (s0:=⟨T [(0,(.d _)),(1,(.d _))],G []⟩) (F3 W W) ?_
 refine B0<|sv W<|A1<|A5<|B0<|sv W<|sv W<|sv W<|gf W (fun _=>W)<|gf W (vb W W W)<|sd W (N9 W W<|fun hc=>A2<|J4 hc)<|A1<|cc W h (fun c1 h=> ?_)<|fun c1 h=> ?_
 refine B0<|sv W<|A1<|B2 ?_
 cases h
 exact A6 (.inr W) (B6 (B3 W) C2) (.refl _)
 refine A8<|B0<|sv W<|sv W<|sv W<|sv W<|sv W<|sv W<|A1<|B0<|sv W<|sv W<|sv W<|bs h fun _ hv1 h=>sd W (eN W W hv1)<|sv W<|A1<|B0<|sv W<|sv W<|sv W<|sv W<|sv W<|sv W<|sv W<|sv W<|sv W<|sv W<|sv W<|sv W<|A1<|B2 ?_
 cases h
 exact A6 (.inr W) (B6 (B3 W) C2) (.refl _)
end
end Go.Abs.World
