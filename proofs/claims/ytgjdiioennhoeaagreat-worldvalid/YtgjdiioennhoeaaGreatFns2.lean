/-
  The functions, part 2.
-/
import Derived.Test.YtgjdiioennhoeaaGreatFns1
set_option maxRecDepth 20000
set_option maxHeartbeats 4000000
set_option linter.unusedVariables false
namespace Go.Abs.World
noncomputable section
open Go Go.Abs Go.Proofs Tryz
attribute [local irreducible] L6 Ew Da
def D0 [Lp](p2:Int)(x2:(Int× (List Pass))):Option (Stp (Int× (List Pass)) (List Pass)):=
  ((cond (decide (x2.1>p2)) (C0 x2.2 x2.1) (some default))).bind fun v1=>((cond (decide (x2.1>p2)) (C0 x2.2 (D6 (x2.1 - 1))) (some default))).bind fun v2=>((cond (decide (x2.1>p2)) (Cd v1 v2) (some default))).bind fun v3=>cond ((decide (x2.1>p2))&& (decide (v3<0))) ((C0 x2.2 (D6 (x2.1 - 1))).bind fun v4=>(C0 x2.2 x2.1).bind fun v5=>(C0 x2.2 x2.1).bind fun v6=>(C0 (Lq x2.2 x2.1 v4) (D6 (x2.1 - 1))).bind fun v7=>some (.go ((D6 (x2.1 - 1)),(Lq (Lq x2.2 x2.1 v4) (D6 (x2.1 - 1)) v5)))) (some (.out x2.2))
def D7 [Lp](p2:Int)(p3:Int)(x1:(Int× (List Pass))):Option (Stp (Int× (List Pass)) (List Pass)):=
  cond (decide (x1.1<p3)) ((loop (D0 p2) (x1.1,x1.2)).bind fun y1=>some (.go ((D6 (x1.1+1)),y1))) (some (.out (x1.2)))
def D3 [Lp](p1:(List Pass))(p2:Int)(p3:Int):Option (List Pass):=
  loop (D7 p2 p3) ((D6 (p2+1)),p1)
theorem V6(p1 p2 p3 r)(h:D3 p1 p2 p3=some r):MCall prog 282 [(.sl (900000,0)),(di p2),(di p3),(.d (.fn (.func 264) [] []))] [(.arr 229 4 (List.map Q6 p1))] (.d (.tup [])) [some (.arr 229 4 (List.map Q6 r))] []:=by
 refine Vl (fk func282 ntmps282 m0 (by with_unfolding_all rfl)) W (nl W) ?_
 unfold D3 at h
 refine B4 (s0:=⟨T [(0,(.sl _)),(1,(.d _)),(2,(.d _)),(3,(.d _))],G [((900000,0),some _)]⟩) (F4 W W) ?_
 refine B0<|sv W<|sv W<|sv W<|A1<|A7<|E3 (D7 p2 p3) (fun (x1:(Int× (List Pass))) (g1:Unit)=>⟨T [(0,(.sl (900000,0))),(1,(di p2)),(2,(di p3)),(3,(.d (.fn (.func 264) [] []))),(8,(di x1.1))],G [((900000,0),some<|.arr 229 4 (List.map Q6 x1.2))]⟩) ((D6 (p2+1)),p1) () _ h (F4 W W) ?_
 intro x1 g1 z1 hz1 ez1
 unfold D7 at hz1
 refine A5<|B0<|sv W<|sv W<|sv W<|A1<|cc W hz1 (fun c1 hz1=> ?_)<|fun c1 hz1=> ?_
 refine A8<|A5<|A7<|B0<|sv W<|sv W<|A1<|bs hz1 fun y1 hy1 hz1=>D9 (fun s=> ∃g2:Unit,Sb ⟨T [(0,(.sl (900000,0))),(1,(di p2)),(2,(di p3)),(3,(.d (.fn (.func 264) [] []))),(8,(di x1.1))],G [((900000,0),some<|.arr 229 4 (List.map Q6 y1))]⟩ s) ?_ ?_
 refine A7<|E3 (D0 p2) (fun (x2:(Int× (List Pass))) (g3:Unit)=>⟨T [(0,(.sl (900000,0))),(1,(di p2)),(2,(di p3)),(3,(.d (.fn (.func 264) [] []))),(8,(di x1.1)),(9,(di x2.1))],G [((900000,0),some<|.arr 229 4 (List.map Q6 x2.2))]⟩) (x1.1,x1.2) () _ hy1 (F4 W W) ?_
 intro x2 g3 z2 hz2 ez2
 unfold D0 at hz2
 refine A5<|A5<|F3 W<|sv W<|sv W<|sv W<|sv W<|gt W (fun _=>W)<|M0 _ (.sl _) W (M7 W) (fun _=>W) (gt W (fun _=>W)<|bs hz2 fun v1 hv1 hz2=>M0 _ (.aptr _ _ _ _) W (M7 W) (fun w4=>(Jz (A2 w4) (A2 w4) G_hit (C2 w4 hv1))) (gt W (fun w5=>(Ps (A2 w5) G_hit (C2 w5 hv1) W W))<|M0 _ (.sl _) W (M7 W) (fun _=>W) (gt W (fun _=>W)<|gt W (vb W W W)<|bs hz2 fun v2 hv2 hz2=>M0 _ (.aptr _ _ _ _) W (M7 W) (fun w9=>(Jz (A2 w9) (A2 w9) G_hit (C2 w9 hv2))) (gt W (fun w10=>(Ps (A2 w10) G_hit (C2 w10 hv2) W W))<|bs hz2 fun v3 hv3 hz2=> ?_))))
 refine N9 _ (i64 v3) (M7 W) (fun w11=>⟨_,[(.d (.agg (Q6 v1))),(.d (.agg (Q6 v2)))],_,_,(by simp only [A2 w11];rfl),W,A3,EB _ _ _<|C2 w11 hv3,(.inl W)⟩) ?_
 refine gt W (vb W W W)<|sa W W W<|A1<|cc W hz2 (fun c2 hz2=> ?_)<|fun c2 hz2=> ?_
 refine A8<|A5<|A7<|F3 W<|ss W<|sv W<|ss W<|sv W<|sv W<|ss W<|sv W<|sv W<|bs hz2 fun v4 hv4 hz2=>B8 (.aptr _ _ _ _) W (Jz W W G_hit hv4) (sd W (Ps W G_hit hv4 W W)<|ss W<|sv W<|bs hz2 fun v5 hv5 hz2=>B8 (.aptr _ _ _ _) W (Jz W W G_hit hv5) (sd W (Ps W G_hit hv5 W W)<|bs hz2 fun _ hv6 hz2=>B8 (.aptr _ _ _ _) W (Jz W W G_hit hv6) (Pr Q6 _ _ _ (x2.1) _ v4 (Q6 v4) W W W G_hit hv6 (nl W) W (bs hz2 fun _ hv7 hz2=>B8 (.aptr _ _ _ _) W (Jz W W G_hit hv7) (Pr Q6 _ _ _ ((D6 (x2.1 - 1))) _ v5 (Q6 v5) W W W G_hit hv7 (nl W) W (A1<|E2<|B9<|sv W<|sv W<|sv W<|A1<|E4 ?_))))))
 cases hz2
 exact ⟨W,(),(F4 W W)⟩
 refine C8 W ?_
 cases hz2
 obtain rfl:=ez2 _ rfl
 refine ⟨nofun,C6 W<|U8 ?_⟩
 exact ⟨(),(F4 W W)⟩
 rintro _ ⟨g2,q1⟩
 refine E2<|B4 q1<|B9<|sv W<|sv W<|sv W<|A1<|E4 ?_
 cases hz1
 exact ⟨W,(),(F4 W W)⟩
 refine C8 W ?_
 cases hz1
 obtain rfl:=ez1 _ rfl
 refine ⟨nofun,C6 W<|E4 ?_⟩
 exact BX (.inl W) [] BY (.refl _) ⟨⟨G_hit,Fr⟩,trivial⟩
def R7 (p2:Int)(x3:(Int×Int)):Option (Stp (Int×Int) Int):=
  cond (decide (x3.2≤p2)) (none) (some (.out x3.1))
def G9 [Lp](p2:Int)(v2:(List Pass))(x2:Int):Option (Stp Int (List Pass)):=
  cond (decide (x2<p2)) ((loop (R7 p2) (0,(D6 (2*x2)))).bind fun y2=>cond (decide ((D6 (y2+x2))<p2)) (none) (some (.go (D6 (x2*2))))) (some (.out (v2)))
def E0 [Lp](p2:Int)(x1:(Int×Int× (List Pass))):Option (Stp (Int×Int× (List Pass)) (Int× (List Pass))):=
  cond (decide (x1.2.1≤p2)) ((D3 x1.2.2 x1.1 x1.2.1).bind fun v1=>some (.go (x1.2.1,(D6 (x1.2.1+20)),v1))) (some (.out (x1.1,x1.2.2)))
def J7 [Lp](p1:(List Pass))(p2:Int):Option (List Pass):=
  (loop (E0 p2) (0,20,p1)).bind fun y1=>(D3 y1.2 y1.1 p2).bind fun v2=>loop (G9 p2 v2) 20
theorem Gn(p1 p2 r)(h:J7 p1 p2=some r):MCall prog 270 [(.sl (900000,0)),(di p2),(.d (.fn (.func 264) [] []))] [(.arr 229 4 (List.map Q6 p1))] (.d (.tup [])) [some (.arr 229 4 (List.map Q6 r))] []:=by
 refine Vl (fk func270 ntmps270 (fun r=>if r==3 then [1003004]else if r==6 then [1006004]else []) (by with_unfolding_all rfl)) W (nl W) ?_
 unfold J7 at h
 refine B4 (s0:=⟨T [(0,(.sl _)),(1,(.d _)),(2,(.d _))],G [((900000,0),some _)]⟩) (F4 W W) ?_
 refine B0<|sv W<|A1<|B0<|sv W<|sv W<|sv W<|A1<|A5<|bs h fun y1 hy1 h=>D9 (fun s=> ∃g1:Unit,Sb ⟨T [(0,(.sl (900000,0))),(1,(di p2)),(2,(.d (.fn (.func 264) [] []))),(6,(di 20)),(7,(di y1.1))],G [((900000,0),some<|.arr 229 4 (List.map Q6 y1.2))]⟩ s) ?_ ?_
 refine A7<|E3 (E0 p2) (fun (x1:(Int×Int× (List Pass))) (g2:Unit)=>⟨T [(0,(.sl (900000,0))),(1,(di p2)),(2,(.d (.fn (.func 264) [] []))),(6,(di 20)),(7,(di x1.1)),(8,(di x1.2.1))],G [((900000,0),some<|.arr 229 4 (List.map Q6 x1.2.2))]⟩) (0,20,p1) () _ hy1 (F4 W W) ?_
 intro x1 g2 z1 hz1 ez1
 unfold E0 at hz1
 refine A5<|B0<|sv W<|sv W<|sv W<|A1<|cc W hz1 (fun c1 hz1=> ?_)<|fun c1 hz1=> ?_
 refine A8<|A7<|B0<|ss W<|sv W<|sv W<|sv W<|bs hz1 fun v1 hv1 hz1=>FJ (v:= .d (.tup [])) (us:= [(900000,0)]) (LV (V6 _ _ _ _ hv1) [(900000,0)] [(900000,0)] _ (((900000,0),some<|.arr 229 4 (List.map Q6 v1))::_) W Nm (Y1 DV<|Y1 BW<|Y1 BW<|Y1 BW Tq) (Kt G_hit Iw) ⟨⟨_,G_hit, .of W⟩,trivial⟩ (fun _ h=>h) nd1 W W W) (A1<|B0<|sv W<|sv W<|A1<|B9<|sv W<|sv W<|sv W<|sv W<|A1<|E2<|E4 ?_)
 cases hz1
 exact ⟨W,(),(F4 W W)⟩
 refine C8 W ?_
 cases hz1
 obtain rfl:=ez1 _ rfl
 refine ⟨nofun,C6 W<|U8 ?_⟩
 exact ⟨(),(F4 W W)⟩
 rintro _ ⟨g1,q1⟩
 refine B4 q1<|B0<|ss W<|sv W<|sv W<|sv W<|bs h fun v2 hv2 h=>FJ (v:= .d (.tup [])) (us:= [(900000,0)]) (LV (V6 _ _ _ _ hv2) [(900000,0)] [(900000,0)] _ (((900000,0),some<|.arr 229 4 (List.map Q6 v2))::_) W Nm (Y1 DV<|Y1 BW<|Y1 BW<|Y1 BW Tq) (Kt G_hit Iw) ⟨⟨_,G_hit, .of W⟩,trivial⟩ (fun _ h=>h) nd1 W W W) (A1<|A7<|E3 (G9 p2 v2) (fun (x2:Int) (g3:Unit)=>⟨T [(0,(.sl (900000,0))),(1,(di p2)),(2,(.d (.fn (.func 264) [] []))),(6,(di x2))],G [((900000,0),some<|.arr 229 4 (List.map Q6 v2))]⟩) 20 () _ h (F4 W W) ?_)
 intro x2 g3 z2 hz2 ez2
 unfold G9 at hz2
 refine A5<|B0<|sv W<|sv W<|sv W<|A1<|cc W hz2 (fun c2 hz2=> ?_)<|fun c2 hz2=> ?_
 refine A8<|A7<|B0<|sv W<|sv W<|sv W<|sv W<|A1<|A5<|bs hz2 fun y2 hy2 hz2=>D9 (fun s=> ∃g4:Unit,Sb ⟨T [(0,(.sl (900000,0))),(1,(di p2)),(2,(.d (.fn (.func 264) [] []))),(6,(di x2)),(7,(di y2))],G [((900000,0),some<|.arr 229 4 (List.map Q6 v2))]⟩ s) ?_ ?_
 refine A7<|E3 (R7 p2) (fun (x3:(Int×Int)) (g5:Unit)=>⟨T [(0,(.sl (900000,0))),(1,(di p2)),(2,(.d (.fn (.func 264) [] []))),(6,(di x2)),(7,(di x3.1)),(8,(di x3.2))],G [((900000,0),some<|.arr 229 4 (List.map Q6 v2))]⟩) (0,(D6 (2*x2))) () _ hy2 (F4 W W) ?_
 intro x3 g5 z3 hz3 ez3
 unfold R7 at hz3
 refine A5<|B0<|sv W<|sv W<|sv W<|A1<|cc W hz3 (fun c3 hz3=> ?_)<|fun c3 hz3=> ?_
 refine A8<|A7<|B0<|ss W<|sv W<|sv W<|sv W<|sv W<|sv W<|sv W ?_
 cases hz3
 refine C8 W ?_
 cases hz3
 obtain rfl:=ez3 _ rfl
 refine ⟨nofun,C6 W<|U8 ?_⟩
 exact ⟨(),(F4 W W)⟩
 rintro _ ⟨g4,q2⟩
 refine B4 q2<|A5<|B0<|sv W<|sv W<|sv W<|sv W<|A1<|B0<|sv W<|sv W<|sv W<|A1<|cc W hz2 (fun c4 hz2=> ?_)<|fun c4 hz2=> ?_
 refine B9<|ss W<|sv W<|sv W<|sv W<|sv W ?_
 cases hz2
 refine A8<|B9<|sv W<|sv W<|sv W<|A1<|E2<|E4 ?_
 cases hz2
 exact ⟨W,(),(F4 W W)⟩
 refine C8 W ?_
 cases hz2
 obtain rfl:=ez2 _ rfl
 refine ⟨nofun,C6 W<|E4 ?_⟩
 exact BX (.inl W) [] BY (.refl _) ⟨⟨G_hit,Fr⟩,trivial⟩
def F9 [Lp](p1:(List Pass)):Option (List Pass):=
  (J7 p1 (p1.length:Int)).bind fun v1=>some v1
theorem Do(p1 r)(h:F9 p1=some r):MCall prog 263 [(.sl (900000,0)),(.d (.fn (.func 264) [] []))] [(.arr 229 4 (List.map Q6 p1))] (.d (.tup [])) [some (.arr 229 4 (List.map Q6 r))] []:=by
 refine Vl (fk func263 ntmps263 (fun r=>if r==0 then [1000004]else []) (by with_unfolding_all rfl)) W (nl W) ?_
 unfold F9 at h
 refine B4 (s0:=⟨T [(0,(.sl _)),(1,(.d _))],G [((900000,0),some _)]⟩) (F4 W W) ?_
 refine B9<|ss W<|ss W<|sd W (VF (f:=Q6) W G_hit)<|sv W<|bs h fun v1 hv1 h=>FJ (v:= .d (.tup [])) (us:= [(900000,0)]) (LV (Gn _ _ _ hv1) [(900000,0)] [(900000,0)] _ (((900000,0),some<|.arr 229 4 (List.map Q6 v1))::_) W Nm (Y1 DV<|Y1 BW<|Y1 BW Tq) (Kt G_hit Iw) ⟨⟨_,G_hit, .of W⟩,trivial⟩ (fun _ h=>h) nd1 W W W) (A1<|E4 ?_)
 obtain rfl:=(lD h)
 exact BX (.inl W) [] BY (.refl _) ⟨⟨G_hit,Fr⟩,trivial⟩
def P1 (p1:Int)(x2:Int):Option (Stp Int Unit):=
  ((cond (decide (x2>p1)) ((none:Option Unit)) (some default))).bind fun v1=>cond ((decide (x2>p1))&&false) (none) (some (.out ()))
def I4 [Lp](p1:Int)(p2:Int)(x1:Int):Option (Stp Int Unit):=
  cond (decide (x1<p2)) ((loop (P1 p1) x1).bind fun _=>some (.go (D6 (x1+1)))) (some (.out (())))
def E7 [Lp](p1:Int)(p2:Int):Option Unit:=
  loop (I4 p1 p2) (D6 (p1+1))
theorem V7(p1 p2 r)(h:E7 p1 p2=some r):PCall prog 282 [.nilS,(i64 p1),(i64 p2),(.fn (.func 264) [] [])] (.tup []):=by
 refine C4 (fk func282 ntmps282 m0 (by with_unfolding_all rfl)) (nl W) ?_
 unfold E7 at h
 refine B4 (s0:=⟨T [(0,(.d _)),(1,(.d _)),(2,(.d _)),(3,(.d _))],G []⟩) (F4 W W) ?_
 refine B0<|sv W<|sv W<|sv W<|A1<|A7<|E3 (I4 p1 p2) (fun (x1:Int) (g1:Unit)=>⟨T [(0,(.d .nilS)),(1,(di p1)),(2,(di p2)),(3,(.d (.fn (.func 264) [] []))),(8,(di x1))],G []⟩) (D6 (p1+1)) () _ h (F4 W W) ?_
 intro x1 g1 z1 hz1 ez1
 unfold I4 at hz1
 refine A5<|B0<|sv W<|sv W<|sv W<|A1<|cc W hz1 (fun c1 hz1=> ?_)<|fun c1 hz1=> ?_
 refine A8<|A5<|A7<|B0<|sv W<|sv W<|A1<|bs hz1 fun _ hy1 hz1=>D9 (fun s=> ∃g2:Unit,Sb ⟨T [(0,(.d .nilS)),(1,(di p1)),(2,(di p2)),(3,(.d (.fn (.func 264) [] []))),(8,(di x1))],G []⟩ s) ?_ ?_
 refine A7<|E3 (P1 p1) (fun (x2:Int) (g3:Unit)=>⟨T [(0,(.d .nilS)),(1,(di p1)),(2,(di p2)),(3,(.d (.fn (.func 264) [] []))),(8,(di x1)),(9,(di x2))],G []⟩) x1 () _ hy1 (F4 W W) ?_
 intro x2 g3 z2 hz2 ez2
 unfold P1 at hz2
 refine A5<|A5<|F3 W<|sv W<|sv W<|sv W<|sv W<|gt W (fun _=>W)<|gt W (fun _=>W)<|gt W (fun _=>W)<|bs hz2 fun _ hv1 hz2=>M0 _ (.d (.tup [])) W (M7 W) (fun w4=>nomatch C2 w4 hv1) (M0 _ (.d (.tup [])) W (M7 W) (fun w5=>nomatch C2 w5 hv1) (M0 _ (.d (.tup [])) W (M7 W) (fun w6=>nomatch C2 w6 hv1) (M0 _ (di 0) W (M7 W) (fun w7=>nomatch C2 w7 hv1) (M0 _ (di 0) W (M7 W) (fun w8=>nomatch C2 w8 hv1) (M0 _ (.d (.tup [])) W (M7 W) (fun w9=>nomatch C2 w9 hv1) (M0 _ (.d (.tup [])) W (M7 W) (fun w10=>nomatch C2 w10 hv1) (N9 _ (i64 0) (M7 W) (fun w11=>nomatch C2 w11 hv1) (M0 _ (.d (bo false)) W (M7 W) (fun w12=>nomatch C2 w12 hv1) (sa W W W<|A1<|cc W hz2 (fun c2 hz2=> ?_)<|fun c2 hz2=> ?_)))))))))
 refine A8<|A5<|A7<|F3 W<|sv W<|sv W<|sv W<|sv W<|sv W<|sv W<|sv W<|sv W ?_
 cases hz2
 refine C8 W ?_
 cases hz2
 obtain rfl:=ez2 _ rfl
 refine ⟨nofun,C6 W<|U8 ?_⟩
 exact ⟨(),(F4 W W)⟩
 rintro _ ⟨g2,q1⟩
 refine E2<|B4 q1<|B9<|sv W<|sv W<|sv W<|A1<|E4 ?_
 cases hz1
 exact ⟨W,(),(F4 W W)⟩
 refine C8 W ?_
 cases hz1
 obtain rfl:=ez1 _ rfl
 refine ⟨nofun,C6 W<|E4 ?_⟩
 exact A6 (.inl W) W (.refl _)
def R8 (p1:Int)(x3:(Int×Int)):Option (Stp (Int×Int) Int):=
  cond (decide (x3.2≤p1)) (none) (some (.out x3.1))
def I5 [Lp](p1:Int)(x2:Int):Option (Stp Int Unit):=
  cond (decide (x2<p1)) ((loop (R8 p1) (0,(D6 (2*x2)))).bind fun y2=>cond (decide ((D6 (y2+x2))<p1)) (none) (some (.go (D6 (x2*2))))) (some (.out (())))
def I6 [Lp](p1:Int)(x1:(Int×Int)):Option (Stp (Int×Int) Int):=
  cond (decide (x1.2≤p1)) ((E7 x1.1 x1.2).bind fun v1=>some (.go (x1.2,(D6 (x1.2+20))))) (some (.out x1.1))
def J8 [Lp](p1:Int):Option Unit:=
  (loop (I6 p1) (0,20)).bind fun y1=>(E7 y1 p1).bind fun v2=>loop (I5 p1) 20
theorem Gp(p1 r)(h:J8 p1=some r):PCall prog 270 [.nilS,(i64 p1),(.fn (.func 264) [] [])] (.tup []):=by
 refine C4 (fk func270 ntmps270 m0 (by with_unfolding_all rfl)) (nl W) ?_
 unfold J8 at h
 refine B4 (s0:=⟨T [(0,(.d _)),(1,(.d _)),(2,(.d _))],G []⟩) (F4 W W) ?_
 refine B0<|sv W<|A1<|B0<|sv W<|sv W<|sv W<|A1<|A5<|bs h fun y1 hy1 h=>D9 (fun s=> ∃g1:Unit,Sb ⟨T [(0,(.d .nilS)),(1,(di p1)),(2,(.d (.fn (.func 264) [] []))),(6,(di 20)),(7,(di y1))],G []⟩ s) ?_ ?_
 refine A7<|E3 (I6 p1) (fun (x1:(Int×Int)) (g2:Unit)=>⟨T [(0,(.d .nilS)),(1,(di p1)),(2,(.d (.fn (.func 264) [] []))),(6,(di 20)),(7,(di x1.1)),(8,(di x1.2))],G []⟩) (0,20) () _ hy1 (F4 W W) ?_
 intro x1 g2 z1 hz1 ez1
 unfold I6 at hz1
 refine A5<|B0<|sv W<|sv W<|sv W<|A1<|cc W hz1 (fun c1 hz1=> ?_)<|fun c1 hz1=> ?_
 refine A8<|A7<|B0<|sv W<|sv W<|sv W<|sv W<|bs hz1 fun _ hv1 hz1=>A9 W W A3 (V7 _ _ _ hv1) (.inl W) (A1<|B0<|sv W<|sv W<|A1<|B9<|sv W<|sv W<|sv W<|sv W<|A1<|E2<|E4 ?_)
 cases hz1
 exact ⟨W,(),(F4 W W)⟩
 refine C8 W ?_
 cases hz1
 obtain rfl:=ez1 _ rfl
 refine ⟨nofun,C6 W<|U8 ?_⟩
 exact ⟨(),(F4 W W)⟩
 rintro _ ⟨g1,q1⟩
 refine B4 q1<|B0<|sv W<|sv W<|sv W<|sv W<|bs h fun _ hv2 h=>A9 W W A3 (V7 _ _ _ hv2) (.inl W) (A1<|A7<|E3 (I5 p1) (fun (x2:Int) (g3:Unit)=>⟨T [(0,(.d .nilS)),(1,(di p1)),(2,(.d (.fn (.func 264) [] []))),(6,(di x2))],G []⟩) 20 () _ h (F4 W W) ?_)
 intro x2 g3 z2 hz2 ez2
 unfold I5 at hz2
 refine A5<|B0<|sv W<|sv W<|sv W<|A1<|cc W hz2 (fun c2 hz2=> ?_)<|fun c2 hz2=> ?_
 refine A8<|A7<|B0<|sv W<|sv W<|sv W<|sv W<|A1<|A5<|bs hz2 fun y2 hy2 hz2=>D9 (fun s=> ∃g4:Unit,Sb ⟨T [(0,(.d .nilS)),(1,(di p1)),(2,(.d (.fn (.func 264) [] []))),(6,(di x2)),(7,(di y2))],G []⟩ s) ?_ ?_
 refine A7<|E3 (R8 p1) (fun (x3:(Int×Int)) (g5:Unit)=>⟨T [(0,(.d .nilS)),(1,(di p1)),(2,(.d (.fn (.func 264) [] []))),(6,(di x2)),(7,(di x3.1)),(8,(di x3.2))],G []⟩) (0,(D6 (2*x2))) () _ hy2 (F4 W W) ?_
 intro x3 g5 z3 hz3 ez3
 unfold R8 at hz3
 refine A5<|B0<|sv W<|sv W<|sv W<|A1<|cc W hz3 (fun c3 hz3=> ?_)<|fun c3 hz3=> ?_
 refine A8<|A7<|B0<|sv W<|sv W<|sv W<|sv W<|sv W<|sv W<|sv W ?_
 cases hz3
 refine C8 W ?_
 cases hz3
 obtain rfl:=ez3 _ rfl
 refine ⟨nofun,C6 W<|U8 ?_⟩
 exact ⟨(),(F4 W W)⟩
 rintro _ ⟨g4,q2⟩
 refine B4 q2<|A5<|B0<|sv W<|sv W<|sv W<|sv W<|A1<|B0<|sv W<|sv W<|sv W<|A1<|cc W hz2 (fun c4 hz2=> ?_)<|fun c4 hz2=> ?_
 refine B9<|sv W<|sv W<|sv W<|sv W<|sv W ?_
 cases hz2
 refine A8<|B9<|sv W<|sv W<|sv W<|A1<|E2<|E4 ?_
 cases hz2
 exact ⟨W,(),(F4 W W)⟩
 refine C8 W ?_
 cases hz2
 obtain rfl:=ez2 _ rfl
 refine ⟨nofun,C6 W<|E4 ?_⟩
 exact A6 (.inl W) W (.refl _)
def G0 [Lp]:Option Unit:=
  (J8 0).bind fun v1=>some ()
theorem Dp(r)(h:G0=some r):PCall prog 263 [.nilS,(.fn (.func 264) [] [])] (.tup []):=by
 refine C4 (fk func263 ntmps263 m0 (by with_unfolding_all rfl)) (nl W) ?_
 unfold G0 at h
 refine B4 (s0:=⟨T [(0,(.d _)),(1,(.d _))],G []⟩) (F4 W W) ?_
 refine B9<|sv W<|sv W<|sv W<|sv W<|bs h fun _ hv1 h=>A9 W W A3 (Gp _ _ hv1) (.inl W) (A1<|E4 ?_)
 cases h
 exact A6 (.inl W) W (.refl _)
def As (v1:RoadsWay)(x1:((List Pass)×Int))(v2:Int)(x2:((List Pass)×Int))(v3:Zone)(x3:((List Pass)×Int)):Option (Stp ((List Pass)×Int) (List Pass)):=
  cond (decide (x3.2< (v3.Parts.length:Int))) ((C0 v3.Parts x3.2).bind fun v4=>cond (v4.Lane_==v2) ((C0 v1.starts x1.2).bind fun v5=>(C0 v1.starts x1.2).bind fun v6=>(X3 x3.1 [(Pass.mk x2.2 x3.2 (D6 (v5+v4.From)) (D6 (v6+v4.To)))]).bind fun v7=>some (.go (v7,(D6 (x3.2+1))))) (some (.go (x3.1,(D6 (x3.2+1)))))) (some (.out x3.1))
def U3 [Lp](p1:Map)(v1:RoadsWay)(x1:((List Pass)×Int))(v2:Int)(x2:((List Pass)×Int)):Option (Stp ((List Pass)×Int) (List Pass)):=
  cond (decide (x2.2< (p1.Zones.length:Int))) ((C0 p1.Zones x2.2).bind fun v3=>(loop (As v1 x1 v2 x2 v3) (x2.1,0)).bind fun y3=>some (.go (y3,(D6 (x2.2+1))))) (some (.out x2.1))
def O4 [Lp](p1:Map)(v1:RoadsWay)(x1:((List Pass)×Int)):Option (Stp ((List Pass)×Int) (List Pass)):=
  cond (decide (x1.2< (v1.lanes.length:Int))) ((C0 v1.lanes x1.2).bind fun v2=>(loop (U3 p1 v1 x1 v2) (x1.1,0)).bind fun y2=>some (.go (y2,(D6 (x1.2+1))))) (some (.out x1.1))
def V8 [Lp](p1:Map)(p2:(List Int)):Option (List Pass):=
  (Ab p1 p2).bind fun v1=>(loop (O4 p1 v1) ([],0)).bind fun y1=>cond (List.isEmpty y1) ((G0).bind fun v9=>some []) ((F9 y1).bind fun v8=>some v8)
theorem HR(p1 p2 r)(h:V8 p1 p2=some r):PCall prog 246 [(.agg (P9 p1)),(.list (List.map A4 p2))] (.list (List.map Q6 r)):=by
 refine C4 (fk func246 ntmps246 (fun r=>if r==13 then [1020]else if r==17 then [1017001]else []) (by with_unfolding_all rfl)) (nl W) ?_
 unfold V8 at h
 refine B4 (s0:=⟨T [(0,(.d _)),(1,(.d _))],G []⟩) (F4 W W) ?_
 refine lr<|fun u1 _=>sm W<|sv W<|A1<|lr<|fun u2 _=>sd W (B1 W G_hit W W)<|sv W<|bs h fun v1 hv1 h=>A9 W W A3 (Me _ _ _ hv1) (.inl W) (sm W<|U1 W G_hit (Ot v1) W (A1<|B0<|sv W<|A1<|A5<|B0<|sq W<|sl W G_hit W<|sd W (D8 W)<|sv W<|A1<|bs h fun y1 hy1 h=>D9 (fun s=> ∃g1:Nat,Sb ⟨T [(6,(oS y1 (65,g1)))],G [((65,g1),oB 229 4 Q6 y1)]⟩ s) ?_ ?_))
 refine A7<|E3 (O4 p1 v1) (fun (x1:((List Pass)×Int)) (g2:Nat)=>⟨T [(2,(.ptr (2,u1) 0)),(5,(.ptr (5,u2) 0)),(6,(oS x1.1 (65,g2))),(17,(dl A4 v1.lanes)),(18,(di (v1.lanes.length:Int))),(19,(di x1.2))],G [((2,u1),some<|.box 33 (L8 p1)),((5,u2),some<|.box 260 (Ot v1)),((65,g2),oB 229 4 Q6 x1.1)]⟩) ([],0) 0 _ hy1 (E1 (Z2 W)<|sg W<|B5 G_hit (.of W)<|S4 trivial) ?_
 intro x1 g2 z1 hz1 ez1
 unfold O4 at hz1
 refine B0<|sv W<|A1<|A5<|cc W hz1 (fun c1 hz1=> ?_)<|fun c1 hz1=> ?_
 refine A8<|A5<|A7<|B0<|sv W<|bs hz1 fun v2 hv2 hz1=>sd W (C7 W W hv2 W)<|sd W (D2 W hv2 W)<|sv W<|sv W<|A1<|B0<|sq W<|sl W G_hit W<|sd W (D8 W)<|sv W<|A1<|bs hz1 fun y2 hy2 hz1=>D9 (fun s=> ∃g3:Nat,Sb ⟨T [(2,(.ptr (2,u1) 0)),(5,(.ptr (5,u2) 0)),(6,(oS y2 (65,g3))),(17,(dl A4 v1.lanes)),(18,(di (v1.lanes.length:Int))),(19,(di x1.2))],G [((2,u1),some<|.box 33 (L8 p1)),((5,u2),some<|.box 260 (Ot v1)),((65,g3),oB 229 4 Q6 y2)]⟩ s) ?_ ?_
 refine A7<|E3 (U3 p1 v1 x1 v2) (fun (x2:((List Pass)×Int)) (g4:Nat)=>⟨T [(2,(.ptr (2,u1) 0)),(5,(.ptr (5,u2) 0)),(6,(oS x2.1 (65,g4))),(7,(di x1.2)),(8,(di v2)),(17,(dl A4 v1.lanes)),(18,(di (v1.lanes.length:Int))),(19,(di x1.2)),(25,(dl Gk p1.Zones)),(26,(di (p1.Zones.length:Int))),(27,(di x2.2))],G [((2,u1),some<|.box 33 (L8 p1)),((5,u2),some<|.box 260 (Ot v1)),((65,g4),oB 229 4 Q6 x2.1)]⟩) (x1.1,0) g2 _ hy2 (E1 (Z2 W)<|B5 G_hit (.of W)<|sg W<|B7 (gq W) trivial) ?_
 intro x2 g4 z2 hz2 ez2
 unfold U3 at hz2
 refine B0<|sv W<|A1<|A5<|cc W hz2 (fun c2 hz2=> ?_)<|fun c2 hz2=> ?_
 refine A8<|A5<|A7<|B0<|sv W<|bs hz2 fun v3 hv3 hz2=>sd W (C7 W W hv3 W)<|sd W (D5 W hv3 W W)<|sm W<|sv W<|U1 W G_hit [(dl Bn v3.Parts),(di v3.Signal_)] W (A1<|B0<|sq W<|sl W G_hit W<|sd W (D8 W)<|sv W<|A1<|bs hz2 fun y3 hy3 hz2=>D9 (fun s=> ∃g5:Nat,Sb ⟨T [(2,(.ptr (2,u1) 0)),(5,(.ptr (5,u2) 0)),(6,(oS y3 (65,g5))),(7,(di x1.2)),(8,(di v2)),(17,(dl A4 v1.lanes)),(18,(di (v1.lanes.length:Int))),(19,(di x1.2)),(25,(dl Gk p1.Zones)),(26,(di (p1.Zones.length:Int))),(27,(di x2.2))],G [((2,u1),some<|.box 33 (L8 p1)),((5,u2),some<|.box 260 (Ot v1)),((65,g5),oB 229 4 Q6 y3)]⟩ s) ?_ ?_)
 refine A7<|E3 (As v1 x1 v2 x2 v3) (fun (x3:((List Pass)×Int)) (g6:Nat)=>⟨T [(2,(.ptr (2,u1) 0)),(5,(.ptr (5,u2) 0)),(6,(oS x3.1 (65,g6))),(7,(di x1.2)),(8,(di v2)),(9,(di x2.2)),(17,(dl A4 v1.lanes)),(18,(di (v1.lanes.length:Int))),(19,(di x1.2)),(25,(dl Gk p1.Zones)),(26,(di (p1.Zones.length:Int))),(27,(di x2.2)),(33,(dl Bn v3.Parts)),(34,(di (v3.Parts.length:Int))),(35,(di x3.2))],G [((2,u1),some<|.box 33 (L8 p1)),((5,u2),some<|.box 260 (Ot v1)),((65,g6),oB 229 4 Q6 x3.1)]⟩) (x2.1,0) g4 _ hy3 (E1 (Z2 W)<|sg W<|sg W<|B7 (gq W) trivial) ?_
 intro x3 g6 z3 hz3 ez3
 unfold As at hz3
 refine B0<|sv W<|A1<|A5<|cc W hz3 (fun c3 hz3=> ?_)<|fun c3 hz3=> ?_
 refine A8<|A5<|A7<|B0<|sv W<|bs hz3 fun v4 hv4 hz3=>sd W (C7 W W hv4 W)<|sd W (D5 W hv4 W W)<|sm W<|sv W<|U1 W G_hit (AO v4) W (A1<|B0<|sq W<|sl W G_hit W<|sv W<|sv W<|A1<|cc W hz3 (fun c4 hz3=> ?_)<|fun c4 hz3=> ?_)
 refine Mk W fun u14 _=>B8 (oS x3.1 (65,g6)) W W (sv W<|sv W<|sq W<|sl W (gq W) W (sv W<|bs hz3 fun v5 hv5 hz3=>sd W (C7 W W hv5 W)<|sd W (D2 W hv5 W)<|sq W<|sl W G_hit W<|sv W<|sq W<|sl W (gq W) W (sv W<|bs hz3 fun v6 hv6 hz3=>sd W (C7 W W hv6 W)<|sd W (D2 W hv6 W)<|sq W<|sl W G_hit W<|sv W<|sv W<|B8 (dl Q6 [(Pass.mk x2.2 x3.2 (D6 (v5+v4.From))<|D6 (v6+v4.To))]) W W (bs hz3 fun _ hv7 hz3=>P7 Q6 (65,g6) x3.1 (Pass.mk x2.2 x3.2 (D6 (v5+v4.From))<|D6 (v6+v4.To)) [] _ (L7<|fun _=>W) W (gq W) hv7 (ss W<|A1<|E2<|B9<|sv W<|sv W<|A1<|E4 ?_)))))
 cases hz3
 exact ⟨W,u14,(E1 ⟨.of W, .of W,(.of (U9<|V1 hv7).symm), .of W, .of W, .of W, .of W, .of W, .of W, .of W, .of W, .of W, .of W, .of W, .of W,trivial⟩<|sg W<|sg W<|N6 G_hit trivial)⟩
 refine A8<|E2<|B9<|sv W<|sv W<|A1<|E4 ?_
 cases hz3
 exact ⟨W,g6,(E1 (Z2 W)<|sg W<|sg W<|B7 (gq W) trivial)⟩
 refine C8 W ?_
 cases hz3
 obtain rfl:=ez3 _ rfl
 refine ⟨nofun,C6 W<|U8 ?_⟩
 exact ⟨g6,(E1 (Z2 W)<|B5 G_hit (.of W)<|sg W<|B7 (gq W) trivial)⟩
 rintro _ ⟨g5,q1⟩
 refine E2<|B4 q1<|B9<|sv W<|sv W<|A1<|E4 ?_
 cases hz2
 exact ⟨W,g5,(E1 (Z2 W)<|B5 G_hit (.of W)<|sg W<|B7 (gq W) trivial)⟩
 refine C8 W ?_
 cases hz2
 obtain rfl:=ez2 _ rfl
 refine ⟨nofun,C6 W<|U8 ?_⟩
 exact ⟨g4,(E1 (Z2 W)<|B5 G_hit (.of W)<|sg W<|B7 (gq W) trivial)⟩
 rintro _ ⟨g3,q2⟩
 refine E2<|B4 q2<|B9<|sv W<|sv W<|A1<|E4 ?_
 cases hz1
 exact ⟨W,g3,(E1 (Z2 W)<|B5 G_hit (.of W)<|sg W<|B7 (gq W) trivial)⟩
 refine C8 W ?_
 cases hz1
 obtain rfl:=ez1 _ rfl
 refine ⟨nofun,C6 W<|U8 ?_⟩
 exact ⟨g2,(E1 ⟨.of W,trivial⟩<|B7 (gq W) trivial)⟩
 rintro _ ⟨g1,q3⟩
 refine B4 q3<|A5 ?_
 rcases NE h with ⟨e1,h⟩|⟨e1,h⟩
 refine B4 (s0:=⟨T [(6,(.d .nilS))],G []⟩) (E1 ⟨.of (fE e1),trivial⟩ trivial) ?_
 refine B9<|sv W<|bs h fun _ hv9 h=>FJ (v:= .d (.tup [])) (us:= []) (jO [] _ W W A3 (Dp _ hv9) W W) (A1<|B0<|sv W<|sv W<|A1<|B2 ?_)
 cases h
 exact A6 (.inr W) (B6 (B3 W) C1) DLe.nil
 refine B4 (s0:=⟨T [(6,(.sl (65,g1)))],G [((65,g1),some<|.arr 229 4 (List.map Q6 y1))]⟩) (E1 ⟨.of (U9 e1),trivial⟩<|B5 (Ic G_hit e1) (.of W) trivial) ?_
 refine B9<|ss W<|bs h fun v8 hv8 h=>FJ (v:= .d (.tup [])) (us:= [(65,g1)]) (LV (Do _ _ hv8) [(65,g1)] [(65,g1)] _ (((65,g1),some<|.arr 229 4 (List.map Q6 v8))::_) W Nm (Y1 DV<|Y1 BW Tq) (Kt G_hit Iw) ⟨⟨_,G_hit, .of W⟩,trivial⟩ (fun _ h=>h) nd1 W W W) (A1<|B0<|ss W<|ss W<|A1<|B2 ?_)
 cases h
 exact A6 (.inr W) (B6 (B3 W)<|MZ G_hit) (.refl _)
def Gs (p1:Pass)(p2:Int)(p3:WorldSpan):Option Bool:=
  some (((p1.Zone_==p2)&& (decide (p1.From≤p3.to)))&& (decide (p3.from_≤p1.To)))
theorem Vq(p1 p2 p3 r)(h:Gs p1 p2 p3=some r):PCall prog 247 [(.agg (Q6 p1)),(.bp [(i64 p2)] 0),(.bp [(i64 p3.from_),(i64 p3.to)] 0)] (bo r):=by
 refine C4 (fk func247 ntmps247 m0 (by with_unfolding_all rfl)) (nl W) ?_
 unfold Gs at h
 refine B4 (s0:=⟨T [(0,(.d _)),(1,(.d _)),(2,(.d _))],G []⟩) (F4 W W) ?_
 refine B0<|sm W<|sv W<|A1<|B0<|sq W<|sl W G_hit W<|sv W<|sv W<|sv W<|gp W (M7 W) (fun _=>W) (gt W (vl W G_hit W)<|gt W (fun _=>W) ?_)
 refine gt W (fun w4=>(by simp only [A2 w4];rfl)) ?_
 refine gt W (fun w5=>(M4 (A2 w5) (A2 w5) W))<|sa W W W<|sv W<|gt W (fun _=>W) ?_
 refine gt W (fun w7=>(by simp only [A2 w7];rfl)) ?_
 refine gp W (M7 W) (fun _=>W) (gt W (vl W G_hit W)<|gt W (fun w10=>(M4 (A2 w10) (A2 w10) W))<|sa W W W<|sv W<|A1<|B2 ?_)
 cases h
 exact A6 (.inr W) (B6 (B3 W) C1) (.refl _)
def L3 (p1:(List Pass))(p2:Int)(p3:WorldSpan)(x1:Int):Option (Stp Int (Sum Unit Int)):=
  cond (decide (x1< (p1.length:Int))) ((C0 p1 x1).bind fun v1=>(Gs v1 p2 p3).bind fun v2=>cond v2 (some (.out (.inr x1))) (some (.go (D6 (x1+1))))) (some (.out (.inl ())))
def J0 [Lp](p1:(List Pass))(p2:Int)(p3:WorldSpan):Option Int:=
  thenS (loop (L3 p1 p2 p3) 0) (fun _=>some (-1)) (fun r=>some r)
theorem Fg(p1 p2 p3 r)(h:J0 p1 p2 p3=some r):PCall prog 262 [(.list (List.map Q6 p1)),(.fn (.func 247) [] [(.bp [(i64 p2)] 0),(.bp [(i64 p3.from_),(i64 p3.to)] 0)])] (i64 r):=by
 refine C4 (fk func262 ntmps262 m0 (by with_unfolding_all rfl)) (nl W) ?_
 unfold J0 at h
 refine B4 (s0:=⟨T [(0,(.d _)),(1,(.d _))],G []⟩) (F4 W W) ?_
 refine B0<|sv W<|A1<|A5<|B0<|sv W<|sd W (D8 W)<|sv W<|A1<|js h fun z1 hz1 h=>D9 (fun s=> ∃(y1:Unit) (g1:Unit),z1= .inl y1∧Sb ⟨T [],G []⟩ s) ?_ ?_
 refine A7<|E3 (L3 p1 p2 p3) (fun (x1:Int) (g2:Unit)=>⟨T [(0,(dl Q6 p1)),(1,(.d (.fn (.func 247) [] [(.bp [(i64 p2)] 0),(.bp [(i64 p3.from_),(i64 p3.to)] 0)]))),(7,(di (p1.length:Int))),(8,(di x1))],G []⟩) 0 () _ hz1 (F4 W W) ?_
 intro x1 g2 z2 hz2 ez2
 unfold L3 at hz2
 refine B0<|sv W<|A1<|A5<|cc W hz2 (fun c1 hz2=> ?_)<|fun c1 hz2=> ?_
 refine A8<|A5<|A7<|B0<|sv W<|sv W<|A1<|B0<|sv W<|sv W<|sv W<|bs hz2 fun _ hv1 hz2=>sd W (C7 W W hv1 W)<|sd W (D5 W hv1 W W)<|bs hz2 fun _ hv2 hz2=>A9 W W A3 (Vq _ _ _ _ hv2) (.inl W) (A1<|cc W hz2 (fun c2 hz2=> ?_)<|fun c2 hz2=> ?_)
 refine B0<|sv W<|sv W<|A1<|B2 ?_
 cases hz2
 obtain rfl:=ez2 _ rfl
 refine ⟨nofun,F1 ?_⟩
 rw [wE]at h
 cases h
 exact A6 (.inr W) (B6 (B3 W) C1) (.refl _)
 refine A8<|E2<|B9<|sv W<|sv W<|A1<|E4 ?_
 cases hz2
 exact ⟨W,(),(F4 W W)⟩
 refine C8 W ?_
 cases hz2
 obtain rfl:=ez2 _ rfl
 refine ⟨nofun,C6 W<|U8 ?_⟩
 exact ⟨_,(),W,(F4 W W)⟩
 rintro _ ⟨y1,g1,rfl,q1⟩
 rw [wD]at h
 refine B4 q1<|B0<|sv W<|A1<|B2 ?_
 cases h
 exact A6 (.inr W) (B6 (B3 W) C1) (.refl _)
def G2 [Lp](p1:(List Pass))(p2:Int)(p3:WorldSpan):Option Bool:=
  (J0 p1 p2 p3).bind fun v1=>some (decide (v1≥0))
theorem Dx(p1 p2 p3 r)(h:G2 p1 p2 p3=some r):PCall prog 245 [(.list (List.map Q6 p1)),(.fn (.func 247) [] [(.bp [(i64 p2)] 0),(.bp [(i64 p3.from_),(i64 p3.to)] 0)])] (bo r):=by
 refine C4 (fk func245 ntmps245 m0 (by with_unfolding_all rfl)) (nl W) ?_
 unfold G2 at h
 refine B4 (s0:=⟨T [(0,(.d _)),(1,(.d _))],G []⟩) (F4 W W) ?_
 refine B0<|sv W<|A1<|B0<|sv W<|sv W<|bs h fun _ hv1 h=>A9 W W A3 (Fg _ _ _ _ hv1) (.inl W) (sv W<|sv W<|A1<|B2 ?_)
 cases h
 exact A6 (.inr W) (B6 (B3 W) C1) (.refl _)
def Dj [Lp](p1:Map)(p2:Agent)(p3:Agent)(p4:Int):Option Bool:=
  (Ml p2).bind fun v1=>((cond (!(!v1)) (Ml p3) (some default))).bind fun v2=>cond ((!v1)||(!v2)) (some false) ((Ac p2).bind fun v3=>(V8 p1 p2.Route).bind fun v4=>(G2 v4 p4 (WorldSpan.mk v3.from_ p3.S)).bind fun v5=>some v5)
theorem FO(p1 p2 p3 p4 r)(h:Dj p1 p2 p3 p4=some r):PCall prog 218 [(.agg (P9 p1)),(.agg (C9 p2)),(.agg (C9 p3)),(i64 p4)] (bo r):=by
 refine C4 (fk func218 ntmps218 m0 (by with_unfolding_all rfl)) (nl W) ?_
 unfold Dj at h
 refine B4 (s0:=⟨T [(0,(.d _)),(1,(.d _)),(2,(.d _)),(3,(.d _))],G []⟩) (F4 W W) ?_
 refine B0<|sm W<|sn W W<|sm W<|sn W W<|sv W<|A1<|A5<|B0<|sd W (B1 W (gq W) W W)<|bs h fun v1 hv1 h=>A9 W W A3 (Tv _ _ hv1) (.inl W) (B8 (.d (bo (!v1))) W W (sv W<|gf W (fun _=>(B1 W (gq W) W W))<|bs h fun v2 hv2 h=> ?_))
 refine N9 _ (bo v2) (K7 W) (fun w2=>⟨_,[(.d (.agg (C9 p3)))],_,_,(by simp only [A2 w2];rfl),W,A3,Tv _ _<|C2 w2 hv2,(.inl W)⟩) ?_
 refine M0 _ (.d (bo (!v2))) W (K7 W) (fun w3=>(by simp only [A2 w3];rfl)) ?_
 refine sd W (O2 W W<|fun hc=>A2<|J5 hc)<|A1<|cc W h (fun c1 h=> ?_)<|fun c1 h=> ?_
 refine B0<|sv W<|A1<|B2 ?_
 cases h
 exact A6 (.inr W) (B6 (B3 W) C1) (.refl _)
 refine A8<|A5<|F3 W<|sd W (B1 W (gq W) W W)<|bs h fun v3 hv3 h=>A9 W W A3 (Jj _ _ hv3) (.inl W) (sv W<|sq W<|sl W (gq W) W (sv W<|sm W<|U1 W G_hit [(di v3.from_),(di p3.S)] W (A1<|B0<|sd W (B1 W (gq W) W W)<|sq W<|sl W (gq W) W (bs h fun _ hv4 h=>A9 W W A3 (HR _ _ _ hv4) (.inl W) (B8 (.fn _ _ _) W W (bs h fun _ hv5 h=>A9 W (rD<|E6 (AJ G1<|E6 (Bc (gq W)<|rD G1)<|E6 (Bc G_hit<|rD<|rD G1) G1) G1) A3 (Dx _ _ _ _ hv5) (.inr W) (sv W<|A1<|B2 ?_)))))))
 cases h
 exact A6 (.inr W) (B6 (B3 W) C1) (.refl _)
def N5 [Lp](p1:WorldScene)(p2:Int)(p3:Int):Option Bool:=
  (Ff p1.before p2).bind fun v1=>((cond v1 (C0 p1.before.Agents p2) (some default))).bind fun v2=>((cond v1 (C0 p1.after.Agents p2) (some default))).bind fun v3=>((cond v1 (Dj p1.m v2 v3 p3) (some default))).bind fun v4=>some (v1&&v4)
theorem Br(p1 p2 p3 r)(h:N5 p1 p2 p3=some r):PCall prog 171 [(.bp (Pt p1) 0),(i64 p2),(i64 p3)] (bo r):=by
 refine C4 (fk func171 ntmps171 m0 (by with_unfolding_all rfl)) (nl W) ?_
 unfold N5 at h
 refine B4 (s0:=⟨T [(0,(.d _)),(1,(.d _)),(2,(.d _))],G []⟩) (F4 W W) ?_
 refine B0<|sv W<|A1<|A5<|F3 W<|sv W<|sv W<|sv W<|sv W<|sv W<|bs h fun v1 hv1 h=>A9 W W A3 (Kc _ _ _ hv1) (.inl W) (sv W<|gt W (fun _=>W) ?_)
 refine gt W (fun w2=>(by simp only [A2 w2];rfl)) ?_
 refine gt W (fun w3=>(by simp only [A2 w3];rfl)) ?_
 refine gt W (fun w4=>(by simp only [A2 w4];rfl)) ?_
 refine gt W (fun _=>W) ?_
 refine gt W (fun w6=>(by simp only [A2 w6];rfl)) ?_
 refine gt W (fun w7=>(by simp only [A2 w7];rfl)) ?_
 refine gt W (fun w8=>(by simp only [A2 w8];rfl)) ?_
 refine gt W (fun w9=>(by simp only [A2 w9];rfl)) ?_
 refine gt W (fun _=>W)<|bs h fun v2 hv2 h=>gt W (fun w11=>(C7 (A2 w11) (A2 w11) (C2 w11 hv2) W))<|gt W (fun w12=>(D5 (A2 w12) (C2 w12 hv2) W W))<|gt W (fun _=>W) ?_
 refine gt W (fun w14=>(by simp only [A2 w14];rfl)) ?_
 refine gt W (fun w15=>(by simp only [A2 w15];rfl)) ?_
 refine gt W (fun w16=>(by simp only [A2 w16];rfl)) ?_
 refine gt W (fun w17=>(by simp only [A2 w17];rfl)) ?_
 refine gt W (fun _=>W)<|bs h fun v3 hv3 h=>gt W (fun w19=>(C7 (A2 w19) (A2 w19) (C2 w19 hv3) W))<|gt W (fun w20=>(D5 (A2 w20) (C2 w20 hv3) W W))<|gt W (fun _=>W)<|bs h fun v4 hv4 h=> ?_
 refine N9 v1 (bo v4) (M7 W) (fun w22=>⟨_,[(.d (.agg (P9 p1.m))),(.d (.agg (C9 v2))),(.d (.agg (C9 v3))),(di p3)],_,_,(by simp only [A2 w22];rfl),W,A3,FO _ _ _ _ _<|C2 w22 hv4,(.inl W)⟩) ?_
 refine sa W W W<|sv W<|A1<|B2 ?_
 cases h
 exact A6 (.inr W) (B6 (B3 W) C1) (.refl _)
def D4 [Lp](p1:(List Stay))(p2:Stay)(x1:(Int×Int)):Option (Stp (Int×Int) Int):=
  cond (decide (x1.1<x1.2)) ((C0 p1 (D6 ((IntKind.wrap .u64 (D6 (x1.1+x1.2))).fdiv (2^ (min (1:Int).toNat (IntKind.bits .u64)))))).bind fun v1=>(Di v1 p2).bind fun v2=>cond (decide (v2<0)) (some (.go ((D6 ((D6 ((IntKind.wrap .u64 (D6 (x1.1+x1.2))).fdiv (2^ (min (1:Int).toNat (IntKind.bits .u64)))))+1)),x1.2))) (some (.go (x1.1,(D6 ((IntKind.wrap .u64 (D6 (x1.1+x1.2))).fdiv (2^ (min (1:Int).toNat (IntKind.bits .u64))))))))) (some (.out x1.1))
def D1 [Lp](p1:(List Stay))(p2:Stay):Option (Int×Bool):=
  (loop (D4 p1 p2) (0,(p1.length:Int))).bind fun y1=>((cond (decide (y1< (p1.length:Int))) (C0 p1 y1) (some default))).bind fun v3=>((cond (decide (y1< (p1.length:Int))) (Di v3 p2) (some default))).bind fun v4=>some (y1,((decide (y1< (p1.length:Int)))&& (v4==0)))
theorem O9(p1 p2 r)(h:D1 p1 p2=some r):PCall prog 172 [(.list (List.map J6 p1)),(.agg (J6 p2)),(.fn (.func 73) [] [])] (.tup [(i64 r.1),(bo r.2)]):=by
 refine C4 (fk func172 ntmps172 m0 (by with_unfolding_all rfl)) (nl W) ?_
 unfold D1 at h
 refine B4 (s0:=⟨T [(0,(.d _)),(1,(.d _)),(2,(.d _))],G []⟩) (F4 W W) ?_
 refine lr<|fun u1 _=>sm W<|sv W<|sv W<|A1<|B0<|sv W<|sd W (D8 W)<|sv W<|A1<|B0<|sv W<|sv W<|sv W<|A1<|A5<|bs h fun y1 hy1 h=>D9 (fun s=> ∃g1:Unit,Sb ⟨T [(0,(dl J6 p1)),(2,(.d (.fn (.func 73) [] []))),(4,(.ptr (4,u1) 0)),(8,(di (p1.length:Int))),(9,(di y1))],G [((4,u1),some<|.box 127 (Ws p2))]⟩ s) ?_ ?_
 refine A7<|E3 (D4 p1 p2) (fun (x1:(Int×Int)) (g2:Unit)=>⟨T [(0,(dl J6 p1)),(2,(.d (.fn (.func 73) [] []))),(4,(.ptr (4,u1) 0)),(8,(di (p1.length:Int))),(9,(di x1.1)),(10,(di x1.2))],G [((4,u1),some<|.box 127 (Ws p2))]⟩) (0,(p1.length:Int)) () _ hy1 (F4 W W) ?_
 intro x1 g2 z1 hz1 ez1
 unfold D4 at hz1
 refine A5<|B0<|sv W<|sv W<|sv W<|A1<|cc W hz1 (fun c1 hz1=> ?_)<|fun c1 hz1=> ?_
 refine A8<|A7<|B0<|sv W<|sv W<|sv W<|sv W<|sv W<|sv W<|sv W<|A1<|A5<|F3 W<|sv W<|sv W<|sv W<|bs hz1 fun _ hv1 hz1=>sd W (C7 W W hv1 W)<|sd W (D5 W hv1 W W)<|sd W (B1 W G_hit W W)<|bs hz1 fun _ hv2 hz1=>A9 W W A3 (Ry _ _ _ hv2) (.inl W) (sv W<|A1<|cc W hz1 (fun c2 hz1=> ?_)<|fun c2 hz1=> ?_)
 refine B9<|sv W<|sv W<|sv W<|A1<|E2<|E4 ?_
 cases hz1
 exact ⟨W,(),(F4 W W)⟩
 refine B9<|sv W<|sv W<|A1<|E2<|E4 ?_
 cases hz1
 exact ⟨W,(),(F4 W W)⟩
 refine C8 W ?_
 cases hz1
 obtain rfl:=ez1 _ rfl
 refine ⟨nofun,C6 W<|U8 ?_⟩
 exact ⟨(),(F4 W W)⟩
 rintro _ ⟨g1,q1⟩
 refine B4 q1<|A5<|F3 W<|sv W<|sv W<|sv W<|sv W<|sv W<|gt W (fun _=>W)<|gt W (fun _=>W)<|gt W (fun _=>W)<|bs h fun v3 hv3 h=>gt W (fun w4=>(C7 (A2 w4) (A2 w4) (C2 w4 hv3) W))<|gt W (fun w5=>(D5 (A2 w5) (C2 w5 hv3) W W))<|gt W (fun _=>(B1 W G_hit W W))<|bs h fun v4 hv4 h=> ?_
 refine N9 _ (i64 v4) (M7 W) (fun w7=>⟨_,[(.d (.agg (J6 v3))),(.d (.agg (J6 p2)))],_,_,(by simp only [A2 w7];rfl),W,A3,Ry _ _ _<|C2 w7 hv4,(.inl W)⟩) ?_
 refine gt W (vb W W W)<|sa W W W<|sv W<|sv W<|A1<|B2 ?_
 cases h
 exact A6 (.inr W) (Mv (B3 W) (B3 W) C1 C1) (.refl _)
def Ns (p1:Part)(p2:Int):Option Bool:=
  some (p1.Lane_==p2)
theorem EC(p1 p2 r)(h:Ns p1 p2=some r):PCall prog 265 [(.agg (Bn p1)),(.bp [(i64 p2)] 0)] (bo r):=by
 refine C4 (fk func265 ntmps265 m0 (by with_unfolding_all rfl)) (nl W) ?_
 unfold Ns at h
 refine B4 (s0:=⟨T [(0,(.d _)),(1,(.d _))],G []⟩) (F4 W W) ?_
 refine B0<|sm W<|sv W<|A1<|B0<|sq W<|sl W G_hit W<|sv W<|sv W<|sv W<|A1<|B2 ?_
 cases h
 exact A6 (.inr W) (B6 (B3 W) C1) (.refl _)
def M5 (p1:(List Part))(p2:Int)(x1:Int):Option (Stp Int (Sum Unit Int)):=
  cond (decide (x1< (p1.length:Int))) ((C0 p1 x1).bind fun v1=>(Ns v1 p2).bind fun v2=>cond v2 (some (.out (.inr x1))) (some (.go (D6 (x1+1))))) (some (.out (.inl ())))
def K4 [Lp](p1:(List Part))(p2:Int):Option Int:=
  thenS (loop (M5 p1 p2) 0) (fun _=>some (-1)) (fun r=>some r)
theorem Hq(p1 p2 r)(h:K4 p1 p2=some r):PCall prog 220 [(.list (List.map Bn p1)),(.fn (.func 265) [] [(.bp [(i64 p2)] 0)])] (i64 r):=by
 refine C4 (fk func220 ntmps220 m0 (by with_unfolding_all rfl)) (nl W) ?_
 unfold K4 at h
 refine B4 (s0:=⟨T [(0,(.d _)),(1,(.d _))],G []⟩) (F4 W W) ?_
 refine B0<|sv W<|A1<|A5<|B0<|sv W<|sd W (D8 W)<|sv W<|A1<|js h fun z1 hz1 h=>D9 (fun s=> ∃(y1:Unit) (g1:Unit),z1= .inl y1∧Sb ⟨T [],G []⟩ s) ?_ ?_
 refine A7<|E3 (M5 p1 p2) (fun (x1:Int) (g2:Unit)=>⟨T [(0,(dl Bn p1)),(1,(.d (.fn (.func 265) [] [(.bp [(i64 p2)] 0)]))),(7,(di (p1.length:Int))),(8,(di x1))],G []⟩) 0 () _ hz1 (F4 W W) ?_
 intro x1 g2 z2 hz2 ez2
 unfold M5 at hz2
 refine B0<|sv W<|A1<|A5<|cc W hz2 (fun c1 hz2=> ?_)<|fun c1 hz2=> ?_
 refine A8<|A5<|A7<|B0<|sv W<|sv W<|A1<|B0<|sv W<|sv W<|sv W<|bs hz2 fun _ hv1 hz2=>sd W (C7 W W hv1 W)<|sd W (D5 W hv1 W W)<|bs hz2 fun _ hv2 hz2=>A9 W W A3 (EC _ _ _ hv2) (.inl W) (A1<|cc W hz2 (fun c2 hz2=> ?_)<|fun c2 hz2=> ?_)
 refine B0<|sv W<|sv W<|A1<|B2 ?_
 cases hz2
 obtain rfl:=ez2 _ rfl
 refine ⟨nofun,F1 ?_⟩
 rw [wE]at h
 cases h
 exact A6 (.inr W) (B6 (B3 W) C1) (.refl _)
 refine A8<|E2<|B9<|sv W<|sv W<|A1<|E4 ?_
 cases hz2
 exact ⟨W,(),(F4 W W)⟩
 refine C8 W ?_
 cases hz2
 obtain rfl:=ez2 _ rfl
 refine ⟨nofun,C6 W<|U8 ?_⟩
 exact ⟨_,(),W,(F4 W W)⟩
 rintro _ ⟨y1,g1,rfl,q1⟩
 rw [wD]at h
 refine B4 q1<|B0<|sv W<|A1<|B2 ?_
 cases h
 exact A6 (.inr W) (B6 (B3 W) C1) (.refl _)
def Kd [Lp](p1:Zone)(p2:Int):Option (Part×Bool):=
  (K4 p1.Parts p2).bind fun v1=>cond (decide (v1<0)) (some ((Part.mk 0 0 0 0),false)) ((C0 p1.Parts v1).bind fun v2=>some (v2,true))
theorem LX(p1 p2 r)(h:Kd p1 p2=some r):PCall prog 251 [(.agg [(.list (List.map Bn p1.Parts)),(i64 p1.Signal_)]),(i64 p2)] (.tup [(.agg (Bn r.1)),(bo r.2)]):=by
 refine C4 (fk func251 ntmps251 m0 (by with_unfolding_all rfl)) (nl W) ?_
 unfold Kd at h
 refine B4 (s0:=⟨T [(0,(.d _)),(1,(.d _))],G []⟩) (F4 W W) ?_
 refine B0<|sm W<|sn W W<|sm W<|sv W<|A1<|B0<|sq W<|sl W (gq W) W (B8 (.fn _ _ _) W W (bs h fun _ hv1 h=>A9 W (rD<|E6 (AJ G1<|E6 (Bc (gq W)<|rD G1) G1) G1) A3 (Hq _ _ _ hv1) (.inr W) (sv W<|A1<|A5<|B0<|sv W<|sv W<|A1<|cc W h (fun c1 h=> ?_)<|fun c1 h=> ?_)))
 refine B0<|sv W<|U1 W G_hit (zs 4) W (sv W<|A1<|B2 ?_)
 cases h
 exact A6 (.inr W) (Mv (K1 W G_hit (nl W) W) (B3 W) C1 C1) (.refl _)
 refine A8<|B0<|sq W<|sl W (gq W) W (sv W<|bs h fun v2 hv2 h=>sd W (C7 W W hv2 W)<|sd W (D5 W hv2 W W)<|U1 W G_hit (AO v2) W (sv W<|A1<|B2 ?_))
 cases h
 exact A6 (.inr W) (Mv (K1 W G_hit (nl W) W) (B3 W) C1 C1) (.refl _)
def Ag [Lp](p1:Int)(p2:Map)(p3:Int):Option Bool:=
  (C0 p2.Zones p3).bind fun v1=>(Kd v1 p1).bind fun v2=>some v2.2
theorem Yq(p1 p2 p3 r)(h:Ag p1 p2 p3=some r):PCall prog 250 [(i64 p1),(.bp (P9 p2) 0),(.bp [(i64 p3)] 0)] (bo r):=by
 refine C4 (fk func250 ntmps250 m0 (by with_unfolding_all rfl)) (nl W) ?_
 unfold Ag at h
 refine B4 (s0:=⟨T [(0,(.d _)),(1,(.d _)),(2,(.d _))],G []⟩) (F4 W W) ?_
 refine B0<|sv W<|A1<|B0<|sv W<|sv W<|sv W<|bs h fun _ hv1 h=>sd W (C7 W W hv1 W)<|sd W (D5 W hv1 W W)<|sv W<|bs h fun v2 hv2 h=>A9 W W A3 (LX _ _ _ hv2) (.inl W) (sv W<|sv W<|sv W<|sm W<|U1 W G_hit (AO v2.1) W (sv W<|A1<|B0<|sv W<|sv W<|A1<|B2 ?_))
 cases h
 exact A6 (.inr W) (B6 (B3 W) C1) (.refl _)
def H8 [Lp](p1:(List Int))(p2:Map)(p3:Int)(x1:Int):Option (Stp Int (Sum Unit Int)):=
  cond (decide (x1< (p1.length:Int))) ((C0 p1 x1).bind fun v1=>(Ag v1 p2 p3).bind fun v2=>cond v2 (some (.out (.inr x1))) (some (.go (D6 (x1+1))))) (some (.out (.inl ())))
def I8 [Lp](p1:(List Int))(p2:Map)(p3:Int):Option Int:=
  thenS (loop (H8 p1 p2 p3) 0) (fun _=>some (-1)) (fun r=>some r)
theorem Hr(p1 p2 p3 r)(h:I8 p1 p2 p3=some r):PCall prog 249 [(.list (List.map A4 p1)),(.fn (.func 250) [] [(.bp (P9 p2) 0),(.bp [(i64 p3)] 0)])] (i64 r):=by
 refine C4 (fk func249 ntmps249 m0 (by with_unfolding_all rfl)) (nl W) ?_
 unfold I8 at h
 refine B4 (s0:=⟨T [(0,(.d _)),(1,(.d _))],G []⟩) (F4 W W) ?_
 refine B0<|sv W<|A1<|A5<|B0<|sv W<|sd W (D8 W)<|sv W<|A1<|js h fun z1 hz1 h=>D9 (fun s=> ∃(y1:Unit) (g1:Unit),z1= .inl y1∧Sb ⟨T [],G []⟩ s) ?_ ?_
 refine A7<|E3 (H8 p1 p2 p3) (fun (x1:Int) (g2:Unit)=>⟨T [(0,(dl A4 p1)),(1,(.d (.fn (.func 250) [] [(.bp (P9 p2) 0),(.bp [(i64 p3)] 0)]))),(7,(di (p1.length:Int))),(8,(di x1))],G []⟩) 0 () _ hz1 (F4 W W) ?_
 intro x1 g2 z2 hz2 ez2
 unfold H8 at hz2
 refine B0<|sv W<|A1<|A5<|cc W hz2 (fun c1 hz2=> ?_)<|fun c1 hz2=> ?_
 refine A8<|A5<|A7<|B0<|sv W<|sv W<|A1<|B0<|sv W<|sv W<|sv W<|bs hz2 fun _ hv1 hz2=>sd W (C7 W W hv1 W)<|sd W (D2 W hv1 W)<|bs hz2 fun _ hv2 hz2=>A9 W W A3 (Yq _ _ _ _ hv2) (.inl W) (A1<|cc W hz2 (fun c2 hz2=> ?_)<|fun c2 hz2=> ?_)
 refine B0<|sv W<|sv W<|A1<|B2 ?_
 cases hz2
 obtain rfl:=ez2 _ rfl
 refine ⟨nofun,F1 ?_⟩
 rw [wE]at h
 cases h
 exact A6 (.inr W) (B6 (B3 W) C1) (.refl _)
 refine A8<|E2<|B9<|sv W<|sv W<|A1<|E4 ?_
 cases hz2
 exact ⟨W,(),(F4 W W)⟩
 refine C8 W ?_
 cases hz2
 obtain rfl:=ez2 _ rfl
 refine ⟨nofun,C6 W<|U8 ?_⟩
 exact ⟨_,(),W,(F4 W W)⟩
 rintro _ ⟨y1,g1,rfl,q1⟩
 rw [wD]at h
 refine B4 q1<|B0<|sv W<|A1<|B2 ?_
 cases h
 exact A6 (.inr W) (B6 (B3 W) C1) (.refl _)
def Hu [Lp](p1:Map)(p2:(List Int))(p3:Int):Option Int:=
  (Ab p1 p2).bind fun v1=>cond ((decide (p3<0))||(decide (p3≥(p1.Zones.length:Int)))) (some (-1)) ((I8 v1.lanes p1 p3).bind fun v2=>some v2)
theorem JW(p1 p2 p3 r)(h:Hu p1 p2 p3=some r):PCall prog 222 [(.agg (P9 p1)),(.list (List.map A4 p2)),(i64 p3)] (i64 r):=by
 refine C4 (fk func222 ntmps222 m0 (by with_unfolding_all rfl)) (nl W) ?_
 unfold Hu at h
 refine B4 (s0:=⟨T [(0,(.d _)),(1,(.d _)),(2,(.d _))],G []⟩) (F4 W W) ?_
 refine B0<|sm W<|sn W W<|sv W<|A1<|B0<|sd W (B1 W (gq W) W W)<|sv W<|bs h fun v1 hv1 h=>A9 W W A3 (Me _ _ _ hv1) (.inl W) (sm W<|U1 W G_hit (Ot v1) W (A1<|A5<|B0<|sl W (gq W) W (sv W<|sv W<|gf W (fun _=>(Q4 W (gq W) W))<|gp W (K7 W) (fun _=>W) (gf W (vl W (gq W) W)<|gf W (fun w4=>(D8<|A2 w4))<|gf W (fun w5=>(M4 (A2 w5) (A2 w5) W))<|sd W (O2 W W<|fun hc=>A2<|J5 hc)<|A1<|cc W h (fun c1 h=> ?_)<|fun c1 h=> ?_))))
 refine B0<|sv W<|A1<|B2 ?_
 cases h
 exact A6 (.inr W) (B6 (B3 W) C1) (.refl _)
 refine A8<|B0<|sq W<|sl W G_hit W<|B8 (.fn _ _ _) W W (bs h fun _ hv2 h=>A9 W (rD<|E6 (AJ G1<|E6 (Bc (gq W)<|rD<|rD<|rD<|rD<|rD G1)<|E6 (Bc (gq W)<|rD G1) G1) G1) A3 (Hr _ _ _ _ hv2) (.inr W) (sv W<|A1<|B2 ?_))
 cases h
 exact A6 (.inr W) (B6 (B3 W) C1) (.refl _)
def Dk [Lp](p1:Map)(p2:(List Int))(p3:Int):Option Int:=
  (Hu p1 p2 p3).bind fun v1=>cond (decide (v1≥0)) ((C0 p2 v1).bind fun v2=>some v2) (some (-1))
theorem Rz(p1 p2 p3 r)(h:Dk p1 p2 p3=some r):PCall prog 175 [(.agg (P9 p1)),(.list (List.map A4 p2)),(i64 p3)] (i64 r):=by
 refine C4 (fk func175 ntmps175 m0 (by with_unfolding_all rfl)) (nl W) ?_
 unfold Dk at h
 refine B4 (s0:=⟨T [(0,(.d _)),(1,(.d _)),(2,(.d _))],G []⟩) (F4 W W) ?_
 refine B0<|sm W<|sv W<|A1<|A5<|B0<|sd W (B1 W G_hit W W)<|sv W<|sv W<|bs h fun _ hv1 h=>A9 W W A3 (JW _ _ _ _ hv1) (.inl W) (sv W<|A1<|B0<|sv W<|sv W<|A1<|cc W h (fun c1 h=> ?_)<|fun c1 h=> ?_)
 refine B0<|sv W<|sv W<|bs h fun _ hv2 h=>sd W (C7 W W hv2 W)<|sd W (D2 W hv2 W)<|sv W<|A1<|B2 ?_
 cases h
 exact A6 (.inr W) (B6 (B3 W) C1) (.refl _)
 refine A8<|B0<|sv W<|A1<|B2 ?_
 cases h
 exact A6 (.inr W) (B6 (B3 W) C1) (.refl _)
def Lu [Lp](p1:Map)(p2:Int):Option Bool:=
  ((cond ((decide (p2≥0))&& (decide (p2< (p1.Lanes.length:Int)))) (Cb p1) (some default))).bind fun v1=>some (((decide (p2≥0))&& (decide (p2< (p1.Lanes.length:Int))))&& (v1==0))
theorem Yr(p1 p2 r)(h:Lu p1 p2=some r):PCall prog 206 [(.agg (P9 p1)),(i64 p2)] (bo r):=by
 refine C4 (fk func206 ntmps206 m0 (by with_unfolding_all rfl)) (nl W) ?_
 unfold Lu at h
 refine B4 (s0:=⟨T [(0,(.d _)),(1,(.d _))],G []⟩) (F4 W W) ?_
 refine B0<|sm W<|sv W<|A1<|B0<|sv W<|sv W<|sv W<|gt W (fun _=>W)<|gp W (M7 W) (fun _=>W) (gt W (vl W G_hit W)<|gt W (fun w4=>(D8<|A2 w4))<|gt W (fun w5=>(M4 (A2 w5) (A2 w5) W))<|sa W W W<|sv W<|gt W (fun _=>(B1 W G_hit W W))<|bs h fun v1 hv1 h=> ?_)
 refine N9 _ (i64 v1) (M7 W) (fun w7=>⟨_,[(.d (.agg (P9 p1)))],_,_,(by simp only [A2 w7];rfl),W,A3,Rx _ _<|C2 w7 hv1,(.inl W)⟩) ?_
 refine gt W (vb W W W)<|sa W W W<|sv W<|A1<|B2 ?_
 cases h
 exact A6 (.inr W) (B6 (B3 W) C1) (.refl _)
def U4 [Lp](p1:Signal)(p2:Int)(x2:(Int×Int)):Option (Stp (Int×Int) (Sum Unit Bool)):=
  cond (decide (x2.2< (p1.Phases.length:Int))) ((C0 p1.Phases x2.2).bind fun v5=>cond (decide (x2.1≥v5.Ticks)) (some (.go ((D6 (x2.1 - v5.Ticks)),(D6 (x2.2+1))))) ((N4 v5.Green p2).bind fun v6=>some (.out (.inr v6)))) (some (.out (.inl ())))
def Ce (p1:Signal)(x1:(Int×Int)):Option (Stp (Int×Int) Int):=
  cond (decide (x1.2< (p1.Phases.length:Int))) ((C0 p1.Phases x1.2).bind fun v1=>some (.go ((D6 (x1.1+v1.Ticks)),(D6 (x1.2+1))))) (some (.out x1.1))
def Fh [Lp](p1:Signal)(p2:Int)(p3:Int):Option Bool:=
  (loop (Ce p1) (0,0)).bind fun y1=>(Vk p1.Offset y1).bind fun v2=>(Vk p3 y1).bind fun v3=>(Vk (D6 (v2+v3)) y1).bind fun v4=>thenS (loop (U4 p1 p2) (v4,0)) (fun _=>some false) (fun r=>some r)
theorem Ys(p1 p2 p3 r)(h:Fh p1 p2 p3=some r):PCall prog 248 [(.agg [(i64 p1.Offset),(.list (List.map Bd p1.Phases))]),(i64 p2),(i64 p3)] (bo r):=by
 refine C4 (fk func248 ntmps248 m0 (by with_unfolding_all rfl)) (nl W) ?_
 unfold Fh at h
 refine B4 (s0:=⟨T [(0,(.d _)),(1,(.d _)),(2,(.d _))],G []⟩) (F4 W W) ?_
 refine lr<|fun u1 _=>sm W<|sv W<|A1<|jE<|B0<|sv W<|A1<|A5<|B0<|sq W<|sl W G_hit W<|sd W (D8 W)<|sv W<|A1<|bs h fun y1 hy1 h=>D9 (fun s=> ∃g1:Unit,Sb ⟨T [(1,(di p2)),(2,(di p3)),(3,(.ptr (3,u1) 0)),(7,(di y1))],G [((3,u1),some<|.box 120 [(di p1.Offset),(dl Bd p1.Phases)])]⟩ s) ?_ ?_
 refine A7<|E3 (Ce p1) (fun (x1:(Int×Int)) (g2:Unit)=>⟨T [(1,(di p2)),(2,(di p3)),(3,(.ptr (3,u1) 0)),(7,(di x1.1)),(14,(dl Bd p1.Phases)),(15,(di (p1.Phases.length:Int))),(16,(di x1.2))],G [((3,u1),some<|.box 120 [(di p1.Offset),(dl Bd p1.Phases)])]⟩) (0,0) () _ hy1 (F4 W W) ?_
 intro x1 g2 z1 hz1 ez1
 unfold Ce at hz1
 refine B0<|sv W<|A1<|A5<|cc W hz1 (fun c1 hz1=> ?_)<|fun c1 hz1=> ?_
 refine A8<|A5<|A7<|B0<|bs hz1 fun v1 hv1 hz1=>sd W (C7 W W hv1 W)<|sd W (D5 W hv1 W W)<|sm W<|U1 W G_hit [(di v1.Ticks),(dl A4 v1.Green)] W (A1<|B9<|sv W<|sq W<|sl W G_hit W<|sv W<|sv W<|A1<|E2<|B9<|sv W<|sv W<|A1<|E4 ?_)
 cases hz1
 exact ⟨W,(),(F4 W W)⟩
 refine C8 W ?_
 cases hz1
 obtain rfl:=ez1 _ rfl
 refine ⟨nofun,C6 W<|U8 ?_⟩
 exact ⟨(),(F4 W W)⟩
 rintro _ ⟨g1,q1⟩
 refine B4 q1<|A5<|F3 W<|sq W<|sl W G_hit W<|sv W<|bs h fun _ hv2 h=>sd W (AL W W hv2)<|sv W<|sv W<|bs h fun _ hv3 h=>sd W (AL W W hv3)<|sv W<|sv W<|bs h fun v4 hv4 h=>sd W (AL W W hv4)<|sv W<|A1<|A5<|A8<|A5<|B0<|sq W<|sl W G_hit W<|sd W (D8 W)<|sv W<|A1<|js h fun z2 hz2 h=>D9 (fun s=> ∃(y2:Unit) (g3:Unit),z2= .inl y2∧Sb ⟨T [],G []⟩ s) ?_ ?_
 refine A7<|E3 (U4 p1 p2) (fun (x2:(Int×Int)) (g4:Unit)=>⟨T [(1,(di p2)),(10,(di x2.1)),(36,(dl Bd p1.Phases)),(37,(di (p1.Phases.length:Int))),(38,(di x2.2))],G []⟩) (v4,0) () _ hz2 (F4 W W) ?_
 intro x2 g4 z3 hz3 ez3
 unfold U4 at hz3
 refine B0<|sv W<|A1<|A5<|cc W hz3 (fun c2 hz3=> ?_)<|fun c2 hz3=> ?_
 refine A8<|A5<|A7<|B0<|bs hz3 fun v5 hv5 hz3=>sd W (C7 W W hv5 W)<|sd W (D5 W hv5 W W)<|sm W<|U1 W G_hit [(di v5.Ticks),(dl A4 v5.Green)] W (A1<|A5<|B0<|sv W<|sq W<|sl W G_hit W<|sv W<|A1<|cc W hz3 (fun c3 hz3=> ?_)<|fun c3 hz3=> ?_)
 refine B0<|sv W<|sq W<|sl W G_hit W<|sv W<|sv W<|A1<|Vj W<|B9<|sv W<|sv W<|A1<|E4 ?_
 cases hz3
 exact ⟨W,(),(F4 W W)⟩
 refine A8<|B0<|sq W<|sl W G_hit W<|sv W<|bs hz3 fun _ hv6 hz3=>A9 W W A3 (Dw _ _ _ hv6) (.inl W) (sv W<|A1<|B2 ?_)
 cases hz3
 obtain rfl:=ez3 _ rfl
 refine ⟨nofun,F1 ?_⟩
 rw [wE]at h
 cases h
 exact A6 (.inr W) (B6 (B3 W) C1) (.refl _)
 refine C8 W ?_
 cases hz3
 obtain rfl:=ez3 _ rfl
 refine ⟨nofun,C6 W<|U8 ?_⟩
 exact ⟨_,(),W,(F4 W W)⟩
 rintro _ ⟨y2,g3,rfl,q2⟩
 rw [wD]at h
 refine B4 q2<|B0<|sv W<|A1<|B2 ?_
 cases h
 exact A6 (.inr W) (B6 (B3 W) C1) (.refl _)
def Hv [Lp](p1:Map)(p2:Int)(p3:Int)(p4:Int):Option Bool:=
  ((cond (((decide (p4≥0))&& (decide (p2≥0)))&& (decide (p2< (p1.Signals.length:Int)))) (Lu p1 p3) (some default))).bind fun v1=>((cond ((((decide (p4≥0))&& (decide (p2≥0)))&& (decide (p2< (p1.Signals.length:Int))))&&v1) (C0 p1.Signals p2) (some default))).bind fun v2=>((cond ((((decide (p4≥0))&& (decide (p2≥0)))&& (decide (p2< (p1.Signals.length:Int))))&&v1) (Fh v2 p3 p4) (some default))).bind fun v3=>some (((((decide (p4≥0))&& (decide (p2≥0)))&& (decide (p2< (p1.Signals.length:Int))))&&v1)&&v3)
theorem JX(p1 p2 p3 p4 r)(h:Hv p1 p2 p3 p4=some r):PCall prog 219 [(.agg (P9 p1)),(i64 p2),(i64 p3),(i64 p4)] (bo r):=by
 refine C4 (fk func219 ntmps219 m0 (by with_unfolding_all rfl)) (nl W) ?_
 unfold Hv at h
 refine B4 (s0:=⟨T [(0,(.d _)),(1,(.d _)),(2,(.d _)),(3,(.d _))],G []⟩) (F4 W W) ?_
 refine B0<|sm W<|sv W<|A1<|B0<|sv W<|sv W<|sv W<|gt W (fun _=>W)<|gt W (vb W W W)<|sa W W W<|sv W<|gt W (fun _=>W)<|gp W (M7 W) (fun _=>W) (gt W (vl W G_hit W)<|gt W (fun w6=>(D8<|A2 w6))<|gt W (fun w7=>(M4 (A2 w7) (A2 w7) W))<|sa W W W<|sv W<|gt W (fun _=>(B1 W G_hit W W))<|gt W (fun _=>W)<|bs h fun v1 hv1 h=> ?_)
 refine N9 _ (bo v1) (M7 W) (fun w10=>⟨_,[(.d (.agg (P9 p1))),(di p3)],_,_,(by simp only [A2 w10];rfl),W,A3,Yr _ _ _<|C2 w10 hv1,(.inl W)⟩) ?_
 refine sa W W W<|sv W<|gp W (M7 W) (fun _=>W) (gt W (vl W G_hit W)<|gt W (fun _=>W)<|bs h fun v2 hv2 h=>gt W (fun w14=>(C7 (A2 w14) (A2 w14) (C2 w14 hv2) W))<|gt W (fun w15=>(D5 (A2 w15) (C2 w15 hv2) W W))<|gt W (fun _=>W)<|gt W (fun _=>W)<|bs h fun v3 hv3 h=> ?_)
 refine N9 _ (bo v3) (M7 W) (fun w18=>⟨_,[(.d (.agg [(i64 v2.Offset),(.list (List.map Bd v2.Phases))])),(di p3),(di p4)],_,_,(by simp only [A2 w18];rfl),W,A3,Ys _ _ _ _<|C2 w18 hv3,(.inl W)⟩) ?_
 refine sa W W W<|sv W<|A1<|B2 ?_
 cases h
 exact A6 (.inr W) (B6 (B3 W) C1) (.refl _)
def Nt (p1:Part)(p2:Int):Option Bool:=
  some (p1.Lane_==p2)
theorem ED(p1 p2 r)(h:Nt p1 p2=some r):PCall prog 221 [(.agg (Bn p1)),(.bp [(i64 p2)] 0)] (bo r):=by
 refine C4 (fk func221 ntmps221 m0 (by with_unfolding_all rfl)) (nl W) ?_
 unfold Nt at h
 refine B4 (s0:=⟨T [(0,(.d _)),(1,(.d _))],G []⟩) (F4 W W) ?_
 refine B0<|sm W<|sv W<|A1<|B0<|sq W<|sl W G_hit W<|sv W<|sv W<|sv W<|A1<|B2 ?_
 cases h
 exact A6 (.inr W) (B6 (B3 W) C1) (.refl _)
def M6 (p1:(List Part))(p2:Int)(x1:Int):Option (Stp Int (Sum Unit Int)):=
  cond (decide (x1< (p1.length:Int))) ((C0 p1 x1).bind fun v1=>(Nt v1 p2).bind fun v2=>cond v2 (some (.out (.inr x1))) (some (.go (D6 (x1+1))))) (some (.out (.inl ())))
def I9 [Lp](p1:(List Part))(p2:Int):Option Int:=
  thenS (loop (M6 p1 p2) 0) (fun _=>some (-1)) (fun r=>some r)
theorem Ht(p1 p2 r)(h:I9 p1 p2=some r):PCall prog 220 [(.list (List.map Bn p1)),(.fn (.func 221) [] [(.bp [(i64 p2)] 0)])] (i64 r):=by
 refine C4 (fk func220 ntmps220 m0 (by with_unfolding_all rfl)) (nl W) ?_
 unfold I9 at h
 refine B4 (s0:=⟨T [(0,(.d _)),(1,(.d _))],G []⟩) (F4 W W) ?_
 refine B0<|sv W<|A1<|A5<|B0<|sv W<|sd W (D8 W)<|sv W<|A1<|js h fun z1 hz1 h=>D9 (fun s=> ∃(y1:Unit) (g1:Unit),z1= .inl y1∧Sb ⟨T [],G []⟩ s) ?_ ?_
 refine A7<|E3 (M6 p1 p2) (fun (x1:Int) (g2:Unit)=>⟨T [(0,(dl Bn p1)),(1,(.d (.fn (.func 221) [] [(.bp [(i64 p2)] 0)]))),(7,(di (p1.length:Int))),(8,(di x1))],G []⟩) 0 () _ hz1 (F4 W W) ?_
 intro x1 g2 z2 hz2 ez2
 unfold M6 at hz2
 refine B0<|sv W<|A1<|A5<|cc W hz2 (fun c1 hz2=> ?_)<|fun c1 hz2=> ?_
 refine A8<|A5<|A7<|B0<|sv W<|sv W<|A1<|B0<|sv W<|sv W<|sv W<|bs hz2 fun _ hv1 hz2=>sd W (C7 W W hv1 W)<|sd W (D5 W hv1 W W)<|bs hz2 fun _ hv2 hz2=>A9 W W A3 (ED _ _ _ hv2) (.inl W) (A1<|cc W hz2 (fun c2 hz2=> ?_)<|fun c2 hz2=> ?_)
 refine B0<|sv W<|sv W<|A1<|B2 ?_
 cases hz2
 obtain rfl:=ez2 _ rfl
 refine ⟨nofun,F1 ?_⟩
 rw [wE]at h
 cases h
 exact A6 (.inr W) (B6 (B3 W) C1) (.refl _)
 refine A8<|E2<|B9<|sv W<|sv W<|A1<|E4 ?_
 cases hz2
 exact ⟨W,(),(F4 W W)⟩
 refine C8 W ?_
 cases hz2
 obtain rfl:=ez2 _ rfl
 refine ⟨nofun,C6 W<|U8 ?_⟩
 exact ⟨_,(),W,(F4 W W)⟩
 rintro _ ⟨y1,g1,rfl,q1⟩
 rw [wD]at h
 refine B4 q1<|B0<|sv W<|A1<|B2 ?_
 cases h
 exact A6 (.inr W) (B6 (B3 W) C1) (.refl _)
def Fw [Lp](p1:Map)(p2:Agent)(p3:Int)(p4:Int):Option Int:=
  (Dk p1 p2.Route p3).bind fun v1=>cond (decide (v1<0)) (some 0) ((C0 p1.Zones p3).bind fun v2=>((cond (decide (v2.Signal_>0)) (Hv p1 (D6 (v2.Signal_ - 1)) v1 p4) (some default))).bind fun v3=>cond ((decide (v2.Signal_>0))&&v3) (some 2) (cond (decide (v2.Signal_>0)) (some 0) ((I9 v2.Parts v1).bind fun v4=>(C0 v2.Parts v4).bind fun v5=>some v5.Rank)))
theorem AU(p1 p2 p3 p4 r)(h:Fw p1 p2 p3 p4=some r):PCall prog 173 [(.agg (P9 p1)),(.agg (C9 p2)),(i64 p3),(i64 p4)] (i64 r):=by
 refine C4 (fk func173 ntmps173 m0 (by with_unfolding_all rfl)) (nl W) ?_
 unfold Fw at h
 refine B4 (s0:=⟨T [(0,(.d _)),(1,(.d _)),(2,(.d _)),(3,(.d _))],G []⟩) (F4 W W) ?_
 refine B0<|sm W<|sn W W<|sv W<|A1<|B0<|sd W (B1 W (gq W) W W)<|sq W<|sl W G_hit W<|sv W<|bs h fun v1 hv1 h=>A9 W W A3 (Rz _ _ _ _ hv1) (.inl W) (sm W<|U1 W G_hit [(di v1)] W (A1<|A5<|B0<|sl W G_hit W<|sv W<|A1<|cc W h (fun c1 h=> ?_)<|fun c1 h=> ?_))
 refine B0<|sv W<|A1<|B2 ?_
 cases h
 exact A6 (.inr W) (B6 (B3 W) C1) (.refl _)
 refine A8<|B0<|sq W<|sl W (gq W) W (sv W<|bs h fun v2 hv2 h=>sd W (C7 W W hv2 W)<|sd W (D5 W hv2 W W)<|sm W<|U1 W G_hit [(dl Bn v2.Parts),(di v2.Signal_)] W (A1<|A5<|A7<|B0<|sq W<|sl W G_hit W<|sv W<|sv W<|gt W (fun _=>(B1 W (gq W) W W))<|gp W (M7 W) (fun _=>W) (gt W (vl W G_hit W)<|gt W (vb W W W)<|gt W (fun _=>(Q4 W (gq W) W))<|gt W (fun _=>W)<|bs h fun v3 hv3 h=> ?_)))
 refine N9 _ (bo v3) (M7 W) (fun w7=>⟨_,[(.d (.agg (P9 p1))),(di<|D6 (v2.Signal_ - 1)),(di v1),(di p4)],_,_,(by simp only [A2 w7];rfl),W,A3,JX _ _ _ _ _<|C2 w7 hv3,(.inl W)⟩) ?_
 refine sa W W W<|sv W<|A1<|cc W h (fun c2 h=> ?_)<|fun c2 h=> ?_
 refine B0<|sv W<|A1<|B2 ?_
 cases h
 exact A6 (.inr W) (B6 (B3 W) C1) (.refl _)
 refine B0<|sq W<|sl W G_hit W<|sv W<|sv W<|A1<|cc W h (fun c3 h=> ?_)<|fun c3 h=> ?_
 refine B0<|sv W<|A1<|B2 ?_
 cases h
 exact A6 (.inr W) (B6 (B3 W) C1) (.refl _)
 refine A8<|E2<|A5<|F3 W<|sq W<|sl W G_hit W<|sq W<|sl W G_hit W<|B8 (.fn _ _ _) W W (bs h fun _ hv4 h=>A9 W (rD<|E6 (AJ G1<|E6 (Bc (gq W)<|rD G1) G1) G1) A3 (Ht _ _ _ hv4) (.inr W) (bs h fun _ hv5 h=>sd W (C7 W W hv5 W)<|sv W<|sd W (D2 W hv5 W)<|sv W<|A1<|B2 ?_))
 cases h
 exact A6 (.inr W) (B6 (B3 W) C1) (.refl _)
def X0 [Lp](p1:WorldScene)(x1:(Int× (List Stay)))(v1:Agent)(x2:(Int× (List Stay))):Option (Stp (Int× (List Stay)) (List Stay)):=
  cond (decide (x2.1< (p1.m.Zones.length:Int))) ((N5 (WorldScene.mk p1.m p1.before (State.mk p1.after.Tick p1.after.Agents x2.2) p1.acts p1.crashes) x1.1 x2.1).bind fun v2=>cond (!v2) (some (.go ((D6 (x2.1+1)),x2.2))) ((D1 p1.before.In (Stay.mk x1.1 x2.1 p1.before.Tick 0)).bind fun v3=>(cond v3.2 ((C0 p1.before.In v3.1).bind fun v4=>some v4) ((Fw p1.m v1 x2.1 p1.before.Tick).bind fun v5=>some (Stay.mk x1.1 x2.1 p1.before.Tick v5))).bind fun y2=>(X3 x2.2 [y2]).bind fun v6=>some (.go ((D6 (x2.1+1)),v6)))) (some (.out x2.2))
def X1 [Lp](p1:WorldScene)(x1:(Int× (List Stay))):Option (Stp (Int× (List Stay)) WorldScene):=
  cond (decide (x1.1< (p1.before.Agents.length:Int))) ((C0 p1.before.Agents x1.1).bind fun v1=>(loop (X0 p1 x1 v1) (0,x1.2)).bind fun y1=>some (.go ((D6 (x1.1+1)),y1))) (some (.out ((WorldScene.mk p1.m p1.before (State.mk p1.after.Tick p1.after.Agents x1.2) p1.acts p1.crashes))))
def Ap [Lp](p1:WorldScene):Option WorldScene:=
  loop (X1 p1) (0,[])
theorem Vr(p1 r)(h:Ap p1=some r):MCall prog 80 [(.ptr (900000,0) 0)] [(.box 135 (W1 p1))] (.d (.tup [])) [some (.box 135 (W1 r))] []:=by
 refine Vl (fk func80 ntmps80 (fun r=>if r==13 then [1007]else []) (by with_unfolding_all rfl)) W (nl W) ?_
 unfold Ap at h
 refine B4 (s0:=⟨T [(0,(.ptr _ _))],G [((900000,0),some<|.box 135 _)]⟩) (F4 W W) ?_
 refine B0<|sq W<|sp W W<|sq W<|sp W W<|U1 W G_hit ((W1 p1).set 10 (.d .nilS)) W (A1<|B0<|sq W<|sp W W<|sq W<|sp W W<|sl W G_hit W<|sd W (D8 W)<|sv W<|A1<|A7<|E3 (X1 p1) (fun (x1:(Int× (List Stay))) (g1:Nat)=>⟨T [(0,(.ptr (900000,0) 0)),(16,(dl C9 p1.before.Agents)),(17,(di (p1.before.Agents.length:Int))),(18,(di x1.1))],G [((900000,0),some<|.box 135 ((W1 p1).set 10 (oS x1.2 (85,g1)))),((85,g1),oB 127 4 J6 x1.2)]⟩) (0,[]) 0 _ h (E1 (Z2 W)<|B5 G_hit (.of W)<|S4 trivial) ?_)
 intro x1 g1 z1 hz1 ez1
 unfold X1 at hz1
 refine B0<|sv W<|A1<|A5<|cc W hz1 (fun c1 hz1=> ?_)<|fun c1 hz1=> ?_
 refine A8<|A5<|A7<|lr<|fun u4 _=>sv W<|bs hz1 fun v1 hv1 hz1=>sd W (C7 W W hv1 W)<|sd W (D5 W hv1 W W)<|sm W<|sv W<|U1 W G_hit (S9 v1) W (A1<|B0<|sq W<|sp W W<|sq W<|sp W W<|sl W (gq W) W (sd W (D8 W)<|sv W<|A1<|bs hz1 fun y1 hy1 hz1=>D9 (fun s=> ∃g2:Nat,Sb ⟨T [(0,(.ptr (900000,0) 0)),(16,(dl C9 p1.before.Agents)),(17,(di (p1.before.Agents.length:Int))),(18,(di x1.1))],G [((900000,0),some<|.box 135 ((W1 p1).set 10 (oS y1 (85,g2)))),((85,g2),oB 127 4 J6 y1)]⟩ s) ?_ ?_))
 refine A7<|E3 (X0 p1 x1 v1) (fun (x2:(Int× (List Stay))) (g3:Nat)=>⟨T [(0,(.ptr (900000,0) 0)),(2,(di x1.1)),(3,(.ptr (3,u4) 0)),(16,(dl C9 p1.before.Agents)),(17,(di (p1.before.Agents.length:Int))),(18,(di x1.1)),(28,(di (p1.m.Zones.length:Int))),(29,(di x2.1))],G [((900000,0),some<|.box 135 ((W1 p1).set 10 (oS x2.2 (85,g3)))),((3,u4),some<|.box 45 (S9 v1)),((85,g3),oB 127 4 J6 x2.2)]⟩) (0,x1.2) g1 _ hy1 (E1 (Z2 W)<|sg W<|B5 G_hit (.of W)<|B7 (gq W) trivial) ?_
 intro x2 g3 z2 hz2 ez2
 unfold X0 at hz2
 refine B0<|sv W<|A1<|A5<|cc W hz2 (fun c2 hz2=> ?_)<|fun c2 hz2=> ?_
 refine A8<|A5<|A7<|B0<|sv W<|sv W<|A1<|A5<|B0<|sq W<|sv W<|sv W<|bs hz2 fun v2 hv2 hz2=>A9 W (E6 (Bc G_hit<|rD<|rD<|rD<|rD<|rD<|rD<|rD<|rD<|rD<|rD<|E6 (T8<|gq W)<|rD<|rD G1)<|rD<|rD G1) (.cons (DLe.bp<|ca W<|ca W<|ca W<|ca W<|ca W<|ca W<|ca W<|ca W<|ca W<|ca W<|.cons ⟨T7,W⟩ (cz W)) (.cons (.refl _) A3)) (Br _ _ _ _ hv2) (.inr W) (B8 (.d (bo (!v2))) W W (A1<|cc W hz2 (fun c3 hz2=> ?_)<|fun c3 hz2=> ?_))
 refine Vj W<|B9<|sv W<|sv W<|A1<|E4 ?_
 cases hz2
 exact ⟨W,g3,(E1 (Z2 W)<|B5 G_hit (.of W)<|sg W<|B7 (gq W) trivial)⟩
 refine A8<|lr<|fun u10 _=>sv W<|sv W<|sq W<|sp W W<|sq W<|sp W W<|sl W G_hit W<|sv W<|sm W<|U1 W G_hit [(di x1.1),(di x2.1),(di p1.before.Tick),(di 0)] W (A1<|A5<|A5<|F3 W<|sq W<|sq W<|sp W W<|sq W<|sl W (gq W) W (sd W (B1 W G_hit W W)<|bs hz2 fun _ hv3 hz2=>A9 W W A3 (O9 _ _ _ hv3) (.inl W) (sv W<|sv W<|sv W<|sv W<|sv W<|A1<|B0<|sv W<|A1<|bs hz2 fun y2 hy2 hz2=>D9 (fun s=> ∃g4:Unit,Sb ⟨T [(0,(.ptr (900000,0) 0)),(2,(di x1.1)),(3,(.ptr (3,u4) 0)),(5,(.ptr (5,u10) 0)),(16,(dl C9 p1.before.Agents)),(17,(di (p1.before.Agents.length:Int))),(18,(di x1.1)),(28,(di (p1.m.Zones.length:Int))),(29,(di x2.1))],G [((900000,0),some<|.box 135 ((W1 p1).set 10 (oS x2.2 (85,g3)))),((3,u4),some<|.box 45 (S9 v1)),((5,u10),some<|.box 127 (Ws y2)),((85,g3),oB 127 4 J6 x2.2)]⟩ s) ?_ ?_)))
 refine cc W hy2 (fun c4 hy2=> ?_)<|fun c4 hy2=> ?_
 refine B9<|sq W<|sq W<|sp W W<|sq W<|sl W (gq W) W (sv W<|bs hy2 fun v4 hv4 hy2=>sd W (C7 W W hv4 W)<|sd W (D5 W hv4 W W)<|U1 W G_hit (Ws v4) W (A1 ?_))
 obtain rfl:=(lD hy2)
 exact U8 ⟨(),(E1 (Z2 W)<|sg W<|sg W<|B5 G_hit (.of W)<|B7 (gq W) trivial)⟩
 refine F3 W<|sq W<|sq W<|sp W W<|sd W (B1 W (gq W) W W)<|sd W (B1 W (gq W) W W)<|sv W<|sq W<|sp W W<|sq W<|sp W W<|sl W (gq W) W (bs hy2 fun v5 hv5 hy2=>A9 W W A3 (AU _ _ _ _ _ hv5) (.inl W) (sq W<|U1 W G_hit [(di x1.1),(di x2.1),(di p1.before.Tick),(di v5)] W (A1 ?_)))
 cases hy2
 exact U8 ⟨(),(E1 (Z2 W)<|sg W<|sg W<|B5 G_hit (.of W)<|B7 (gq W) trivial)⟩
 rintro _ ⟨g4,q1⟩
 refine B4 q1<|Mk W fun u15 _=>sq W<|sq W<|sp W W<|sq W<|sp W W<|B8 (oS x2.2 (85,g3)) W (Q4 W G_hit W) (sd W (B1 W (gq W) W W)<|B8 (dl J6 [y2]) W W (bs hz2 fun _ hv6 hz2=>P7 J6 (85,g3) x2.2 y2 [] _ (L7<|fun _=>W) W (gq W) hv6 (sq W<|sp W W<|sq W<|U1 W (gq W) ((W1 p1).set 10 (.sl (85,u15))) W (A1<|E2<|B9<|sv W<|sv W<|A1<|E4 ?_))))
 cases hz2
 exact ⟨W,u15,(E1 (Z2 W)<|B5 G_hit (.box (cv<|cv<|cv<|cv<|cv<|cv<|cv<|cv<|cv<|cv<|.cons (.of (U9<|V1 hv6).symm) cw))<|sg W<|N6 (gq W) trivial)⟩
 refine C8 W ?_
 cases hz2
 obtain rfl:=ez2 _ rfl
 refine ⟨nofun,C6 W<|U8 ?_⟩
 exact ⟨g3,(E1 (Z2 W)<|B5 G_hit (.of W)<|B7 (gq W) trivial)⟩
 rintro _ ⟨g2,q2⟩
 refine E2<|B4 q2<|B9<|sv W<|sv W<|A1<|E4 ?_
 cases hz1
 exact ⟨W,g2,(E1 (Z2 W)<|B5 G_hit (.of W)<|B7 (gq W) trivial)⟩
 refine C8 W ?_
 cases hz1
 obtain rfl:=ez1 _ rfl
 refine ⟨nofun,C6 W<|E4 ?_⟩
 exact BX (.inl W) [(85,g1)] BY (.refl _) ⟨⟨_,_,_,G_hit,(ZG W Fr),(rD<|rD<|rD<|rD<|rD<|rD<|rD<|rD<|rD<|rD<|E6 (T8<|RX (.head _)<|gq W)<|rD<|rD G1),(.cons (.refl _) (.cons (.refl _) (.cons (.refl _) (.cons (.refl _) (.cons (.refl _) (.cons (.refl _) (.cons (.refl _) (.cons (.refl _) (.cons (.refl _) (.cons (.refl _) (.cons T7 (.cons (.refl _) A3)))))))))))),W⟩,trivial⟩
def Yt (s:State)(i:Nat):Nat→Nat→Option (List (Int×Int))
  |0,_=>some []
  |k+1,j=>(Ff s i).bind fun a=>(Ff s j).bind fun b=>(Yt s i k (j+1)).bind fun l=>some (cond (a&&b) (((i:Int),(j:Int))::l) l)
def CE (s:State)(n:Nat):Nat→Nat→Option (List (Int×Int))
  |0,_=>some []
  |k+1,i=>(Yt s i (n - (i+1)) (i+1)).bind fun a=>(CE s n k (i+1)).bind fun b=>some (a++b)
def FP (s:State):Option (List (Int×Int)):=if s.Agents.length≤1000000 then CE s s.Agents.length s.Agents.length 0 else none
abbrev JY (a:Int×Int):List D:= [i64 a.1,i64 a.2]
def Vs (kb ks:F7)(s:State)(h:E5):Prop:=h kb=some (.box 133 [.ptr ks 0])∧∃c0 c1 c2 c3 c4 c8 c9 c10 c11 c12,h ks=some (.box 135 [c0,c1,c2,c3,c4, .d (i64 s.Tick), .d (.list (List.map C9 s.Agents)), .d (.list (List.map J6 s.In)),c8,c9,c10,c11,c12])
theorem JZ {s:State}{L:List (Int×Int)}(h:FP s=some L)(kb ks:F7):mN prog (.fn (.func 174) [] [.ptr kb 0]) (Vs kb ks s) (L.map JY):=by
  unfold FP at h
  split at h
  case isFalse=>cases h
  rename_i hlen
  refine ⟨174,[],[.ptr kb 0],W,?_⟩
  intro k h0 Inv Stop hi0 hcan hy
  refine JJ (fk func174 ntmps174 (fun r=>if r==6 then [18]else []) (by with_unfolding_all rfl)) (by simp) (jD ?_)
  obtain ⟨g0,S0,i0,c0⟩:=hcan 0 h0 hi0
  have hLm:(L.map JY).length=L.length:=lS ..
  rw [hLm]
  refine B4 (s0:=⟨T [(0, .yld k),(1, .ptr kb 0)],g0⟩) ⟨fun i=> ?_,S0.h⟩ ?_
  ·match i with
   |0=>exact .refl _
   |1=>exact .refl _
   |n+2=>exact .any _
  have c0':=c0
  obtain ⟨e1,a0,a1,a2,a3,a4,a8,a9,a10,a11,a12,e2⟩:=c0'
  refine A5 ?_
  refine Ts fun u hu=> ?_
  refine G5 (.ptr ks 0) W (Q4 W e1 W) ?_
  refine G5 (.ptr ks 0) W W ?_
  refine G5 (.ptr ks 5) W W ?_
  refine G5 (.ptr ks 6) W W ?_
  refine G5 (.d (.list (List.map C9 s.Agents))) W (Q4 W e2 W) ?_
  refine G5 (.d (i64 s.Agents.length)) W (D8 (f:=C9) W) ?_
  refine G5 (.d (i64 0)) W W ?_
  refine Bb ?_
  refine A7 ?_
  refine XR (α:=Nat×Nat×E5) (fun x=>⟨T [(0, .yld k),(1, .ptr kb 0),(10, .d (i64 s.Agents.length)),(11, .d (i64 (x.1:Int)))],x.2.2⟩) (fun x=>s.Agents.length - x.1)
    (fun x=>Inv x.2.1 x.2.2∧Vs kb ks s x.2.2∧x.1≤s.Agents.length∧x.2.1≤L.length∧CE s s.Agents.length (s.Agents.length - x.1) x.1=some (L.drop x.2.1)) (0,0,g0) ⟨i0,c0,wI _,wI _,h⟩ (Yc ⟨rfl,rfl,rfl,rfl,trivial⟩ fun _ _ h=>h) ?_
  rintro ⟨i,pos,hh⟩ ⟨hinv,hrq,hi,hpos,hgo⟩
  dsimp only at hinv hrq hi hpos hgo ⊢
  refine A5 ?_
  refine Ts fun u hu=> ?_
  refine G5 (.d (bo<|decide ((i:Int)< (s.Agents.length:Int)))) W W ?_
  refine Bb ?_
  refine A5 ?_
  refine VB (decide ((i:Int)< (s.Agents.length:Int))) W (fun hlt=> ?_) (fun hlt=> ?_)
  ·refine A8 ?_
   have hlt:i<s.Agents.length:=by simpa using hlt
   have hw1: ∀n:Nat,n≤1000000→IntKind.i64.wrap ((n:Int)+1)=((n+1:Nat):Int):=fun n _=>(Go.IntWalk.i64_in _ (by omega)).trans (by omega)
   obtain ⟨m,hm⟩: ∃m,s.Agents.length - i=m+1:=⟨s.Agents.length - i - 1,by omega⟩
   rw [hm,CE]at hgo
   obtain ⟨l1,hl1,hgo⟩:=bind_some hgo
   obtain ⟨l2,hl2,hgo⟩:=bind_some hgo
   have hgo:l1++l2=L.drop pos:=lD hgo
   refine A5 ?_
   refine A7 ?_
   refine A5 ?_
   refine Ts fun u hu=> ?_
   refine G5 (.d (i64 i)) W W ?_
   refine G5 (.d (i64 i)) W W ?_
   refine Bb ?_
   refine A5 ?_
   refine Ts fun u hu=> ?_
   refine G5 (.d (i64 i)) W W ?_
   refine G5 (.d (i64 ((i+1:Nat):Int))) W (by rw [← hw1 i (by omega)];rfl) ?_
   refine G5 (.d (i64 ((i+1:Nat):Int))) W W ?_
   refine Bb ?_
   refine A7 ?_
   refine XR (α:=Nat×Nat×E5) (fun x=>⟨T [(0, .yld k),(1, .ptr kb 0),(3, .d (i64 (i:Int))),(4, .d (i64 (x.1:Int))),(10, .d (i64 s.Agents.length)),(11, .d (i64 (i:Int)))],x.2.2⟩) (fun x=>s.Agents.length - x.1)
     (fun x=>Inv x.2.1 x.2.2∧Vs kb ks s x.2.2∧x.1≤s.Agents.length∧x.2.1≤L.length∧∃l,Yt s i (s.Agents.length - x.1) x.1=some l∧l++l2=L.drop x.2.1) (i+1,pos,hh) ⟨hinv,hrq,hlt,hpos,l1,hl1,hgo⟩ (Yc ⟨rfl,rfl,rfl,rfl,rfl,rfl,trivial⟩ fun _ _ h=>h) ?_
   rintro ⟨j,pos,hh⟩ ⟨hinv,hrq,hj,hpos,l,hl,hgo⟩
   dsimp only at hinv hrq hj hpos hl hgo ⊢
   have hrq':=hrq
   obtain ⟨e1,a0,a1,a2,a3,a4,a8,a9,a10,a11,a12,e2⟩:=hrq'
   refine A5 ?_
   refine A5 ?_
   refine Ts fun u hu=> ?_
   refine G5 (.d (i64 j)) W W ?_
   refine G5 (.ptr ks 0) W (Q4 W e1 W) ?_
   refine G5 (.ptr ks 0) W W ?_
   refine G5 (.ptr ks 5) W W ?_
   refine G5 (.ptr ks 6) W W ?_
   refine G5 (.d (.list (List.map C9 s.Agents))) W (Q4 W e2 W) ?_
   refine G5 (.d (i64 s.Agents.length)) W (D8 (f:=C9) W) ?_
   refine G5 (.d (bo<|decide ((j:Int)< (s.Agents.length:Int)))) W W ?_
   refine Bb ?_
   refine VB (decide ((j:Int)< (s.Agents.length:Int))) W (fun hjl=> ?_) (fun hjl=> ?_)
   ·refine A8 ?_
    have hjl:j<s.Agents.length:=by simpa using hjl
    obtain ⟨m',hm'⟩: ∃m',s.Agents.length - j=m'+1:=⟨s.Agents.length - j - 1,by omega⟩
    rw [hm',Yt]at hl
    obtain ⟨a,ha,hl⟩:=bind_some hl
    obtain ⟨b,hb,hl⟩:=bind_some hl
    obtain ⟨l',hl',hl⟩:=bind_some hl
    have hl:cond (a&&b) (((i:Int),(j:Int))::l') l'=l:=lD hl
    have hm1:s.Agents.length - (j+1)=m':=by omega
    -- what a round leaves
    have hend: ∀(p':Nat) (h':E5),Inv p' h'→Vs kb ks s h'→p'≤L.length→l'++l2=L.drop p'→∃y:Nat×Nat×E5,(Inv y.2.1 y.2.2∧Vs kb ks s y.2.2∧y.1≤s.Agents.length∧y.2.1≤L.length∧∃l,Yt s i (s.Agents.length - y.1) y.1=some l∧l++l2=L.drop y.2.1)∧s.Agents.length - y.1<s.Agents.length - j∧y=(j+1,p',h'):=fun p' h' q1 q2 q3 q4=>⟨(j+1,p',h'),⟨q1,q2,hjl,q3,l',by dsimp only;rw [hm1];exact hl',q4⟩,by dsimp only;omega,rfl⟩
    refine A5 ?_
    refine A7 ?_
    refine A5 ?_
    refine Ts fun u hu=> ?_
    refine G5 (.ptr ks 0) W (Q4 W e1 W) ?_
    refine G5 (.ptr ks 0) W W ?_
    refine G5 (.ptr ks 5) W W ?_
    refine G5 (.d (.agg [i64 s.Tick, .list (List.map C9 s.Agents), .list (List.map J6 s.In)])) W (B1 W e2 W W) ?_
    refine G5 (.d (i64 i)) W W ?_
    refine Zm W W (Kc s i _ ha) (.inl W) ?_
    refine G5 (.d (bo a)) W W ?_
    cases a with
    |false=>
     iterate 6 (refine VI rfl rfl ?_)
     refine G5 (.d (bo false)) W W ?_
     refine G5 (.d (bo false)) W W ?_
     iterate 5 (refine VI rfl rfl ?_)
     refine G5 (.d (bo false)) W W ?_
     refine Bb ?_
     refine Te W<|A8<|E2 ?_
     refine Ts fun u hu=> ?_
     refine G5 (.d (i64 j)) W W ?_
     refine G5 (.d (i64 ((j+1:Nat):Int))) W (by rw [← hw1 j (by omega)];rfl) ?_
     refine G5 (.d (i64 ((j+1:Nat):Int))) W W ?_
     refine Bb ?_
     obtain ⟨y,y1,y2,rfl⟩:=hend pos hh hinv hrq hpos (by rw [← hgo,← hl];rfl)
     exact E4 ⟨_,y1,y2,Yc ⟨W,W,W,W,W,W,trivial⟩ fun _ _ h=>h⟩
    |true=>
     refine Wr W ?_
     refine G5 (.ptr ks 0) W (Q4 W e1 W) ?_
     refine Wr W ?_
     refine G5 (.ptr ks 0) W W ?_
     refine Wr W ?_
     refine G5 (.ptr ks 5) W W ?_
     refine Wr W ?_
     refine G5 (.d (.agg [i64 s.Tick, .list (List.map C9 s.Agents), .list (List.map J6 s.In)])) W (B1 W e2 W W) ?_
     refine Wr W ?_
     refine G5 (.d (i64 j)) W W ?_
     refine Wr W ?_
     refine Zm W W (Kc s j _ hb) (.inl W) ?_
     refine G5 (.d (bo b)) W W ?_
     refine G5 (.d (bo b)) W W ?_
     cases b with
     |false=>
      iterate 5 (refine VI rfl rfl ?_)
      refine G5 (.d (bo false)) W W ?_
      refine Bb ?_
      refine Te W<|A8<|E2 ?_
      refine Ts fun u hu=> ?_
      refine G5 (.d (i64 j)) W W ?_
      refine G5 (.d (i64 ((j+1:Nat):Int))) W (by rw [← hw1 j (by omega)];rfl) ?_
      refine G5 (.d (i64 ((j+1:Nat):Int))) W W ?_
      refine Bb ?_
      obtain ⟨y,y1,y2,rfl⟩:=hend pos hh hinv hrq hpos (by rw [← hgo,← hl];rfl)
      exact E4 ⟨_,y1,y2,Yc ⟨W,W,W,W,W,W,trivial⟩ fun _ _ h=>h⟩
     |true=>
      have hcons:((i:Int),(j:Int))::(l'++l2)=L.drop pos:=by rw [← hgo,← hl];rfl
      have hLi:(L.map JY)[pos]? =some (JY ((i:Int),(j:Int))):=by
        have:=congrArg (fun z=>z[0]?) hcons
        rw [lK]
        simp at this
        rw [← this];rfl
      have hLd:L.drop (pos+1)=l'++l2:=by
        have:=congrArg (fun z=>z.drop 1) hcons
        simpa using this.symm
      have hplt:pos+1≤L.length:=by
        have:=congrArg List.length hcons
        simp at this
        omega
      refine Wr W ?_
      refine G5 (.yld k) W W ?_
      refine Wr W ?_
      refine G5 (.d (i64 i)) W W ?_
      refine Wr W ?_
      refine G5 (.d (i64 j)) W W ?_
      refine Wr W ?_
      refine ZL k ((JY ((i:Int),(j:Int))).map .d) W W ?_
      refine (hy pos hh _ hLi hinv).mono ?_
      rintro v' h' (⟨rfl,hin⟩|⟨rfl,hst⟩)
      ·obtain ⟨h1,S1,i1,q1⟩:=hcan _ _ hin
       refine ⟨h1,S1,fun u4 hu4=> ?_⟩
       refine Wr W ?_
       refine G5 (.d (bo false)) W W ?_
       refine G5 (.d (bo false)) W W ?_
       refine Bb ?_
       refine Te W<|A8<|E2 ?_
       refine Ts fun u hu=> ?_
       refine G5 (.d (i64 j)) W W ?_
       refine G5 (.d (i64 ((j+1:Nat):Int))) W (by rw [← hw1 j (by omega)];rfl) ?_
       refine G5 (.d (i64 ((j+1:Nat):Int))) W W ?_
       refine Bb ?_
       obtain ⟨y,y1,y2,rfl⟩:=hend (pos+1) h1 i1 q1 hplt hLd.symm
       exact E4 ⟨_,y1,y2,Yc ⟨W,W,W,W,W,W,trivial⟩ fun _ _ h=>h⟩
      ·refine ⟨h',Sb.refl _,fun u4 hu4=> ?_⟩
       refine Wr W ?_
       refine G5 (.d (bo true)) W W ?_
       refine G5 (.d (bo true)) W W ?_
       refine Bb ?_
       refine Zn W ?_
       refine B2<|F1<|F1 ?_
       exact ⟨Or.inr W,AV.tup [],W,Or.inr hst⟩
   ·refine C8 rfl ?_
    have hjn:j=s.Agents.length:=by
      have: ¬((j:Int)< (s.Agents.length:Int)):=by simpa using hjl
      omega
    subst hjn
    rw [Nat.sub_self,Yt]at hl
    cases hl
    refine C6 (r':= [.b 1, .c _]) W (E2 ?_)
    refine Ts fun u hu=> ?_
    refine G5 (.d (i64 ((i+1:Nat):Int))) W (by rw [← hw1 i (by omega)];rfl) ?_
    refine G5 (.d (i64 ((i+1:Nat):Int))) W W ?_
    refine Bb ?_
    refine E4 ⟨(i+1,pos,hh),⟨hinv,hrq,hlt,hpos,?_⟩,by dsimp only;omega,Yc ⟨rfl,rfl,rfl,rfl,trivial⟩ fun _ _ h=>h⟩
    dsimp only
    rw [show s.Agents.length - (i+1)=m by omega,hl2]
    exact congrArg some hgo
  ·refine C8 rfl ?_
   have hin:i=s.Agents.length:=by
     have: ¬((i:Int)< (s.Agents.length:Int)):=by simpa using hlt
     omega
   subst hin
   rw [Nat.sub_self,CE]at hgo
   have h1:L.drop pos= []:=(lD hgo).symm
   have h2:=List.drop_eq_nil_iff.1 h1
   have h3:pos=L.length:=by omega
   subst h3
   refine C6 (r':= []) W (E4 ?_)
   exact ⟨.inl W,AV.tup [],W, .inl hinv⟩
def Y3 (p1:WorldSpan)(p2:Int):Option WorldSpan:=
  some (WorldSpan.mk (D6 (p1.from_ - p2)) (D6 (p1.to - p2)))
theorem Ii(p1 p2 r)(h:Y3 p1 p2=some r):PCall prog 141 [(.agg [(i64 p1.from_),(i64 p1.to)]),(i64 p2)] (.agg [(i64 r.from_),(i64 r.to)]):=by
 refine C4 (fk func141 ntmps141 m0 (by with_unfolding_all rfl)) (nl W) ?_
 unfold Y3 at h
 refine B4 (s0:=⟨T [(0,(.d _)),(1,(.d _))],G []⟩) (F4 W W) ?_
 refine B0<|sm W<|sn W W<|A1<|B0<|sq W<|sl W (gq W) W (sv W<|sv W<|sq W<|sl W (gq W) W (sv W<|sv W<|sv W<|U1 W G_hit [(di<|D6 (p1.from_ - p2)),(di<|D6 (p1.to - p2))] W (A1<|B2 ?_)))
 cases h
 exact A6 (.inr W) (B6 (K1 W G_hit (nl W) W) C1) (.refl _)
def Bs [Lp](p1:Map)(p2:Int):Option Int:=
  (Lu p1 p2).bind fun v1=>cond (!v1) (some 0) ((Ct p1 p2).bind fun v2=>some v2)
theorem Qg(p1 p2 r)(h:Bs p1 p2=some r):PCall prog 143 [(.agg (P9 p1)),(i64 p2)] (i64 r):=by
 refine C4 (fk func143 ntmps143 m0 (by with_unfolding_all rfl)) (nl W) ?_
 unfold Bs at h
 refine B4 (s0:=⟨T [(0,(.d _)),(1,(.d _))],G []⟩) (F4 W W) ?_
 refine B0<|sm W<|sv W<|A1<|A5<|B0<|sd W (B1 W G_hit W W)<|sv W<|bs h fun v1 hv1 h=>A9 W W A3 (Yr _ _ _ hv1) (.inl W) (B8 (.d (bo (!v1))) W W (A1<|cc W h (fun c1 h=> ?_)<|fun c1 h=> ?_))
 refine B0<|sv W<|A1<|B2 ?_
 cases h
 exact A6 (.inr W) (B6 (B3 W) C1) (.refl _)
 refine A8<|B0<|sd W (B1 W G_hit W W)<|sv W<|bs h fun _ hv2 h=>A9 W W A3 (Pj _ _ _ hv2) (.inl W) (sv W<|A1<|B2 ?_)
 cases h
 exact A6 (.inr W) (B6 (B3 W) C1) (.refl _)
def Gy (p1:WorldSpan)(p2:WorldSpan):Option WorldSpan:=
  some (WorldSpan.mk (Mi true p1.from_ p2.from_) (Mi false p1.to p2.to))
theorem Ti(p1 p2 r)(h:Gy p1 p2=some r):PCall prog 142 [(.agg [(i64 p1.from_),(i64 p1.to)]),(.agg [(i64 p2.from_),(i64 p2.to)])] (.agg [(i64 r.from_),(i64 r.to)]):=by
 refine C4 (fk func142 ntmps142 m0 (by with_unfolding_all rfl)) (nl W) ?_
 unfold Gy at h
 refine B4 (s0:=⟨T [(0,(.d _)),(1,(.d _))],G []⟩) (F4 W W) ?_
 refine B0<|sm W<|sn W W<|sm W<|A1<|B0<|sq W<|sl W (gq W) W (sq W<|sl W (gq W) W (sv W<|sq W<|sl W (gq W) W (sq W<|sl W (gq W) W (sv W<|sv W<|U1 W G_hit [(di<|Mi true p1.from_ p2.from_),(di<|Mi false p1.to p2.to)] W (A1<|B2 ?_)))))
 cases h
 exact A6 (.inr W) (B6 (K1 W G_hit (nl W) W) C1) (.refl _)
def Dq (p1:WorldSpan):Option Bool:=
  some (decide (p1.from_>p1.to))
theorem Qq(p1 r)(h:Dq p1=some r):PCall prog 144 [(.agg [(i64 p1.from_),(i64 p1.to)])] (bo r):=by
 refine C4 (fk func144 ntmps144 m0 (by with_unfolding_all rfl)) (nl W) ?_
 unfold Dq at h
 refine B4 (s0:=⟨T [(0,(.d _))],G []⟩) (F4 W W) ?_
 refine B0<|sm W<|sv W<|A1<|B0<|sq W<|sl W G_hit W<|sq W<|sl W G_hit W<|sv W<|sv W<|A1<|B2 ?_
 cases h
 exact A6 (.inr W) (B6 (B3 W) C1) (.refl _)
def Bt [Lp](p1:Map)(p2:Agent)(v2:(List Int))(x1:((List Span)×Int)):Option (Stp ((List Span)×Int) (List Span)):=
  cond (decide (x1.2< (v2.length:Int))) ((C0 v2 x1.2).bind fun v3=>(C0 p2.Route x1.2).bind fun v4=>(Ac p2).bind fun v5=>(Y3 v5 v3).bind fun v6=>(Bs p1 v4).bind fun v7=>(Gy v6 (WorldSpan.mk 0 v7)).bind fun v8=>(Dq v8).bind fun v9=>cond (!v9) ((X3 x1.1 [(Span.mk v4 v8.from_ v8.to)]).bind fun v10=>some (.go (v10,(D6 (x1.2+1))))) (some (.go (x1.1,(D6 (x1.2+1)))))) (some (.out x1.1))
def Ij [Lp](p1:Map)(p2:Agent):Option (List Span):=
  (Ml p2).bind fun v1=>cond (!v1) (some []) ((Bq p1 p2.Route).bind fun v2=>(loop (Bt p1 p2 v2) ([],0)).bind fun y1=>some y1)
theorem AX(p1 p2 r)(h:Ij p1 p2=some r):PCall prog 67 [(.agg (P9 p1)),(.agg (C9 p2))] (.list (List.map Cx r)):=by
 refine C4 (fk func67 ntmps67 (fun r=>if r==10 then [1007]else []) (by with_unfolding_all rfl)) (nl W) ?_
 unfold Ij at h
 refine B4 (s0:=⟨T [(0,(.d _)),(1,(.d _))],G []⟩) (F4 W W) ?_
 refine lr<|fun u1 _=>sm W<|sm W<|sv W<|A1<|A5<|B0<|sd W (B1 W G_hit W W)<|bs h fun v1 hv1 h=>A9 W W A3 (Tv _ _ hv1) (.inl W) (B8 (.d (bo (!v1))) W W (A1<|cc W h (fun c1 h=> ?_)<|fun c1 h=> ?_))
 refine B0<|sv W<|A1<|B2 ?_
 cases h
 exact A6 (.inr W) (B6 (B3 W) C1) DLe.nil
 refine A8<|B0<|sv W<|A1<|A5<|B0<|sd W (B1 W (gq W) W W)<|sq W<|sl W G_hit W<|bs h fun v2 hv2 h=>A9 W W A3 (Qf _ _ _ hv2) (.inl W) (sd W (D8 W)<|sv W<|A1<|bs h fun y1 hy1 h=>D9 (fun s=> ∃g1:Nat,Sb ⟨T [(5,(oS y1 (48,g1)))],G [((48,g1),oB 93 3 Cx y1)]⟩ s) ?_ ?_)
 refine A7<|E3 (Bt p1 p2 v2) (fun (x1:((List Span)×Int)) (g2:Nat)=>⟨T [(2,(.ptr (2,u1) 0)),(3,(.ptr (3,u1) 0)),(5,(oS x1.1 (48,g2))),(16,(dl A4 v2)),(17,(di (v2.length:Int))),(18,(di x1.2))],G [((2,u1),some<|.box 33 (L8 p1)),((3,u1),some<|.box 45 (S9 p2)),((48,g2),oB 93 3 Cx x1.1)]⟩) ([],0) 0 _ hy1 (E1 (Z2 W)<|sg W<|B5 G_hit (.of W)<|S4 trivial) ?_
 intro x1 g2 z1 hz1 ez1
 unfold Bt at hz1
 refine B0<|sv W<|A1<|A5<|cc W hz1 (fun c2 hz1=> ?_)<|fun c2 hz1=> ?_
 refine A8<|A5<|A7<|B0<|sv W<|bs hz1 fun _ hv3 hz1=>sd W (C7 W W hv3 W)<|sd W (D2 W hv3 W)<|sv W<|sv W<|A1<|B0<|sq W<|sl W (gq W) W (sv W<|bs hz1 fun v4 hv4 hz1=>sd W (C7 W W hv4 W)<|sd W (D2 W hv4 W)<|sv W<|A1<|A5<|F3 W<|sd W (B1 W (gq W) W W)<|bs hz1 fun _ hv5 hz1=>A9 W W A3 (Jj _ _ hv5) (.inl W) (sv W<|bs hz1 fun _ hv6 hz1=>A9 W W A3 (Ii _ _ _ hv6) (.inl W) (sd W (B1 W G_hit W W)<|sv W<|bs hz1 fun _ hv7 hz1=>A9 W W A3 (Qg _ _ _ hv7) (.inl W) (sv W<|bs hz1 fun v8 hv8 hz1=>A9 W W A3 (Ti _ _ _ hv8) (.inl W) (sm W<|U1 W G_hit [(di v8.from_),(di v8.to)] W (A1<|B0<|sd W (B1 W G_hit W W)<|bs hz1 fun v9 hv9 hz1=>A9 W W A3 (Qq _ _ hv9) (.inl W) (B8 (.d (bo (!v9))) W W (A1<|cc W hz1 (fun c3 hz1=> ?_)<|fun c3 hz1=> ?_))))))))
 refine Bm fun u11 _=>B8 (oS x1.1 (48,g2)) W W (sv W<|sq W<|sl W G_hit W<|sq W<|sl W G_hit W<|sv W<|B8 (dl Cx [(Span.mk v4 v8.from_ v8.to)]) W W (bs hz1 fun _ hv10 hz1=>P7 Cx (48,g2) x1.1 (Span.mk v4 v8.from_ v8.to) [] _ (L7<|fun _=>W) W (gq W) hv10 (ss W<|A1<|E2<|B9<|sv W<|sv W<|A1<|E4 ?_)))
 cases hz1
 exact ⟨W,u11,(E1 ⟨.of W, .of W,(.of (U9<|V1 hv10).symm), .of W, .of W, .of W,trivial⟩<|sg W<|sg W<|N6 G_hit trivial)⟩
 refine A8<|E2<|B9<|sv W<|sv W<|A1<|E4 ?_
 cases hz1
 exact ⟨W,g2,(E1 (Z2 W)<|sg W<|sg W<|B7 (gq W) trivial)⟩
 refine C8 W ?_
 cases hz1
 obtain rfl:=ez1 _ rfl
 refine ⟨nofun,C6 W<|U8 ?_⟩
 exact ⟨g2,(E1 ⟨.of W,trivial⟩<|B7 (gq W) trivial)⟩
 rintro _ ⟨g1,q1⟩
 refine B4 q1<|B0<|B8 (oS y1 (48,g1)) W W (B8 (oS y1 (48,g1)) W W (A1<|B2 ?_))
 cases h
 exact A6 (.inr W) (B6 (B3 W)<|T8 G_hit) T7
def Fi (p1:Span)(p2:Span):Option Bool:=
  ((cond (p2.Lane_==p1.Lane_) (Gy (WorldSpan.mk p2.From p2.To) (WorldSpan.mk p1.From p1.To)) (some default))).bind fun v1=>((cond (p2.Lane_==p1.Lane_) (Dq v1) (some default))).bind fun v2=>some ((p2.Lane_==p1.Lane_)&& (!v2))
theorem Un(p1 p2 r)(h:Fi p1 p2=some r):PCall prog 147 [(.agg (Cx p1)),(.bp (Cx p2) 0)] (bo r):=by
 refine C4 (fk func147 ntmps147 m0 (by with_unfolding_all rfl)) (nl W) ?_
 unfold Fi at h
 refine B4 (s0:=⟨T [(0,(.d _)),(1,(.d _))],G []⟩) (F4 W W) ?_
 refine B0<|sm W<|sv W<|A1<|B0<|sv W<|sv W<|sq W<|sl W G_hit W<|sv W<|sv W<|gt W (fun _=>W) ?_
 refine gt W (fun w2=>(by simp only [A2 w2];rfl)) ?_
 refine gt W (fun _=>W) ?_
 refine gt W (fun w4=>(by simp only [A2 w4];rfl)) ?_
 refine gt W (fun w5=>(by simp only [A2 w5];rfl)) ?_
 refine gp W (M7 W) (fun _=>W) (gt W (vl W G_hit W)<|gp W (M7 W) (fun _=>W) (gt W (vl W G_hit W) ?_))
 refine gt W (fun w10=>(by simp only [A2 w10];rfl)) ?_
 refine bs h fun v1 hv1 h=> ?_
 refine N9 _ (.agg [(i64 v1.from_),(i64 v1.to)]) (M7 W) (fun w11=>⟨_,[(.d (.agg [(i64 p2.From),(i64 p2.To)])),(.d (.agg [(i64 p1.From),(i64 p1.To)]))],_,_,(by simp only [A2 w11];rfl),W,A3,Ti _ _ _<|C2 w11 hv1,(.inl W)⟩) ?_
 refine bs h fun v2 hv2 h=> ?_
 refine N9 _ (bo v2) (M7 W) (fun w12=>⟨_,[(.d (.agg [(i64 v1.from_),(i64 v1.to)]))],_,_,(by simp only [A2 w12];rfl),W,A3,Qq _ _<|C2 w12 hv2,(.inl W)⟩) ?_
 refine M0 _ (.d (bo (!v2))) W (M7 W) (fun w13=>(by simp only [A2 w13];rfl)) ?_
 refine sa W W W<|sv W<|A1<|B2 ?_
 cases h
 exact A6 (.inr W) (B6 (B3 W) C1) (.refl _)
def K8 (p1:(List Span))(p2:Span)(x1:Int):Option (Stp Int (Sum Unit Int)):=
  cond (decide (x1< (p1.length:Int))) ((C0 p1 x1).bind fun v1=>(Fi v1 p2).bind fun v2=>cond v2 (some (.out (.inr x1))) (some (.go (D6 (x1+1))))) (some (.out (.inl ())))
def I0 [Lp](p1:(List Span))(p2:Span):Option Int:=
  thenS (loop (K8 p1 p2) 0) (fun _=>some (-1)) (fun r=>some r)
theorem Ei(p1 p2 r)(h:I0 p1 p2=some r):PCall prog 208 [(.list (List.map Cx p1)),(.fn (.func 147) [] [(.bp (Cx p2) 0)])] (i64 r):=by
 refine C4 (fk func208 ntmps208 m0 (by with_unfolding_all rfl)) (nl W) ?_
 unfold I0 at h
 refine B4 (s0:=⟨T [(0,(.d _)),(1,(.d _))],G []⟩) (F4 W W) ?_
 refine B0<|sv W<|A1<|A5<|B0<|sv W<|sd W (D8 W)<|sv W<|A1<|js h fun z1 hz1 h=>D9 (fun s=> ∃(y1:Unit) (g1:Unit),z1= .inl y1∧Sb ⟨T [],G []⟩ s) ?_ ?_
 refine A7<|E3 (K8 p1 p2) (fun (x1:Int) (g2:Unit)=>⟨T [(0,(dl Cx p1)),(1,(.d (.fn (.func 147) [] [(.bp (Cx p2) 0)]))),(7,(di (p1.length:Int))),(8,(di x1))],G []⟩) 0 () _ hz1 (F4 W W) ?_
 intro x1 g2 z2 hz2 ez2
 unfold K8 at hz2
 refine B0<|sv W<|A1<|A5<|cc W hz2 (fun c1 hz2=> ?_)<|fun c1 hz2=> ?_
 refine A8<|A5<|A7<|B0<|sv W<|sv W<|A1<|B0<|sv W<|sv W<|sv W<|bs hz2 fun _ hv1 hz2=>sd W (C7 W W hv1 W)<|sd W (D5 W hv1 W W)<|bs hz2 fun _ hv2 hz2=>A9 W W A3 (Un _ _ _ hv2) (.inl W) (A1<|cc W hz2 (fun c2 hz2=> ?_)<|fun c2 hz2=> ?_)
 refine B0<|sv W<|sv W<|A1<|B2 ?_
 cases hz2
 obtain rfl:=ez2 _ rfl
 refine ⟨nofun,F1 ?_⟩
 rw [wE]at h
 cases h
 exact A6 (.inr W) (B6 (B3 W) C1) (.refl _)
 refine A8<|E2<|B9<|sv W<|sv W<|A1<|E4 ?_
 cases hz2
 exact ⟨W,(),(F4 W W)⟩
 refine C8 W ?_
 cases hz2
 obtain rfl:=ez2 _ rfl
 refine ⟨nofun,C6 W<|U8 ?_⟩
 exact ⟨_,(),W,(F4 W W)⟩
 rintro _ ⟨y1,g1,rfl,q1⟩
 rw [wD]at h
 refine B4 q1<|B0<|sv W<|A1<|B2 ?_
 cases h
 exact A6 (.inr W) (B6 (B3 W) C1) (.refl _)
def F6 [Lp](p1:(List Span))(p2:Span):Option Bool:=
  (I0 p1 p2).bind fun v1=>some (decide (v1≥0))
theorem De(p1 p2 r)(h:F6 p1 p2=some r):PCall prog 145 [(.list (List.map Cx p1)),(.fn (.func 147) [] [(.bp (Cx p2) 0)])] (bo r):=by
 refine C4 (fk func145 ntmps145 m0 (by with_unfolding_all rfl)) (nl W) ?_
 unfold F6 at h
 refine B4 (s0:=⟨T [(0,(.d _)),(1,(.d _))],G []⟩) (F4 W W) ?_
 refine B0<|sv W<|A1<|B0<|sv W<|sv W<|bs h fun _ hv1 h=>A9 W W A3 (Ei _ _ _ hv1) (.inl W) (sv W<|sv W<|A1<|B2 ?_)
 cases h
 exact A6 (.inr W) (B6 (B3 W) C1) (.refl _)
def Y5 [Lp](p1:Span)(p2:(List Span)):Option Bool:=
  (F6 p2 p1).bind fun v1=>some v1
theorem Xi(p1 p2 r)(h:Y5 p1 p2=some r):PCall prog 146 [(.agg (Cx p1)),(.bp [(.list (List.map Cx p2))] 0)] (bo r):=by
 refine C4 (fk func146 ntmps146 m0 (by with_unfolding_all rfl)) (nl W) ?_
 unfold Y5 at h
 refine B4 (s0:=⟨T [(0,(.d _)),(1,(.d _))],G []⟩) (F4 W W) ?_
 refine B0<|sm W<|sv W<|A1<|B0<|sv W<|B8 (.fn _ _ _) W W (bs h fun _ hv1 h=>A9 W (rD<|E6 (AJ G1<|E6 (Bc G_hit<|rD<|rD<|rD G1) G1) G1) A3 (De _ _ _ hv1) (.inr W) (sv W<|A1<|B2 ?_))
 cases h
 exact A6 (.inr W) (B6 (B3 W) C1) (.refl _)
def G3 [Lp](p1:(List Span))(p2:(List Span))(x1:Int):Option (Stp Int (Sum Unit Int)):=
  cond (decide (x1< (p1.length:Int))) ((C0 p1 x1).bind fun v1=>(Y5 v1 p2).bind fun v2=>cond v2 (some (.out (.inr x1))) (some (.go (D6 (x1+1))))) (some (.out (.inl ())))
def J1 [Lp](p1:(List Span))(p2:(List Span)):Option Int:=
  thenS (loop (G3 p1 p2) 0) (fun _=>some (-1)) (fun r=>some r)
theorem Fj(p1 p2 r)(h:J1 p1 p2=some r):PCall prog 208 [(.list (List.map Cx p1)),(.fn (.func 146) [] [(.bp [(.list (List.map Cx p2))] 0)])] (i64 r):=by
 refine C4 (fk func208 ntmps208 m0 (by with_unfolding_all rfl)) (nl W) ?_
 unfold J1 at h
 refine B4 (s0:=⟨T [(0,(.d _)),(1,(.d _))],G []⟩) (F4 W W) ?_
 refine B0<|sv W<|A1<|A5<|B0<|sv W<|sd W (D8 W)<|sv W<|A1<|js h fun z1 hz1 h=>D9 (fun s=> ∃(y1:Unit) (g1:Unit),z1= .inl y1∧Sb ⟨T [],G []⟩ s) ?_ ?_
 refine A7<|E3 (G3 p1 p2) (fun (x1:Int) (g2:Unit)=>⟨T [(0,(dl Cx p1)),(1,(.d (.fn (.func 146) [] [(.bp [(.list (List.map Cx p2))] 0)]))),(7,(di (p1.length:Int))),(8,(di x1))],G []⟩) 0 () _ hz1 (F4 W W) ?_
 intro x1 g2 z2 hz2 ez2
 unfold G3 at hz2
 refine B0<|sv W<|A1<|A5<|cc W hz2 (fun c1 hz2=> ?_)<|fun c1 hz2=> ?_
 refine A8<|A5<|A7<|B0<|sv W<|sv W<|A1<|B0<|sv W<|sv W<|sv W<|bs hz2 fun _ hv1 hz2=>sd W (C7 W W hv1 W)<|sd W (D5 W hv1 W W)<|bs hz2 fun _ hv2 hz2=>A9 W W A3 (Xi _ _ _ hv2) (.inl W) (A1<|cc W hz2 (fun c2 hz2=> ?_)<|fun c2 hz2=> ?_)
 refine B0<|sv W<|sv W<|A1<|B2 ?_
 cases hz2
 obtain rfl:=ez2 _ rfl
 refine ⟨nofun,F1 ?_⟩
 rw [wE]at h
 cases h
 exact A6 (.inr W) (B6 (B3 W) C1) (.refl _)
 refine A8<|E2<|B9<|sv W<|sv W<|A1<|E4 ?_
 cases hz2
 exact ⟨W,(),(F4 W W)⟩
 refine C8 W ?_
 cases hz2
 obtain rfl:=ez2 _ rfl
 refine ⟨nofun,C6 W<|U8 ?_⟩
 exact ⟨_,(),W,(F4 W W)⟩
 rintro _ ⟨y1,g1,rfl,q1⟩
 rw [wD]at h
 refine B4 q1<|B0<|sv W<|A1<|B2 ?_
 cases h
 exact A6 (.inr W) (B6 (B3 W) C1) (.refl _)
def G4 [Lp](p1:(List Span))(p2:(List Span)):Option Bool:=
  (J1 p1 p2).bind fun v1=>some (decide (v1≥0))
theorem Dy(p1 p2 r)(h:G4 p1 p2=some r):PCall prog 145 [(.list (List.map Cx p1)),(.fn (.func 146) [] [(.bp [(.list (List.map Cx p2))] 0)])] (bo r):=by
 refine C4 (fk func145 ntmps145 m0 (by with_unfolding_all rfl)) (nl W) ?_
 unfold G4 at h
 refine B4 (s0:=⟨T [(0,(.d _)),(1,(.d _))],G []⟩) (F4 W W) ?_
 refine B0<|sv W<|A1<|B0<|sv W<|sv W<|bs h fun _ hv1 h=>A9 W W A3 (Fj _ _ _ hv1) (.inl W) (sv W<|sv W<|A1<|B2 ?_)
 cases h
 exact A6 (.inr W) (B6 (B3 W) C1) (.refl _)
def Cf [Lp](p1:Map)(p2:Agent)(p3:Agent):Option Bool:=
  (Ij p1 p3).bind fun v1=>(Ij p1 p2).bind fun v2=>(G4 v2 v1).bind fun v3=>some v3
theorem EE(p1 p2 p3 r)(h:Cf p1 p2 p3=some r):PCall prog 68 [(.agg (P9 p1)),(.agg (C9 p2)),(.agg (C9 p3))] (bo r):=by
 refine C4 (fk func68 ntmps68 m0 (by with_unfolding_all rfl)) (nl W) ?_
 unfold Cf at h
 refine B4 (s0:=⟨T [(0,(.d _)),(1,(.d _)),(2,(.d _))],G []⟩) (F4 W W) ?_
 refine B0<|sm W<|sn W W<|sm W<|sv W<|A1<|B0<|sd W (B1 W (gq W) W W)<|sd W (B1 W G_hit W W)<|bs h fun v1 hv1 h=>A9 W W A3 (AX _ _ _ hv1) (.inl W) (sm W<|U1 W G_hit [(dl Cx v1)] W (A1<|B0<|sd W (B1 W (gq W) W W)<|sd W (B1 W (gq W) W W)<|bs h fun _ hv2 h=>A9 W W A3 (AX _ _ _ hv2) (.inl W) (B8 (.fn _ _ _) W W (bs h fun _ hv3 h=>A9 W (rD<|E6 (AJ G1<|E6 (Bc G_hit<|rD G1) G1) G1) A3 (Dy _ _ _ hv3) (.inr W) (sv W<|A1<|B2 ?_)))))
 cases h
 exact A6 (.inr W) (B6 (B3 W) C1) (.refl _)
def S6 [Lp](p1:WorldScene)(p2:Int)(p3:Int)(p4:Int):Option Bool:=
  (N5 p1 p2 p4).bind fun v1=>((cond v1 (N5 p1 p3 p4) (some default))).bind fun v2=>((cond (v1&&v2) (C0 p1.before.Agents p2) (some default))).bind fun v3=>((cond (v1&&v2) (Dk p1.m v3.Route p4) (some default))).bind fun v4=>((cond (v1&&v2) (C0 p1.before.Agents p3) (some default))).bind fun v5=>((cond (v1&&v2) (Dk p1.m v5.Route p4) (some default))).bind fun v6=>some ((v1&&v2)&& (v4 !=v6))
theorem Nu(p1 p2 p3 p4 r)(h:S6 p1 p2 p3 p4=some r):PCall prog 82 [(.bp (Pt p1) 0),(i64 p2),(i64 p3),(i64 p4)] (bo r):=by
 refine C4 (fk func82 ntmps82 m0 (by with_unfolding_all rfl)) (nl W) ?_
 unfold S6 at h
 refine B4 (s0:=⟨T [(0,(.d _)),(1,(.d _)),(2,(.d _)),(3,(.d _))],G []⟩) (F4 W W) ?_
 refine B0<|sv W<|A1<|A5<|F3 W<|sv W<|sv W<|sv W<|bs h fun v1 hv1 h=>A9 W W A3 (Br _ _ _ _ hv1) (.inl W) (sv W<|gt W (fun _=>W)<|gt W (fun _=>W)<|gt W (fun _=>W)<|bs h fun v2 hv2 h=> ?_)
 refine N9 v1 (bo v2) (M7 W) (fun w4=>⟨_,[(.d (.bp (Pt p1) 0)),(di p3),(di p4)],_,_,(by simp only [A2 w4];rfl),W,A3,Br _ _ _ _<|C2 w4 hv2,(.inl W)⟩) ?_
 refine sa W W W<|sv W<|gt W (fun _=>W) ?_
 refine gt W (fun w6=>(by simp only [A2 w6];rfl)) ?_
 refine gt W (fun w7=>(by simp only [A2 w7];rfl)) ?_
 refine gt W (fun w8=>(by simp only [A2 w8];rfl)) ?_
 refine gt W (fun _=>W) ?_
 refine gt W (fun w10=>(by simp only [A2 w10];rfl)) ?_
 refine gt W (fun w11=>(by simp only [A2 w11];rfl)) ?_
 refine gt W (fun w12=>(by simp only [A2 w12];rfl)) ?_
 refine gt W (fun w13=>(by simp only [A2 w13];rfl)) ?_
 refine gt W (fun _=>W)<|bs h fun v3 hv3 h=>gt W (fun w15=>(C7 (A2 w15) (A2 w15) (C2 w15 hv3) W)) ?_
 refine gt W (fun w16=>(by simp only [A2 w16];rfl)) ?_
 refine gt W (fun w17=>(D2 (A2 w17) (C2 w17 hv3) W))<|gt W (fun _=>W)<|bs h fun v4 hv4 h=> ?_
 refine N9 _ (i64 v4) (M7 W) (fun w19=>⟨_,[(.d (.agg (P9 p1.m))),(dl A4 v3.Route),(di p4)],_,_,(by simp only [A2 w19];rfl),W,A3,Rz _ _ _ _<|C2 w19 hv4,(.inl W)⟩) ?_
 refine gt W (fun _=>W) ?_
 refine gt W (fun w21=>(by simp only [A2 w21];rfl)) ?_
 refine gt W (fun w22=>(by simp only [A2 w22];rfl)) ?_
 refine gt W (fun w23=>(by simp only [A2 w23];rfl)) ?_
 refine gt W (fun _=>W) ?_
 refine gt W (fun w25=>(by simp only [A2 w25];rfl)) ?_
 refine gt W (fun w26=>(by simp only [A2 w26];rfl)) ?_
 refine gt W (fun w27=>(by simp only [A2 w27];rfl)) ?_
 refine gt W (fun w28=>(by simp only [A2 w28];rfl)) ?_
 refine gt W (fun _=>W)<|bs h fun v5 hv5 h=>gt W (fun w30=>(C7 (A2 w30) (A2 w30) (C2 w30 hv5) W)) ?_
 refine gt W (fun w31=>(by simp only [A2 w31];rfl)) ?_
 refine gt W (fun w32=>(D2 (A2 w32) (C2 w32 hv5) W))<|gt W (fun _=>W)<|bs h fun v6 hv6 h=> ?_
 refine N9 _ (i64 v6) (M7 W) (fun w34=>⟨_,[(.d (.agg (P9 p1.m))),(dl A4 v5.Route),(di p4)],_,_,(by simp only [A2 w34];rfl),W,A3,Rz _ _ _ _<|C2 w34 hv6,(.inl W)⟩) ?_
 refine gt W (fun w35=>(M4 (A2 w35) (A2 w35) W))<|sa W W W<|sv W<|A1<|B2 ?_
 cases h
 exact A6 (.inr W) (B6 (B3 W) C1) (.refl _)
def Kv [Lp](p1:Map)(v5:WorldScene)(a1:(Int×Int))(x2:Int):Option (Stp Int (Sum Unit (State×Int))):=
  cond (decide (x2< (p1.Zones.length:Int))) ((S6 v5 a1.1 a1.2 x2).bind fun v10=>cond v10 (some (.out (.inr ((State.mk 0 [] []),12)))) (some (.go (D6 (x2+1))))) (some (.out (.inl ())))
def Kw [Lp](p1:Map)(p2:(List Agent))(v5:WorldScene)(x1:Unit)(a1:(Int×Int)):Option (Stp Unit (Sum Unit (State×Int))):=
  (C0 p2 a1.1).bind fun v7=>(C0 p2 a1.2).bind fun v8=>(Cf p1 v7 v8).bind fun v9=>cond v9 (some (.out (.inr ((State.mk 0 [] []),12)))) (thenS (loop (Kv p1 v5 a1) 0) (fun _=>some (.go ())) (fun r=>some (.out (.inr r))))
def EF:Option Unit:=
  some ()
def Rh [Lp](p1:Map)(p2:(List Agent)):Option (State×Int):=
  (Ie (State.mk 0 p2 [])).bind fun v1=>(Cc p1 v1).bind fun v2=>cond (v2 !=0) (some ((State.mk 0 [] []),v2)) ((K6 p2).bind fun v3=>cond v3 (some ((State.mk 0 [] []),10)) ((Ie v1).bind fun v4=>(Ap (WorldScene.mk p1 v1 v4 [] [])).bind fun v5=>(EF).bind fun y1=>thenS ((FP v5.before).bind fun v6=>loopL (Kw p1 p2 v5) (fun (x1:Unit)=> .inl ()) v6 ()) (fun _=>some (v5.after,0)) (fun r=>some r)))
theorem PQ(p1 p2 r)(h:Rh p1 p2=some r):PCall prog 27 [(.agg (P9 p1)),(.list (List.map C9 p2))] (.tup [(.agg (Z9 r.1)),(i64 r.2)]):=by
 refine C4 (fk func27 ntmps27 (fun r=>if r==8 then [1008001]else if r==9 then [1]else []) (by with_unfolding_all rfl)) (nl W) ?_
 unfold Rh at h
 refine B4 (s0:=⟨T [(0,(.d _)),(1,(.d _))],G []⟩) (F4 W W) ?_
 refine lr<|fun u1 _=>sm W<|sm W<|sn W W<|sm W<|A1<|B0<|sl W (gq W) W (sv W<|bs h fun v1 hv1 h=>A9 W W (.cons (.agg (ca W<|ca W<|.cons ⟨DLe.nil,W⟩ .nil)) .nil) (AP _ _ hv1) (.inl W) (sm W<|U1 W G_hit (K2 v1) W (A1<|A5<|B0<|sd W (B1 W (gq W) W W)<|sd W (B1 W G_hit W W)<|bs h fun v2 hv2 h=>A9 W W A3 (Nr _ _ _ hv2) (.inl W) (sv W<|A1<|B0<|sv W<|sv W<|A1<|cc W h (fun c1 h=> ?_)<|fun c1 h=> ?_))))
 refine B0<|sv W<|sv W<|U1 W (gq W) [(di 0),(.d .nilS),(.d .nilS)] W (U1 W (gq W) [(di v2)] W (A1<|B2 ?_))
 cases h
 exact A6 (.inr W) (Mv (K1 W (gq W) (nl W) W) (Yd W G_hit W) C1 C1) (.tup (.cons (.agg (ca W<|.cons ⟨DLe.nil,W⟩ (.cons ⟨DLe.nil,W⟩ .nil))) A3))
 refine A8<|A5<|B0<|sl W (gq W) W (bs h fun _ hv3 h=>A9 W W A3 (Fv _ _ hv3) (.inl W) (A1<|cc W h (fun c2 h=> ?_)<|fun c2 h=> ?_))
 refine B0<|sv W<|U1 W (gq W) [(di 0),(.d .nilS),(.d .nilS)] W (U1 W (gq W) [(di 10)] W (A1<|B2 ?_))
 cases h
 exact A6 (.inr W) (Mv (K1 W (gq W) (nl W) W) (Yd W G_hit W) C1 C1) (.tup (.cons (.agg (ca W<|.cons ⟨DLe.nil,W⟩ (.cons ⟨DLe.nil,W⟩ .nil))) A3))
 refine A8<|A5<|Mk W fun u8 _=>sd W (B1 W (gq W) W W)<|sd W (B1 W G_hit W W)<|sd W (B1 W G_hit W W)<|bs h fun _ hv4 h=>A9 W W A3 (AP _ _ hv4) (.inl W) (sv W<|sm W<|sn W W<|U1 W G_hit [(.ptr (30,u8) 0)] W (A1<|B0<|sp W (Q4 W G_hit W)<|bs h fun v5 hv5 h=>FJ (v:= .d (.tup [])) (us:= [(30,u8)]) (LV (Vr _ _ hv5) [(30,u8)] [(30,u8)] _ (((30,u8),some<|.box 135 (W1 v5))::_) W Nm (Y1 (nN (F5 W<|F5 W G_hit) W) Tq) (Kt (F5 W<|F5 W G_hit) Iw) ⟨⟨_,(F5 W<|F5 W G_hit), .box (.cons (.of W) (.cons (.of W) (.cons (.of W) (.cons (.of W) (.cons (.of W) (.cons (.of W) (.cons (.of W) (.cons (.of W) (.cons (.of W) (.cons (.of W) (.cons (.of W) (.cons (DLe.d DLe.nil) (.cons (DLe.d DLe.nil) .nil)))))))))))))⟩,trivial⟩ (fun _ h=>h) nd1 W W W) (A1<|A5<|B0<|sp W (Q4 W (gq W) W)<|bs h fun _ hy1 h=>CC (fk func81 ntmps81 m0 (by with_unfolding_all rfl)) (fun (g1:Nat)=> [(2,(.ptr (2,u1) 0)),(3,(.ptr (3,u1) 0)),(4,(.ptr (4,u1) 0)),(5,(.ptr (5,u1) 0)),(8,(.ptr (8,u8) 0)),(34,(.fn (.func 174) [] [(.ptr (1,g1) 0)]))]) (fun (g1:Nat)=> [((2,u1),some<|.box 33 (L8 p1)),((3,u1),some<|.box 22 [(dl C9 p2)]),((4,u1),some<|.box 25 [(di 0),(.d .nilS),(.d .nilS)]),((5,u1),some<|.box 36 [(di 0)]),((8,u8),some<|.box 133 [(.ptr (30,u8) 0)]),((30,u8),some<|.box 135 (W1 v5)),((1,g1),some<|.box 133 [(.ptr (30,u8) 0)])]) W (nl W) ?_ ?_)))
 unfold EF at hy1
 refine B4 (s0:=⟨T [(0,(.ptr _ _))],G [((30,u8),some<|.box 135 _),((2,u1),some<|.box 33 _),((3,u1),some<|.box 22 _),((4,u1),some<|.box 25 _),((5,u1),some<|.box 36 _),((8,u8),some<|.box 133 _)]⟩) (F4 W W) ?_
 refine lr<|fun u11 _=>sm W<|sv W<|A1<|B0<|B8 (.fn _ _ _) W W (B8 (.fn _ _ _) W W (A1<|B2 ?_))
 cases hy1
 exact PM (.inr W) (RS<|B3 W) u11 (Z2 W) (sg W<|sg W<|sg W<|sg W<|sg W<|sg W<|B5 G_hit (.of W) trivial)
 intro g1
 intro u13 hu13
 refine A1<|js h fun z1 hz1 h=>D9 (fun s=> ∃(y2:Unit) (g2:Unit),z1= .inl y2∧Sb ⟨T [(4,(.ptr (4,u1) 0)),(5,(.ptr (5,u1) 0)),(8,(.ptr (8,u8) 0))],G [((4,u1),some<|.box 25 [(di 0),(.d .nilS),(.d .nilS)]),((5,u1),some<|.box 36 [(di 0)]),((8,u8),some<|.box 133 [(.ptr (30,u8) 0)]),((30,u8),some<|.box 135 (W1 v5))]⟩ s) ?_ ?_
 refine A7<|bs hz1 fun v6 hv6 hz1=>B4 (s0:=⟨T [(2,(.ptr _ _)),(3,(.ptr _ _)),(4,(.ptr _ _)),(5,(.ptr _ _)),(8,(.ptr _ _)),(34,(.fn _ _ _))],G [((2,u1),some<|.box 33 _),((3,u1),some<|.box 22 _),((4,u1),some<|.box 25 _),((5,u1),some<|.box 36 _),((8,u8),some<|.box 133 _),((30,u8),some<|.box 135 _),((1,g1),some<|.box 133 _)]⟩) (F4 W W) ?_
 refine SC (.fn (.func 174) [] [(.ptr (1,g1) 0)]) (Vs (1,g1) (30,u8) v5.before) JY v6 (Kw p1 p2 v5) (fun (x1:Unit)=>(.inl ():Sum Unit (State×Int))) (fun (x1:Unit) (g3:Unit)=> [((2,u1),some<|.box 33 (L8 p1)),((3,u1),some<|.box 22 [(dl C9 p2)]),((4,u1),some<|.box 25 [(di 0),(.d .nilS),(.d .nilS)]),((5,u1),some<|.box 36 [(di 0)]),((8,u8),some<|.box 133 [(.ptr (30,u8) 0)]),((1,g1),some<|.box 133 [(.ptr (30,u8) 0)]),((30,u8),some<|.box 135 (W1 v5))]) () () _ W (JZ hv6 _ _) (fun x1 g3 _ _=>⟨F5 W<|gq W,_,_,_,_,_,_,_,_,_,_,F5 W<|gq W⟩) (fun _=>W) hz1 (F4 W W) nofun ?_ ?_
 intro u15 hu15 hku15
 refine ⟨fun x1 g3=>(F5 W<|F5 W<|F5 W<|F5 W<|F5 W<|F5 W<|F5 W W),?_⟩
 intro r1 x1 g3 a1 z2 hrr1 hz2 ez2
 unfold Kw at hz2
 show Da _ _ _ _ _ _ ⟨T [(36,(di a1.2)),(35,(di a1.1)),(2,(.ptr (2,u1) 0)),(3,(.ptr (3,u1) 0)),(4,(.ptr (4,u1) 0)),(5,(.ptr (5,u1) 0)),(8,(.ptr (8,u8) 0)),(34,(.fn (.func 174) [] [(.ptr (1,g1) 0)]))],G [((1000000,u15),some (.obj (T [(2,(.ptr (2,u1) 0)),(3,(.ptr (3,u1) 0)),(4,(.ptr (4,u1) 0)),(5,(.ptr (5,u1) 0)),(8,(.ptr (8,u8) 0)),(34,(.fn (.func 174) [] [(.ptr (1,g1) 0)]))]) r1)),((2,u1),some (.box 33 (L8 p1))),((3,u1),some (.box 22 [(dl C9 p2)])),((4,u1),some (.box 25 [(di 0),(.d .nilS),(.d .nilS)])),((5,u1),some (.box 36 [(di 0)])),((8,u8),some (.box 133 [(.ptr (30,u8) 0)])),((1,g1),some (.box 133 [(.ptr (30,u8) 0)])),((30,u8),some (.box 135 (W1 v5)))]⟩
 refine B0<|sv W<|A1<|B9<|sv W<|A1<|U8<|VE G_hit ?_
 refine A7<|A5<|A5<|F3 W<|sd W (B1 W (gq W) W W)<|sl W (gq W) W (sv W<|bs hz2 fun _ hv7 hz2=>sd W (C7 W W hv7 W)<|sd W (D5 W hv7 W W)<|sl W (gq W) W (sv W<|bs hz2 fun _ hv8 hz2=>sd W (C7 W W hv8 W)<|sd W (D5 W hv8 W W)<|bs hz2 fun _ hv9 hz2=>A9 W W A3 (EE _ _ _ _ hv9) (.inl W) (A1<|cc W hz2 (fun c3 hz2=> ?_)<|fun c3 hz2=> ?_)))
 refine B0<|sv W<|U1 W (gq W) [(di 0),(.d .nilS),(.d .nilS)] W (U1 W (gq W) [(di 12)] W (A1<|B2 ?_))
 cases hz2
 obtain rfl:=ez2 _ rfl
 refine XE (gq W) nofun (F1 ?_)
 rw [wE]at h
 cases h
 exact A6 (.inr W) (Mv (K1 W (gq W) (nl W) W) (Yd W (gq W) W) C1 C1) (.tup (.cons (.agg (ca W<|.cons ⟨DLe.nil,W⟩ (.cons ⟨DLe.nil,W⟩ .nil))) A3))
 refine A8<|B0<|sq W<|sl W (gq W) W (sd W (D8 W)<|sv W<|A1<|js hz2 fun z3 hz3 hz2=>D9 (fun s=> ∃(y3:Unit) (g4:Unit),z3= .inl y3∧Sb ⟨T [],G [((2,u1),some<|.box 33 (L8 p1)),((3,u1),some<|.box 22 [(dl C9 p2)]),((4,u1),some<|.box 25 [(di 0),(.d .nilS),(.d .nilS)]),((5,u1),some<|.box 36 [(di 0)]),((8,u8),some<|.box 133 [(.ptr (30,u8) 0)]),((1,g1),some<|.box 133 [(.ptr (30,u8) 0)]),((1000000,u15),some<|.obj (T [(2,(.ptr (2,u1) 0)),(3,(.ptr (3,u1) 0)),(4,(.ptr (4,u1) 0)),(5,(.ptr (5,u1) 0)),(8,(.ptr (8,u8) 0)),(34,(.fn (.func 174) [] [(.ptr (1,g1) 0)]))]) {r1 with state:= .busy}),((30,u8),some<|.box 135 (W1 v5))]⟩ s) ?_ ?_)
 refine A7<|E3 (Kv p1 v5 a1) (fun (x2:Int) (g5:Unit)=>⟨T [(4,(.ptr (4,u1) 0)),(5,(.ptr (5,u1) 0)),(8,(.ptr (8,u8) 0)),(9,(di a1.1)),(10,(di a1.2)),(50,(di (p1.Zones.length:Int))),(51,(di x2))],G [((4,u1),some<|.box 25 [(di 0),(.d .nilS),(.d .nilS)]),((5,u1),some<|.box 36 [(di 0)]),((8,u8),some<|.box 133 [(.ptr (30,u8) 0)]),((2,u1),some<|.box 33 (L8 p1)),((3,u1),some<|.box 22 [(dl C9 p2)]),((1,g1),some<|.box 133 [(.ptr (30,u8) 0)]),((1000000,u15),some<|.obj (T [(2,(.ptr (2,u1) 0)),(3,(.ptr (3,u1) 0)),(4,(.ptr (4,u1) 0)),(5,(.ptr (5,u1) 0)),(8,(.ptr (8,u8) 0)),(34,(.fn (.func 174) [] [(.ptr (1,g1) 0)]))]) {r1 with state:= .busy}),((30,u8),some<|.box 135 (W1 v5))]⟩) 0 () _ hz3 (F4 W W) ?_
 intro x2 g5 z4 hz4 ez4
 unfold Kv at hz4
 refine B0<|sv W<|A1<|A5<|cc W hz4 (fun c4 hz4=> ?_)<|fun c4 hz4=> ?_
 refine A8<|A5<|A7<|B0<|sv W<|sv W<|A1<|B0<|sp W (Q4 W (gq W) W)<|sv W<|sv W<|sv W<|bs hz4 fun _ hv10 hz4=>A9 W (E6 (Bc (gq W)<|rD<|rD<|rD<|rD<|rD<|rD<|rD<|rD<|rD<|rD<|rD<|rD<|rD G1)<|rD<|rD<|rD G1) A3 (Nu _ _ _ _ _ hv10) (.inr W) (A1<|cc W hz4 (fun c5 hz4=> ?_)<|fun c5 hz4=> ?_)
 refine B0<|sv W<|U1 W G_hit [(di 0),(.d .nilS),(.d .nilS)] W (U1 W (gq W) [(di 12)] W (A1<|B2 ?_))
 cases hz4
 obtain rfl:=ez4 _ rfl
 refine ⟨nofun,F1 ?_⟩
 rw [wE]at hz2
 cases hz2
 obtain rfl:=ez2 _ rfl
 refine XE (gq W) nofun (F1 ?_)
 rw [wE]at h
 cases h
 exact A6 (.inr W) (Mv (K1 W (gq W) (nl W) W) (Yd W (gq W) W) C1 C1) (.tup (.cons (.agg (ca W<|.cons ⟨DLe.nil,W⟩ (.cons ⟨DLe.nil,W⟩ .nil))) A3))
 refine A8<|E2<|B9<|sv W<|sv W<|A1<|E4 ?_
 cases hz4
 exact ⟨W,(),(F4 W W)⟩
 refine C8 W ?_
 cases hz4
 obtain rfl:=ez4 _ rfl
 refine ⟨nofun,C6 W<|U8 ?_⟩
 exact ⟨_,(),W,(F4 W W)⟩
 rintro _ ⟨y3,g4,rfl,q1⟩
 rw [wD]at hz2
 refine E2<|E4 ?_
 cases hz2
 exact jF q1 (gq W) () (B5 G_hit (.of W)<|sg W<|sg W<|sg W<|sg W<|sg W<|sg W trivial)
 rintro x1 g3 _ rfl qx1
 refine E2<|U8 ?_
 exact ⟨_,(),W,(Sb.after qx1<|F4 W W)⟩
 rintro _ ⟨y2,g2,rfl,q2⟩
 rw [wD]at h
 refine B4 q2<|B0<|sp W (Q4 W (gq W) W)<|sq W<|sp W W<|sd W (B1 W (gq W) W W)<|U1 W G_hit (K2 v5.after) W (U1 W (gq W) [(di 0)] W (A1<|B2 ?_))
 cases h
 exact A6 (.inr W) (Mv (K1 W (gq W) (nl W) W) (Yd W G_hit W) C1 C1) (.refl _)
def Qh (p1:Int):Option Int:=
  (cond (decide (p1≥4294967296)) (some ((p1.fdiv (2^ (min (32:Int).toNat (IntKind.bits .u64)))),32)) (some (p1,0))).bind fun y1=>(cond (decide (y1.1≥65536)) (some ((y1.1.fdiv (2^ (min (16:Int).toNat (IntKind.bits .u64)))),(D6 (y1.2+16)))) (some (y1.1,y1.2))).bind fun y2=>cond (decide (y2.1≥256)) ((jT (ByteArray.mk #[0,1,2,2,3,3,3,3,4,4,4,4,4,4,4,4,5,5,5,5,5,5,5,5,5,5,5,5,5,5,5,5,6,6,6,6,6,6,6,6,6,6,6,6,6,6,6,6,6,6,6,6,6,6,6,6,6,6,6,6,6,6,6,6,7,7,7,7,7,7,7,7,7,7,7,7,7,7,7,7,7,7,7,7,7,7,7,7,7,7,7,7,7,7,7,7,7,7,7,7,7,7,7,7,7,7,7,7,7,7,7,7,7,7,7,7,7,7,7,7,7,7,7,7,7,7,7,7,8,8,8,8,8,8,8,8,8,8,8,8,8,8,8,8,8,8,8,8,8,8,8,8,8,8,8,8,8,8,8,8,8,8,8,8,8,8,8,8,8,8,8,8,8,8,8,8,8,8,8,8,8,8,8,8,8,8,8,8,8,8,8,8,8,8,8,8,8,8,8,8,8,8,8,8,8,8,8,8,8,8,8,8,8,8,8,8,8,8,8,8,8,8,8,8,8,8,8,8,8,8,8,8,8,8,8,8,8,8,8,8,8,8,8,8,8,8,8,8,8,8,8,8,8,8,8,8]) (IntKind.wrap .u8 (y2.1.fdiv (2^ (min (8:Int).toNat (IntKind.bits .u64)))))).bind fun v1=>some (D6 ((D6 (y2.2+8))+ (D6 v1)))) ((jT (ByteArray.mk #[0,1,2,2,3,3,3,3,4,4,4,4,4,4,4,4,5,5,5,5,5,5,5,5,5,5,5,5,5,5,5,5,6,6,6,6,6,6,6,6,6,6,6,6,6,6,6,6,6,6,6,6,6,6,6,6,6,6,6,6,6,6,6,6,7,7,7,7,7,7,7,7,7,7,7,7,7,7,7,7,7,7,7,7,7,7,7,7,7,7,7,7,7,7,7,7,7,7,7,7,7,7,7,7,7,7,7,7,7,7,7,7,7,7,7,7,7,7,7,7,7,7,7,7,7,7,7,7,8,8,8,8,8,8,8,8,8,8,8,8,8,8,8,8,8,8,8,8,8,8,8,8,8,8,8,8,8,8,8,8,8,8,8,8,8,8,8,8,8,8,8,8,8,8,8,8,8,8,8,8,8,8,8,8,8,8,8,8,8,8,8,8,8,8,8,8,8,8,8,8,8,8,8,8,8,8,8,8,8,8,8,8,8,8,8,8,8,8,8,8,8,8,8,8,8,8,8,8,8,8,8,8,8,8,8,8,8,8,8,8,8,8,8,8,8,8,8,8,8,8,8,8,8,8,8,8]) (IntKind.wrap .u8 y2.1)).bind fun v2=>some (D6 (y2.2+ (D6 v2))))
theorem CF(p1 r)(h:Qh p1=some r):PCall prog 281 [(.v (.int .u64 p1))] (i64 r):=by
 refine C4 (fk func281 ntmps281 m0 (by with_unfolding_all rfl)) (nl W) ?_
 unfold Qh at h
 refine B4 (s0:=⟨T [(0,(.d _))],G []⟩) (F4 W W) ?_
 refine B0<|sv W<|A1<|A5<|B0<|sv W<|sv W<|A1<|bs h fun y1 hy1 h=>D9 (fun s=> ∃g1:Unit,Sb ⟨T [(0,(.d (.v (.int .u64 y1.1)))),(2,(di y1.2))],G []⟩ s) ?_ ?_
 refine cc W hy1 (fun c1 hy1=> ?_)<|fun c1 hy1=> ?_
 refine B0<|sv W<|sv W<|sv W<|A1<|B9<|sv W<|A1 ?_
 cases hy1
 exact U8 ⟨(),(F4 W W)⟩
 refine A8 ?_
 cases hy1
 exact U8 ⟨(),(F4 W W)⟩
 rintro _ ⟨g1,q1⟩
 refine B4 q1<|A5<|B0<|sv W<|sv W<|A1<|bs h fun y2 hy2 h=>D9 (fun s=> ∃g2:Unit,Sb ⟨T [(0,(.d (.v (.int .u64 y2.1)))),(2,(di y2.2))],G []⟩ s) ?_ ?_
 refine cc W hy2 (fun c2 hy2=> ?_)<|fun c2 hy2=> ?_
 refine B0<|sv W<|sv W<|sv W<|A1<|B9<|sv W<|sv W<|sv W<|A1 ?_
 cases hy2
 exact U8 ⟨(),(F4 W W)⟩
 refine A8 ?_
 cases hy2
 exact U8 ⟨(),(F4 W W)⟩
 rintro _ ⟨g2,q2⟩
 refine B4 q2<|A5<|B0<|sv W<|sv W<|A1<|cc W h (fun c3 h=> ?_)<|fun c3 h=> ?_
 refine B0<|sv W<|sv W<|sv W<|A1<|B9<|sv W<|sv W<|sv W<|A1<|B0<|sv W<|sv W<|sv W<|bs h fun _ hv1 h=>sd W (fD W W hv1)<|sv W<|sv W<|sv W<|A1<|B2 ?_
 cases h
 exact A6 (.inr W) (B6 (B3 W) C1) (.refl _)
 refine A8<|B0<|sv W<|sv W<|sv W<|bs h fun _ hv2 h=>sd W (fD W W hv2)<|sv W<|sv W<|sv W<|A1<|B2 ?_
 cases h
 exact A6 (.inr W) (B6 (B3 W) C1) (.refl _)
def Jl (p1:Int):Option Int:=
  (Qh p1).bind fun v1=>some v1
theorem Uo(p1 r)(h:Jl p1=some r):PCall prog 267 [(.v (.int .u64 p1))] (i64 r):=by
 refine C4 (fk func267 ntmps267 m0 (by with_unfolding_all rfl)) (nl W) ?_
 unfold Jl at h
 refine B4 (s0:=⟨T [(0,(.d _))],G []⟩) (F4 W W) ?_
 refine B0<|sv W<|A1<|A5<|Te W<|A8<|B0<|sv W<|bs h fun _ hv1 h=>A9 W W A3 (CF _ _ hv1) (.inl W) (sv W<|A1<|B2 ?_)
 cases h
 exact A6 (.inr W) (B6 (B3 W) C1) (.refl _)
def Ke (p1:Int)(p2:Int):Option Bool:=
  (W6 p1).bind fun v1=>((cond v1 (W6 p2) (some default))).bind fun v2=>some ((v1&& (!v2))||(decide (p1<p2)))
theorem EG(p1 p2 r)(h:Ke p1 p2=some r):PCall prog 277 [(i64 p1),(i64 p2)] (bo r):=by
 refine C4 (fk func277 ntmps277 m0 (by with_unfolding_all rfl)) (nl W) ?_
 unfold Ke at h
 refine B4 (s0:=⟨T [(0,(.d _)),(1,(.d _))],G []⟩) (F4 W W) ?_
 refine B0<|sv W<|A1<|B0<|sv W<|bs h fun v1 hv1 h=>A9 W W A3 (Ih _ _ hv1) (.inl W) (sv W<|gt W (fun _=>W)<|bs h fun v2 hv2 h=> ?_)
 refine N9 v1 (bo v2) (M7 W) (fun w2=>⟨_,[(di p2)],_,_,(by simp only [A2 w2];rfl),W,A3,Ih _ _<|C2 w2 hv2,(.inl W)⟩) ?_
 refine M0 _ (.d (bo (!v2))) W (M7 W) (fun w3=>(by simp only [A2 w3];rfl)) ?_
 refine sa W W W<|sv W<|gf W (fun _=>W)<|gf W (fun _=>W)<|gf W (fun w6=>(M4 (A2 w6) (A2 w6) W))<|sd W (O2 W W<|fun hc=>A2<|J5 hc)<|sv W<|A1<|B2 ?_
 cases h
 exact A6 (.inr W) (B6 (B3 W) C1) (.refl _)
def J4 (p2:Int)(x2:(Int× (List Int))):Option (Stp (Int× (List Int)) (List Int)):=
  ((cond (decide (x2.1>p2)) (C0 x2.2 x2.1) (some default))).bind fun v1=>((cond (decide (x2.1>p2)) (C0 x2.2 (D6 (x2.1 - 1))) (some default))).bind fun v2=>((cond (decide (x2.1>p2)) (Ke v1 v2) (some default))).bind fun v3=>cond ((decide (x2.1>p2))&&v3) ((C0 x2.2 (D6 (x2.1 - 1))).bind fun v4=>(C0 x2.2 x2.1).bind fun v5=>(C0 x2.2 x2.1).bind fun v6=>(C0 (Lq x2.2 x2.1 v4) (D6 (x2.1 - 1))).bind fun v7=>some (.go ((D6 (x2.1 - 1)),(Lq (Lq x2.2 x2.1 v4) (D6 (x2.1 - 1)) v5)))) (some (.out x2.2))
def G6 [Lp](p2:Int)(p3:Int)(x1:(Int× (List Int))):Option (Stp (Int× (List Int)) (List Int)):=
  cond (decide (x1.1<p3)) ((loop (J4 p2) (x1.1,x1.2)).bind fun y1=>some (.go ((D6 (x1.1+1)),y1))) (some (.out (x1.2)))
def J3 [Lp](p1:(List Int))(p2:Int)(p3:Int):Option (List Int):=
  loop (G6 p2 p3) ((D6 (p2+1)),p1)
theorem Kf(p1 p2 p3 r)(h:J3 p1 p2 p3=some r):MCall prog 271 [(.sl (900000,0)),(di p2),(di p3)] [(.arr 2 1 (List.map A4 p1))] (.d (.tup [])) [some (.arr 2 1 (List.map A4 r))] []:=by
 refine Vl (fk func271 ntmps271 m0 (by with_unfolding_all rfl)) W (nl W) ?_
 unfold J3 at h
 refine B4 (s0:=⟨T [(0,(.sl _)),(1,(.d _)),(2,(.d _))],G [((900000,0),some _)]⟩) (F4 W W) ?_
 refine B0<|sv W<|sv W<|sv W<|A1<|A7<|E3 (G6 p2 p3) (fun (x1:(Int× (List Int))) (g1:Unit)=>⟨T [(0,(.sl (900000,0))),(1,(di p2)),(2,(di p3)),(6,(di x1.1))],G [((900000,0),some<|.arr 2 1 (List.map A4 x1.2))]⟩) ((D6 (p2+1)),p1) () _ h (F4 W W) ?_
 intro x1 g1 z1 hz1 ez1
 unfold G6 at hz1
 refine A5<|B0<|sv W<|sv W<|sv W<|A1<|cc W hz1 (fun c1 hz1=> ?_)<|fun c1 hz1=> ?_
 refine A8<|A5<|A7<|B0<|sv W<|sv W<|A1<|bs hz1 fun y1 hy1 hz1=>D9 (fun s=> ∃g2:Unit,Sb ⟨T [(0,(.sl (900000,0))),(1,(di p2)),(2,(di p3)),(6,(di x1.1))],G [((900000,0),some<|.arr 2 1 (List.map A4 y1))]⟩ s) ?_ ?_
 refine A7<|E3 (J4 p2) (fun (x2:(Int× (List Int))) (g3:Unit)=>⟨T [(0,(.sl (900000,0))),(1,(di p2)),(2,(di p3)),(6,(di x1.1)),(7,(di x2.1))],G [((900000,0),some<|.arr 2 1 (List.map A4 x2.2))]⟩) (x1.1,x1.2) () _ hy1 (F4 W W) ?_
 intro x2 g3 z2 hz2 ez2
 unfold J4 at hz2
 refine A5<|A5<|F3 W<|sv W<|sv W<|sv W<|sv W<|M0 _ (.sl _) W (M7 W) (fun _=>W) (gt W (fun _=>W)<|bs hz2 fun v1 hv1 hz2=>M0 _ (.aptr _ _ _ _) W (M7 W) (fun w3=>(Jz (A2 w3) (A2 w3) G_hit (C2 w3 hv1))) (gt W (fun w4=>(Pi (A2 w4) G_hit (C2 w4 hv1) W))<|M0 _ (.sl _) W (M7 W) (fun _=>W) (gt W (fun _=>W)<|gt W (vb W W W)<|bs hz2 fun v2 hv2 hz2=>M0 _ (.aptr _ _ _ _) W (M7 W) (fun w8=>(Jz (A2 w8) (A2 w8) G_hit (C2 w8 hv2))) (gt W (fun w9=>(Pi (A2 w9) G_hit (C2 w9 hv2) W))<|bs hz2 fun v3 hv3 hz2=> ?_))))
 refine N9 _ (bo v3) (M7 W) (fun w10=>⟨_,[(di v1),(di v2)],_,_,(by simp only [A2 w10];rfl),W,A3,EG _ _ _<|C2 w10 hv3,(.inl W)⟩) ?_
 refine sa W W W<|A1<|cc W hz2 (fun c2 hz2=> ?_)<|fun c2 hz2=> ?_
 refine A8<|A5<|A7<|F3 W<|ss W<|sv W<|ss W<|sv W<|sv W<|ss W<|sv W<|sv W<|bs hz2 fun v4 hv4 hz2=>B8 (.aptr _ _ _ _) W (Jz W W G_hit hv4) (sd W (Pi W G_hit hv4 W)<|ss W<|sv W<|bs hz2 fun v5 hv5 hz2=>B8 (.aptr _ _ _ _) W (Jz W W G_hit hv5) (sd W (Pi W G_hit hv5 W)<|bs hz2 fun _ hv6 hz2=>B8 (.aptr _ _ _ _) W (Jz W W G_hit hv6) (Pr A4 _ _ _ (x2.1) _ v4 [(i64 v4)] W W W G_hit hv6 (nl W) W (bs hz2 fun _ hv7 hz2=>B8 (.aptr _ _ _ _) W (Jz W W G_hit hv7) (Pr A4 _ _ _ ((D6 (x2.1 - 1))) _ v5 [(i64 v5)] W W W G_hit hv7 (nl W) W (A1<|E2<|B9<|sv W<|sv W<|sv W<|A1<|E4 ?_))))))
 cases hz2
 exact ⟨W,(),(F4 W W)⟩
 refine C8 W ?_
 cases hz2
 obtain rfl:=ez2 _ rfl
 refine ⟨nofun,C6 W<|U8 ?_⟩
 exact ⟨(),(F4 W W)⟩
 rintro _ ⟨g2,q1⟩
 refine E2<|B4 q1<|B9<|sv W<|sv W<|sv W<|A1<|E4 ?_
 cases hz1
 exact ⟨W,(),(F4 W W)⟩
 refine C8 W ?_
 cases hz1
 obtain rfl:=ez1 _ rfl
 refine ⟨nofun,C6 W<|E4 ?_⟩
 exact BX (.inl W) [] BY (.refl _) ⟨⟨G_hit,Fr⟩,trivial⟩
def N0 [Lp](p1:(List Int))(x1:(Int×Int×Int×Bool×Bool)):Option (Stp (Int×Int×Int×Bool×Bool) (List Int)):=
  cond (decide ((D6 (x1.2.1 - x1.1))≤12)) ((J3 p1 x1.1 x1.2.1).bind fun v1=>some (.out (v1))) (cond (x1.2.2.1==0) (none) ((cond (!x1.2.2.2.1) (none) (some ())).bind fun _=>none))
def O0 [Lp](p1:(List Int))(p2:Int)(p3:Int)(p4:Int):Option (List Int):=
  loop (N0 p1) (p2,p3,p4,true,true)
theorem Nv(p1 p2 p3 p4 r)(h:O0 p1 p2 p3 p4=some r):MCall prog 266 [(.sl (900000,0)),(di p2),(di p3),(di p4)] [(.arr 2 1 (List.map A4 p1))] (.d (.tup [])) [some (.arr 2 1 (List.map A4 r))] []:=by
 refine Vl (fk func266 ntmps266 (fun r=>if r==4 then [1004003]else []) (by with_unfolding_all rfl)) W (nl W) ?_
 unfold O0 at h
 refine B4 (s0:=⟨T [(0,(.sl _)),(1,(.d _)),(2,(.d _)),(3,(.d _))],G [((900000,0),some _)]⟩) (F4 W W) ?_
 refine B0<|sv W<|A1<|B0<|sv W<|A1<|A7<|E3 (N0 p1) (fun (x1:(Int×Int×Int×Bool×Bool)) (g1:Unit)=>⟨T [(0,(.sl (900000,0))),(1,(di x1.1)),(2,(di x1.2.1)),(3,(di x1.2.2.1)),(8,(.d (bo x1.2.2.2.1))),(9,(.d (bo x1.2.2.2.2)))],G [((900000,0),some<|.arr 2 1 (List.map A4 p1))]⟩) (p2,p3,p4,true,true) () _ h (F4 W W) ?_
 intro x1 g1 z1 hz1 ez1
 unfold N0 at hz1
 refine A7<|B0<|sv W<|sv W<|sv W<|sv W<|A1<|A5<|B0<|sv W<|sv W<|A1<|cc W hz1 (fun c1 hz1=> ?_)<|fun c1 hz1=> ?_
 refine B0<|ss W<|sv W<|sv W<|bs hz1 fun v1 hv1 hz1=>FJ (v:= .d (.tup [])) (us:= [(900000,0)]) (LV (Kf _ _ _ _ hv1) [(900000,0)] [(900000,0)] _ (((900000,0),some<|.arr 2 1 (List.map A4 v1))::_) W Nm (Y1 DV<|Y1 BW<|Y1 BW Tq) (Kt G_hit Iw) ⟨⟨_,G_hit, .of W⟩,trivial⟩ (fun _ h=>h) nd1 W W W) (A1<|B2 ?_)
 cases hz1
 obtain rfl:=ez1 _ rfl
 refine ⟨nofun,F1 ?_⟩
 exact BX (.inr W) [] BY (.refl _) ⟨⟨G_hit,Fr⟩,trivial⟩
 refine A8<|A5<|B0<|sv W<|sv W<|A1<|cc W hz1 (fun c2 hz1=> ?_)<|fun c2 hz1=> ?_
 refine B0<|ss W<|sv W<|sv W ?_
 cases hz1
 refine A8<|A5<|B0<|sv W<|B8 (.d (bo (!x1.2.2.2.1))) W W (A1<|bs hz1 fun _ hy1 hz1=>D9 (fun s=> ∃g2:Unit,Sb ⟨T [(0,(.sl (900000,0))),(1,(di x1.1)),(2,(di x1.2.1)),(3,(di x1.2.2.1)),(8,(.d (bo x1.2.2.2.1))),(9,(.d (bo x1.2.2.2.2))),(10,(di<|D6 (x1.2.1 - x1.1)))],G [((900000,0),some<|.arr 2 1 (List.map A4 p1))]⟩ s) ?_ ?_)
 refine cc W hy1 (fun c3 hy1=> ?_)<|fun c3 hy1=> ?_
 refine B0<|ss W<|sv W<|sv W ?_
 cases hy1
 refine A8 ?_
 cases hy1
 exact U8 ⟨(),(F4 W W)⟩
 rintro _ ⟨g2,q1⟩
 refine B4 q1<|B0<|ss W<|sv W<|sv W ?_
 cases hz1
def O5 [Lp](p1:(List Int)):Option (List Int):=
  (Jl (IntKind.wrap .u64 (p1.length:Int))).bind fun v1=>(O0 p1 0 (p1.length:Int) v1).bind fun v2=>some v2
theorem Qi(p1 r)(h:O5 p1=some r):MCall prog 252 [(.sl (900000,0))] [(.arr 2 1 (List.map A4 p1))] (.d (.tup [])) [some (.arr 2 1 (List.map A4 r))] []:=by
 refine Vl (fk func252 ntmps252 (fun r=>if r==1 then [1001005]else []) (by with_unfolding_all rfl)) W (nl W) ?_
 unfold O5 at h
 refine B4 (s0:=⟨T [(0,(.sl _))],G [((900000,0),some _)]⟩) (F4 W W) ?_
 refine B0<|ss W<|sd W (VF (f:=A4) W G_hit)<|sv W<|A1<|B9<|ss W<|sv W<|sv W<|sv W<|bs h fun _ hv1 h=>A9 W W A3 (Uo _ _ hv1) (.inl W) (bs h fun v2 hv2 h=>FJ (v:= .d (.tup [])) (us:= [(900000,0)]) (LV (Nv _ _ _ _ _ hv2) [(900000,0)] [(900000,0)] _ (((900000,0),some<|.arr 2 1 (List.map A4 v2))::_) W Nm (Y1 DV<|Y1 BW<|Y1 BW<|Y1 BW Tq) (Kt G_hit Iw) ⟨⟨_,G_hit, .of W⟩,trivial⟩ (fun _ h=>h) nd1 W W W) (A1<|E4 ?_))
 obtain rfl:=(lD h)
 exact BX (.inl W) [] BY (.refl _) ⟨⟨G_hit,Fr⟩,trivial⟩
section
open Go.RowKit Go.Lib
def qM:Go.Shelf.Ren:=⟨fun n=>if n=43 then 253 else 0,fun t=>if t=22 then 48 else if t=23 then 2 else t,fun x=>x⟩
theorem cmp_lay:SlLaysE.n43 prog qM where
  mixed:=by kernel_rfl
  f43:=⟨Tryz.f253.name,by decide,by kernel_rfl⟩
  t0:=Tryz.underlying0
  a0:=Tryz.isAgg0
  z0:=Tryz.sizeOf0
  v0:=Tryz.zeroValue0
  t3:=Tryz.underlying3
  a3:=Tryz.isAgg3
  z3:=Tryz.sizeOf3
  v3:=Tryz.zeroValue3
  t4:=Tryz.underlying4
  a4:=Tryz.isAgg4
  z4:=Tryz.sizeOf4
  v4:=Tryz.zeroValue4
  t22:=Tryz.underlying48
  a22:=Tryz.isAgg48
  z22:=Tryz.sizeOf48
  v22:=Tryz.zeroValue48
  a23:=Tryz.isAgg2
  z23:=Tryz.sizeOf2
theorem ZN (g cap:Nat)(d:Array Int)(w:World)(hH:Go.Sort.Holds (Value.int .i64) w g 0 d)(hsz:d.size≤9223372036854775807)(hcap:d.size≤cap):
    Calls prog 253 #[.slice (some ⟨g,0,none⟩) d.size cap] w fun e w'=>e= .returned (.slice (some ⟨g,0,none⟩) (Go.Lib.compactUpTo d d.size).length cap)∧∃q,w'=Go.Sort.putRow (Value.int .i64) (Go.Sort.ahead w q) g 0 (Go.Lib.compactUpTo d d.size++List.replicate (d.size - (Go.Lib.compactUpTo d d.size).length) 0).toArray:=
  AnyE.slices_Compact cmp_lay (Value.int .i64) (fun _=>rfl) (.intD _ _ _) (.intD _ _ _) 0 Tryz.zeroValue2 g 0 cap d w hH hsz hcap
theorem jU (d:Array Int):(Go.Lib.compactUpTo d d.size).length≤d.size:=by
  unfold Go.Lib.compactUpTo
  rw [lS]
  refine wL (List.length_filter_le _ _) ?_
  rw [List.length_range];exact wH _
theorem NG (xs:List Int): ∀m,m≤xs.length→Go.Lib.compactUpTo xs.toArray m=Em (xs.take m)
  |0,_=>rfl
  |m+1,h=>by
   rw [Go.Lib.compactUpTo_succ,NG xs m (by omega),List.take_add_one,lH (by omega),Option.toList_some,GV]
   congr 1
   have hm:m<xs.length:=by omega
   have e1:xs.toArray[m]! =xs[m]:=by rw [getElem!_pos xs.toArray m (by simpa using hm)];simp
   rw [Go.Lib.keeps,e1]
   cases m with
   |zero=>simp
   |succ k=>
    have e2:xs.toArray[k]! =xs[k]:=by rw [getElem!_pos xs.toArray k (by rw [List.size_toArray];omega)];simp
    have e3:(xs.take (k+1)).getLast? =some xs[k]:=by rw [List.take_add_one,lH (by omega),Option.toList_some,List.getLast?_append];simp
    rw [Nat.add_sub_cancel,e2,e3]
    by_cases e:xs[k+1]=xs[k]
    ·simp [e]
    ·rw [bQ (by simp [e]),bR (fun q=>e (lD q).symm)]
theorem pM (xs r:List Int)(hr:DY xs=some r):MCall prog 253 [.sl (900000,0)] [.arr 2 1 (List.map A4 xs)] (.sl (800000,0)) [none] [some (.arr 2 1 (List.map A4 r))]:=by
  obtain ⟨hx,rfl⟩:=PL hr
  clear hr
  refine ⟨W,fun vs w=> ?_,fun w I ρ vs H hlen hrep=> ?_⟩
  ·have hn': ¬Tryz.f253.name= "runtime.NumGoroutine" :=by decide
   have hb: ∃c,Tryz.f253.body=some c:=⟨_,rfl⟩
   obtain ⟨c,hb⟩:=hb
   simp [callFunc,func253,hb,hn']
  have hnx:0<xs.length:=List.length_pos_iff.2 hx
  obtain ⟨a,rfl⟩: ∃a,vs= [a]:=by
    match vs,hlen with
    | [a],_=>exact ⟨a,rfl⟩
  have r0:=hrep 0 _ rfl
  simp only [List.getD_cons_zero]at r0
  have hb0:G (Xg 0 [Blk.arr 2 1 (List.map A4 xs)]) (Z8 0)=some (.arr 2 1 (List.map A4 xs)):=rfl
  obtain ⟨x0,cx,p1,p2,p3,p4⟩:=H.blk _ _ hb0
  have e0:a=x0:=by
    cases r0 with
    |sl _ _ h=>exact lD (h.symm.trans p1)
  subst e0
  obtain ⟨hxl,hx'|⟨g,c,cur,rfl,_,hg,hnc,hcm,hcs,hxc⟩⟩:=p2
  ·rw [lS]at hx';omega
  rw [lS]at hxl hnc hxc
  have hval: ∀i (hi:i<xs.length),cur[i]? =some (.int .i64 xs[i]):=by
    intro i hi
    obtain ⟨_,g2⟩:=p4 i 0 (.v (.int .i64 xs[i])) (by simp [Rp,hi,A4])
    have:cx.getD (i*1+0) undef= .int .i64 xs[i]:=by generalize cx.getD (i*1+0) undef=y at g2;cases g2;rfl
    rw [← hxc,List.getD,bA,bQ (by omega),Nat.mul_one,Nat.add_zero,Array.getElem?_toList]at this
    rw [Array.getElem?_eq_getElem (by omega)]at this ⊢
    rw [Option.getD_some]at this
    rw [this]
  have hH:Go.Sort.Holds (Value.int .i64) w g 0 xs.toArray:=by
    intro j hj
    rw [List.size_toArray]at hj
    have h2:=hval j hj
    refine ⟨?_,by simp [World.frozen?,hg]⟩
    simp [World.cell?,hg,h2,hj]
  have locx:O7 ρ (Z8 0) (.arr 2 1 (List.map A4 xs))=some g:=by simp [O7,p1,Value.ownBlock]
  have hca:=ZN g c xs.toArray w hH (by rw [List.size_toArray];unfold maxLen at hcm;omega) (by rw [List.size_toArray];exact hnc)
  have hcl:=jU xs.toArray
  rw [List.size_toArray]at hca hcl
  rw [lS]
  refine hca.mono ?_
  rintro e w' ⟨rfl,q,hw'⟩
  have hheap: ∀k,w'.heap[k]? =if k=g then some (.cells (Go.Sort.putCells (Value.int .i64) 0 (Go.Lib.compactUpTo xs.toArray xs.length++List.replicate (xs.length - (Go.Lib.compactUpTo xs.toArray xs.length).length) 0).toArray cur) 2 (0,0))else w.heap[k]?:=by
    intro k
    rw [hw']
    show (w.heap.modify g _)[k]? =_
    rw [Array.getElem?_modify]
    by_cases e:g=k
    ·subst e;rw [bQ rfl,bQ rfl,hg];rfl
    ·rw [bR e,bR (Ne.symm e)]
  have hos:w'.os=w.os∧w'.tape=w.tape∧w'.output=w.output∧w'.heap.size=w.heap.size:=by rw [hw'];exact ⟨rfl,rfl,rfl,by simp⟩
  clear hw' hca hH
  generalize hC:Go.Lib.compactUpTo xs.toArray xs.length=C at hcl hheap ⊢
  have hCc:Em xs=C:=by rw [← hC,NG xs _ (wH _),List.take_length]
  rw [hCc]
  obtain ⟨Z,hZ⟩: ∃Z:Array Int,Z=(C++List.replicate (xs.length - C.length) 0).toArray:=⟨_,rfl⟩
  rw [← hZ]at hheap
  have hZs:Z.size=xs.length:=by rw [hZ];simp;omega
  have hZg: ∀i (hi:i<C.length),Z[i]! =C[i]:=by
    intro i hi
    have hlt:i<Z.size:=by omega
    rw [getElem!_pos Z i hlt]
    subst hZ
    rw [List.getElem_toArray,List.getElem_append_left hi]
  clear hZ hC hCc
  obtain ⟨u0,hu0⟩:=H.fresh
  have hk0:ρ (7,u0)=none:=hu0 7 u0 (wH _)
  have hgI: ¬I g:=H.notI _ _ g hb0 locx
  have hgo:own ρ (G (Xg 0 [Blk.arr 2 1 (List.map A4 xs)])) g:=⟨_,_,hb0,locx⟩
  have hother: ∀k,k≠g→w'.heap[k]? =w.heap[k]?:=fun k hk=>by rw [hheap,bR hk]
  have hI': ∀b,I b→w'.heap[b]? =w.heap[b]?:=fun b hb=>hother b (fun e=>hgI (e▸hb))
  have H0:HeapOK w' I ρ (fun _=>none):=⟨fun k b hb=>(by cases hb),fun k k' b b' g h1=>(by cases h1),fun k b g h1=>(by cases h1),fun k b g h1=>(by cases h1),fun b hb=>by rw [hos.2.2.2];exact H.ilt b hb,⟨u0,hu0⟩,H.rone⟩
  have hloc: ∀k,O7 (Ba ρ (7,u0) (some (Value.slice (some ⟨g,0,none⟩) C.length c))) (7,u0) (.arr 2 1 (List.map A4 C))=some k→k=g:=by
    intro k hk
    have:some g=some k:=by simpa [O7,H7,Value.ownBlock] using hk
    exact (lD this).symm
  have hown: ∀g,¬own ρ (fun _=>none) g:=fun g ⟨k,b,h,_⟩=>by cases h
  have hsz:(Go.Sort.putCells (Value.int .i64) 0 Z cur).size=c:=by unfold Go.Sort.putCells;rw [Array.size_mapIdx,hcs,Nat.mul_one]
  have Hn:=QR H0 (7,u0) (Value.slice (some ⟨g,0,none⟩) C.length c) (.arr 2 1 (List.map A4 C)) hk0 rfl (fun k hk=>by
    rw [hloc k hk]
    exact ⟨hown g,hgI,by rw [hos.2.2.2];exact H.lt _ _ g hb0 locx⟩)
    ⟨_,C.map (Value.int .i64),H7 _ _ _,⟨by simp, .inr ⟨g,c,_,by rw [lS],wI _,by rw [hheap,bQ rfl],by rw [lS];omega,hcm,by rw [hsz,Nat.mul_one],by
      rw [lS,Nat.mul_one]
      apply List.ext_getElem
      ·have h3:(Go.Sort.putCells (Value.int .i64) 0 Z cur).toList.length=c:=hsz
       rw [lV,h3,lS];omega
      ·intro i h1 h2
       rw [lS]at h2
       rw [List.getElem_take,Array.getElem_toList,List.getElem_map]
       unfold Go.Sort.putCells
       rw [Array.getElem_mapIdx,bQ ⟨wI _,by omega⟩,Nat.sub_zero,hZg i h2]⟩⟩,by
      intro q hq
      obtain ⟨z,_,rfl⟩:=List.mem_map.1 hq
      rfl,by
      intro r j d' hd'
      unfold Rp at hd'
      rw [lK]at hd'
      cases hr:C[r]? with
      |none=>rw [hr]at hd';cases hd'
      |some z=>
       rw [hr]at hd'
       match j,hd' with
       |0,hd'=>
        cases hd'
        refine ⟨W,?_⟩
        rw [Nat.mul_one,Nat.add_zero,List.getD,lK,hr]
        exact .v _
       |j+1,hd'=>simp [A4]at hd'⟩
  refine ⟨_, .sl (7,u0),I,_,_,W, .sl _ _ (H7 _ _ _),Hn,⟨hos.1,hos.2.1,hos.2.2.1,by rw [hos.2.2.2];exact wH _,fun b hb hn'=>hother b<|fun e=>hn' (e▸hgo),fun _ hb=>hb,fun _ hb _=> .inl hb,?_,ON hk0⟩,fun _=>(7,u0),W,?_,?_,?_,?_⟩
  ·rintro k ⟨k',b',h1,h2⟩ hl
   by_cases ek:k'=(7,u0)
   ·subst ek
    rw [H7]at h1
    cases h1
    rw [hloc k h2];exact hgo
   ·rw [M1 _ _ _ _ ek]at h1;cases h1
  ·intro j b hb
   match j,hb with
   |0,hb=>cases hb
   |j+1,hb=>simp at hb
  ·intro j b hb
   match j,hb with
   |0,hb=>cases hb;exact H7 _ _ _
   |j+1,hb=>simp at hb
  ·intro j _ i _ e;simp only [Z8,Prod.mk.injEq]at e;omega
  ·intro j j' h1 h2 _
   simp only [lL,lN]at h1 h2
   omega
theorem fG (A:Option Addr)(w:World):Calls prog 253 #[.slice A 0 0] w fun e w'=>e= .returned (.slice A 0 0)∧∃q,w'=w.drewN q:=by
  have mixed:=cmp_lay.mixed
  have v0:=Tryz.zeroValue2
  go_enter func253,ntmps253
  go_wp2
  go_ret
  exact ⟨W,0,W⟩
theorem jV:PCall prog 253 [.nilS] .nilS:=by
  refine ⟨fun vs w=> ?_,fun w I vs hI hlen hrep=> ?_⟩
  ·have hn': ¬Tryz.f253.name= "runtime.NumGoroutine" :=by decide
   have hb: ∃c,Tryz.f253.body=some c:=⟨_,rfl⟩
   obtain ⟨c,hb⟩:=hb
   simp [callFunc,func253,hb,hn']
  obtain ⟨a,rfl⟩: ∃a,vs= [a]:=by
    match vs,hlen with
    | [a],_=>exact ⟨a,rfl⟩
  have r0:=hrep 0 _ rfl
  simp only [List.getD_cons_zero]at r0
  cases r0 with
  |nilS A=>
   refine (fG A w).mono ?_
   rintro e w' ⟨rfl,q,rfl⟩
   exact ⟨_,I,W, .nilS A,W,W,W,wH _,fun _ _=>W,fun _ hb=>hb,fun _ hb _=>hb,hI⟩
end
def W2 (p1:Int)(x2:Int):Option (Stp Int Unit):=
  ((cond (decide (x2>p1)) ((none:Option Unit)) (some default))).bind fun v1=>cond ((decide (x2>p1))&&false) (none) (some (.out ()))
def M3 [Lp](p1:Int)(p2:Int)(x1:Int):Option (Stp Int Unit):=
  cond (decide (x1<p2)) ((loop (W2 p1) x1).bind fun _=>some (.go (D6 (x1+1)))) (some (.out (())))
def L9 [Lp](p1:Int)(p2:Int):Option Unit:=
  loop (M3 p1 p2) (D6 (p1+1))
theorem Kg(p1 p2 r)(h:L9 p1 p2=some r):PCall prog 271 [.nilS,(i64 p1),(i64 p2)] (.tup []):=by
 refine C4 (fk func271 ntmps271 m0 (by with_unfolding_all rfl)) (nl W) ?_
 unfold L9 at h
 refine B4 (s0:=⟨T [(0,(.d _)),(1,(.d _)),(2,(.d _))],G []⟩) (F4 W W) ?_
 refine B0<|sv W<|sv W<|sv W<|A1<|A7<|E3 (M3 p1 p2) (fun (x1:Int) (g1:Unit)=>⟨T [(0,(.d .nilS)),(1,(di p1)),(2,(di p2)),(6,(di x1))],G []⟩) (D6 (p1+1)) () _ h (F4 W W) ?_
 intro x1 g1 z1 hz1 ez1
 unfold M3 at hz1
 refine A5<|B0<|sv W<|sv W<|sv W<|A1<|cc W hz1 (fun c1 hz1=> ?_)<|fun c1 hz1=> ?_
 refine A8<|A5<|A7<|B0<|sv W<|sv W<|A1<|bs hz1 fun _ hy1 hz1=>D9 (fun s=> ∃g2:Unit,Sb ⟨T [(0,(.d .nilS)),(1,(di p1)),(2,(di p2)),(6,(di x1))],G []⟩ s) ?_ ?_
 refine A7<|E3 (W2 p1) (fun (x2:Int) (g3:Unit)=>⟨T [(0,(.d .nilS)),(1,(di p1)),(2,(di p2)),(6,(di x1)),(7,(di x2))],G []⟩) x1 () _ hy1 (F4 W W) ?_
 intro x2 g3 z2 hz2 ez2
 unfold W2 at hz2
 refine A5<|A5<|F3 W<|sv W<|sv W<|sv W<|sv W<|gt W (fun _=>W)<|gt W (fun _=>W)<|bs hz2 fun _ hv1 hz2=>M0 _ (.d (.tup [])) W (M7 W) (fun w3=>nomatch C2 w3 hv1) (M0 _ (di 0) W (M7 W) (fun w4=>nomatch C2 w4 hv1) (M0 _ (.d (.tup [])) W (M7 W) (fun w5=>nomatch C2 w5 hv1) (M0 _ (di 0) W (M7 W) (fun w6=>nomatch C2 w6 hv1) (M0 _ (di 0) W (M7 W) (fun w7=>nomatch C2 w7 hv1) (M0 _ (.d (.tup [])) W (M7 W) (fun w8=>nomatch C2 w8 hv1) (M0 _ (di 0) W (M7 W) (fun w9=>nomatch C2 w9 hv1) (N9 _ (bo false) (M7 W) (fun w10=>nomatch C2 w10 hv1) (sa W W W<|A1<|cc W hz2 (fun c2 hz2=> ?_)<|fun c2 hz2=> ?_))))))))
 refine A8<|A5<|A7<|F3 W<|sv W<|sv W<|sv W<|sv W<|sv W<|sv W<|sv W<|sv W ?_
 cases hz2
 refine C8 W ?_
 cases hz2
 obtain rfl:=ez2 _ rfl
 refine ⟨nofun,C6 W<|U8 ?_⟩
 exact ⟨(),(F4 W W)⟩
 rintro _ ⟨g2,q1⟩
 refine E2<|B4 q1<|B9<|sv W<|sv W<|sv W<|A1<|E4 ?_
 cases hz1
 exact ⟨W,(),(F4 W W)⟩
 refine C8 W ?_
 cases hz1
 obtain rfl:=ez1 _ rfl
 refine ⟨nofun,C6 W<|E4 ?_⟩
 exact A6 (.inl W) W (.refl _)
def N1 [Lp](x1:(Int×Int×Int×Bool×Bool)):Option (Stp (Int×Int×Int×Bool×Bool) Unit):=
  cond (decide ((D6 (x1.2.1 - x1.1))≤12)) ((L9 x1.1 x1.2.1).bind fun v1=>some (.out (()))) (cond (x1.2.2.1==0) (none) ((cond (!x1.2.2.2.1) (none) (some ())).bind fun _=>none))
def O1 [Lp](p1:Int)(p2:Int)(p3:Int):Option Unit:=
  loop (N1) (p1,p2,p3,true,true)
theorem Nw(p1 p2 p3 r)(h:O1 p1 p2 p3=some r):PCall prog 266 [.nilS,(i64 p1),(i64 p2),(i64 p3)] (.tup []):=by
 refine C4 (fk func266 ntmps266 m0 (by with_unfolding_all rfl)) (nl W) ?_
 unfold O1 at h
 refine B4 (s0:=⟨T [(0,(.d _)),(1,(.d _)),(2,(.d _)),(3,(.d _))],G []⟩) (F4 W W) ?_
 refine B0<|sv W<|A1<|B0<|sv W<|A1<|A7<|E3 (N1) (fun (x1:(Int×Int×Int×Bool×Bool)) (g1:Unit)=>⟨T [(0,(.d .nilS)),(1,(di x1.1)),(2,(di x1.2.1)),(3,(di x1.2.2.1)),(8,(.d (bo x1.2.2.2.1))),(9,(.d (bo x1.2.2.2.2)))],G []⟩) (p1,p2,p3,true,true) () _ h (F4 W W) ?_
 intro x1 g1 z1 hz1 ez1
 unfold N1 at hz1
 refine A7<|B0<|sv W<|sv W<|sv W<|sv W<|A1<|A5<|B0<|sv W<|sv W<|A1<|cc W hz1 (fun c1 hz1=> ?_)<|fun c1 hz1=> ?_
 refine B0<|sv W<|sv W<|sv W<|bs hz1 fun _ hv1 hz1=>A9 W W A3 (Kg _ _ _ hv1) (.inl W) (A1<|B2 ?_)
 cases hz1
 obtain rfl:=ez1 _ rfl
 refine ⟨nofun,F1 ?_⟩
 exact A6 (.inr W) W (.refl _)
 refine A8<|A5<|B0<|sv W<|sv W<|A1<|cc W hz1 (fun c2 hz1=> ?_)<|fun c2 hz1=> ?_
 refine B0<|sv W<|sv W<|sv W ?_
 cases hz1
 refine A8<|A5<|B0<|sv W<|B8 (.d (bo (!x1.2.2.2.1))) W W (A1<|bs hz1 fun _ hy1 hz1=>D9 (fun s=> ∃g2:Unit,Sb ⟨T [(0,(.d .nilS)),(1,(di x1.1)),(2,(di x1.2.1)),(3,(di x1.2.2.1)),(8,(.d (bo x1.2.2.2.1))),(9,(.d (bo x1.2.2.2.2))),(10,(di<|D6 (x1.2.1 - x1.1)))],G []⟩ s) ?_ ?_)
 refine cc W hy1 (fun c3 hy1=> ?_)<|fun c3 hy1=> ?_
 refine B0<|sv W<|sv W<|sv W ?_
 cases hy1
 refine A8 ?_
 cases hy1
 exact U8 ⟨(),(F4 W W)⟩
 rintro _ ⟨g2,q1⟩
 refine B4 q1<|B0<|sv W<|sv W<|sv W ?_
 cases hz1
def O6 [Lp]:Option Unit:=
  (Jl (IntKind.wrap .u64 0)).bind fun v1=>(O1 0 0 v1).bind fun v2=>some ()
theorem Qj(r)(h:O6=some r):PCall prog 252 [.nilS] (.tup []):=by
 refine C4 (fk func252 ntmps252 m0 (by with_unfolding_all rfl)) (nl W) ?_
 unfold O6 at h
 refine B4 (s0:=⟨T [(0,(.d _))],G []⟩) (F4 W W) ?_
 refine B0<|sv W<|sv W<|sv W<|A1<|B9<|sv W<|sv W<|sv W<|sv W<|bs h fun _ hv1 h=>A9 W W A3 (Uo _ _ hv1) (.inl W) (bs h fun _ hv2 h=>A9 W W A3 (Nw _ _ _ _ hv2) (.inl W) (A1<|E4 ?_))
 cases h
 exact A6 (.inl W) W (.refl _)
def Ah [Lp](p1:Map)(p2:Int)(p3:Int)(v1:Zone)(x2:((List Int)×Int)):Option (Stp ((List Int)×Int) (List Int)):=
  cond (decide (x2.2< (v1.Parts.length:Int))) ((C0 v1.Parts x2.2).bind fun v2=>((cond (v2.Lane_==p2) (C0 p1.Signals (D6 (v1.Signal_ - 1))) (some default))).bind fun v3=>((cond (v2.Lane_==p2) (Fh v3 p2 p3) (some default))).bind fun v4=>cond ((v2.Lane_==p2)&& (!v4)) ((X3 x2.1 [v2.From]).bind fun v5=>some (.go (v5,(D6 (x2.2+1))))) (some (.go (x2.1,(D6 (x2.2+1)))))) (some (.out x2.1))
def Ai [Lp](p1:Map)(p2:Int)(p3:Int)(x1:((List Int)×Int)):Option (Stp ((List Int)×Int) (List Int)):=
  cond (decide (x1.2< (p1.Zones.length:Int))) ((C0 p1.Zones x1.2).bind fun v1=>cond (v1.Signal_==0) (some (.go (x1.1,(D6 (x1.2+1))))) ((loop (Ah p1 p2 p3 v1) (x1.1,0)).bind fun y2=>some (.go (y2,(D6 (x1.2+1)))))) (some (.out x1.1))
def My [Lp](p1:Map)(p2:Int)(p3:Int):Option (List Int):=
  (loop (Ai p1 p2 p3) ([],0)).bind fun y1=>cond (List.isEmpty y1) ((O6).bind fun v8=>some []) ((O5 y1).bind fun v6=>(DY v6).bind fun v7=>some v7)
theorem PR(p1 p2 p3 r)(h:My p1 p2 p3=some r):PCall prog 223 [(.agg (P9 p1)),(i64 p2),(i64 p3)] (.list (List.map A4 r)):=by
 refine C4 (fk func223 ntmps223 (fun r=>if r==10 then [1003]else if r==13 then [1013001]else if r==14 then [1014001]else []) (by with_unfolding_all rfl)) (nl W) ?_
 unfold My at h
 refine B4 (s0:=⟨T [(0,(.d _)),(1,(.d _)),(2,(.d _))],G []⟩) (F4 W W) ?_
 refine lr<|fun u1 _=>sm W<|sv W<|A1<|B0<|sv W<|A1<|A5<|B0<|sq W<|sl W G_hit W<|sd W (D8 W)<|sv W<|A1<|bs h fun y1 hy1 h=>D9 (fun s=> ∃g1:Nat,Sb ⟨T [(7,(oS y1 (50,g1)))],G [((50,g1),oB 2 1 A4 y1)]⟩ s) ?_ ?_
 refine A7<|E3 (Ai p1 p2 p3) (fun (x1:((List Int)×Int)) (g2:Nat)=>⟨T [(1,(di p2)),(2,(di p3)),(3,(.ptr (3,u1) 0)),(7,(oS x1.1 (50,g2))),(13,(dl Gk p1.Zones)),(14,(di (p1.Zones.length:Int))),(15,(di x1.2))],G [((3,u1),some<|.box 33 (L8 p1)),((50,g2),oB 2 1 A4 x1.1)]⟩) ([],0) 0 _ hy1 (E1 (Z2 W)<|B5 G_hit (.of W)<|S4 trivial) ?_
 intro x1 g2 z1 hz1 ez1
 unfold Ai at hz1
 refine B0<|sv W<|A1<|A5<|cc W hz1 (fun c1 hz1=> ?_)<|fun c1 hz1=> ?_
 refine A8<|A5<|A7<|lr<|fun u5 _=>bs hz1 fun v1 hv1 hz1=>sd W (C7 W W hv1 W)<|sd W (D5 W hv1 W W)<|sm W<|U1 W G_hit [(dl Bn v1.Parts),(di v1.Signal_)] W (A1<|A5<|B0<|sq W<|sl W G_hit W<|sv W<|A1<|cc W hz1 (fun c2 hz1=> ?_)<|fun c2 hz1=> ?_)
 refine Vj W<|B9<|sv W<|sv W<|A1<|E4 ?_
 cases hz1
 exact ⟨W,g2,(E1 (Z2 W)<|sg W<|B7 (gq W) trivial)⟩
 refine A8<|B0<|sq W<|sl W G_hit W<|sd W (D8 W)<|sv W<|A1<|bs hz1 fun y2 hy2 hz1=>D9 (fun s=> ∃g3:Nat,Sb ⟨T [(1,(di p2)),(2,(di p3)),(3,(.ptr (3,u1) 0)),(7,(oS y2 (50,g3))),(13,(dl Gk p1.Zones)),(14,(di (p1.Zones.length:Int))),(15,(di x1.2))],G [((3,u1),some<|.box 33 (L8 p1)),((50,g3),oB 2 1 A4 y2)]⟩ s) ?_ ?_
 refine A7<|E3 (Ah p1 p2 p3 v1) (fun (x2:((List Int)×Int)) (g4:Nat)=>⟨T [(1,(di p2)),(2,(di p3)),(3,(.ptr (3,u1) 0)),(7,(oS x2.1 (50,g4))),(9,(.ptr (9,u5) 0)),(13,(dl Gk p1.Zones)),(14,(di (p1.Zones.length:Int))),(15,(di x1.2)),(23,(dl Bn v1.Parts)),(24,(di (v1.Parts.length:Int))),(25,(di x2.2))],G [((3,u1),some<|.box 33 (L8 p1)),((9,u5),some<|.box 117 [(dl Bn v1.Parts),(di v1.Signal_)]),((50,g4),oB 2 1 A4 x2.1)]⟩) (x1.1,0) g2 _ hy2 (E1 (Z2 W)<|sg W<|B5 G_hit (.of W)<|B7 (gq W) trivial) ?_
 intro x2 g4 z2 hz2 ez2
 unfold Ah at hz2
 refine B0<|sv W<|A1<|A5<|cc W hz2 (fun c3 hz2=> ?_)<|fun c3 hz2=> ?_
 refine A8<|A5<|A7<|B0<|bs hz2 fun v2 hv2 hz2=>sd W (C7 W W hv2 W)<|sd W (D5 W hv2 W W)<|sm W<|U1 W G_hit (AO v2) W (A1<|B0<|sq W<|sl W G_hit W<|sv W<|sv W<|sv W<|gp W (M7 W) (fun _=>W) (gt W (vl W (gq W) W)<|gp W (M7 W) (fun _=>W) (gt W (vl W (gq W) W)<|gt W (vb W W W)<|bs hz2 fun v3 hv3 hz2=>gt W (fun w6=>(C7 (A2 w6) (A2 w6) (C2 w6 hv3) W))<|gt W (fun w7=>(D5 (A2 w7) (C2 w7 hv3) W W))<|gt W (fun _=>W)<|gt W (fun _=>W)<|bs hz2 fun v4 hv4 hz2=> ?_)))
 refine N9 _ (bo v4) (M7 W) (fun w10=>⟨_,[(.d (.agg [(i64 v3.Offset),(.list (List.map Bd v3.Phases))])),(di p2),(di p3)],_,_,(by simp only [A2 w10];rfl),W,A3,Ys _ _ _ _<|C2 w10 hv4,(.inl W)⟩) ?_
 refine M0 _ (.d (bo (!v4))) W (M7 W) (fun w11=>(by simp only [A2 w11];rfl)) ?_
 refine sa W W W<|A1<|cc W hz2 (fun c4 hz2=> ?_)<|fun c4 hz2=> ?_
 refine Bm fun u12 _=>B8 (oS x2.1 (50,g4)) W W (sq W<|sl W G_hit W<|B8 (dl A4 [v2.From]) W W (bs hz2 fun _ hv5 hz2=>P7 A4 (50,g4) x2.1 v2.From [] _ (L7<|fun _=>W) W (gq W) hv5 (ss W<|A1<|E2<|B9<|sv W<|sv W<|A1<|E4 ?_)))
 cases hz2
 exact ⟨W,u12,(E1 ⟨.of W, .of W, .of W,(.of (U9<|V1 hv5).symm), .of W, .of W, .of W, .of W, .of W, .of W, .of W,trivial⟩<|sg W<|sg W<|N6 G_hit trivial)⟩
 refine A8<|E2<|B9<|sv W<|sv W<|A1<|E4 ?_
 cases hz2
 exact ⟨W,g4,(E1 (Z2 W)<|sg W<|sg W<|B7 (gq W) trivial)⟩
 refine C8 W ?_
 cases hz2
 obtain rfl:=ez2 _ rfl
 refine ⟨nofun,C6 W<|U8 ?_⟩
 exact ⟨g4,(E1 (Z2 W)<|B5 G_hit (.of W)<|B7 (gq W) trivial)⟩
 rintro _ ⟨g3,q1⟩
 refine E2<|B4 q1<|B9<|sv W<|sv W<|A1<|E4 ?_
 cases hz1
 exact ⟨W,g3,(E1 (Z2 W)<|B5 G_hit (.of W)<|B7 (gq W) trivial)⟩
 refine C8 W ?_
 cases hz1
 obtain rfl:=ez1 _ rfl
 refine ⟨nofun,C6 W<|U8 ?_⟩
 exact ⟨g2,(E1 ⟨.of W,trivial⟩<|B7 (gq W) trivial)⟩
 rintro _ ⟨g1,q2⟩
 refine B4 q2<|A5 ?_
 rcases NE h with ⟨e1,h⟩|⟨e1,h⟩
 refine B4 (s0:=⟨T [(7,(.d .nilS))],G []⟩) (E1 ⟨.of (fE e1),trivial⟩ trivial) ?_
 refine B9<|sv W<|bs h fun _ hv8 h=>FJ (v:= .d (.tup [])) (us:= []) (jO [] _ W W A3 (Qj _ hv8) W W) (A1<|B0<|sv W<|FJ (v:= .d .nilS) (us:= []) (jO [] _ W W A3 jV W W) (sv W<|A1<|B2 ?_))
 cases h
 exact A6 (.inr W) (B6 (B3 W) C1) DLe.nil
 refine B4 (s0:=⟨T [(7,(.sl (50,g1)))],G [((50,g1),some<|.arr 2 1 (List.map A4 y1))]⟩) (E1 ⟨.of (U9 e1),trivial⟩<|B5 (Ic G_hit e1) (.of W) trivial) ?_
 refine B9<|ss W<|bs h fun v6 hv6 h=>FJ (v:= .d (.tup [])) (us:= [(50,g1)]) (LV (Qi _ _ hv6) [(50,g1)] [(50,g1)] _ (((50,g1),some<|.arr 2 1 (List.map A4 v6))::_) W Nm (Y1 DV Tq) (Kt G_hit Iw) ⟨⟨_,G_hit, .of W⟩,trivial⟩ (fun _ h=>h) nd1 W W W) (A1<|lr<|fun u18 _=>ss W<|bs h fun v7 hv7 h=>FJ (v:= .sl (10140010,u18)) (us:= [(50,g1),(10140010,u18)]) (LV (pM _ _ hv7) [(50,g1)] [(50,g1)] _ (((10140010,u18),some<|.arr 2 1 (List.map A4 v7))::((50,g1),none)::_) W Nm (Y1 DV Tq) (Kt G_hit Iw) ⟨⟨_,G_hit, .of W⟩,trivial⟩ (fun _ h=>h) nd1 W W W) (ss W<|A1<|B2 ?_))
 cases h
 exact A6 (.inr W) (B6 (B3 W)<|MZ G_hit) (.refl _)
def Es [Lp](p1:Map)(p2:Int)(p3:Int):Option (List Int):=
  ((cond (!(decide (p3<0))) (Lu p1 p2) (some default))).bind fun v1=>cond ((decide (p3<0))||(!v1)) (some []) ((My p1 p2 p3).bind fun v2=>some v2)
theorem PS(p1 p2 p3 r)(h:Es p1 p2 p3=some r):PCall prog 180 [(.agg (P9 p1)),(i64 p2),(i64 p3)] (.list (List.map A4 r)):=by
 refine C4 (fk func180 ntmps180 m0 (by with_unfolding_all rfl)) (nl W) ?_
 unfold Es at h
 refine B4 (s0:=⟨T [(0,(.d _)),(1,(.d _)),(2,(.d _))],G []⟩) (F4 W W) ?_
 refine B0<|sm W<|sv W<|A1<|A5<|B0<|sv W<|sv W<|sv W<|gf W (fun _=>(B1 W G_hit W W))<|gf W (fun _=>W)<|bs h fun v1 hv1 h=> ?_
 refine N9 _ (bo v1) (K7 W) (fun w3=>⟨_,[(.d (.agg (P9 p1))),(di p2)],_,_,(by simp only [A2 w3];rfl),W,A3,Yr _ _ _<|C2 w3 hv1,(.inl W)⟩) ?_
 refine M0 _ (.d (bo (!v1))) W (K7 W) (fun w4=>(by simp only [A2 w4];rfl)) ?_
 refine sd W (O2 W W<|fun hc=>A2<|J5 hc)<|A1<|cc W h (fun c1 h=> ?_)<|fun c1 h=> ?_
 refine B0<|sv W<|A1<|B2 ?_
 cases h
 exact A6 (.inr W) (B6 (B3 W) C1) DLe.nil
 refine A8<|B0<|sd W (B1 W G_hit W W)<|sv W<|sv W<|bs h fun _ hv2 h=>A9 W W A3 (PR _ _ _ _ hv2) (.inl W) (sv W<|A1<|B2 ?_)
 cases h
 exact A6 (.inr W) (B6 (B3 W) C1) (.refl _)
def Y8 (p1:Int)(p2:Agent)(p3:Int):Option Int:=
  some (Mi true 0 (Mi false (D6 (p2.V+p1)) p3))
theorem Qr(p1 p2 p3 r)(h:Y8 p1 p2 p3=some r):PCall prog 179 [(i64 p1),(.bp (C9 p2) 0),(.bp [(i64 p3)] 0)] (i64 r):=by
 refine C4 (fk func179 ntmps179 m0 (by with_unfolding_all rfl)) (nl W) ?_
 unfold Y8 at h
 refine B4 (s0:=⟨T [(0,(.d _)),(1,(.d _)),(2,(.d _))],G []⟩) (F4 W W) ?_
 refine B0<|sv W<|A1<|B0<|sv W<|sv W<|sv W<|sv W<|sv W<|sv W<|sv W<|sv W<|A1<|B2 ?_
 cases h
 exact A6 (.inr W) (B6 (B3 W) C1) (.refl _)
def Mm (p1:Int)(p2:Int):Option Int:=
  cond ((decide (p1<1))||(decide (p2<1))) (some 0) ((PF .i64 (D6 ((Mi false p1 1000000) - 1)) (Mi false p2 1000000)).bind fun v1=>some (D6 ((D6 (v1* (Mi false p1 1000000))) - (D6 ((Mi false p2 1000000)* (D6 ((D6 (v1* (D6 (v1+1)))).tdiv 2)))))))
theorem Tw(p1 p2 r)(h:Mm p1 p2=some r):PCall prog 41 [(i64 p1),(i64 p2)] (i64 r):=by
 refine C4 (fk func41 ntmps41 m0 (by with_unfolding_all rfl)) (nl W) ?_
 unfold Mm at h
 refine B4 (s0:=⟨T [(0,(.d _)),(1,(.d _))],G []⟩) (F4 W W) ?_
 refine B0<|sv W<|A1<|A5<|B0<|sv W<|sv W<|sv W<|gf W (fun _=>W)<|gf W (vb W W W)<|sd W (O2 W W<|fun hc=>A2<|J5 hc)<|A1<|cc W h (fun c1 h=> ?_)<|fun c1 h=> ?_
 refine B0<|sv W<|A1<|B2 ?_
 cases h
 exact A6 (.inr W) (B6 (B3 W) C1) (.refl _)
 refine A8<|B0<|sv W<|sv W<|sv W<|sv W<|sv W<|sv W<|A1<|B0<|sv W<|sv W<|sv W<|bs h fun _ hv1 h=>sd W (eJ W W hv1)<|sv W<|A1<|B0<|sv W<|sv W<|sv W<|sv W<|sv W<|sv W<|sv W<|sv W<|sv W<|sv W<|sv W<|sv W<|A1<|B2 ?_
 cases h
 exact A6 (.inr W) (B6 (B3 W) C1) (.refl _)
end
end Go.Abs.World
