/-
  The functions, part 2.
-/
import Derived.Test.YtgjdiioennhoeaaGreatFns1
set_option maxRecDepth 20000
set_option maxHeartbeats 4000000
set_option linter.unusedVariables false
namespace Go.Abs.World
noncomputable section
open Go Go.Abs Go.Proofs
attribute [local irreducible] M5 Kb Fu
def D1 (p2:Int)(x2:(Int× (List Pass))):Option (Stp (Int× (List Pass)) (List Pass)):=
  ((cond (decide (x2.1>p2)) (B7 x2.2 x2.1) (some default))).bind fun v1=>((cond (decide (x2.1>p2)) (B7 x2.2 (C3 (x2.1 - 1))) (some default))).bind fun v2=>((cond (decide (x2.1>p2)) (Fa v1 v2) (some default))).bind fun v3=>cond ((decide (x2.1>p2))&& (decide (v3<0))) ((B7 x2.2 (C3 (x2.1 - 1))).bind fun v4=>(B7 x2.2 x2.1).bind fun v5=>(B7 x2.2 x2.1).bind fun v6=>(B7 (Kj x2.2 x2.1 v4) (C3 (x2.1 - 1))).bind fun v7=>some (.go ((C3 (x2.1 - 1)),(Kj (Kj x2.2 x2.1 v4) (C3 (x2.1 - 1)) v5)))) (some (.out x2.2))
def D9 (p2:Int)(p3:Int)(x1:(Int× (List Pass))):Option (Stp (Int× (List Pass)) (List Pass)):=
  cond (decide (x1.1<p3)) ((loop (D1 p2) (x1.1,x1.2)).bind fun y1=>some (.go ((C3 (x1.1+1)),y1))) (some (.out (x1.2)))
def D6 (p1:(List Pass))(p2:Int)(p3:Int):Option (List Pass):=
  loop (D9 p2 p3) ((C3 (p2+1)),p1)
theorem At(p1 p2 p3 r)(h:D6 p1 p2 p3=some r):MCall Tryz.prog 282 [(.sl (900000,0)),(di p2),(di p3),(.d (.fn (.func 264) [] []))] [(.arr 229 4 (List.map U0 p1))] (.d (.tup [])) [some (.arr 229 4 (List.map U0 r))] []:=by
 refine CJ (fk Tryz.func282 Tryz.ntmps282 m0 (by with_unfolding_all rfl)) W (nl W) ?_
 unfold D6 at h
 refine B5 (s0:=⟨T [(0,(.sl _)),(1,(.d _)),(2,(.d _)),(3,(.d _))],G [((900000,0),some _)]⟩) (F0 W W) ?_
 refine A9<|sv W<|sv W<|sv W<|A1<|A7<|E2 (D9 p2 p3) (fun (x1:(Int× (List Pass))) (g1:Unit)=>⟨T [(0,(.sl (900000,0))),(1,(di p2)),(2,(di p3)),(3,(.d (.fn (.func 264) [] []))),(8,(di x1.1))],G [((900000,0),some<|.arr 229 4 (List.map U0 x1.2))]⟩) ((C3 (p2+1)),p1) () _ h (F0 W W) ?_
 intro x1 g1 z1 hz1 ez1
 unfold D9 at hz1
 refine A5<|A9<|sv W<|sv W<|sv W<|A1<|cc W hz1 (fun c1 hz1=> ?_)<|fun c1 hz1=> ?_
 refine A8<|A5<|A7<|A9<|sv W<|sv W<|A1<|bs hz1 fun y1 hy1 hz1=>D8 (fun s=> ∃g2:Unit,Sb ⟨T [(0,(.sl (900000,0))),(1,(di p2)),(2,(di p3)),(3,(.d (.fn (.func 264) [] []))),(8,(di x1.1))],G [((900000,0),some<|.arr 229 4 (List.map U0 y1))]⟩ s) ?_ ?_
 refine A7<|E2 (D1 p2) (fun (x2:(Int× (List Pass))) (g3:Unit)=>⟨T [(0,(.sl (900000,0))),(1,(di p2)),(2,(di p3)),(3,(.d (.fn (.func 264) [] []))),(8,(di x1.1)),(9,(di x2.1))],G [((900000,0),some<|.arr 229 4 (List.map U0 x2.2))]⟩) (x1.1,x1.2) () _ hy1 (F0 W W) ?_
 intro x2 g3 z2 hz2 ez2
 unfold D1 at hz2
 refine A5<|A5<|F1 W<|sv W<|sv W<|sv W<|sv W<|gt W (fun _=>W)<|N1 _ (.sl _) W (M9 W) (fun _=>W) (gt W (fun _=>W)<|bs hz2 fun v1 hv1 hz2=>N1 _ (.aptr _ _ _ _) W (M9 W) (fun w4=>(Ob (A2 w4) (A2 w4) G_hit (B8 w4 hv1))) (gt W (fun w5=>(Sd (A2 w5) G_hit (B8 w5 hv1) W W))<|N1 _ (.sl _) W (M9 W) (fun _=>W) (gt W (fun _=>W)<|gt W (vb W W W)<|bs hz2 fun v2 hv2 hz2=>N1 _ (.aptr _ _ _ _) W (M9 W) (fun w9=>(Ob (A2 w9) (A2 w9) G_hit (B8 w9 hv2))) (gt W (fun w10=>(Sd (A2 w10) G_hit (B8 w10 hv2) W W))<|bs hz2 fun v3 hv3 hz2=> ?_))))
 refine N2 _ (i64 v3) (M9 W) (fun w11=>⟨_,[(.d (.agg (U0 v1))),(.d (.agg (U0 v2)))],_,_,(by simp only [A2 w11];rfl),W,A3,LL _ _ _<|B8 w11 hv3,(.inl W)⟩) ?_
 refine gt W (vb W W W)<|sa W W W<|A1<|cc W hz2 (fun c2 hz2=> ?_)<|fun c2 hz2=> ?_
 refine A8<|A5<|A7<|F1 W<|ss W<|sv W<|ss W<|sv W<|sv W<|ss W<|sv W<|sv W<|bs hz2 fun v4 hv4 hz2=>C0 (.aptr _ _ _ _) W (Ob W W G_hit hv4) (sd W (Sd W G_hit hv4 W W)<|ss W<|sv W<|bs hz2 fun v5 hv5 hz2=>C0 (.aptr _ _ _ _) W (Ob W W G_hit hv5) (sd W (Sd W G_hit hv5 W W)<|bs hz2 fun _ hv6 hz2=>C0 (.aptr _ _ _ _) W (Ob W W G_hit hv6) (Rz U0 _ _ _ (x2.1) _ v4 (U0 v4) W W W G_hit hv6 (nl W) W (bs hz2 fun _ hv7 hz2=>C0 (.aptr _ _ _ _) W (Ob W W G_hit hv7) (Rz U0 _ _ _ ((C3 (x2.1 - 1))) _ v5 (U0 v5) W W W G_hit hv7 (nl W) W (A1<|E4<|C1<|sv W<|sv W<|sv W<|A1<|E3 ?_))))))
 cases hz2
 exact ⟨W,(),(F0 W W)⟩
 refine C9 W ?_
 cases hz2
 obtain rfl:=ez2 _ rfl
 refine ⟨nofun,C6 W<|Y7 ?_⟩
 exact ⟨(),(F0 W W)⟩
 rintro _ ⟨g2,q1⟩
 refine E4<|B5 q1<|C1<|sv W<|sv W<|sv W<|A1<|E3 ?_
 cases hz1
 exact ⟨W,(),(F0 W W)⟩
 refine C9 W ?_
 cases hz1
 obtain rfl:=ez1 _ rfl
 refine ⟨nofun,C6 W<|E3 ?_⟩
 exact JC (.inl W) [] JD (.refl _) ⟨⟨G_hit,Jb⟩,trivial⟩
def L6 (p2:Int)(x3:(Int×Int)):Option (Stp (Int×Int) Int):=
  cond (decide (x3.2≤p2)) (none) (some (.out x3.1))
def H4 (p2:Int)(v2:(List Pass))(x2:Int):Option (Stp Int (List Pass)):=
  cond (decide (x2<p2)) ((loop (L6 p2) (0,(C3 (2*x2)))).bind fun y2=>cond (decide ((C3 (y2+x2))<p2)) (none) (some (.go (C3 (x2*2))))) (some (.out (v2)))
def E1 (p2:Int)(x1:(Int×Int× (List Pass))):Option (Stp (Int×Int× (List Pass)) (Int× (List Pass))):=
  cond (decide (x1.2.1≤p2)) ((D6 x1.2.2 x1.1 x1.2.1).bind fun v1=>some (.go (x1.2.1,(C3 (x1.2.1+20)),v1))) (some (.out (x1.1,x1.2.2)))
def K4 (p1:(List Pass))(p2:Int):Option (List Pass):=
  (loop (E1 p2) (0,20,p1)).bind fun y1=>(D6 y1.2 y1.1 p2).bind fun v2=>loop (H4 p2 v2) 20
theorem Kc(p1 p2 r)(h:K4 p1 p2=some r):MCall Tryz.prog 270 [(.sl (900000,0)),(di p2),(.d (.fn (.func 264) [] []))] [(.arr 229 4 (List.map U0 p1))] (.d (.tup [])) [some (.arr 229 4 (List.map U0 r))] []:=by
 refine CJ (fk Tryz.func270 Tryz.ntmps270 (fun r=>if r==3 then [1003004]else if r==6 then [1006004]else []) (by with_unfolding_all rfl)) W (nl W) ?_
 unfold K4 at h
 refine B5 (s0:=⟨T [(0,(.sl _)),(1,(.d _)),(2,(.d _))],G [((900000,0),some _)]⟩) (F0 W W) ?_
 refine A9<|sv W<|A1<|A9<|sv W<|sv W<|sv W<|A1<|A5<|bs h fun y1 hy1 h=>D8 (fun s=> ∃g1:Unit,Sb ⟨T [(0,(.sl (900000,0))),(1,(di p2)),(2,(.d (.fn (.func 264) [] []))),(6,(di 20)),(7,(di y1.1))],G [((900000,0),some<|.arr 229 4 (List.map U0 y1.2))]⟩ s) ?_ ?_
 refine A7<|E2 (E1 p2) (fun (x1:(Int×Int× (List Pass))) (g2:Unit)=>⟨T [(0,(.sl (900000,0))),(1,(di p2)),(2,(.d (.fn (.func 264) [] []))),(6,(di 20)),(7,(di x1.1)),(8,(di x1.2.1))],G [((900000,0),some<|.arr 229 4 (List.map U0 x1.2.2))]⟩) (0,20,p1) () _ hy1 (F0 W W) ?_
 intro x1 g2 z1 hz1 ez1
 unfold E1 at hz1
 refine A5<|A9<|sv W<|sv W<|sv W<|A1<|cc W hz1 (fun c1 hz1=> ?_)<|fun c1 hz1=> ?_
 refine A8<|A7<|A9<|ss W<|sv W<|sv W<|sv W<|bs hz1 fun v1 hv1 hz1=>MY (v:= .d (.tup [])) (us:= [(900000,0)]) (TH (At _ _ _ _ hv1) [(900000,0)] [(900000,0)] _ (((900000,0),some<|.arr 229 4 (List.map U0 v1))::_) W Qi (Cv OF<|Cv LF<|Cv LF<|Cv LF CI) (Pe G_hit Mq) ⟨⟨_,G_hit, .of W⟩,trivial⟩ (fun _ h=>h) nd1 W W W) (A1<|A9<|sv W<|sv W<|A1<|C1<|sv W<|sv W<|sv W<|sv W<|A1<|E4<|E3 ?_)
 cases hz1
 exact ⟨W,(),(F0 W W)⟩
 refine C9 W ?_
 cases hz1
 obtain rfl:=ez1 _ rfl
 refine ⟨nofun,C6 W<|Y7 ?_⟩
 exact ⟨(),(F0 W W)⟩
 rintro _ ⟨g1,q1⟩
 refine B5 q1<|A9<|ss W<|sv W<|sv W<|sv W<|bs h fun v2 hv2 h=>MY (v:= .d (.tup [])) (us:= [(900000,0)]) (TH (At _ _ _ _ hv2) [(900000,0)] [(900000,0)] _ (((900000,0),some<|.arr 229 4 (List.map U0 v2))::_) W Qi (Cv OF<|Cv LF<|Cv LF<|Cv LF CI) (Pe G_hit Mq) ⟨⟨_,G_hit, .of W⟩,trivial⟩ (fun _ h=>h) nd1 W W W) (A1<|A7<|E2 (H4 p2 v2) (fun (x2:Int) (g3:Unit)=>⟨T [(0,(.sl (900000,0))),(1,(di p2)),(2,(.d (.fn (.func 264) [] []))),(6,(di x2))],G [((900000,0),some<|.arr 229 4 (List.map U0 v2))]⟩) 20 () _ h (F0 W W) ?_)
 intro x2 g3 z2 hz2 ez2
 unfold H4 at hz2
 refine A5<|A9<|sv W<|sv W<|sv W<|A1<|cc W hz2 (fun c2 hz2=> ?_)<|fun c2 hz2=> ?_
 refine A8<|A7<|A9<|sv W<|sv W<|sv W<|sv W<|A1<|A5<|bs hz2 fun y2 hy2 hz2=>D8 (fun s=> ∃g4:Unit,Sb ⟨T [(0,(.sl (900000,0))),(1,(di p2)),(2,(.d (.fn (.func 264) [] []))),(6,(di x2)),(7,(di y2))],G [((900000,0),some<|.arr 229 4 (List.map U0 v2))]⟩ s) ?_ ?_
 refine A7<|E2 (L6 p2) (fun (x3:(Int×Int)) (g5:Unit)=>⟨T [(0,(.sl (900000,0))),(1,(di p2)),(2,(.d (.fn (.func 264) [] []))),(6,(di x2)),(7,(di x3.1)),(8,(di x3.2))],G [((900000,0),some<|.arr 229 4 (List.map U0 v2))]⟩) (0,(C3 (2*x2))) () _ hy2 (F0 W W) ?_
 intro x3 g5 z3 hz3 ez3
 unfold L6 at hz3
 refine A5<|A9<|sv W<|sv W<|sv W<|A1<|cc W hz3 (fun c3 hz3=> ?_)<|fun c3 hz3=> ?_
 refine A8<|A7<|A9<|ss W<|sv W<|sv W<|sv W<|sv W<|sv W<|sv W ?_
 cases hz3
 refine C9 W ?_
 cases hz3
 obtain rfl:=ez3 _ rfl
 refine ⟨nofun,C6 W<|Y7 ?_⟩
 exact ⟨(),(F0 W W)⟩
 rintro _ ⟨g4,q2⟩
 refine B5 q2<|A5<|A9<|sv W<|sv W<|sv W<|sv W<|A1<|A9<|sv W<|sv W<|sv W<|A1<|cc W hz2 (fun c4 hz2=> ?_)<|fun c4 hz2=> ?_
 refine C1<|ss W<|sv W<|sv W<|sv W<|sv W ?_
 cases hz2
 refine A8<|C1<|sv W<|sv W<|sv W<|A1<|E4<|E3 ?_
 cases hz2
 exact ⟨W,(),(F0 W W)⟩
 refine C9 W ?_
 cases hz2
 obtain rfl:=ez2 _ rfl
 refine ⟨nofun,C6 W<|E3 ?_⟩
 exact JC (.inl W) [] JD (.refl _) ⟨⟨G_hit,Jb⟩,trivial⟩
def G0 (p1:(List Pass)):Option (List Pass):=
  (K4 p1 (p1.length:Int)).bind fun v1=>some v1
theorem Gm(p1 r)(h:G0 p1=some r):MCall Tryz.prog 263 [(.sl (900000,0)),(.d (.fn (.func 264) [] []))] [(.arr 229 4 (List.map U0 p1))] (.d (.tup [])) [some (.arr 229 4 (List.map U0 r))] []:=by
 refine CJ (fk Tryz.func263 Tryz.ntmps263 (fun r=>if r==0 then [1000004]else []) (by with_unfolding_all rfl)) W (nl W) ?_
 unfold G0 at h
 refine B5 (s0:=⟨T [(0,(.sl _)),(1,(.d _))],G [((900000,0),some _)]⟩) (F0 W W) ?_
 refine C1<|ss W<|ss W<|sd W (dO (f:=U0) W G_hit)<|sv W<|bs h fun v1 hv1 h=>MY (v:= .d (.tup [])) (us:= [(900000,0)]) (TH (Kc _ _ _ hv1) [(900000,0)] [(900000,0)] _ (((900000,0),some<|.arr 229 4 (List.map U0 v1))::_) W Qi (Cv OF<|Cv LF<|Cv LF CI) (Pe G_hit Mq) ⟨⟨_,G_hit, .of W⟩,trivial⟩ (fun _ h=>h) nd1 W W W) (A1<|E3 ?_)
 obtain rfl:=(lD h)
 exact JC (.inl W) [] JD (.refl _) ⟨⟨G_hit,Jb⟩,trivial⟩
def J0 (p1:Int)(x2:Int):Option (Stp Int Unit):=
  ((cond (decide (x2>p1)) ((none:Option Unit)) (some default))).bind fun v1=>cond ((decide (x2>p1))&&false) (none) (some (.out ()))
def J1 (p1:Int)(p2:Int)(x1:Int):Option (Stp Int Unit):=
  cond (decide (x1<p2)) ((loop (J0 p1) x1).bind fun _=>some (.go (C3 (x1+1)))) (some (.out (())))
def E7 (p1:Int)(p2:Int):Option Unit:=
  loop (J1 p1 p2) (C3 (p1+1))
theorem Au(p1 p2 r)(h:E7 p1 p2=some r):PCall Tryz.prog 282 [.nilS,(i64 p1),(i64 p2),(.fn (.func 264) [] [])] (.tup []):=by
 refine C4 (fk Tryz.func282 Tryz.ntmps282 m0 (by with_unfolding_all rfl)) (nl W) ?_
 unfold E7 at h
 refine B5 (s0:=⟨T [(0,(.d _)),(1,(.d _)),(2,(.d _)),(3,(.d _))],G []⟩) (F0 W W) ?_
 refine A9<|sv W<|sv W<|sv W<|A1<|A7<|E2 (J1 p1 p2) (fun (x1:Int) (g1:Unit)=>⟨T [(0,(.d .nilS)),(1,(di p1)),(2,(di p2)),(3,(.d (.fn (.func 264) [] []))),(8,(di x1))],G []⟩) (C3 (p1+1)) () _ h (F0 W W) ?_
 intro x1 g1 z1 hz1 ez1
 unfold J1 at hz1
 refine A5<|A9<|sv W<|sv W<|sv W<|A1<|cc W hz1 (fun c1 hz1=> ?_)<|fun c1 hz1=> ?_
 refine A8<|A5<|A7<|A9<|sv W<|sv W<|A1<|bs hz1 fun _ hy1 hz1=>D8 (fun s=> ∃g2:Unit,Sb ⟨T [(0,(.d .nilS)),(1,(di p1)),(2,(di p2)),(3,(.d (.fn (.func 264) [] []))),(8,(di x1))],G []⟩ s) ?_ ?_
 refine A7<|E2 (J0 p1) (fun (x2:Int) (g3:Unit)=>⟨T [(0,(.d .nilS)),(1,(di p1)),(2,(di p2)),(3,(.d (.fn (.func 264) [] []))),(8,(di x1)),(9,(di x2))],G []⟩) x1 () _ hy1 (F0 W W) ?_
 intro x2 g3 z2 hz2 ez2
 unfold J0 at hz2
 refine A5<|A5<|F1 W<|sv W<|sv W<|sv W<|sv W<|gt W (fun _=>W)<|gt W (fun _=>W)<|gt W (fun _=>W)<|bs hz2 fun _ hv1 hz2=>N1 _ (.d (.tup [])) W (M9 W) (fun w4=>nomatch B8 w4 hv1) (N1 _ (.d (.tup [])) W (M9 W) (fun w5=>nomatch B8 w5 hv1) (N1 _ (.d (.tup [])) W (M9 W) (fun w6=>nomatch B8 w6 hv1) (N1 _ (di 0) W (M9 W) (fun w7=>nomatch B8 w7 hv1) (N1 _ (di 0) W (M9 W) (fun w8=>nomatch B8 w8 hv1) (N1 _ (.d (.tup [])) W (M9 W) (fun w9=>nomatch B8 w9 hv1) (N1 _ (.d (.tup [])) W (M9 W) (fun w10=>nomatch B8 w10 hv1) (N2 _ (i64 0) (M9 W) (fun w11=>nomatch B8 w11 hv1) (N1 _ (.d (bo false)) W (M9 W) (fun w12=>nomatch B8 w12 hv1) (sa W W W<|A1<|cc W hz2 (fun c2 hz2=> ?_)<|fun c2 hz2=> ?_)))))))))
 refine A8<|A5<|A7<|F1 W<|sv W<|sv W<|sv W<|sv W<|sv W<|sv W<|sv W<|sv W ?_
 cases hz2
 refine C9 W ?_
 cases hz2
 obtain rfl:=ez2 _ rfl
 refine ⟨nofun,C6 W<|Y7 ?_⟩
 exact ⟨(),(F0 W W)⟩
 rintro _ ⟨g2,q1⟩
 refine E4<|B5 q1<|C1<|sv W<|sv W<|sv W<|A1<|E3 ?_
 cases hz1
 exact ⟨W,(),(F0 W W)⟩
 refine C9 W ?_
 cases hz1
 obtain rfl:=ez1 _ rfl
 refine ⟨nofun,C6 W<|E3 ?_⟩
 exact A6 (.inl W) W (.refl _)
def L7 (p1:Int)(x3:(Int×Int)):Option (Stp (Int×Int) Int):=
  cond (decide (x3.2≤p1)) (none) (some (.out x3.1))
def J3 (p1:Int)(x2:Int):Option (Stp Int Unit):=
  cond (decide (x2<p1)) ((loop (L7 p1) (0,(C3 (2*x2)))).bind fun y2=>cond (decide ((C3 (y2+x2))<p1)) (none) (some (.go (C3 (x2*2))))) (some (.out (())))
def J4 (p1:Int)(x1:(Int×Int)):Option (Stp (Int×Int) Int):=
  cond (decide (x1.2≤p1)) ((E7 x1.1 x1.2).bind fun v1=>some (.go (x1.2,(C3 (x1.2+20))))) (some (.out x1.1))
def K5 (p1:Int):Option Unit:=
  (loop (J4 p1) (0,20)).bind fun y1=>(E7 y1 p1).bind fun v2=>loop (J3 p1) 20
theorem Kd(p1 r)(h:K5 p1=some r):PCall Tryz.prog 270 [.nilS,(i64 p1),(.fn (.func 264) [] [])] (.tup []):=by
 refine C4 (fk Tryz.func270 Tryz.ntmps270 m0 (by with_unfolding_all rfl)) (nl W) ?_
 unfold K5 at h
 refine B5 (s0:=⟨T [(0,(.d _)),(1,(.d _)),(2,(.d _))],G []⟩) (F0 W W) ?_
 refine A9<|sv W<|A1<|A9<|sv W<|sv W<|sv W<|A1<|A5<|bs h fun y1 hy1 h=>D8 (fun s=> ∃g1:Unit,Sb ⟨T [(0,(.d .nilS)),(1,(di p1)),(2,(.d (.fn (.func 264) [] []))),(6,(di 20)),(7,(di y1))],G []⟩ s) ?_ ?_
 refine A7<|E2 (J4 p1) (fun (x1:(Int×Int)) (g2:Unit)=>⟨T [(0,(.d .nilS)),(1,(di p1)),(2,(.d (.fn (.func 264) [] []))),(6,(di 20)),(7,(di x1.1)),(8,(di x1.2))],G []⟩) (0,20) () _ hy1 (F0 W W) ?_
 intro x1 g2 z1 hz1 ez1
 unfold J4 at hz1
 refine A5<|A9<|sv W<|sv W<|sv W<|A1<|cc W hz1 (fun c1 hz1=> ?_)<|fun c1 hz1=> ?_
 refine A8<|A7<|A9<|sv W<|sv W<|sv W<|sv W<|bs hz1 fun _ hv1 hz1=>B3 W W A3 (Au _ _ _ hv1) (.inl W) (A1<|A9<|sv W<|sv W<|A1<|C1<|sv W<|sv W<|sv W<|sv W<|A1<|E4<|E3 ?_)
 cases hz1
 exact ⟨W,(),(F0 W W)⟩
 refine C9 W ?_
 cases hz1
 obtain rfl:=ez1 _ rfl
 refine ⟨nofun,C6 W<|Y7 ?_⟩
 exact ⟨(),(F0 W W)⟩
 rintro _ ⟨g1,q1⟩
 refine B5 q1<|A9<|sv W<|sv W<|sv W<|sv W<|bs h fun _ hv2 h=>B3 W W A3 (Au _ _ _ hv2) (.inl W) (A1<|A7<|E2 (J3 p1) (fun (x2:Int) (g3:Unit)=>⟨T [(0,(.d .nilS)),(1,(di p1)),(2,(.d (.fn (.func 264) [] []))),(6,(di x2))],G []⟩) 20 () _ h (F0 W W) ?_)
 intro x2 g3 z2 hz2 ez2
 unfold J3 at hz2
 refine A5<|A9<|sv W<|sv W<|sv W<|A1<|cc W hz2 (fun c2 hz2=> ?_)<|fun c2 hz2=> ?_
 refine A8<|A7<|A9<|sv W<|sv W<|sv W<|sv W<|A1<|A5<|bs hz2 fun y2 hy2 hz2=>D8 (fun s=> ∃g4:Unit,Sb ⟨T [(0,(.d .nilS)),(1,(di p1)),(2,(.d (.fn (.func 264) [] []))),(6,(di x2)),(7,(di y2))],G []⟩ s) ?_ ?_
 refine A7<|E2 (L7 p1) (fun (x3:(Int×Int)) (g5:Unit)=>⟨T [(0,(.d .nilS)),(1,(di p1)),(2,(.d (.fn (.func 264) [] []))),(6,(di x2)),(7,(di x3.1)),(8,(di x3.2))],G []⟩) (0,(C3 (2*x2))) () _ hy2 (F0 W W) ?_
 intro x3 g5 z3 hz3 ez3
 unfold L7 at hz3
 refine A5<|A9<|sv W<|sv W<|sv W<|A1<|cc W hz3 (fun c3 hz3=> ?_)<|fun c3 hz3=> ?_
 refine A8<|A7<|A9<|sv W<|sv W<|sv W<|sv W<|sv W<|sv W<|sv W ?_
 cases hz3
 refine C9 W ?_
 cases hz3
 obtain rfl:=ez3 _ rfl
 refine ⟨nofun,C6 W<|Y7 ?_⟩
 exact ⟨(),(F0 W W)⟩
 rintro _ ⟨g4,q2⟩
 refine B5 q2<|A5<|A9<|sv W<|sv W<|sv W<|sv W<|A1<|A9<|sv W<|sv W<|sv W<|A1<|cc W hz2 (fun c4 hz2=> ?_)<|fun c4 hz2=> ?_
 refine C1<|sv W<|sv W<|sv W<|sv W<|sv W ?_
 cases hz2
 refine A8<|C1<|sv W<|sv W<|sv W<|A1<|E4<|E3 ?_
 cases hz2
 exact ⟨W,(),(F0 W W)⟩
 refine C9 W ?_
 cases hz2
 obtain rfl:=ez2 _ rfl
 refine ⟨nofun,C6 W<|E3 ?_⟩
 exact A6 (.inl W) W (.refl _)
def G1:Option Unit:=
  (K5 0).bind fun v1=>some ()
theorem Gn(r)(h:G1=some r):PCall Tryz.prog 263 [.nilS,(.fn (.func 264) [] [])] (.tup []):=by
 refine C4 (fk Tryz.func263 Tryz.ntmps263 m0 (by with_unfolding_all rfl)) (nl W) ?_
 unfold G1 at h
 refine B5 (s0:=⟨T [(0,(.d _)),(1,(.d _))],G []⟩) (F0 W W) ?_
 refine C1<|sv W<|sv W<|sv W<|sv W<|bs h fun _ hv1 h=>B3 W W A3 (Kd _ _ hv1) (.inl W) (A1<|E3 ?_)
 cases h
 exact A6 (.inl W) W (.refl _)
def Aa (v1:RoadsWay)(x1:((List Pass)×Int))(v2:Int)(x2:((List Pass)×Int))(v3:Zone)(x3:((List Pass)×Int)):Option (Stp ((List Pass)×Int) (List Pass)):=
  cond (decide (x3.2< (v3.Parts.length:Int))) ((B7 v3.Parts x3.2).bind fun v4=>cond (v4.Lane_==v2) ((B7 v1.starts x1.2).bind fun v5=>(B7 v1.starts x1.2).bind fun v6=>(Z2 x3.1 [(Pass.mk x2.2 x3.2 (C3 (v5+v4.From)) (C3 (v6+v4.To)))]).bind fun v7=>some (.go (v7,(C3 (x3.2+1))))) (some (.go (x3.1,(C3 (x3.2+1)))))) (some (.out x3.1))
def Ab (p1:Map)(v1:RoadsWay)(x1:((List Pass)×Int))(v2:Int)(x2:((List Pass)×Int)):Option (Stp ((List Pass)×Int) (List Pass)):=
  cond (decide (x2.2< (p1.Zones.length:Int))) ((B7 p1.Zones x2.2).bind fun v3=>(loop (Aa v1 x1 v2 x2 v3) (x2.1,0)).bind fun y3=>some (.go (y3,(C3 (x2.2+1))))) (some (.out x2.1))
def P7 (p1:Map)(v1:RoadsWay)(x1:((List Pass)×Int)):Option (Stp ((List Pass)×Int) (List Pass)):=
  cond (decide (x1.2< (v1.lanes.length:Int))) ((B7 v1.lanes x1.2).bind fun v2=>(loop (Ab p1 v1 x1 v2) (x1.1,0)).bind fun y2=>some (.go (y2,(C3 (x1.2+1))))) (some (.out x1.1))
def Av (p1:Map)(p2:(List Int)):Option (List Pass):=
  (Cx p1 p2).bind fun v1=>(loop (P7 p1 v1) ([],0)).bind fun y1=>cond (List.isEmpty y1) ((G1).bind fun v9=>some []) ((G0 y1).bind fun v8=>some v8)
theorem OW(p1 p2 r)(h:Av p1 p2=some r):PCall Tryz.prog 246 [(.agg (S3 p1)),(.list (List.map A4 p2))] (.list (List.map U0 r)):=by
 refine C4 (fk Tryz.func246 Tryz.ntmps246 (fun r=>if r==13 then [1020]else if r==17 then [1017001]else []) (by with_unfolding_all rfl)) (nl W) ?_
 unfold Av at h
 refine B5 (s0:=⟨T [(0,(.d _)),(1,(.d _))],G []⟩) (F0 W W) ?_
 refine lr<|fun u1 _=>sm W<|sv W<|A1<|lr<|fun u2 _=>sd W (B1 W G_hit W W)<|sv W<|bs h fun v1 hv1 h=>B3 W W A3 (Qk _ _ _ hv1) (.inl W) (sm W<|Z4 W G_hit (Tp v1) W (A1<|A9<|sv W<|A1<|A5<|A9<|sq W<|sl W G_hit W<|sd W (D5 W)<|sv W<|A1<|bs h fun y1 hy1 h=>D8 (fun s=> ∃g1:Nat,Sb ⟨T [(6,(oS y1 (65,g1)))],G [((65,g1),oB 229 4 U0 y1)]⟩ s) ?_ ?_))
 refine A7<|E2 (P7 p1 v1) (fun (x1:((List Pass)×Int)) (g2:Nat)=>⟨T [(2,(.ptr (2,u1) 0)),(5,(.ptr (5,u2) 0)),(6,(oS x1.1 (65,g2))),(17,(dl A4 v1.lanes)),(18,(di (v1.lanes.length:Int))),(19,(di x1.2))],G [((2,u1),some<|.box 33 (M7 p1)),((5,u2),some<|.box 260 (Tp v1)),((65,g2),oB 229 4 U0 x1.1)]⟩) ([],0) 0 _ hy1 (E0 (Bv W)<|sg W<|B4 G_hit (.of W)<|W0 trivial) ?_
 intro x1 g2 z1 hz1 ez1
 unfold P7 at hz1
 refine A9<|sv W<|A1<|A5<|cc W hz1 (fun c1 hz1=> ?_)<|fun c1 hz1=> ?_
 refine A8<|A5<|A7<|A9<|sv W<|bs hz1 fun v2 hv2 hz1=>sd W (C5 W W hv2 W)<|sd W (C7 W hv2 W)<|sv W<|sv W<|A1<|A9<|sq W<|sl W G_hit W<|sd W (D5 W)<|sv W<|A1<|bs hz1 fun y2 hy2 hz1=>D8 (fun s=> ∃g3:Nat,Sb ⟨T [(2,(.ptr (2,u1) 0)),(5,(.ptr (5,u2) 0)),(6,(oS y2 (65,g3))),(17,(dl A4 v1.lanes)),(18,(di (v1.lanes.length:Int))),(19,(di x1.2))],G [((2,u1),some<|.box 33 (M7 p1)),((5,u2),some<|.box 260 (Tp v1)),((65,g3),oB 229 4 U0 y2)]⟩ s) ?_ ?_
 refine A7<|E2 (Ab p1 v1 x1 v2) (fun (x2:((List Pass)×Int)) (g4:Nat)=>⟨T [(2,(.ptr (2,u1) 0)),(5,(.ptr (5,u2) 0)),(6,(oS x2.1 (65,g4))),(7,(di x1.2)),(8,(di v2)),(17,(dl A4 v1.lanes)),(18,(di (v1.lanes.length:Int))),(19,(di x1.2)),(25,(dl Ka p1.Zones)),(26,(di (p1.Zones.length:Int))),(27,(di x2.2))],G [((2,u1),some<|.box 33 (M7 p1)),((5,u2),some<|.box 260 (Tp v1)),((65,g4),oB 229 4 U0 x2.1)]⟩) (x1.1,0) g2 _ hy2 (E0 (Bv W)<|B4 G_hit (.of W)<|sg W<|B9 (gq W) trivial) ?_
 intro x2 g4 z2 hz2 ez2
 unfold Ab at hz2
 refine A9<|sv W<|A1<|A5<|cc W hz2 (fun c2 hz2=> ?_)<|fun c2 hz2=> ?_
 refine A8<|A5<|A7<|A9<|sv W<|bs hz2 fun v3 hv3 hz2=>sd W (C5 W W hv3 W)<|sd W (D3 W hv3 W W)<|sm W<|sv W<|Z4 W G_hit [(dl Dq v3.Parts),(di v3.Signal_)] W (A1<|A9<|sq W<|sl W G_hit W<|sd W (D5 W)<|sv W<|A1<|bs hz2 fun y3 hy3 hz2=>D8 (fun s=> ∃g5:Nat,Sb ⟨T [(2,(.ptr (2,u1) 0)),(5,(.ptr (5,u2) 0)),(6,(oS y3 (65,g5))),(7,(di x1.2)),(8,(di v2)),(17,(dl A4 v1.lanes)),(18,(di (v1.lanes.length:Int))),(19,(di x1.2)),(25,(dl Ka p1.Zones)),(26,(di (p1.Zones.length:Int))),(27,(di x2.2))],G [((2,u1),some<|.box 33 (M7 p1)),((5,u2),some<|.box 260 (Tp v1)),((65,g5),oB 229 4 U0 y3)]⟩ s) ?_ ?_)
 refine A7<|E2 (Aa v1 x1 v2 x2 v3) (fun (x3:((List Pass)×Int)) (g6:Nat)=>⟨T [(2,(.ptr (2,u1) 0)),(5,(.ptr (5,u2) 0)),(6,(oS x3.1 (65,g6))),(7,(di x1.2)),(8,(di v2)),(9,(di x2.2)),(17,(dl A4 v1.lanes)),(18,(di (v1.lanes.length:Int))),(19,(di x1.2)),(25,(dl Ka p1.Zones)),(26,(di (p1.Zones.length:Int))),(27,(di x2.2)),(33,(dl Dq v3.Parts)),(34,(di (v3.Parts.length:Int))),(35,(di x3.2))],G [((2,u1),some<|.box 33 (M7 p1)),((5,u2),some<|.box 260 (Tp v1)),((65,g6),oB 229 4 U0 x3.1)]⟩) (x2.1,0) g4 _ hy3 (E0 (Bv W)<|sg W<|sg W<|B9 (gq W) trivial) ?_
 intro x3 g6 z3 hz3 ez3
 unfold Aa at hz3
 refine A9<|sv W<|A1<|A5<|cc W hz3 (fun c3 hz3=> ?_)<|fun c3 hz3=> ?_
 refine A8<|A5<|A7<|A9<|sv W<|bs hz3 fun v4 hv4 hz3=>sd W (C5 W W hv4 W)<|sd W (D3 W hv4 W W)<|sm W<|sv W<|Z4 W G_hit (Zt v4) W (A1<|A9<|sq W<|sl W G_hit W<|sv W<|sv W<|A1<|cc W hz3 (fun c4 hz3=> ?_)<|fun c4 hz3=> ?_)
 refine Tn W fun u14 _=>C0 (oS x3.1 (65,g6)) W W (sv W<|sv W<|sq W<|sl W (gq W) W (sv W<|bs hz3 fun v5 hv5 hz3=>sd W (C5 W W hv5 W)<|sd W (C7 W hv5 W)<|sq W<|sl W G_hit W<|sv W<|sq W<|sl W (gq W) W (sv W<|bs hz3 fun v6 hv6 hz3=>sd W (C5 W W hv6 W)<|sd W (C7 W hv6 W)<|sq W<|sl W G_hit W<|sv W<|sv W<|C0 (dl U0 [(Pass.mk x2.2 x3.2 (C3 (v5+v4.From))<|C3 (v6+v4.To))]) W W (bs hz3 fun _ hv7 hz3=>U1 U0 (65,g6) x3.1 (Pass.mk x2.2 x3.2 (C3 (v5+v4.From))<|C3 (v6+v4.To)) [] _ (L8<|fun _=>W) W (gq W) hv7 (ss W<|A1<|E4<|C1<|sv W<|sv W<|A1<|E3 ?_)))))
 cases hz3
 exact ⟨W,u14,(E0 ⟨.of W, .of W,(.of (Am<|Bb hv7).symm), .of W, .of W, .of W, .of W, .of W, .of W, .of W, .of W, .of W, .of W, .of W, .of W,trivial⟩<|sg W<|sg W<|O9 G_hit trivial)⟩
 refine A8<|E4<|C1<|sv W<|sv W<|A1<|E3 ?_
 cases hz3
 exact ⟨W,g6,(E0 (Bv W)<|sg W<|sg W<|B9 (gq W) trivial)⟩
 refine C9 W ?_
 cases hz3
 obtain rfl:=ez3 _ rfl
 refine ⟨nofun,C6 W<|Y7 ?_⟩
 exact ⟨g6,(E0 (Bv W)<|B4 G_hit (.of W)<|sg W<|B9 (gq W) trivial)⟩
 rintro _ ⟨g5,q1⟩
 refine E4<|B5 q1<|C1<|sv W<|sv W<|A1<|E3 ?_
 cases hz2
 exact ⟨W,g5,(E0 (Bv W)<|B4 G_hit (.of W)<|sg W<|B9 (gq W) trivial)⟩
 refine C9 W ?_
 cases hz2
 obtain rfl:=ez2 _ rfl
 refine ⟨nofun,C6 W<|Y7 ?_⟩
 exact ⟨g4,(E0 (Bv W)<|B4 G_hit (.of W)<|sg W<|B9 (gq W) trivial)⟩
 rintro _ ⟨g3,q2⟩
 refine E4<|B5 q2<|C1<|sv W<|sv W<|A1<|E3 ?_
 cases hz1
 exact ⟨W,g3,(E0 (Bv W)<|B4 G_hit (.of W)<|sg W<|B9 (gq W) trivial)⟩
 refine C9 W ?_
 cases hz1
 obtain rfl:=ez1 _ rfl
 refine ⟨nofun,C6 W<|Y7 ?_⟩
 exact ⟨g2,(E0 ⟨.of W,trivial⟩<|B9 (gq W) trivial)⟩
 rintro _ ⟨g1,q3⟩
 refine B5 q3<|A5 ?_
 rcases UT h with ⟨e1,h⟩|⟨e1,h⟩
 refine B5 (s0:=⟨T [(6,(.d .nilS))],G []⟩) (E0 ⟨.of (nY e1),trivial⟩ trivial) ?_
 refine C1<|sv W<|bs h fun _ hv9 h=>MY (v:= .d (.tup [])) (us:= []) (uN [] _ W W A3 (Gn _ hv9) W W) (A1<|A9<|sv W<|sv W<|A1<|B0 ?_)
 cases h
 exact A6 (.inr W) (B6 (B2 W) C2) DLe.nil
 refine B5 (s0:=⟨T [(6,(.sl (65,g1)))],G [((65,g1),some<|.arr 229 4 (List.map U0 y1))]⟩) (E0 ⟨.of (Am e1),trivial⟩<|B4 (Ih G_hit e1) (.of W) trivial) ?_
 refine C1<|ss W<|bs h fun v8 hv8 h=>MY (v:= .d (.tup [])) (us:= [(65,g1)]) (TH (Gm _ _ hv8) [(65,g1)] [(65,g1)] _ (((65,g1),some<|.arr 229 4 (List.map U0 v8))::_) W Qi (Cv OF<|Cv LF CI) (Pe G_hit Mq) ⟨⟨_,G_hit, .of W⟩,trivial⟩ (fun _ h=>h) nd1 W W W) (A1<|A9<|ss W<|ss W<|A1<|B0 ?_)
 cases h
 exact A6 (.inr W) (B6 (B2 W)<|QU G_hit) (.refl _)
def Bq (p1:Pass)(p2:Int)(p3:WorldSpan):Option Bool:=
  some (((p1.Zone_==p2)&& (decide (p1.From≤p3.to)))&& (decide (p3.from_≤p1.To)))
theorem CM(p1 p2 p3 r)(h:Bq p1 p2 p3=some r):PCall Tryz.prog 247 [(.agg (U0 p1)),(.bp [(i64 p2)] 0),(.bp [(i64 p3.from_),(i64 p3.to)] 0)] (bo r):=by
 refine C4 (fk Tryz.func247 Tryz.ntmps247 m0 (by with_unfolding_all rfl)) (nl W) ?_
 unfold Bq at h
 refine B5 (s0:=⟨T [(0,(.d _)),(1,(.d _)),(2,(.d _))],G []⟩) (F0 W W) ?_
 refine A9<|sm W<|sv W<|A1<|A9<|sq W<|sl W G_hit W<|sv W<|sv W<|sv W<|gp W (M9 W) (fun _=>W) (gt W (vl W G_hit W)<|gt W (fun _=>W) ?_)
 refine gt W (fun w4=>(by simp only [A2 w4];rfl)) ?_
 refine gt W (fun w5=>(L9 (A2 w5) (A2 w5) W))<|sa W W W<|sv W<|gt W (fun _=>W) ?_
 refine gt W (fun w7=>(by simp only [A2 w7];rfl)) ?_
 refine gp W (M9 W) (fun _=>W) (gt W (vl W G_hit W)<|gt W (fun w10=>(L9 (A2 w10) (A2 w10) W))<|sa W W W<|sv W<|A1<|B0 ?_)
 cases h
 exact A6 (.inr W) (B6 (B2 W) C2) (.refl _)
def G2 (p1:(List Pass))(p2:Int)(p3:WorldSpan)(x1:Int):Option (Stp Int (Sum Unit Int)):=
  cond (decide (x1< (p1.length:Int))) ((B7 p1 x1).bind fun v1=>(Bq v1 p2 p3).bind fun v2=>cond v2 (some (.out (.inr x1))) (some (.go (C3 (x1+1))))) (some (.out (.inl ())))
def J8 (p1:(List Pass))(p2:Int)(p3:WorldSpan):Option Int:=
  thenS (loop (G2 p1 p2 p3) 0) (fun _=>some (-1)) (fun r=>some r)
theorem Ip(p1 p2 p3 r)(h:J8 p1 p2 p3=some r):PCall Tryz.prog 262 [(.list (List.map U0 p1)),(.fn (.func 247) [] [(.bp [(i64 p2)] 0),(.bp [(i64 p3.from_),(i64 p3.to)] 0)])] (i64 r):=by
 refine C4 (fk Tryz.func262 Tryz.ntmps262 m0 (by with_unfolding_all rfl)) (nl W) ?_
 unfold J8 at h
 refine B5 (s0:=⟨T [(0,(.d _)),(1,(.d _))],G []⟩) (F0 W W) ?_
 refine A9<|sv W<|A1<|A5<|A9<|sv W<|sd W (D5 W)<|sv W<|A1<|js h fun z1 hz1 h=>D8 (fun s=> ∃(y1:Unit) (g1:Unit),z1= .inl y1∧Sb ⟨T [],G []⟩ s) ?_ ?_
 refine A7<|E2 (G2 p1 p2 p3) (fun (x1:Int) (g2:Unit)=>⟨T [(0,(dl U0 p1)),(1,(.d (.fn (.func 247) [] [(.bp [(i64 p2)] 0),(.bp [(i64 p3.from_),(i64 p3.to)] 0)]))),(7,(di (p1.length:Int))),(8,(di x1))],G []⟩) 0 () _ hz1 (F0 W W) ?_
 intro x1 g2 z2 hz2 ez2
 unfold G2 at hz2
 refine A9<|sv W<|A1<|A5<|cc W hz2 (fun c1 hz2=> ?_)<|fun c1 hz2=> ?_
 refine A8<|A5<|A7<|A9<|sv W<|sv W<|A1<|A9<|sv W<|sv W<|sv W<|bs hz2 fun _ hv1 hz2=>sd W (C5 W W hv1 W)<|sd W (D3 W hv1 W W)<|bs hz2 fun _ hv2 hz2=>B3 W W A3 (CM _ _ _ _ hv2) (.inl W) (A1<|cc W hz2 (fun c2 hz2=> ?_)<|fun c2 hz2=> ?_)
 refine A9<|sv W<|sv W<|A1<|B0 ?_
 cases hz2
 obtain rfl:=ez2 _ rfl
 refine ⟨nofun,F2 ?_⟩
 rw [bY]at h
 cases h
 exact A6 (.inr W) (B6 (B2 W) C2) (.refl _)
 refine A8<|E4<|C1<|sv W<|sv W<|A1<|E3 ?_
 cases hz2
 exact ⟨W,(),(F0 W W)⟩
 refine C9 W ?_
 cases hz2
 obtain rfl:=ez2 _ rfl
 refine ⟨nofun,C6 W<|Y7 ?_⟩
 exact ⟨_,(),W,(F0 W W)⟩
 rintro _ ⟨y1,g1,rfl,q1⟩
 rw [bX]at h
 refine B5 q1<|A9<|sv W<|A1<|B0 ?_
 cases h
 exact A6 (.inr W) (B6 (B2 W) C2) (.refl _)
def G3 (p1:(List Pass))(p2:Int)(p3:WorldSpan):Option Bool:=
  (J8 p1 p2 p3).bind fun v1=>some (decide (v1≥0))
theorem Gy(p1 p2 p3 r)(h:G3 p1 p2 p3=some r):PCall Tryz.prog 245 [(.list (List.map U0 p1)),(.fn (.func 247) [] [(.bp [(i64 p2)] 0),(.bp [(i64 p3.from_),(i64 p3.to)] 0)])] (bo r):=by
 refine C4 (fk Tryz.func245 Tryz.ntmps245 m0 (by with_unfolding_all rfl)) (nl W) ?_
 unfold G3 at h
 refine B5 (s0:=⟨T [(0,(.d _)),(1,(.d _))],G []⟩) (F0 W W) ?_
 refine A9<|sv W<|A1<|A9<|sv W<|sv W<|bs h fun _ hv1 h=>B3 W W A3 (Ip _ _ _ _ hv1) (.inl W) (sv W<|sv W<|A1<|B0 ?_)
 cases h
 exact A6 (.inr W) (B6 (B2 W) C2) (.refl _)
def Gg (p1:Map)(p2:Agent)(p3:Agent)(p4:Int):Option Bool:=
  (Lz p2).bind fun v1=>((cond (!(!v1)) (Lz p3) (some default))).bind fun v2=>cond ((!v1)||(!v2)) (some false) ((Bp p2).bind fun v3=>(Av p1 p2.Route).bind fun v4=>(G3 v4 p4 (WorldSpan.mk v3.from_ p3.S)).bind fun v5=>some v5)
theorem NE(p1 p2 p3 p4 r)(h:Gg p1 p2 p3 p4=some r):PCall Tryz.prog 218 [(.agg (S3 p1)),(.agg (D2 p2)),(.agg (D2 p3)),(i64 p4)] (bo r):=by
 refine C4 (fk Tryz.func218 Tryz.ntmps218 m0 (by with_unfolding_all rfl)) (nl W) ?_
 unfold Gg at h
 refine B5 (s0:=⟨T [(0,(.d _)),(1,(.d _)),(2,(.d _)),(3,(.d _))],G []⟩) (F0 W W) ?_
 refine A9<|sm W<|sn W W<|sm W<|sn W W<|sv W<|A1<|A5<|A9<|sd W (B1 W (gq W) W W)<|bs h fun v1 hv1 h=>B3 W W A3 (AP _ _ hv1) (.inl W) (C0 (.d (bo (!v1))) W W (sv W<|gf W (fun _=>(B1 W (gq W) W W))<|bs h fun v2 hv2 h=> ?_))
 refine N2 _ (bo v2) (J9 W) (fun w2=>⟨_,[(.d (.agg (D2 p3)))],_,_,(by simp only [A2 w2];rfl),W,A3,AP _ _<|B8 w2 hv2,(.inl W)⟩) ?_
 refine N1 _ (.d (bo (!v2))) W (J9 W) (fun w3=>(by simp only [A2 w3];rfl)) ?_
 refine sd W (N7 W W<|fun hc=>A2<|I7 hc)<|A1<|cc W h (fun c1 h=> ?_)<|fun c1 h=> ?_
 refine A9<|sv W<|A1<|B0 ?_
 cases h
 exact A6 (.inr W) (B6 (B2 W) C2) (.refl _)
 refine A8<|A5<|F1 W<|sd W (B1 W (gq W) W W)<|bs h fun v3 hv3 h=>B3 W W A3 (Nb _ _ hv3) (.inl W) (sv W<|sq W<|sl W (gq W) W (sv W<|sm W<|Z4 W G_hit [(di v3.from_),(di p3.S)] W (A1<|A9<|sd W (B1 W (gq W) W W)<|sq W<|sl W (gq W) W (bs h fun _ hv4 h=>B3 W W A3 (OW _ _ _ hv4) (.inl W) (C0 (.fn _ _ _) W W (bs h fun _ hv5 h=>B3 W (rD<|F5 (HS G7<|F5 (Dt (gq W)<|rD G7)<|F5 (Dt G_hit<|rD<|rD G7) G7) G7) A3 (Gy _ _ _ _ hv5) (.inr W) (sv W<|A1<|B0 ?_)))))))
 cases h
 exact A6 (.inr W) (B6 (B2 W) C2) (.refl _)
def O7 (p1:WorldScene)(p2:Int)(p3:Int):Option Bool:=
  (Ez p1.before p2).bind fun v1=>((cond v1 (B7 p1.before.Agents p2) (some default))).bind fun v2=>((cond v1 (B7 p1.after.Agents p2) (some default))).bind fun v3=>((cond v1 (Gg p1.m v2 v3 p3) (some default))).bind fun v4=>some (v1&&v4)
theorem El(p1 p2 p3 r)(h:O7 p1 p2 p3=some r):PCall Tryz.prog 171 [(.bp (Uy p1) 0),(i64 p2),(i64 p3)] (bo r):=by
 refine C4 (fk Tryz.func171 Tryz.ntmps171 m0 (by with_unfolding_all rfl)) (nl W) ?_
 unfold O7 at h
 refine B5 (s0:=⟨T [(0,(.d _)),(1,(.d _)),(2,(.d _))],G []⟩) (F0 W W) ?_
 refine A9<|sv W<|A1<|A5<|F1 W<|sv W<|sv W<|sv W<|sv W<|sv W<|bs h fun v1 hv1 h=>B3 W W A3 (Si _ _ _ hv1) (.inl W) (sv W<|gt W (fun _=>W) ?_)
 refine gt W (fun w2=>(by simp only [A2 w2];rfl)) ?_
 refine gt W (fun w3=>(by simp only [A2 w3];rfl)) ?_
 refine gt W (fun w4=>(by simp only [A2 w4];rfl)) ?_
 refine gt W (fun _=>W) ?_
 refine gt W (fun w6=>(by simp only [A2 w6];rfl)) ?_
 refine gt W (fun w7=>(by simp only [A2 w7];rfl)) ?_
 refine gt W (fun w8=>(by simp only [A2 w8];rfl)) ?_
 refine gt W (fun w9=>(by simp only [A2 w9];rfl)) ?_
 refine gt W (fun _=>W)<|bs h fun v2 hv2 h=>gt W (fun w11=>(C5 (A2 w11) (A2 w11) (B8 w11 hv2) W))<|gt W (fun w12=>(D3 (A2 w12) (B8 w12 hv2) W W))<|gt W (fun _=>W) ?_
 refine gt W (fun w14=>(by simp only [A2 w14];rfl)) ?_
 refine gt W (fun w15=>(by simp only [A2 w15];rfl)) ?_
 refine gt W (fun w16=>(by simp only [A2 w16];rfl)) ?_
 refine gt W (fun w17=>(by simp only [A2 w17];rfl)) ?_
 refine gt W (fun _=>W)<|bs h fun v3 hv3 h=>gt W (fun w19=>(C5 (A2 w19) (A2 w19) (B8 w19 hv3) W))<|gt W (fun w20=>(D3 (A2 w20) (B8 w20 hv3) W W))<|gt W (fun _=>W)<|bs h fun v4 hv4 h=> ?_
 refine N2 v1 (bo v4) (M9 W) (fun w22=>⟨_,[(.d (.agg (S3 p1.m))),(.d (.agg (D2 v2))),(.d (.agg (D2 v3))),(di p3)],_,_,(by simp only [A2 w22];rfl),W,A3,NE _ _ _ _ _<|B8 w22 hv4,(.inl W)⟩) ?_
 refine sa W W W<|sv W<|A1<|B0 ?_
 cases h
 exact A6 (.inr W) (B6 (B2 W) C2) (.refl _)
def D7 (p1:(List Stay))(p2:Stay)(x1:(Int×Int)):Option (Stp (Int×Int) Int):=
  cond (decide (x1.1<x1.2)) ((B7 p1 (C3 ((IntKind.wrap .u64 (C3 (x1.1+x1.2))).fdiv (2^ (min (1:Int).toNat (IntKind.bits .u64)))))).bind fun v1=>(Gd v1 p2).bind fun v2=>cond (decide (v2<0)) (some (.go ((C3 ((C3 ((IntKind.wrap .u64 (C3 (x1.1+x1.2))).fdiv (2^ (min (1:Int).toNat (IntKind.bits .u64)))))+1)),x1.2))) (some (.go (x1.1,(C3 ((IntKind.wrap .u64 (C3 (x1.1+x1.2))).fdiv (2^ (min (1:Int).toNat (IntKind.bits .u64))))))))) (some (.out x1.1))
def D4 (p1:(List Stay))(p2:Stay):Option (Int×Bool):=
  (loop (D7 p1 p2) (0,(p1.length:Int))).bind fun y1=>((cond (decide (y1< (p1.length:Int))) (B7 p1 y1) (some default))).bind fun v3=>((cond (decide (y1< (p1.length:Int))) (Gd v3 p2) (some default))).bind fun v4=>some (y1,((decide (y1< (p1.length:Int)))&& (v4==0)))
theorem Q8(p1 p2 r)(h:D4 p1 p2=some r):PCall Tryz.prog 172 [(.list (List.map I9 p1)),(.agg (I9 p2)),(.fn (.func 73) [] [])] (.tup [(i64 r.1),(bo r.2)]):=by
 refine C4 (fk Tryz.func172 Tryz.ntmps172 m0 (by with_unfolding_all rfl)) (nl W) ?_
 unfold D4 at h
 refine B5 (s0:=⟨T [(0,(.d _)),(1,(.d _)),(2,(.d _))],G []⟩) (F0 W W) ?_
 refine lr<|fun u1 _=>sm W<|sv W<|sv W<|A1<|A9<|sv W<|sd W (D5 W)<|sv W<|A1<|A9<|sv W<|sv W<|sv W<|A1<|A5<|bs h fun y1 hy1 h=>D8 (fun s=> ∃g1:Unit,Sb ⟨T [(0,(dl I9 p1)),(2,(.d (.fn (.func 73) [] []))),(4,(.ptr (4,u1) 0)),(8,(di (p1.length:Int))),(9,(di y1))],G [((4,u1),some<|.box 127 (Uz p2))]⟩ s) ?_ ?_
 refine A7<|E2 (D7 p1 p2) (fun (x1:(Int×Int)) (g2:Unit)=>⟨T [(0,(dl I9 p1)),(2,(.d (.fn (.func 73) [] []))),(4,(.ptr (4,u1) 0)),(8,(di (p1.length:Int))),(9,(di x1.1)),(10,(di x1.2))],G [((4,u1),some<|.box 127 (Uz p2))]⟩) (0,(p1.length:Int)) () _ hy1 (F0 W W) ?_
 intro x1 g2 z1 hz1 ez1
 unfold D7 at hz1
 refine A5<|A9<|sv W<|sv W<|sv W<|A1<|cc W hz1 (fun c1 hz1=> ?_)<|fun c1 hz1=> ?_
 refine A8<|A7<|A9<|sv W<|sv W<|sv W<|sv W<|sv W<|sv W<|sv W<|A1<|A5<|F1 W<|sv W<|sv W<|sv W<|bs hz1 fun _ hv1 hz1=>sd W (C5 W W hv1 W)<|sd W (D3 W hv1 W W)<|sd W (B1 W G_hit W W)<|bs hz1 fun _ hv2 hz1=>B3 W W A3 (Xx _ _ _ hv2) (.inl W) (sv W<|A1<|cc W hz1 (fun c2 hz1=> ?_)<|fun c2 hz1=> ?_)
 refine C1<|sv W<|sv W<|sv W<|A1<|E4<|E3 ?_
 cases hz1
 exact ⟨W,(),(F0 W W)⟩
 refine C1<|sv W<|sv W<|A1<|E4<|E3 ?_
 cases hz1
 exact ⟨W,(),(F0 W W)⟩
 refine C9 W ?_
 cases hz1
 obtain rfl:=ez1 _ rfl
 refine ⟨nofun,C6 W<|Y7 ?_⟩
 exact ⟨(),(F0 W W)⟩
 rintro _ ⟨g1,q1⟩
 refine B5 q1<|A5<|F1 W<|sv W<|sv W<|sv W<|sv W<|sv W<|gt W (fun _=>W)<|gt W (fun _=>W)<|gt W (fun _=>W)<|bs h fun v3 hv3 h=>gt W (fun w4=>(C5 (A2 w4) (A2 w4) (B8 w4 hv3) W))<|gt W (fun w5=>(D3 (A2 w5) (B8 w5 hv3) W W))<|gt W (fun _=>(B1 W G_hit W W))<|bs h fun v4 hv4 h=> ?_
 refine N2 _ (i64 v4) (M9 W) (fun w7=>⟨_,[(.d (.agg (I9 v3))),(.d (.agg (I9 p2)))],_,_,(by simp only [A2 w7];rfl),W,A3,Xx _ _ _<|B8 w7 hv4,(.inl W)⟩) ?_
 refine gt W (vb W W W)<|sa W W W<|sv W<|sv W<|A1<|B0 ?_
 cases h
 exact A6 (.inr W) (Rf (B2 W) (B2 W) C2 C2) (.refl _)
def Gz (p1:Part)(p2:Int):Option Bool:=
  some (p1.Lane_==p2)
theorem LM(p1 p2 r)(h:Gz p1 p2=some r):PCall Tryz.prog 265 [(.agg (Dq p1)),(.bp [(i64 p2)] 0)] (bo r):=by
 refine C4 (fk Tryz.func265 Tryz.ntmps265 m0 (by with_unfolding_all rfl)) (nl W) ?_
 unfold Gz at h
 refine B5 (s0:=⟨T [(0,(.d _)),(1,(.d _))],G []⟩) (F0 W W) ?_
 refine A9<|sm W<|sv W<|A1<|A9<|sq W<|sl W G_hit W<|sv W<|sv W<|sv W<|A1<|B0 ?_
 cases h
 exact A6 (.inr W) (B6 (B2 W) C2) (.refl _)
def I4 (p1:(List Part))(p2:Int)(x1:Int):Option (Stp Int (Sum Unit Int)):=
  cond (decide (x1< (p1.length:Int))) ((B7 p1 x1).bind fun v1=>(Gz v1 p2).bind fun v2=>cond v2 (some (.out (.inr x1))) (some (.go (C3 (x1+1))))) (some (.out (.inl ())))
def L5 (p1:(List Part))(p2:Int):Option Int:=
  thenS (loop (I4 p1 p2) 0) (fun _=>some (-1)) (fun r=>some r)
theorem Lg(p1 p2 r)(h:L5 p1 p2=some r):PCall Tryz.prog 220 [(.list (List.map Dq p1)),(.fn (.func 265) [] [(.bp [(i64 p2)] 0)])] (i64 r):=by
 refine C4 (fk Tryz.func220 Tryz.ntmps220 m0 (by with_unfolding_all rfl)) (nl W) ?_
 unfold L5 at h
 refine B5 (s0:=⟨T [(0,(.d _)),(1,(.d _))],G []⟩) (F0 W W) ?_
 refine A9<|sv W<|A1<|A5<|A9<|sv W<|sd W (D5 W)<|sv W<|A1<|js h fun z1 hz1 h=>D8 (fun s=> ∃(y1:Unit) (g1:Unit),z1= .inl y1∧Sb ⟨T [],G []⟩ s) ?_ ?_
 refine A7<|E2 (I4 p1 p2) (fun (x1:Int) (g2:Unit)=>⟨T [(0,(dl Dq p1)),(1,(.d (.fn (.func 265) [] [(.bp [(i64 p2)] 0)]))),(7,(di (p1.length:Int))),(8,(di x1))],G []⟩) 0 () _ hz1 (F0 W W) ?_
 intro x1 g2 z2 hz2 ez2
 unfold I4 at hz2
 refine A9<|sv W<|A1<|A5<|cc W hz2 (fun c1 hz2=> ?_)<|fun c1 hz2=> ?_
 refine A8<|A5<|A7<|A9<|sv W<|sv W<|A1<|A9<|sv W<|sv W<|sv W<|bs hz2 fun _ hv1 hz2=>sd W (C5 W W hv1 W)<|sd W (D3 W hv1 W W)<|bs hz2 fun _ hv2 hz2=>B3 W W A3 (LM _ _ _ hv2) (.inl W) (A1<|cc W hz2 (fun c2 hz2=> ?_)<|fun c2 hz2=> ?_)
 refine A9<|sv W<|sv W<|A1<|B0 ?_
 cases hz2
 obtain rfl:=ez2 _ rfl
 refine ⟨nofun,F2 ?_⟩
 rw [bY]at h
 cases h
 exact A6 (.inr W) (B6 (B2 W) C2) (.refl _)
 refine A8<|E4<|C1<|sv W<|sv W<|A1<|E3 ?_
 cases hz2
 exact ⟨W,(),(F0 W W)⟩
 refine C9 W ?_
 cases hz2
 obtain rfl:=ez2 _ rfl
 refine ⟨nofun,C6 W<|Y7 ?_⟩
 exact ⟨_,(),W,(F0 W W)⟩
 rintro _ ⟨y1,g1,rfl,q1⟩
 rw [bX]at h
 refine B5 q1<|A9<|sv W<|A1<|B0 ?_
 cases h
 exact A6 (.inr W) (B6 (B2 W) C2) (.refl _)
def Of (p1:Zone)(p2:Int):Option (Part×Bool):=
  (L5 p1.Parts p2).bind fun v1=>cond (decide (v1<0)) (some ((Part.mk 0 0 0 0),false)) ((B7 p1.Parts v1).bind fun v2=>some (v2,true))
theorem TK(p1 p2 r)(h:Of p1 p2=some r):PCall Tryz.prog 251 [(.agg [(.list (List.map Dq p1.Parts)),(i64 p1.Signal_)]),(i64 p2)] (.tup [(.agg (Dq r.1)),(bo r.2)]):=by
 refine C4 (fk Tryz.func251 Tryz.ntmps251 m0 (by with_unfolding_all rfl)) (nl W) ?_
 unfold Of at h
 refine B5 (s0:=⟨T [(0,(.d _)),(1,(.d _))],G []⟩) (F0 W W) ?_
 refine A9<|sm W<|sn W W<|sm W<|sv W<|A1<|A9<|sq W<|sl W (gq W) W (C0 (.fn _ _ _) W W (bs h fun _ hv1 h=>B3 W (rD<|F5 (HS G7<|F5 (Dt (gq W)<|rD G7) G7) G7) A3 (Lg _ _ _ hv1) (.inr W) (sv W<|A1<|A5<|A9<|sv W<|sv W<|A1<|cc W h (fun c1 h=> ?_)<|fun c1 h=> ?_)))
 refine A9<|sv W<|Z4 W G_hit (zs 4) W (sv W<|A1<|B0 ?_)
 cases h
 exact A6 (.inr W) (Rf (K3 W G_hit (nl W) W) (B2 W) C2 C2) (.refl _)
 refine A8<|A9<|sq W<|sl W (gq W) W (sv W<|bs h fun v2 hv2 h=>sd W (C5 W W hv2 W)<|sd W (D3 W hv2 W W)<|Z4 W G_hit (Zt v2) W (sv W<|A1<|B0 ?_))
 cases h
 exact A6 (.inr W) (Rf (K3 W G_hit (nl W) W) (B2 W) C2 C2) (.refl _)
def Da (p1:Int)(p2:Map)(p3:Int):Option Bool:=
  (B7 p2.Zones p3).bind fun v1=>(Of v1 p1).bind fun v2=>some v2.2
theorem FN(p1 p2 p3 r)(h:Da p1 p2 p3=some r):PCall Tryz.prog 250 [(i64 p1),(.bp (S3 p2) 0),(.bp [(i64 p3)] 0)] (bo r):=by
 refine C4 (fk Tryz.func250 Tryz.ntmps250 m0 (by with_unfolding_all rfl)) (nl W) ?_
 unfold Da at h
 refine B5 (s0:=⟨T [(0,(.d _)),(1,(.d _)),(2,(.d _))],G []⟩) (F0 W W) ?_
 refine A9<|sv W<|A1<|A9<|sv W<|sv W<|sv W<|bs h fun _ hv1 h=>sd W (C5 W W hv1 W)<|sd W (D3 W hv1 W W)<|sv W<|bs h fun v2 hv2 h=>B3 W W A3 (TK _ _ _ hv2) (.inl W) (sv W<|sv W<|sv W<|sm W<|Z4 W G_hit (Zt v2.1) W (sv W<|A1<|A9<|sv W<|sv W<|A1<|B0 ?_))
 cases h
 exact A6 (.inr W) (B6 (B2 W) C2) (.refl _)
def I5 (p1:(List Int))(p2:Map)(p3:Int)(x1:Int):Option (Stp Int (Sum Unit Int)):=
  cond (decide (x1< (p1.length:Int))) ((B7 p1 x1).bind fun v1=>(Da v1 p2 p3).bind fun v2=>cond v2 (some (.out (.inr x1))) (some (.go (C3 (x1+1))))) (some (.out (.inl ())))
def J5 (p1:(List Int))(p2:Map)(p3:Int):Option Int:=
  thenS (loop (I5 p1 p2 p3) 0) (fun _=>some (-1)) (fun r=>some r)
theorem Lh(p1 p2 p3 r)(h:J5 p1 p2 p3=some r):PCall Tryz.prog 249 [(.list (List.map A4 p1)),(.fn (.func 250) [] [(.bp (S3 p2) 0),(.bp [(i64 p3)] 0)])] (i64 r):=by
 refine C4 (fk Tryz.func249 Tryz.ntmps249 m0 (by with_unfolding_all rfl)) (nl W) ?_
 unfold J5 at h
 refine B5 (s0:=⟨T [(0,(.d _)),(1,(.d _))],G []⟩) (F0 W W) ?_
 refine A9<|sv W<|A1<|A5<|A9<|sv W<|sd W (D5 W)<|sv W<|A1<|js h fun z1 hz1 h=>D8 (fun s=> ∃(y1:Unit) (g1:Unit),z1= .inl y1∧Sb ⟨T [],G []⟩ s) ?_ ?_
 refine A7<|E2 (I5 p1 p2 p3) (fun (x1:Int) (g2:Unit)=>⟨T [(0,(dl A4 p1)),(1,(.d (.fn (.func 250) [] [(.bp (S3 p2) 0),(.bp [(i64 p3)] 0)]))),(7,(di (p1.length:Int))),(8,(di x1))],G []⟩) 0 () _ hz1 (F0 W W) ?_
 intro x1 g2 z2 hz2 ez2
 unfold I5 at hz2
 refine A9<|sv W<|A1<|A5<|cc W hz2 (fun c1 hz2=> ?_)<|fun c1 hz2=> ?_
 refine A8<|A5<|A7<|A9<|sv W<|sv W<|A1<|A9<|sv W<|sv W<|sv W<|bs hz2 fun _ hv1 hz2=>sd W (C5 W W hv1 W)<|sd W (C7 W hv1 W)<|bs hz2 fun _ hv2 hz2=>B3 W W A3 (FN _ _ _ _ hv2) (.inl W) (A1<|cc W hz2 (fun c2 hz2=> ?_)<|fun c2 hz2=> ?_)
 refine A9<|sv W<|sv W<|A1<|B0 ?_
 cases hz2
 obtain rfl:=ez2 _ rfl
 refine ⟨nofun,F2 ?_⟩
 rw [bY]at h
 cases h
 exact A6 (.inr W) (B6 (B2 W) C2) (.refl _)
 refine A8<|E4<|C1<|sv W<|sv W<|A1<|E3 ?_
 cases hz2
 exact ⟨W,(),(F0 W W)⟩
 refine C9 W ?_
 cases hz2
 obtain rfl:=ez2 _ rfl
 refine ⟨nofun,C6 W<|Y7 ?_⟩
 exact ⟨_,(),W,(F0 W W)⟩
 rintro _ ⟨y1,g1,rfl,q1⟩
 rw [bX]at h
 refine B5 q1<|A9<|sv W<|A1<|B0 ?_
 cases h
 exact A6 (.inr W) (B6 (B2 W) C2) (.refl _)
def Lk (p1:Map)(p2:(List Int))(p3:Int):Option Int:=
  (Cx p1 p2).bind fun v1=>cond ((decide (p3<0))||(decide (p3≥(p1.Zones.length:Int)))) (some (-1)) ((J5 v1.lanes p1 p3).bind fun v2=>some v2)
theorem RH(p1 p2 p3 r)(h:Lk p1 p2 p3=some r):PCall Tryz.prog 222 [(.agg (S3 p1)),(.list (List.map A4 p2)),(i64 p3)] (i64 r):=by
 refine C4 (fk Tryz.func222 Tryz.ntmps222 m0 (by with_unfolding_all rfl)) (nl W) ?_
 unfold Lk at h
 refine B5 (s0:=⟨T [(0,(.d _)),(1,(.d _)),(2,(.d _))],G []⟩) (F0 W W) ?_
 refine A9<|sm W<|sn W W<|sv W<|A1<|A9<|sd W (B1 W (gq W) W W)<|sv W<|bs h fun v1 hv1 h=>B3 W W A3 (Qk _ _ _ hv1) (.inl W) (sm W<|Z4 W G_hit (Tp v1) W (A1<|A5<|A9<|sl W (gq W) W (sv W<|sv W<|gf W (fun _=>(Q6 W (gq W) W))<|gp W (J9 W) (fun _=>W) (gf W (vl W (gq W) W)<|gf W (fun w4=>(D5<|A2 w4))<|gf W (fun w5=>(L9 (A2 w5) (A2 w5) W))<|sd W (N7 W W<|fun hc=>A2<|I7 hc)<|A1<|cc W h (fun c1 h=> ?_)<|fun c1 h=> ?_))))
 refine A9<|sv W<|A1<|B0 ?_
 cases h
 exact A6 (.inr W) (B6 (B2 W) C2) (.refl _)
 refine A8<|A9<|sq W<|sl W G_hit W<|C0 (.fn _ _ _) W W (bs h fun _ hv2 h=>B3 W (rD<|F5 (HS G7<|F5 (Dt (gq W)<|rD<|rD<|rD<|rD<|rD G7)<|F5 (Dt (gq W)<|rD G7) G7) G7) A3 (Lh _ _ _ _ hv2) (.inr W) (sv W<|A1<|B0 ?_))
 cases h
 exact A6 (.inr W) (B6 (B2 W) C2) (.refl _)
def Gh (p1:Map)(p2:(List Int))(p3:Int):Option Int:=
  (Lk p1 p2 p3).bind fun v1=>cond (decide (v1≥0)) ((B7 p2 v1).bind fun v2=>some v2) (some (-1))
theorem Xz(p1 p2 p3 r)(h:Gh p1 p2 p3=some r):PCall Tryz.prog 175 [(.agg (S3 p1)),(.list (List.map A4 p2)),(i64 p3)] (i64 r):=by
 refine C4 (fk Tryz.func175 Tryz.ntmps175 m0 (by with_unfolding_all rfl)) (nl W) ?_
 unfold Gh at h
 refine B5 (s0:=⟨T [(0,(.d _)),(1,(.d _)),(2,(.d _))],G []⟩) (F0 W W) ?_
 refine A9<|sm W<|sv W<|A1<|A5<|A9<|sd W (B1 W G_hit W W)<|sv W<|sv W<|bs h fun _ hv1 h=>B3 W W A3 (RH _ _ _ _ hv1) (.inl W) (sv W<|A1<|A9<|sv W<|sv W<|A1<|cc W h (fun c1 h=> ?_)<|fun c1 h=> ?_)
 refine A9<|sv W<|sv W<|bs h fun _ hv2 h=>sd W (C5 W W hv2 W)<|sd W (C7 W hv2 W)<|sv W<|A1<|B0 ?_
 cases h
 exact A6 (.inr W) (B6 (B2 W) C2) (.refl _)
 refine A8<|A9<|sv W<|A1<|B0 ?_
 cases h
 exact A6 (.inr W) (B6 (B2 W) C2) (.refl _)
def Qb (p1:Map)(p2:Int):Option Bool:=
  ((cond ((decide (p2≥0))&& (decide (p2< (p1.Lanes.length:Int)))) (Gc p1) (some default))).bind fun v1=>some (((decide (p2≥0))&& (decide (p2< (p1.Lanes.length:Int))))&& (v1==0))
theorem FO(p1 p2 r)(h:Qb p1 p2=some r):PCall Tryz.prog 206 [(.agg (S3 p1)),(i64 p2)] (bo r):=by
 refine C4 (fk Tryz.func206 Tryz.ntmps206 m0 (by with_unfolding_all rfl)) (nl W) ?_
 unfold Qb at h
 refine B5 (s0:=⟨T [(0,(.d _)),(1,(.d _))],G []⟩) (F0 W W) ?_
 refine A9<|sm W<|sv W<|A1<|A9<|sv W<|sv W<|sv W<|gt W (fun _=>W)<|gp W (M9 W) (fun _=>W) (gt W (vl W G_hit W)<|gt W (fun w4=>(D5<|A2 w4))<|gt W (fun w5=>(L9 (A2 w5) (A2 w5) W))<|sa W W W<|sv W<|gt W (fun _=>(B1 W G_hit W W))<|bs h fun v1 hv1 h=> ?_)
 refine N2 _ (i64 v1) (M9 W) (fun w7=>⟨_,[(.d (.agg (S3 p1)))],_,_,(by simp only [A2 w7];rfl),W,A3,Xw _ _<|B8 w7 hv1,(.inl W)⟩) ?_
 refine gt W (vb W W W)<|sa W W W<|sv W<|A1<|B0 ?_
 cases h
 exact A6 (.inr W) (B6 (B2 W) C2) (.refl _)
def Ac (p1:Signal)(p2:Int)(x2:(Int×Int)):Option (Stp (Int×Int) (Sum Unit Bool)):=
  cond (decide (x2.2< (p1.Phases.length:Int))) ((B7 p1.Phases x2.2).bind fun v5=>cond (decide (x2.1≥v5.Ticks)) (some (.go ((C3 (x2.1 - v5.Ticks)),(C3 (x2.2+1))))) ((O5 v5.Green p2).bind fun v6=>some (.out (.inr v6)))) (some (.out (.inl ())))
def Be (p1:Signal)(x1:(Int×Int)):Option (Stp (Int×Int) Int):=
  cond (decide (x1.2< (p1.Phases.length:Int))) ((B7 p1.Phases x1.2).bind fun v1=>some (.go ((C3 (x1.1+v1.Ticks)),(C3 (x1.2+1))))) (some (.out x1.1))
def Iq (p1:Signal)(p2:Int)(p3:Int):Option Bool:=
  (loop (Be p1) (0,0)).bind fun y1=>(HK p1.Offset y1).bind fun v2=>(HK p3 y1).bind fun v3=>(HK (C3 (v2+v3)) y1).bind fun v4=>thenS (loop (Ac p1 p2) (v4,0)) (fun _=>some false) (fun r=>some r)
theorem FP(p1 p2 p3 r)(h:Iq p1 p2 p3=some r):PCall Tryz.prog 248 [(.agg [(i64 p1.Offset),(.list (List.map Dn p1.Phases))]),(i64 p2),(i64 p3)] (bo r):=by
 refine C4 (fk Tryz.func248 Tryz.ntmps248 m0 (by with_unfolding_all rfl)) (nl W) ?_
 unfold Iq at h
 refine B5 (s0:=⟨T [(0,(.d _)),(1,(.d _)),(2,(.d _))],G []⟩) (F0 W W) ?_
 refine lr<|fun u1 _=>sm W<|sv W<|A1<|rA<|A9<|sv W<|A1<|A5<|A9<|sq W<|sl W G_hit W<|sd W (D5 W)<|sv W<|A1<|bs h fun y1 hy1 h=>D8 (fun s=> ∃g1:Unit,Sb ⟨T [(1,(di p2)),(2,(di p3)),(3,(.ptr (3,u1) 0)),(7,(di y1))],G [((3,u1),some<|.box 120 [(di p1.Offset),(dl Dn p1.Phases)])]⟩ s) ?_ ?_
 refine A7<|E2 (Be p1) (fun (x1:(Int×Int)) (g2:Unit)=>⟨T [(1,(di p2)),(2,(di p3)),(3,(.ptr (3,u1) 0)),(7,(di x1.1)),(14,(dl Dn p1.Phases)),(15,(di (p1.Phases.length:Int))),(16,(di x1.2))],G [((3,u1),some<|.box 120 [(di p1.Offset),(dl Dn p1.Phases)])]⟩) (0,0) () _ hy1 (F0 W W) ?_
 intro x1 g2 z1 hz1 ez1
 unfold Be at hz1
 refine A9<|sv W<|A1<|A5<|cc W hz1 (fun c1 hz1=> ?_)<|fun c1 hz1=> ?_
 refine A8<|A5<|A7<|A9<|bs hz1 fun v1 hv1 hz1=>sd W (C5 W W hv1 W)<|sd W (D3 W hv1 W W)<|sm W<|Z4 W G_hit [(di v1.Ticks),(dl A4 v1.Green)] W (A1<|C1<|sv W<|sq W<|sl W G_hit W<|sv W<|sv W<|A1<|E4<|C1<|sv W<|sv W<|A1<|E3 ?_)
 cases hz1
 exact ⟨W,(),(F0 W W)⟩
 refine C9 W ?_
 cases hz1
 obtain rfl:=ez1 _ rfl
 refine ⟨nofun,C6 W<|Y7 ?_⟩
 exact ⟨(),(F0 W W)⟩
 rintro _ ⟨g1,q1⟩
 refine B5 q1<|A5<|F1 W<|sq W<|sl W G_hit W<|sv W<|bs h fun _ hv2 h=>sd W (QW W W hv2)<|sv W<|sv W<|bs h fun _ hv3 h=>sd W (QW W W hv3)<|sv W<|sv W<|bs h fun v4 hv4 h=>sd W (QW W W hv4)<|sv W<|A1<|A5<|A8<|A5<|A9<|sq W<|sl W G_hit W<|sd W (D5 W)<|sv W<|A1<|js h fun z2 hz2 h=>D8 (fun s=> ∃(y2:Unit) (g3:Unit),z2= .inl y2∧Sb ⟨T [],G []⟩ s) ?_ ?_
 refine A7<|E2 (Ac p1 p2) (fun (x2:(Int×Int)) (g4:Unit)=>⟨T [(1,(di p2)),(10,(di x2.1)),(36,(dl Dn p1.Phases)),(37,(di (p1.Phases.length:Int))),(38,(di x2.2))],G []⟩) (v4,0) () _ hz2 (F0 W W) ?_
 intro x2 g4 z3 hz3 ez3
 unfold Ac at hz3
 refine A9<|sv W<|A1<|A5<|cc W hz3 (fun c2 hz3=> ?_)<|fun c2 hz3=> ?_
 refine A8<|A5<|A7<|A9<|bs hz3 fun v5 hv5 hz3=>sd W (C5 W W hv5 W)<|sd W (D3 W hv5 W W)<|sm W<|Z4 W G_hit [(di v5.Ticks),(dl A4 v5.Green)] W (A1<|A5<|A9<|sv W<|sq W<|sl W G_hit W<|sv W<|A1<|cc W hz3 (fun c3 hz3=> ?_)<|fun c3 hz3=> ?_)
 refine A9<|sv W<|sq W<|sl W G_hit W<|sv W<|sv W<|A1<|Tm W<|C1<|sv W<|sv W<|A1<|E3 ?_
 cases hz3
 exact ⟨W,(),(F0 W W)⟩
 refine A8<|A9<|sq W<|sl W G_hit W<|sv W<|bs hz3 fun _ hv6 hz3=>B3 W W A3 (Gx _ _ _ hv6) (.inl W) (sv W<|A1<|B0 ?_)
 cases hz3
 obtain rfl:=ez3 _ rfl
 refine ⟨nofun,F2 ?_⟩
 rw [bY]at h
 cases h
 exact A6 (.inr W) (B6 (B2 W) C2) (.refl _)
 refine C9 W ?_
 cases hz3
 obtain rfl:=ez3 _ rfl
 refine ⟨nofun,C6 W<|Y7 ?_⟩
 exact ⟨_,(),W,(F0 W W)⟩
 rintro _ ⟨y2,g3,rfl,q2⟩
 rw [bX]at h
 refine B5 q2<|A9<|sv W<|A1<|B0 ?_
 cases h
 exact A6 (.inr W) (B6 (B2 W) C2) (.refl _)
def Ll (p1:Map)(p2:Int)(p3:Int)(p4:Int):Option Bool:=
  ((cond (((decide (p4≥0))&& (decide (p2≥0)))&& (decide (p2< (p1.Signals.length:Int)))) (Qb p1 p3) (some default))).bind fun v1=>((cond ((((decide (p4≥0))&& (decide (p2≥0)))&& (decide (p2< (p1.Signals.length:Int))))&&v1) (B7 p1.Signals p2) (some default))).bind fun v2=>((cond ((((decide (p4≥0))&& (decide (p2≥0)))&& (decide (p2< (p1.Signals.length:Int))))&&v1) (Iq v2 p3 p4) (some default))).bind fun v3=>some (((((decide (p4≥0))&& (decide (p2≥0)))&& (decide (p2< (p1.Signals.length:Int))))&&v1)&&v3)
theorem RI(p1 p2 p3 p4 r)(h:Ll p1 p2 p3 p4=some r):PCall Tryz.prog 219 [(.agg (S3 p1)),(i64 p2),(i64 p3),(i64 p4)] (bo r):=by
 refine C4 (fk Tryz.func219 Tryz.ntmps219 m0 (by with_unfolding_all rfl)) (nl W) ?_
 unfold Ll at h
 refine B5 (s0:=⟨T [(0,(.d _)),(1,(.d _)),(2,(.d _)),(3,(.d _))],G []⟩) (F0 W W) ?_
 refine A9<|sm W<|sv W<|A1<|A9<|sv W<|sv W<|sv W<|gt W (fun _=>W)<|gt W (vb W W W)<|sa W W W<|sv W<|gt W (fun _=>W)<|gp W (M9 W) (fun _=>W) (gt W (vl W G_hit W)<|gt W (fun w6=>(D5<|A2 w6))<|gt W (fun w7=>(L9 (A2 w7) (A2 w7) W))<|sa W W W<|sv W<|gt W (fun _=>(B1 W G_hit W W))<|gt W (fun _=>W)<|bs h fun v1 hv1 h=> ?_)
 refine N2 _ (bo v1) (M9 W) (fun w10=>⟨_,[(.d (.agg (S3 p1))),(di p3)],_,_,(by simp only [A2 w10];rfl),W,A3,FO _ _ _<|B8 w10 hv1,(.inl W)⟩) ?_
 refine sa W W W<|sv W<|gp W (M9 W) (fun _=>W) (gt W (vl W G_hit W)<|gt W (fun _=>W)<|bs h fun v2 hv2 h=>gt W (fun w14=>(C5 (A2 w14) (A2 w14) (B8 w14 hv2) W))<|gt W (fun w15=>(D3 (A2 w15) (B8 w15 hv2) W W))<|gt W (fun _=>W)<|gt W (fun _=>W)<|bs h fun v3 hv3 h=> ?_)
 refine N2 _ (bo v3) (M9 W) (fun w18=>⟨_,[(.d (.agg [(i64 v2.Offset),(.list (List.map Dn v2.Phases))])),(di p3),(di p4)],_,_,(by simp only [A2 w18];rfl),W,A3,FP _ _ _ _<|B8 w18 hv3,(.inl W)⟩) ?_
 refine sa W W W<|sv W<|A1<|B0 ?_
 cases h
 exact A6 (.inr W) (B6 (B2 W) C2) (.refl _)
def Ha (p1:Part)(p2:Int):Option Bool:=
  some (p1.Lane_==p2)
theorem LN(p1 p2 r)(h:Ha p1 p2=some r):PCall Tryz.prog 221 [(.agg (Dq p1)),(.bp [(i64 p2)] 0)] (bo r):=by
 refine C4 (fk Tryz.func221 Tryz.ntmps221 m0 (by with_unfolding_all rfl)) (nl W) ?_
 unfold Ha at h
 refine B5 (s0:=⟨T [(0,(.d _)),(1,(.d _))],G []⟩) (F0 W W) ?_
 refine A9<|sm W<|sv W<|A1<|A9<|sq W<|sl W G_hit W<|sv W<|sv W<|sv W<|A1<|B0 ?_
 cases h
 exact A6 (.inr W) (B6 (B2 W) C2) (.refl _)
def I6 (p1:(List Part))(p2:Int)(x1:Int):Option (Stp Int (Sum Unit Int)):=
  cond (decide (x1< (p1.length:Int))) ((B7 p1 x1).bind fun v1=>(Ha v1 p2).bind fun v2=>cond v2 (some (.out (.inr x1))) (some (.go (C3 (x1+1))))) (some (.out (.inl ())))
def J6 (p1:(List Part))(p2:Int):Option Int:=
  thenS (loop (I6 p1 p2) 0) (fun _=>some (-1)) (fun r=>some r)
theorem Li(p1 p2 r)(h:J6 p1 p2=some r):PCall Tryz.prog 220 [(.list (List.map Dq p1)),(.fn (.func 221) [] [(.bp [(i64 p2)] 0)])] (i64 r):=by
 refine C4 (fk Tryz.func220 Tryz.ntmps220 m0 (by with_unfolding_all rfl)) (nl W) ?_
 unfold J6 at h
 refine B5 (s0:=⟨T [(0,(.d _)),(1,(.d _))],G []⟩) (F0 W W) ?_
 refine A9<|sv W<|A1<|A5<|A9<|sv W<|sd W (D5 W)<|sv W<|A1<|js h fun z1 hz1 h=>D8 (fun s=> ∃(y1:Unit) (g1:Unit),z1= .inl y1∧Sb ⟨T [],G []⟩ s) ?_ ?_
 refine A7<|E2 (I6 p1 p2) (fun (x1:Int) (g2:Unit)=>⟨T [(0,(dl Dq p1)),(1,(.d (.fn (.func 221) [] [(.bp [(i64 p2)] 0)]))),(7,(di (p1.length:Int))),(8,(di x1))],G []⟩) 0 () _ hz1 (F0 W W) ?_
 intro x1 g2 z2 hz2 ez2
 unfold I6 at hz2
 refine A9<|sv W<|A1<|A5<|cc W hz2 (fun c1 hz2=> ?_)<|fun c1 hz2=> ?_
 refine A8<|A5<|A7<|A9<|sv W<|sv W<|A1<|A9<|sv W<|sv W<|sv W<|bs hz2 fun _ hv1 hz2=>sd W (C5 W W hv1 W)<|sd W (D3 W hv1 W W)<|bs hz2 fun _ hv2 hz2=>B3 W W A3 (LN _ _ _ hv2) (.inl W) (A1<|cc W hz2 (fun c2 hz2=> ?_)<|fun c2 hz2=> ?_)
 refine A9<|sv W<|sv W<|A1<|B0 ?_
 cases hz2
 obtain rfl:=ez2 _ rfl
 refine ⟨nofun,F2 ?_⟩
 rw [bY]at h
 cases h
 exact A6 (.inr W) (B6 (B2 W) C2) (.refl _)
 refine A8<|E4<|C1<|sv W<|sv W<|A1<|E3 ?_
 cases hz2
 exact ⟨W,(),(F0 W W)⟩
 refine C9 W ?_
 cases hz2
 obtain rfl:=ez2 _ rfl
 refine ⟨nofun,C6 W<|Y7 ?_⟩
 exact ⟨_,(),W,(F0 W W)⟩
 rintro _ ⟨y1,g1,rfl,q1⟩
 rw [bX]at h
 refine B5 q1<|A9<|sv W<|A1<|B0 ?_
 cases h
 exact A6 (.inr W) (B6 (B2 W) C2) (.refl _)
def Jf (p1:Map)(p2:Agent)(p3:Int)(p4:Int):Option Int:=
  (Gh p1 p2.Route p3).bind fun v1=>cond (decide (v1<0)) (some 0) ((B7 p1.Zones p3).bind fun v2=>((cond (decide (v2.Signal_>0)) (Ll p1 (C3 (v2.Signal_ - 1)) v1 p4) (some default))).bind fun v3=>cond ((decide (v2.Signal_>0))&&v3) (some 2) (cond (decide (v2.Signal_>0)) (some 0) ((J6 v2.Parts v1).bind fun v4=>(B7 v2.Parts v4).bind fun v5=>some v5.Rank)))
theorem IA(p1 p2 p3 p4 r)(h:Jf p1 p2 p3 p4=some r):PCall Tryz.prog 173 [(.agg (S3 p1)),(.agg (D2 p2)),(i64 p3),(i64 p4)] (i64 r):=by
 refine C4 (fk Tryz.func173 Tryz.ntmps173 m0 (by with_unfolding_all rfl)) (nl W) ?_
 unfold Jf at h
 refine B5 (s0:=⟨T [(0,(.d _)),(1,(.d _)),(2,(.d _)),(3,(.d _))],G []⟩) (F0 W W) ?_
 refine A9<|sm W<|sn W W<|sv W<|A1<|A9<|sd W (B1 W (gq W) W W)<|sq W<|sl W G_hit W<|sv W<|bs h fun v1 hv1 h=>B3 W W A3 (Xz _ _ _ _ hv1) (.inl W) (sm W<|Z4 W G_hit [(di v1)] W (A1<|A5<|A9<|sl W G_hit W<|sv W<|A1<|cc W h (fun c1 h=> ?_)<|fun c1 h=> ?_))
 refine A9<|sv W<|A1<|B0 ?_
 cases h
 exact A6 (.inr W) (B6 (B2 W) C2) (.refl _)
 refine A8<|A9<|sq W<|sl W (gq W) W (sv W<|bs h fun v2 hv2 h=>sd W (C5 W W hv2 W)<|sd W (D3 W hv2 W W)<|sm W<|Z4 W G_hit [(dl Dq v2.Parts),(di v2.Signal_)] W (A1<|A5<|A7<|A9<|sq W<|sl W G_hit W<|sv W<|sv W<|gt W (fun _=>(B1 W (gq W) W W))<|gp W (M9 W) (fun _=>W) (gt W (vl W G_hit W)<|gt W (vb W W W)<|gt W (fun _=>(Q6 W (gq W) W))<|gt W (fun _=>W)<|bs h fun v3 hv3 h=> ?_)))
 refine N2 _ (bo v3) (M9 W) (fun w7=>⟨_,[(.d (.agg (S3 p1))),(di<|C3 (v2.Signal_ - 1)),(di v1),(di p4)],_,_,(by simp only [A2 w7];rfl),W,A3,RI _ _ _ _ _<|B8 w7 hv3,(.inl W)⟩) ?_
 refine sa W W W<|sv W<|A1<|cc W h (fun c2 h=> ?_)<|fun c2 h=> ?_
 refine A9<|sv W<|A1<|B0 ?_
 cases h
 exact A6 (.inr W) (B6 (B2 W) C2) (.refl _)
 refine A9<|sq W<|sl W G_hit W<|sv W<|sv W<|A1<|cc W h (fun c3 h=> ?_)<|fun c3 h=> ?_
 refine A9<|sv W<|A1<|B0 ?_
 cases h
 exact A6 (.inr W) (B6 (B2 W) C2) (.refl _)
 refine A8<|E4<|A5<|F1 W<|sq W<|sl W G_hit W<|sq W<|sl W G_hit W<|C0 (.fn _ _ _) W W (bs h fun _ hv4 h=>B3 W (rD<|F5 (HS G7<|F5 (Dt (gq W)<|rD G7) G7) G7) A3 (Li _ _ _ hv4) (.inr W) (bs h fun _ hv5 h=>sd W (C5 W W hv5 W)<|sv W<|sd W (C7 W hv5 W)<|sv W<|A1<|B0 ?_))
 cases h
 exact A6 (.inr W) (B6 (B2 W) C2) (.refl _)
def Bl (p1:WorldScene)(x1:(Int× (List Stay)))(v1:Agent)(x2:(Int× (List Stay))):Option (Stp (Int× (List Stay)) (List Stay)):=
  cond (decide (x2.1< (p1.m.Zones.length:Int))) ((O7 (WorldScene.mk p1.m p1.before (State.mk p1.after.Tick p1.after.Agents x2.2) p1.acts p1.crashes) x1.1 x2.1).bind fun v2=>cond (!v2) (some (.go ((C3 (x2.1+1)),x2.2))) ((D4 p1.before.In (Stay.mk x1.1 x2.1 p1.before.Tick 0)).bind fun v3=>(cond v3.2 ((B7 p1.before.In v3.1).bind fun v4=>some v4) ((Jf p1.m v1 x2.1 p1.before.Tick).bind fun v5=>some (Stay.mk x1.1 x2.1 p1.before.Tick v5))).bind fun y2=>(Z2 x2.2 [y2]).bind fun v6=>some (.go ((C3 (x2.1+1)),v6)))) (some (.out x2.2))
def Bm (p1:WorldScene)(x1:(Int× (List Stay))):Option (Stp (Int× (List Stay)) WorldScene):=
  cond (decide (x1.1< (p1.before.Agents.length:Int))) ((B7 p1.before.Agents x1.1).bind fun v1=>(loop (Bl p1 x1 v1) (0,x1.2)).bind fun y1=>some (.go ((C3 (x1.1+1)),y1))) (some (.out ((WorldScene.mk p1.m p1.before (State.mk p1.after.Tick p1.after.Agents x1.2) p1.acts p1.crashes))))
def Dg (p1:WorldScene):Option WorldScene:=
  loop (Bm p1) (0,[])
theorem CN(p1 r)(h:Dg p1=some r):MCall Tryz.prog 80 [(.ptr (900000,0) 0)] [(.box 135 (Bc p1))] (.d (.tup [])) [some (.box 135 (Bc r))] []:=by
 refine CJ (fk Tryz.func80 Tryz.ntmps80 (fun r=>if r==13 then [1007]else []) (by with_unfolding_all rfl)) W (nl W) ?_
 unfold Dg at h
 refine B5 (s0:=⟨T [(0,(.ptr _ _))],G [((900000,0),some<|.box 135 _)]⟩) (F0 W W) ?_
 refine A9<|sq W<|sp W W<|sq W<|sp W W<|Z4 W G_hit ((Bc p1).set 10 (.d .nilS)) W (A1<|A9<|sq W<|sp W W<|sq W<|sp W W<|sl W G_hit W<|sd W (D5 W)<|sv W<|A1<|A7<|E2 (Bm p1) (fun (x1:(Int× (List Stay))) (g1:Nat)=>⟨T [(0,(.ptr (900000,0) 0)),(16,(dl D2 p1.before.Agents)),(17,(di (p1.before.Agents.length:Int))),(18,(di x1.1))],G [((900000,0),some<|.box 135 ((Bc p1).set 10 (oS x1.2 (85,g1)))),((85,g1),oB 127 4 I9 x1.2)]⟩) (0,[]) 0 _ h (E0 (Bv W)<|B4 G_hit (.of W)<|W0 trivial) ?_)
 intro x1 g1 z1 hz1 ez1
 unfold Bm at hz1
 refine A9<|sv W<|A1<|A5<|cc W hz1 (fun c1 hz1=> ?_)<|fun c1 hz1=> ?_
 refine A8<|A5<|A7<|lr<|fun u4 _=>sv W<|bs hz1 fun v1 hv1 hz1=>sd W (C5 W W hv1 W)<|sd W (D3 W hv1 W W)<|sm W<|sv W<|Z4 W G_hit (O8 v1) W (A1<|A9<|sq W<|sp W W<|sq W<|sp W W<|sl W (gq W) W (sd W (D5 W)<|sv W<|A1<|bs hz1 fun y1 hy1 hz1=>D8 (fun s=> ∃g2:Nat,Sb ⟨T [(0,(.ptr (900000,0) 0)),(16,(dl D2 p1.before.Agents)),(17,(di (p1.before.Agents.length:Int))),(18,(di x1.1))],G [((900000,0),some<|.box 135 ((Bc p1).set 10 (oS y1 (85,g2)))),((85,g2),oB 127 4 I9 y1)]⟩ s) ?_ ?_))
 refine A7<|E2 (Bl p1 x1 v1) (fun (x2:(Int× (List Stay))) (g3:Nat)=>⟨T [(0,(.ptr (900000,0) 0)),(2,(di x1.1)),(3,(.ptr (3,u4) 0)),(16,(dl D2 p1.before.Agents)),(17,(di (p1.before.Agents.length:Int))),(18,(di x1.1)),(28,(di (p1.m.Zones.length:Int))),(29,(di x2.1))],G [((900000,0),some<|.box 135 ((Bc p1).set 10 (oS x2.2 (85,g3)))),((3,u4),some<|.box 45 (O8 v1)),((85,g3),oB 127 4 I9 x2.2)]⟩) (0,x1.2) g1 _ hy1 (E0 (Bv W)<|sg W<|B4 G_hit (.of W)<|B9 (gq W) trivial) ?_
 intro x2 g3 z2 hz2 ez2
 unfold Bl at hz2
 refine A9<|sv W<|A1<|A5<|cc W hz2 (fun c2 hz2=> ?_)<|fun c2 hz2=> ?_
 refine A8<|A5<|A7<|A9<|sv W<|sv W<|A1<|A5<|A9<|sq W<|sv W<|sv W<|bs hz2 fun v2 hv2 hz2=>B3 W (F5 (Dt G_hit<|rD<|rD<|rD<|rD<|rD<|rD<|rD<|rD<|rD<|rD<|F5 (Y5<|gq W)<|rD<|rD G7)<|rD<|rD G7) (.cons (DLe.bp<|ca W<|ca W<|ca W<|ca W<|ca W<|ca W<|ca W<|ca W<|ca W<|ca W<|.cons ⟨Y4,W⟩ (cz W)) (.cons (.refl _) A3)) (El _ _ _ _ hv2) (.inr W) (C0 (.d (bo (!v2))) W W (A1<|cc W hz2 (fun c3 hz2=> ?_)<|fun c3 hz2=> ?_))
 refine Tm W<|C1<|sv W<|sv W<|A1<|E3 ?_
 cases hz2
 exact ⟨W,g3,(E0 (Bv W)<|B4 G_hit (.of W)<|sg W<|B9 (gq W) trivial)⟩
 refine A8<|lr<|fun u10 _=>sv W<|sv W<|sq W<|sp W W<|sq W<|sp W W<|sl W G_hit W<|sv W<|sm W<|Z4 W G_hit [(di x1.1),(di x2.1),(di p1.before.Tick),(di 0)] W (A1<|A5<|A5<|F1 W<|sq W<|sq W<|sp W W<|sq W<|sl W (gq W) W (sd W (B1 W G_hit W W)<|bs hz2 fun _ hv3 hz2=>B3 W W A3 (Q8 _ _ _ hv3) (.inl W) (sv W<|sv W<|sv W<|sv W<|sv W<|A1<|A9<|sv W<|A1<|bs hz2 fun y2 hy2 hz2=>D8 (fun s=> ∃g4:Unit,Sb ⟨T [(0,(.ptr (900000,0) 0)),(2,(di x1.1)),(3,(.ptr (3,u4) 0)),(5,(.ptr (5,u10) 0)),(16,(dl D2 p1.before.Agents)),(17,(di (p1.before.Agents.length:Int))),(18,(di x1.1)),(28,(di (p1.m.Zones.length:Int))),(29,(di x2.1))],G [((900000,0),some<|.box 135 ((Bc p1).set 10 (oS x2.2 (85,g3)))),((3,u4),some<|.box 45 (O8 v1)),((5,u10),some<|.box 127 (Uz y2)),((85,g3),oB 127 4 I9 x2.2)]⟩ s) ?_ ?_)))
 refine cc W hy2 (fun c4 hy2=> ?_)<|fun c4 hy2=> ?_
 refine C1<|sq W<|sq W<|sp W W<|sq W<|sl W (gq W) W (sv W<|bs hy2 fun v4 hv4 hy2=>sd W (C5 W W hv4 W)<|sd W (D3 W hv4 W W)<|Z4 W G_hit (Uz v4) W (A1 ?_))
 obtain rfl:=(lD hy2)
 exact Y7 ⟨(),(E0 (Bv W)<|sg W<|sg W<|B4 G_hit (.of W)<|B9 (gq W) trivial)⟩
 refine F1 W<|sq W<|sq W<|sp W W<|sd W (B1 W (gq W) W W)<|sd W (B1 W (gq W) W W)<|sv W<|sq W<|sp W W<|sq W<|sp W W<|sl W (gq W) W (bs hy2 fun v5 hv5 hy2=>B3 W W A3 (IA _ _ _ _ _ hv5) (.inl W) (sq W<|Z4 W G_hit [(di x1.1),(di x2.1),(di p1.before.Tick),(di v5)] W (A1 ?_)))
 cases hy2
 exact Y7 ⟨(),(E0 (Bv W)<|sg W<|sg W<|B4 G_hit (.of W)<|B9 (gq W) trivial)⟩
 rintro _ ⟨g4,q1⟩
 refine B5 q1<|Tn W fun u15 _=>sq W<|sq W<|sp W W<|sq W<|sp W W<|C0 (oS x2.2 (85,g3)) W (Q6 W G_hit W) (sd W (B1 W (gq W) W W)<|C0 (dl I9 [y2]) W W (bs hz2 fun _ hv6 hz2=>U1 I9 (85,g3) x2.2 y2 [] _ (L8<|fun _=>W) W (gq W) hv6 (sq W<|sp W W<|sq W<|Z4 W (gq W) ((Bc p1).set 10 (.sl (85,u15))) W (A1<|E4<|C1<|sv W<|sv W<|A1<|E3 ?_))))
 cases hz2
 exact ⟨W,u15,(E0 (Bv W)<|B4 G_hit (.box (cv<|cv<|cv<|cv<|cv<|cv<|cv<|cv<|cv<|cv<|.cons (.of (Am<|Bb hv6).symm) cw))<|sg W<|O9 (gq W) trivial)⟩
 refine C9 W ?_
 cases hz2
 obtain rfl:=ez2 _ rfl
 refine ⟨nofun,C6 W<|Y7 ?_⟩
 exact ⟨g3,(E0 (Bv W)<|B4 G_hit (.of W)<|B9 (gq W) trivial)⟩
 rintro _ ⟨g2,q2⟩
 refine E4<|B5 q2<|C1<|sv W<|sv W<|A1<|E3 ?_
 cases hz1
 exact ⟨W,g2,(E0 (Bv W)<|B4 G_hit (.of W)<|B9 (gq W) trivial)⟩
 refine C9 W ?_
 cases hz1
 obtain rfl:=ez1 _ rfl
 refine ⟨nofun,C6 W<|E3 ?_⟩
 exact JC (.inl W) [(85,g1)] JD (.refl _) ⟨⟨_,_,_,G_hit,(iJ W Jb),(rD<|rD<|rD<|rD<|rD<|rD<|rD<|rD<|rD<|rD<|F5 (Y5<|FE (.head _)<|gq W)<|rD<|rD G7),(.cons (.refl _) (.cons (.refl _) (.cons (.refl _) (.cons (.refl _) (.cons (.refl _) (.cons (.refl _) (.cons (.refl _) (.cons (.refl _) (.cons (.refl _) (.cons (.refl _) (.cons Y4 (.cons (.refl _) A3)))))))))))),W⟩,trivial⟩
def AQ (s:State)(i:Nat):Nat→Nat→Option (List (Int×Int))
  |0,_=>some []
  |k+1,j=>(Ez s i).bind fun a=>(Ez s j).bind fun b=>(AQ s i k (j+1)).bind fun l=>some (cond (a&&b) (((i:Int),(j:Int))::l) l)
def CO (s:State)(n:Nat):Nat→Nat→Option (List (Int×Int))
  |0,_=>some []
  |k+1,i=>(AQ s i (n - (i+1)) (i+1)).bind fun a=>(CO s n k (i+1)).bind fun b=>some (a++b)
def CP (s:State):Option (List (Int×Int)):=if s.Agents.length≤1000000 then CO s s.Agents.length s.Agents.length 0 else none
abbrev RJ (a:Int×Int):List D:= [i64 a.1,i64 a.2]
def CQ (kb ks:F8)(s:State)(h:E6):Prop:=h kb=some (.box 133 [.ptr ks 0])∧∃c0 c1 c2 c3 c4 c8 c9 c10 c11 c12,h ks=some (.box 135 [c0,c1,c2,c3,c4, .d (i64 s.Tick), .d (.list (List.map D2 s.Agents)), .d (.list (List.map I9 s.In)),c8,c9,c10,c11,c12])
theorem RK {s:State}{L:List (Int×Int)}(h:CP s=some L)(kb ks:F8):tK Tryz.prog (.fn (.func 174) [] [.ptr kb 0]) (CQ kb ks s) (L.map RJ):=by
  unfold CP at h
  split at h
  case isFalse=>cases h
  rename_i hlen
  refine ⟨174,[],[.ptr kb 0],W,?_⟩
  intro k h0 Inv Stop hi0 hcan hy
  refine QR (fk Tryz.func174 Tryz.ntmps174 (fun r=>if r==6 then [18]else []) (by with_unfolding_all rfl)) (by simp) (qZ ?_)
  obtain ⟨g0,S0,i0,c0⟩:=hcan 0 h0 hi0
  have hLm:(L.map RJ).length=L.length:=lR ..
  rw [hLm]
  refine B5 (s0:=⟨T [(0, .yld k),(1, .ptr kb 0)],g0⟩) ⟨fun i=> ?_,S0.h⟩ ?_
  ·match i with
   |0=>exact .refl _
   |1=>exact .refl _
   |n+2=>exact .any _
  have c0':=c0
  obtain ⟨e1,a0,a1,a2,a3,a4,a8,a9,a10,a11,a12,e2⟩:=c0'
  refine A5 ?_
  refine AM fun u hu=> ?_
  refine G4 (.ptr ks 0) W (Q6 W e1 W) ?_
  refine G4 (.ptr ks 0) W W ?_
  refine G4 (.ptr ks 5) W W ?_
  refine G4 (.ptr ks 6) W W ?_
  refine G4 (.d (.list (List.map D2 s.Agents))) W (Q6 W e2 W) ?_
  refine G4 (.d (i64 s.Agents.length)) W (D5 (f:=D2) W) ?_
  refine G4 (.d (i64 0)) W W ?_
  refine Ds ?_
  refine A7 ?_
  refine gC (α:=Nat×Nat×E6) (fun x=>⟨T [(0, .yld k),(1, .ptr kb 0),(10, .d (i64 s.Agents.length)),(11, .d (i64 (x.1:Int)))],x.2.2⟩) (fun x=>s.Agents.length - x.1)
    (fun x=>Inv x.2.1 x.2.2∧CQ kb ks s x.2.2∧x.1≤s.Agents.length∧x.2.1≤L.length∧CO s s.Agents.length (s.Agents.length - x.1) x.1=some (L.drop x.2.1)) (0,0,g0) ⟨i0,c0,wC _,wC _,h⟩ (EX ⟨rfl,rfl,rfl,rfl,trivial⟩ fun _ _ h=>h) ?_
  rintro ⟨i,pos,hh⟩ ⟨hinv,hrq,hi,hpos,hgo⟩
  dsimp only at hinv hrq hi hpos hgo ⊢
  refine A5 ?_
  refine AM fun u hu=> ?_
  refine G4 (.d (bo<|decide ((i:Int)< (s.Agents.length:Int)))) W W ?_
  refine Ds ?_
  refine A5 ?_
  refine dK (decide ((i:Int)< (s.Agents.length:Int))) W (fun hlt=> ?_) (fun hlt=> ?_)
  ·refine A8 ?_
   have hlt:i<s.Agents.length:=by simpa using hlt
   have hw1: ∀n:Nat,n≤1000000→IntKind.i64.wrap ((n:Int)+1)=((n+1:Nat):Int):=fun n _=>(Go.IntWalk.i64_in _ (by omega)).trans (by omega)
   obtain ⟨m,hm⟩: ∃m,s.Agents.length - i=m+1:=⟨s.Agents.length - i - 1,by omega⟩
   rw [hm,CO]at hgo
   obtain ⟨l1,hl1,hgo⟩:=bind_some hgo
   obtain ⟨l2,hl2,hgo⟩:=bind_some hgo
   have hgo:l1++l2=L.drop pos:=lD hgo
   refine A5 ?_
   refine A7 ?_
   refine A5 ?_
   refine AM fun u hu=> ?_
   refine G4 (.d (i64 i)) W W ?_
   refine G4 (.d (i64 i)) W W ?_
   refine Ds ?_
   refine A5 ?_
   refine AM fun u hu=> ?_
   refine G4 (.d (i64 i)) W W ?_
   refine G4 (.d (i64 ((i+1:Nat):Int))) W (by rw [← hw1 i (by omega)];rfl) ?_
   refine G4 (.d (i64 ((i+1:Nat):Int))) W W ?_
   refine Ds ?_
   refine A7 ?_
   refine gC (α:=Nat×Nat×E6) (fun x=>⟨T [(0, .yld k),(1, .ptr kb 0),(3, .d (i64 (i:Int))),(4, .d (i64 (x.1:Int))),(10, .d (i64 s.Agents.length)),(11, .d (i64 (i:Int)))],x.2.2⟩) (fun x=>s.Agents.length - x.1)
     (fun x=>Inv x.2.1 x.2.2∧CQ kb ks s x.2.2∧x.1≤s.Agents.length∧x.2.1≤L.length∧∃l,AQ s i (s.Agents.length - x.1) x.1=some l∧l++l2=L.drop x.2.1) (i+1,pos,hh) ⟨hinv,hrq,hlt,hpos,l1,hl1,hgo⟩ (EX ⟨rfl,rfl,rfl,rfl,rfl,rfl,trivial⟩ fun _ _ h=>h) ?_
   rintro ⟨j,pos,hh⟩ ⟨hinv,hrq,hj,hpos,l,hl,hgo⟩
   dsimp only at hinv hrq hj hpos hl hgo ⊢
   have hrq':=hrq
   obtain ⟨e1,a0,a1,a2,a3,a4,a8,a9,a10,a11,a12,e2⟩:=hrq'
   refine A5 ?_
   refine A5 ?_
   refine AM fun u hu=> ?_
   refine G4 (.d (i64 j)) W W ?_
   refine G4 (.ptr ks 0) W (Q6 W e1 W) ?_
   refine G4 (.ptr ks 0) W W ?_
   refine G4 (.ptr ks 5) W W ?_
   refine G4 (.ptr ks 6) W W ?_
   refine G4 (.d (.list (List.map D2 s.Agents))) W (Q6 W e2 W) ?_
   refine G4 (.d (i64 s.Agents.length)) W (D5 (f:=D2) W) ?_
   refine G4 (.d (bo<|decide ((j:Int)< (s.Agents.length:Int)))) W W ?_
   refine Ds ?_
   refine dK (decide ((j:Int)< (s.Agents.length:Int))) W (fun hjl=> ?_) (fun hjl=> ?_)
   ·refine A8 ?_
    have hjl:j<s.Agents.length:=by simpa using hjl
    obtain ⟨m',hm'⟩: ∃m',s.Agents.length - j=m'+1:=⟨s.Agents.length - j - 1,by omega⟩
    rw [hm',AQ]at hl
    obtain ⟨a,ha,hl⟩:=bind_some hl
    obtain ⟨b,hb,hl⟩:=bind_some hl
    obtain ⟨l',hl',hl⟩:=bind_some hl
    have hl:cond (a&&b) (((i:Int),(j:Int))::l') l'=l:=lD hl
    have hm1:s.Agents.length - (j+1)=m':=by omega
    -- what a round leaves
    have hend: ∀(p':Nat) (h':E6),Inv p' h'→CQ kb ks s h'→p'≤L.length→l'++l2=L.drop p'→∃y:Nat×Nat×E6,(Inv y.2.1 y.2.2∧CQ kb ks s y.2.2∧y.1≤s.Agents.length∧y.2.1≤L.length∧∃l,AQ s i (s.Agents.length - y.1) y.1=some l∧l++l2=L.drop y.2.1)∧s.Agents.length - y.1<s.Agents.length - j∧y=(j+1,p',h'):=fun p' h' q1 q2 q3 q4=>⟨(j+1,p',h'),⟨q1,q2,hjl,q3,l',by dsimp only;rw [hm1];exact hl',q4⟩,by dsimp only;omega,rfl⟩
    refine A5 ?_
    refine A7 ?_
    refine A5 ?_
    refine AM fun u hu=> ?_
    refine G4 (.ptr ks 0) W (Q6 W e1 W) ?_
    refine G4 (.ptr ks 0) W W ?_
    refine G4 (.ptr ks 5) W W ?_
    refine G4 (.d (.agg [i64 s.Tick, .list (List.map D2 s.Agents), .list (List.map I9 s.In)])) W (B1 W e2 W W) ?_
    refine G4 (.d (i64 i)) W W ?_
    refine GS W W (Si s i _ ha) (.inl W) ?_
    refine G4 (.d (bo a)) W W ?_
    cases a with
    |false=>
     iterate 6 (refine dR rfl rfl ?_)
     refine G4 (.d (bo false)) W W ?_
     refine G4 (.d (bo false)) W W ?_
     iterate 5 (refine dR rfl rfl ?_)
     refine G4 (.d (bo false)) W W ?_
     refine Ds ?_
     refine Zr W<|A8<|E4 ?_
     refine AM fun u hu=> ?_
     refine G4 (.d (i64 j)) W W ?_
     refine G4 (.d (i64 ((j+1:Nat):Int))) W (by rw [← hw1 j (by omega)];rfl) ?_
     refine G4 (.d (i64 ((j+1:Nat):Int))) W W ?_
     refine Ds ?_
     obtain ⟨y,y1,y2,rfl⟩:=hend pos hh hinv hrq hpos (by rw [← hgo,← hl];rfl)
     exact E3 ⟨_,y1,y2,EX ⟨W,W,W,W,W,W,trivial⟩ fun _ _ h=>h⟩
    |true=>
     refine DP W ?_
     refine G4 (.ptr ks 0) W (Q6 W e1 W) ?_
     refine DP W ?_
     refine G4 (.ptr ks 0) W W ?_
     refine DP W ?_
     refine G4 (.ptr ks 5) W W ?_
     refine DP W ?_
     refine G4 (.d (.agg [i64 s.Tick, .list (List.map D2 s.Agents), .list (List.map I9 s.In)])) W (B1 W e2 W W) ?_
     refine DP W ?_
     refine G4 (.d (i64 j)) W W ?_
     refine DP W ?_
     refine GS W W (Si s j _ hb) (.inl W) ?_
     refine G4 (.d (bo b)) W W ?_
     refine G4 (.d (bo b)) W W ?_
     cases b with
     |false=>
      iterate 5 (refine dR rfl rfl ?_)
      refine G4 (.d (bo false)) W W ?_
      refine Ds ?_
      refine Zr W<|A8<|E4 ?_
      refine AM fun u hu=> ?_
      refine G4 (.d (i64 j)) W W ?_
      refine G4 (.d (i64 ((j+1:Nat):Int))) W (by rw [← hw1 j (by omega)];rfl) ?_
      refine G4 (.d (i64 ((j+1:Nat):Int))) W W ?_
      refine Ds ?_
      obtain ⟨y,y1,y2,rfl⟩:=hend pos hh hinv hrq hpos (by rw [← hgo,← hl];rfl)
      exact E3 ⟨_,y1,y2,EX ⟨W,W,W,W,W,W,trivial⟩ fun _ _ h=>h⟩
     |true=>
      have hcons:((i:Int),(j:Int))::(l'++l2)=L.drop pos:=by rw [← hgo,← hl];rfl
      have hLi:(L.map RJ)[pos]? =some (RJ ((i:Int),(j:Int))):=by
        have:=congrArg (fun z=>z[0]?) hcons
        rw [lJ]
        simp at this
        rw [← this];rfl
      have hLd:L.drop (pos+1)=l'++l2:=by
        have:=congrArg (fun z=>z.drop 1) hcons
        simpa using this.symm
      have hplt:pos+1≤L.length:=by
        have:=congrArg List.length hcons
        simp at this
        omega
      refine DP W ?_
      refine G4 (.yld k) W W ?_
      refine DP W ?_
      refine G4 (.d (i64 i)) W W ?_
      refine DP W ?_
      refine G4 (.d (i64 j)) W W ?_
      refine DP W ?_
      refine iM k ((RJ ((i:Int),(j:Int))).map .d) W W ?_
      refine (hy pos hh _ hLi hinv).mono ?_
      rintro v' h' (⟨rfl,hin⟩|⟨rfl,hst⟩)
      ·obtain ⟨h1,S1,i1,q1⟩:=hcan _ _ hin
       refine ⟨h1,S1,fun u4 hu4=> ?_⟩
       refine DP W ?_
       refine G4 (.d (bo false)) W W ?_
       refine G4 (.d (bo false)) W W ?_
       refine Ds ?_
       refine Zr W<|A8<|E4 ?_
       refine AM fun u hu=> ?_
       refine G4 (.d (i64 j)) W W ?_
       refine G4 (.d (i64 ((j+1:Nat):Int))) W (by rw [← hw1 j (by omega)];rfl) ?_
       refine G4 (.d (i64 ((j+1:Nat):Int))) W W ?_
       refine Ds ?_
       obtain ⟨y,y1,y2,rfl⟩:=hend (pos+1) h1 i1 q1 hplt hLd.symm
       exact E3 ⟨_,y1,y2,EX ⟨W,W,W,W,W,W,trivial⟩ fun _ _ h=>h⟩
      ·refine ⟨h',Sb.refl _,fun u4 hu4=> ?_⟩
       refine DP W ?_
       refine G4 (.d (bo true)) W W ?_
       refine G4 (.d (bo true)) W W ?_
       refine Ds ?_
       refine GU W ?_
       refine B0<|F2<|F2 ?_
       exact ⟨Or.inr W,AV.tup [],W,Or.inr hst⟩
   ·refine C9 rfl ?_
    have hjn:j=s.Agents.length:=by
      have: ¬((j:Int)< (s.Agents.length:Int)):=by simpa using hjl
      omega
    subst hjn
    rw [Nat.sub_self,AQ]at hl
    cases hl
    refine C6 (r':= [.b 1, .c _]) W (E4 ?_)
    refine AM fun u hu=> ?_
    refine G4 (.d (i64 ((i+1:Nat):Int))) W (by rw [← hw1 i (by omega)];rfl) ?_
    refine G4 (.d (i64 ((i+1:Nat):Int))) W W ?_
    refine Ds ?_
    refine E3 ⟨(i+1,pos,hh),⟨hinv,hrq,hlt,hpos,?_⟩,by dsimp only;omega,EX ⟨rfl,rfl,rfl,rfl,trivial⟩ fun _ _ h=>h⟩
    dsimp only
    rw [show s.Agents.length - (i+1)=m by omega,hl2]
    exact congrArg some hgo
  ·refine C9 rfl ?_
   have hin:i=s.Agents.length:=by
     have: ¬((i:Int)< (s.Agents.length:Int)):=by simpa using hlt
     omega
   subst hin
   rw [Nat.sub_self,CO]at hgo
   have h1:L.drop pos= []:=(lD hgo).symm
   have h2:=List.drop_eq_nil_iff.1 h1
   have h3:pos=L.length:=by omega
   subst h3
   refine C6 (r':= []) W (E3 ?_)
   exact ⟨.inl W,AV.tup [],W, .inl hinv⟩
def Ad (p1:WorldSpan)(p2:Int):Option WorldSpan:=
  some (WorldSpan.mk (C3 (p1.from_ - p2)) (C3 (p1.to - p2)))
theorem Mb(p1 p2 r)(h:Ad p1 p2=some r):PCall Tryz.prog 141 [(.agg [(i64 p1.from_),(i64 p1.to)]),(i64 p2)] (.agg [(i64 r.from_),(i64 r.to)]):=by
 refine C4 (fk Tryz.func141 Tryz.ntmps141 m0 (by with_unfolding_all rfl)) (nl W) ?_
 unfold Ad at h
 refine B5 (s0:=⟨T [(0,(.d _)),(1,(.d _))],G []⟩) (F0 W W) ?_
 refine A9<|sm W<|sn W W<|A1<|A9<|sq W<|sl W (gq W) W (sv W<|sv W<|sq W<|sl W (gq W) W (sv W<|sv W<|sv W<|Z4 W G_hit [(di<|C3 (p1.from_ - p2)),(di<|C3 (p1.to - p2))] W (A1<|B0 ?_)))
 cases h
 exact A6 (.inr W) (B6 (K3 W G_hit (nl W) W) C2) (.refl _)
def Em (p1:Map)(p2:Int):Option Int:=
  (Qb p1 p2).bind fun v1=>cond (!v1) (some 0) ((Fo p1 p2).bind fun v2=>some v2)
theorem Vu(p1 p2 r)(h:Em p1 p2=some r):PCall Tryz.prog 143 [(.agg (S3 p1)),(i64 p2)] (i64 r):=by
 refine C4 (fk Tryz.func143 Tryz.ntmps143 m0 (by with_unfolding_all rfl)) (nl W) ?_
 unfold Em at h
 refine B5 (s0:=⟨T [(0,(.d _)),(1,(.d _))],G []⟩) (F0 W W) ?_
 refine A9<|sm W<|sv W<|A1<|A5<|A9<|sd W (B1 W G_hit W W)<|sv W<|bs h fun v1 hv1 h=>B3 W W A3 (FO _ _ _ hv1) (.inl W) (C0 (.d (bo (!v1))) W W (A1<|cc W h (fun c1 h=> ?_)<|fun c1 h=> ?_))
 refine A9<|sv W<|A1<|B0 ?_
 cases h
 exact A6 (.inr W) (B6 (B2 W) C2) (.refl _)
 refine A8<|A9<|sd W (B1 W G_hit W W)<|sv W<|bs h fun _ hv2 h=>B3 W W A3 (Uo _ _ _ hv2) (.inl W) (sv W<|A1<|B0 ?_)
 cases h
 exact A6 (.inr W) (B6 (B2 W) C2) (.refl _)
def Hb (p1:WorldSpan)(p2:WorldSpan):Option WorldSpan:=
  some (WorldSpan.mk (Mn true p1.from_ p2.from_) (Mn false p1.to p2.to))
theorem Zw(p1 p2 r)(h:Hb p1 p2=some r):PCall Tryz.prog 142 [(.agg [(i64 p1.from_),(i64 p1.to)]),(.agg [(i64 p2.from_),(i64 p2.to)])] (.agg [(i64 r.from_),(i64 r.to)]):=by
 refine C4 (fk Tryz.func142 Tryz.ntmps142 m0 (by with_unfolding_all rfl)) (nl W) ?_
 unfold Hb at h
 refine B5 (s0:=⟨T [(0,(.d _)),(1,(.d _))],G []⟩) (F0 W W) ?_
 refine A9<|sm W<|sn W W<|sm W<|A1<|A9<|sq W<|sl W (gq W) W (sq W<|sl W (gq W) W (sv W<|sq W<|sl W (gq W) W (sq W<|sl W (gq W) W (sv W<|sv W<|Z4 W G_hit [(di<|Mn true p1.from_ p2.from_),(di<|Mn false p1.to p2.to)] W (A1<|B0 ?_)))))
 cases h
 exact A6 (.inr W) (B6 (K3 W G_hit (nl W) W) C2) (.refl _)
def Dv (p1:WorldSpan):Option Bool:=
  some (decide (p1.from_>p1.to))
theorem Ws(p1 r)(h:Dv p1=some r):PCall Tryz.prog 144 [(.agg [(i64 p1.from_),(i64 p1.to)])] (bo r):=by
 refine C4 (fk Tryz.func144 Tryz.ntmps144 m0 (by with_unfolding_all rfl)) (nl W) ?_
 unfold Dv at h
 refine B5 (s0:=⟨T [(0,(.d _))],G []⟩) (F0 W W) ?_
 refine A9<|sm W<|sv W<|A1<|A9<|sq W<|sl W G_hit W<|sq W<|sl W G_hit W<|sv W<|sv W<|A1<|B0 ?_
 cases h
 exact A6 (.inr W) (B6 (B2 W) C2) (.refl _)
def Nc (p1:Map)(p2:Agent)(v2:(List Int))(x1:((List Span)×Int)):Option (Stp ((List Span)×Int) (List Span)):=
  cond (decide (x1.2< (v2.length:Int))) ((B7 v2 x1.2).bind fun v3=>(B7 p2.Route x1.2).bind fun v4=>(Bp p2).bind fun v5=>(Ad v5 v3).bind fun v6=>(Em p1 v4).bind fun v7=>(Hb v6 (WorldSpan.mk 0 v7)).bind fun v8=>(Dv v8).bind fun v9=>cond (!v9) ((Z2 x1.1 [(Span.mk v4 v8.from_ v8.to)]).bind fun v10=>some (.go (v10,(C3 (x1.2+1))))) (some (.go (x1.1,(C3 (x1.2+1)))))) (some (.out x1.1))
def Qr (p1:Map)(p2:Agent):Option (List Span):=
  (Lz p2).bind fun v1=>cond (!v1) (some []) ((Ei p1 p2.Route).bind fun v2=>(loop (Nc p1 p2 v2) ([],0)).bind fun y1=>some y1)
theorem IB(p1 p2 r)(h:Qr p1 p2=some r):PCall Tryz.prog 67 [(.agg (S3 p1)),(.agg (D2 p2))] (.list (List.map Pr r)):=by
 refine C4 (fk Tryz.func67 Tryz.ntmps67 (fun r=>if r==10 then [1007]else []) (by with_unfolding_all rfl)) (nl W) ?_
 unfold Qr at h
 refine B5 (s0:=⟨T [(0,(.d _)),(1,(.d _))],G []⟩) (F0 W W) ?_
 refine lr<|fun u1 _=>sm W<|sm W<|sv W<|A1<|A5<|A9<|sd W (B1 W G_hit W W)<|bs h fun v1 hv1 h=>B3 W W A3 (AP _ _ hv1) (.inl W) (C0 (.d (bo (!v1))) W W (A1<|cc W h (fun c1 h=> ?_)<|fun c1 h=> ?_))
 refine A9<|sv W<|A1<|B0 ?_
 cases h
 exact A6 (.inr W) (B6 (B2 W) C2) DLe.nil
 refine A8<|A9<|sv W<|A1<|A5<|A9<|sd W (B1 W (gq W) W W)<|sq W<|sl W G_hit W<|bs h fun v2 hv2 h=>B3 W W A3 (Vt _ _ _ hv2) (.inl W) (sd W (D5 W)<|sv W<|A1<|bs h fun y1 hy1 h=>D8 (fun s=> ∃g1:Nat,Sb ⟨T [(5,(oS y1 (48,g1)))],G [((48,g1),oB 93 3 Pr y1)]⟩ s) ?_ ?_)
 refine A7<|E2 (Nc p1 p2 v2) (fun (x1:((List Span)×Int)) (g2:Nat)=>⟨T [(2,(.ptr (2,u1) 0)),(3,(.ptr (3,u1) 0)),(5,(oS x1.1 (48,g2))),(16,(dl A4 v2)),(17,(di (v2.length:Int))),(18,(di x1.2))],G [((2,u1),some<|.box 33 (M7 p1)),((3,u1),some<|.box 45 (O8 p2)),((48,g2),oB 93 3 Pr x1.1)]⟩) ([],0) 0 _ hy1 (E0 (Bv W)<|sg W<|B4 G_hit (.of W)<|W0 trivial) ?_
 intro x1 g2 z1 hz1 ez1
 unfold Nc at hz1
 refine A9<|sv W<|A1<|A5<|cc W hz1 (fun c2 hz1=> ?_)<|fun c2 hz1=> ?_
 refine A8<|A5<|A7<|A9<|sv W<|bs hz1 fun _ hv3 hz1=>sd W (C5 W W hv3 W)<|sd W (C7 W hv3 W)<|sv W<|sv W<|A1<|A9<|sq W<|sl W (gq W) W (sv W<|bs hz1 fun v4 hv4 hz1=>sd W (C5 W W hv4 W)<|sd W (C7 W hv4 W)<|sv W<|A1<|A5<|F1 W<|sd W (B1 W (gq W) W W)<|bs hz1 fun _ hv5 hz1=>B3 W W A3 (Nb _ _ hv5) (.inl W) (sv W<|bs hz1 fun _ hv6 hz1=>B3 W W A3 (Mb _ _ _ hv6) (.inl W) (sd W (B1 W G_hit W W)<|sv W<|bs hz1 fun _ hv7 hz1=>B3 W W A3 (Vu _ _ _ hv7) (.inl W) (sv W<|bs hz1 fun v8 hv8 hz1=>B3 W W A3 (Zw _ _ _ hv8) (.inl W) (sm W<|Z4 W G_hit [(di v8.from_),(di v8.to)] W (A1<|A9<|sd W (B1 W G_hit W W)<|bs hz1 fun v9 hv9 hz1=>B3 W W A3 (Ws _ _ hv9) (.inl W) (C0 (.d (bo (!v9))) W W (A1<|cc W hz1 (fun c3 hz1=> ?_)<|fun c3 hz1=> ?_))))))))
 refine Ew fun u11 _=>C0 (oS x1.1 (48,g2)) W W (sv W<|sq W<|sl W G_hit W<|sq W<|sl W G_hit W<|sv W<|C0 (dl Pr [(Span.mk v4 v8.from_ v8.to)]) W W (bs hz1 fun _ hv10 hz1=>U1 Pr (48,g2) x1.1 (Span.mk v4 v8.from_ v8.to) [] _ (L8<|fun _=>W) W (gq W) hv10 (ss W<|A1<|E4<|C1<|sv W<|sv W<|A1<|E3 ?_)))
 cases hz1
 exact ⟨W,u11,(E0 ⟨.of W, .of W,(.of (Am<|Bb hv10).symm), .of W, .of W, .of W,trivial⟩<|sg W<|sg W<|O9 G_hit trivial)⟩
 refine A8<|E4<|C1<|sv W<|sv W<|A1<|E3 ?_
 cases hz1
 exact ⟨W,g2,(E0 (Bv W)<|sg W<|sg W<|B9 (gq W) trivial)⟩
 refine C9 W ?_
 cases hz1
 obtain rfl:=ez1 _ rfl
 refine ⟨nofun,C6 W<|Y7 ?_⟩
 exact ⟨g2,(E0 ⟨.of W,trivial⟩<|B9 (gq W) trivial)⟩
 rintro _ ⟨g1,q1⟩
 refine B5 q1<|A9<|C0 (oS y1 (48,g1)) W W (C0 (oS y1 (48,g1)) W W (A1<|B0 ?_))
 cases h
 exact A6 (.inr W) (B6 (B2 W)<|Y5 G_hit) Y4
def Cl (p1:Span)(p2:Span):Option Bool:=
  ((cond (p2.Lane_==p1.Lane_) (Hb (WorldSpan.mk p2.From p2.To) (WorldSpan.mk p1.From p1.To)) (some default))).bind fun v1=>((cond (p2.Lane_==p1.Lane_) (Dv v1) (some default))).bind fun v2=>some ((p2.Lane_==p1.Lane_)&& (!v2))
theorem BQ(p1 p2 r)(h:Cl p1 p2=some r):PCall Tryz.prog 147 [(.agg (Pr p1)),(.bp (Pr p2) 0)] (bo r):=by
 refine C4 (fk Tryz.func147 Tryz.ntmps147 m0 (by with_unfolding_all rfl)) (nl W) ?_
 unfold Cl at h
 refine B5 (s0:=⟨T [(0,(.d _)),(1,(.d _))],G []⟩) (F0 W W) ?_
 refine A9<|sm W<|sv W<|A1<|A9<|sv W<|sv W<|sq W<|sl W G_hit W<|sv W<|sv W<|gt W (fun _=>W) ?_
 refine gt W (fun w2=>(by simp only [A2 w2];rfl)) ?_
 refine gt W (fun _=>W) ?_
 refine gt W (fun w4=>(by simp only [A2 w4];rfl)) ?_
 refine gt W (fun w5=>(by simp only [A2 w5];rfl)) ?_
 refine gp W (M9 W) (fun _=>W) (gt W (vl W G_hit W)<|gp W (M9 W) (fun _=>W) (gt W (vl W G_hit W) ?_))
 refine gt W (fun w10=>(by simp only [A2 w10];rfl)) ?_
 refine bs h fun v1 hv1 h=> ?_
 refine N2 _ (.agg [(i64 v1.from_),(i64 v1.to)]) (M9 W) (fun w11=>⟨_,[(.d (.agg [(i64 p2.From),(i64 p2.To)])),(.d (.agg [(i64 p1.From),(i64 p1.To)]))],_,_,(by simp only [A2 w11];rfl),W,A3,Zw _ _ _<|B8 w11 hv1,(.inl W)⟩) ?_
 refine bs h fun v2 hv2 h=> ?_
 refine N2 _ (bo v2) (M9 W) (fun w12=>⟨_,[(.d (.agg [(i64 v1.from_),(i64 v1.to)]))],_,_,(by simp only [A2 w12];rfl),W,A3,Ws _ _<|B8 w12 hv2,(.inl W)⟩) ?_
 refine N1 _ (.d (bo (!v2))) W (M9 W) (fun w13=>(by simp only [A2 w13];rfl)) ?_
 refine sa W W W<|sv W<|A1<|B0 ?_
 cases h
 exact A6 (.inr W) (B6 (B2 W) C2) (.refl _)
def K1 (p1:(List Span))(p2:Span)(x1:Int):Option (Stp Int (Sum Unit Int)):=
  cond (decide (x1< (p1.length:Int))) ((B7 p1 x1).bind fun v1=>(Cl v1 p2).bind fun v2=>cond v2 (some (.out (.inr x1))) (some (.go (C3 (x1+1))))) (some (.out (.inl ())))
def L3 (p1:(List Span))(p2:Span):Option Int:=
  thenS (loop (K1 p1 p2) 0) (fun _=>some (-1)) (fun r=>some r)
theorem Hr(p1 p2 r)(h:L3 p1 p2=some r):PCall Tryz.prog 208 [(.list (List.map Pr p1)),(.fn (.func 147) [] [(.bp (Pr p2) 0)])] (i64 r):=by
 refine C4 (fk Tryz.func208 Tryz.ntmps208 m0 (by with_unfolding_all rfl)) (nl W) ?_
 unfold L3 at h
 refine B5 (s0:=⟨T [(0,(.d _)),(1,(.d _))],G []⟩) (F0 W W) ?_
 refine A9<|sv W<|A1<|A5<|A9<|sv W<|sd W (D5 W)<|sv W<|A1<|js h fun z1 hz1 h=>D8 (fun s=> ∃(y1:Unit) (g1:Unit),z1= .inl y1∧Sb ⟨T [],G []⟩ s) ?_ ?_
 refine A7<|E2 (K1 p1 p2) (fun (x1:Int) (g2:Unit)=>⟨T [(0,(dl Pr p1)),(1,(.d (.fn (.func 147) [] [(.bp (Pr p2) 0)]))),(7,(di (p1.length:Int))),(8,(di x1))],G []⟩) 0 () _ hz1 (F0 W W) ?_
 intro x1 g2 z2 hz2 ez2
 unfold K1 at hz2
 refine A9<|sv W<|A1<|A5<|cc W hz2 (fun c1 hz2=> ?_)<|fun c1 hz2=> ?_
 refine A8<|A5<|A7<|A9<|sv W<|sv W<|A1<|A9<|sv W<|sv W<|sv W<|bs hz2 fun _ hv1 hz2=>sd W (C5 W W hv1 W)<|sd W (D3 W hv1 W W)<|bs hz2 fun _ hv2 hz2=>B3 W W A3 (BQ _ _ _ hv2) (.inl W) (A1<|cc W hz2 (fun c2 hz2=> ?_)<|fun c2 hz2=> ?_)
 refine A9<|sv W<|sv W<|A1<|B0 ?_
 cases hz2
 obtain rfl:=ez2 _ rfl
 refine ⟨nofun,F2 ?_⟩
 rw [bY]at h
 cases h
 exact A6 (.inr W) (B6 (B2 W) C2) (.refl _)
 refine A8<|E4<|C1<|sv W<|sv W<|A1<|E3 ?_
 cases hz2
 exact ⟨W,(),(F0 W W)⟩
 refine C9 W ?_
 cases hz2
 obtain rfl:=ez2 _ rfl
 refine ⟨nofun,C6 W<|Y7 ?_⟩
 exact ⟨_,(),W,(F0 W W)⟩
 rintro _ ⟨y1,g1,rfl,q1⟩
 rw [bX]at h
 refine B5 q1<|A9<|sv W<|A1<|B0 ?_
 cases h
 exact A6 (.inr W) (B6 (B2 W) C2) (.refl _)
def K2 (p1:(List Span))(p2:Span):Option Bool:=
  (L3 p1 p2).bind fun v1=>some (decide (v1≥0))
theorem Fw(p1 p2 r)(h:K2 p1 p2=some r):PCall Tryz.prog 145 [(.list (List.map Pr p1)),(.fn (.func 147) [] [(.bp (Pr p2) 0)])] (bo r):=by
 refine C4 (fk Tryz.func145 Tryz.ntmps145 m0 (by with_unfolding_all rfl)) (nl W) ?_
 unfold K2 at h
 refine B5 (s0:=⟨T [(0,(.d _)),(1,(.d _))],G []⟩) (F0 W W) ?_
 refine A9<|sv W<|A1<|A9<|sv W<|sv W<|bs h fun _ hv1 h=>B3 W W A3 (Hr _ _ _ hv1) (.inl W) (sv W<|sv W<|A1<|B0 ?_)
 cases h
 exact A6 (.inr W) (B6 (B2 W) C2) (.refl _)
def Dw (p1:Span)(p2:(List Span)):Option Bool:=
  (K2 p2 p1).bind fun v1=>some v1
theorem ED(p1 p2 r)(h:Dw p1 p2=some r):PCall Tryz.prog 146 [(.agg (Pr p1)),(.bp [(.list (List.map Pr p2))] 0)] (bo r):=by
 refine C4 (fk Tryz.func146 Tryz.ntmps146 m0 (by with_unfolding_all rfl)) (nl W) ?_
 unfold Dw at h
 refine B5 (s0:=⟨T [(0,(.d _)),(1,(.d _))],G []⟩) (F0 W W) ?_
 refine A9<|sm W<|sv W<|A1<|A9<|sv W<|C0 (.fn _ _ _) W W (bs h fun _ hv1 h=>B3 W (rD<|F5 (HS G7<|F5 (Dt G_hit<|rD<|rD<|rD G7) G7) G7) A3 (Fw _ _ _ hv1) (.inr W) (sv W<|A1<|B0 ?_))
 cases h
 exact A6 (.inr W) (B6 (B2 W) C2) (.refl _)
def K7 (p1:(List Span))(p2:(List Span))(x1:Int):Option (Stp Int (Sum Unit Int)):=
  cond (decide (x1< (p1.length:Int))) ((B7 p1 x1).bind fun v1=>(Dw v1 p2).bind fun v2=>cond v2 (some (.out (.inr x1))) (some (.go (C3 (x1+1))))) (some (.out (.inl ())))
def M0 (p1:(List Span))(p2:(List Span)):Option Int:=
  thenS (loop (K7 p1 p2) 0) (fun _=>some (-1)) (fun r=>some r)
theorem Ir(p1 p2 r)(h:M0 p1 p2=some r):PCall Tryz.prog 208 [(.list (List.map Pr p1)),(.fn (.func 146) [] [(.bp [(.list (List.map Pr p2))] 0)])] (i64 r):=by
 refine C4 (fk Tryz.func208 Tryz.ntmps208 m0 (by with_unfolding_all rfl)) (nl W) ?_
 unfold M0 at h
 refine B5 (s0:=⟨T [(0,(.d _)),(1,(.d _))],G []⟩) (F0 W W) ?_
 refine A9<|sv W<|A1<|A5<|A9<|sv W<|sd W (D5 W)<|sv W<|A1<|js h fun z1 hz1 h=>D8 (fun s=> ∃(y1:Unit) (g1:Unit),z1= .inl y1∧Sb ⟨T [],G []⟩ s) ?_ ?_
 refine A7<|E2 (K7 p1 p2) (fun (x1:Int) (g2:Unit)=>⟨T [(0,(dl Pr p1)),(1,(.d (.fn (.func 146) [] [(.bp [(.list (List.map Pr p2))] 0)]))),(7,(di (p1.length:Int))),(8,(di x1))],G []⟩) 0 () _ hz1 (F0 W W) ?_
 intro x1 g2 z2 hz2 ez2
 unfold K7 at hz2
 refine A9<|sv W<|A1<|A5<|cc W hz2 (fun c1 hz2=> ?_)<|fun c1 hz2=> ?_
 refine A8<|A5<|A7<|A9<|sv W<|sv W<|A1<|A9<|sv W<|sv W<|sv W<|bs hz2 fun _ hv1 hz2=>sd W (C5 W W hv1 W)<|sd W (D3 W hv1 W W)<|bs hz2 fun _ hv2 hz2=>B3 W W A3 (ED _ _ _ hv2) (.inl W) (A1<|cc W hz2 (fun c2 hz2=> ?_)<|fun c2 hz2=> ?_)
 refine A9<|sv W<|sv W<|A1<|B0 ?_
 cases hz2
 obtain rfl:=ez2 _ rfl
 refine ⟨nofun,F2 ?_⟩
 rw [bY]at h
 cases h
 exact A6 (.inr W) (B6 (B2 W) C2) (.refl _)
 refine A8<|E4<|C1<|sv W<|sv W<|A1<|E3 ?_
 cases hz2
 exact ⟨W,(),(F0 W W)⟩
 refine C9 W ?_
 cases hz2
 obtain rfl:=ez2 _ rfl
 refine ⟨nofun,C6 W<|Y7 ?_⟩
 exact ⟨_,(),W,(F0 W W)⟩
 rintro _ ⟨y1,g1,rfl,q1⟩
 rw [bX]at h
 refine B5 q1<|A9<|sv W<|A1<|B0 ?_
 cases h
 exact A6 (.inr W) (B6 (B2 W) C2) (.refl _)
def K8 (p1:(List Span))(p2:(List Span)):Option Bool:=
  (M0 p1 p2).bind fun v1=>some (decide (v1≥0))
theorem Hc(p1 p2 r)(h:K8 p1 p2=some r):PCall Tryz.prog 145 [(.list (List.map Pr p1)),(.fn (.func 146) [] [(.bp [(.list (List.map Pr p2))] 0)])] (bo r):=by
 refine C4 (fk Tryz.func145 Tryz.ntmps145 m0 (by with_unfolding_all rfl)) (nl W) ?_
 unfold K8 at h
 refine B5 (s0:=⟨T [(0,(.d _)),(1,(.d _))],G []⟩) (F0 W W) ?_
 refine A9<|sv W<|A1<|A9<|sv W<|sv W<|bs h fun _ hv1 h=>B3 W W A3 (Ir _ _ _ hv1) (.inl W) (sv W<|sv W<|A1<|B0 ?_)
 cases h
 exact A6 (.inr W) (B6 (B2 W) C2) (.refl _)
def Km (p1:Map)(p2:Agent)(p3:Agent):Option Bool:=
  (Qr p1 p3).bind fun v1=>(Qr p1 p2).bind fun v2=>(K8 v2 v1).bind fun v3=>some v3
theorem LO(p1 p2 p3 r)(h:Km p1 p2 p3=some r):PCall Tryz.prog 68 [(.agg (S3 p1)),(.agg (D2 p2)),(.agg (D2 p3))] (bo r):=by
 refine C4 (fk Tryz.func68 Tryz.ntmps68 m0 (by with_unfolding_all rfl)) (nl W) ?_
 unfold Km at h
 refine B5 (s0:=⟨T [(0,(.d _)),(1,(.d _)),(2,(.d _))],G []⟩) (F0 W W) ?_
 refine A9<|sm W<|sn W W<|sm W<|sv W<|A1<|A9<|sd W (B1 W (gq W) W W)<|sd W (B1 W G_hit W W)<|bs h fun v1 hv1 h=>B3 W W A3 (IB _ _ _ hv1) (.inl W) (sm W<|Z4 W G_hit [(dl Pr v1)] W (A1<|A9<|sd W (B1 W (gq W) W W)<|sd W (B1 W (gq W) W W)<|bs h fun _ hv2 h=>B3 W W A3 (IB _ _ _ hv2) (.inl W) (C0 (.fn _ _ _) W W (bs h fun _ hv3 h=>B3 W (rD<|F5 (HS G7<|F5 (Dt G_hit<|rD G7) G7) G7) A3 (Hc _ _ _ hv3) (.inr W) (sv W<|A1<|B0 ?_)))))
 cases h
 exact A6 (.inr W) (B6 (B2 W) C2) (.refl _)
def X1 (p1:WorldScene)(p2:Int)(p3:Int)(p4:Int):Option Bool:=
  (O7 p1 p2 p4).bind fun v1=>((cond v1 (O7 p1 p3 p4) (some default))).bind fun v2=>((cond (v1&&v2) (B7 p1.before.Agents p2) (some default))).bind fun v3=>((cond (v1&&v2) (Gh p1.m v3.Route p4) (some default))).bind fun v4=>((cond (v1&&v2) (B7 p1.before.Agents p3) (some default))).bind fun v5=>((cond (v1&&v2) (Gh p1.m v5.Route p4) (some default))).bind fun v6=>some ((v1&&v2)&& (v4 !=v6))
theorem Sj(p1 p2 p3 p4 r)(h:X1 p1 p2 p3 p4=some r):PCall Tryz.prog 82 [(.bp (Uy p1) 0),(i64 p2),(i64 p3),(i64 p4)] (bo r):=by
 refine C4 (fk Tryz.func82 Tryz.ntmps82 m0 (by with_unfolding_all rfl)) (nl W) ?_
 unfold X1 at h
 refine B5 (s0:=⟨T [(0,(.d _)),(1,(.d _)),(2,(.d _)),(3,(.d _))],G []⟩) (F0 W W) ?_
 refine A9<|sv W<|A1<|A5<|F1 W<|sv W<|sv W<|sv W<|bs h fun v1 hv1 h=>B3 W W A3 (El _ _ _ _ hv1) (.inl W) (sv W<|gt W (fun _=>W)<|gt W (fun _=>W)<|gt W (fun _=>W)<|bs h fun v2 hv2 h=> ?_)
 refine N2 v1 (bo v2) (M9 W) (fun w4=>⟨_,[(.d (.bp (Uy p1) 0)),(di p3),(di p4)],_,_,(by simp only [A2 w4];rfl),W,A3,El _ _ _ _<|B8 w4 hv2,(.inl W)⟩) ?_
 refine sa W W W<|sv W<|gt W (fun _=>W) ?_
 refine gt W (fun w6=>(by simp only [A2 w6];rfl)) ?_
 refine gt W (fun w7=>(by simp only [A2 w7];rfl)) ?_
 refine gt W (fun w8=>(by simp only [A2 w8];rfl)) ?_
 refine gt W (fun _=>W) ?_
 refine gt W (fun w10=>(by simp only [A2 w10];rfl)) ?_
 refine gt W (fun w11=>(by simp only [A2 w11];rfl)) ?_
 refine gt W (fun w12=>(by simp only [A2 w12];rfl)) ?_
 refine gt W (fun w13=>(by simp only [A2 w13];rfl)) ?_
 refine gt W (fun _=>W)<|bs h fun v3 hv3 h=>gt W (fun w15=>(C5 (A2 w15) (A2 w15) (B8 w15 hv3) W)) ?_
 refine gt W (fun w16=>(by simp only [A2 w16];rfl)) ?_
 refine gt W (fun w17=>(C7 (A2 w17) (B8 w17 hv3) W))<|gt W (fun _=>W)<|bs h fun v4 hv4 h=> ?_
 refine N2 _ (i64 v4) (M9 W) (fun w19=>⟨_,[(.d (.agg (S3 p1.m))),(dl A4 v3.Route),(di p4)],_,_,(by simp only [A2 w19];rfl),W,A3,Xz _ _ _ _<|B8 w19 hv4,(.inl W)⟩) ?_
 refine gt W (fun _=>W) ?_
 refine gt W (fun w21=>(by simp only [A2 w21];rfl)) ?_
 refine gt W (fun w22=>(by simp only [A2 w22];rfl)) ?_
 refine gt W (fun w23=>(by simp only [A2 w23];rfl)) ?_
 refine gt W (fun _=>W) ?_
 refine gt W (fun w25=>(by simp only [A2 w25];rfl)) ?_
 refine gt W (fun w26=>(by simp only [A2 w26];rfl)) ?_
 refine gt W (fun w27=>(by simp only [A2 w27];rfl)) ?_
 refine gt W (fun w28=>(by simp only [A2 w28];rfl)) ?_
 refine gt W (fun _=>W)<|bs h fun v5 hv5 h=>gt W (fun w30=>(C5 (A2 w30) (A2 w30) (B8 w30 hv5) W)) ?_
 refine gt W (fun w31=>(by simp only [A2 w31];rfl)) ?_
 refine gt W (fun w32=>(C7 (A2 w32) (B8 w32 hv5) W))<|gt W (fun _=>W)<|bs h fun v6 hv6 h=> ?_
 refine N2 _ (i64 v6) (M9 W) (fun w34=>⟨_,[(.d (.agg (S3 p1.m))),(dl A4 v5.Route),(di p4)],_,_,(by simp only [A2 w34];rfl),W,A3,Xz _ _ _ _<|B8 w34 hv6,(.inl W)⟩) ?_
 refine gt W (fun w35=>(L9 (A2 w35) (A2 w35) W))<|sa W W W<|sv W<|A1<|B0 ?_
 cases h
 exact A6 (.inr W) (B6 (B2 W) C2) (.refl _)
def Pg (p1:Map)(v5:WorldScene)(a1:(Int×Int))(x2:Int):Option (Stp Int (Sum Unit (State×Int))):=
  cond (decide (x2< (p1.Zones.length:Int))) ((X1 v5 a1.1 a1.2 x2).bind fun v10=>cond v10 (some (.out (.inr ((State.mk 0 [] []),12)))) (some (.go (C3 (x2+1))))) (some (.out (.inl ())))
def Ph (p1:Map)(p2:(List Agent))(v5:WorldScene)(x1:Unit)(a1:(Int×Int)):Option (Stp Unit (Sum Unit (State×Int))):=
  (B7 p2 a1.1).bind fun v7=>(B7 p2 a1.2).bind fun v8=>(Km p1 v7 v8).bind fun v9=>cond v9 (some (.out (.inr ((State.mk 0 [] []),12)))) (thenS (loop (Pg p1 v5 a1) 0) (fun _=>some (.go ())) (fun r=>some (.out (.inr r))))
def Sk:Option Unit:=
  some ()
def Xl (p1:Map)(p2:(List Agent)):Option (State×Int):=
  (Lv (State.mk 0 p2 [])).bind fun v1=>(Gf p1 v1).bind fun v2=>cond (v2 !=0) (some ((State.mk 0 [] []),v2)) ((M3 p2).bind fun v3=>cond v3 (some ((State.mk 0 [] []),10)) ((Lv v1).bind fun v4=>(Dg (WorldScene.mk p1 v1 v4 [] [])).bind fun v5=>(Sk).bind fun y1=>thenS ((CP v5.before).bind fun v6=>loopL (Ph p1 p2 v5) (fun (x1:Unit)=> .inl ()) v6 ()) (fun _=>some (v5.after,0)) (fun r=>some r)))
theorem XE(p1 p2 r)(h:Xl p1 p2=some r):PCall Tryz.prog 27 [(.agg (S3 p1)),(.list (List.map D2 p2))] (.tup [(.agg (U4 r.1)),(i64 r.2)]):=by
 refine C4 (fk Tryz.func27 Tryz.ntmps27 (fun r=>if r==8 then [1008001]else if r==9 then [1]else []) (by with_unfolding_all rfl)) (nl W) ?_
 unfold Xl at h
 refine B5 (s0:=⟨T [(0,(.d _)),(1,(.d _))],G []⟩) (F0 W W) ?_
 refine lr<|fun u1 _=>sm W<|sm W<|sn W W<|sm W<|A1<|A9<|sl W (gq W) W (sv W<|bs h fun v1 hv1 h=>B3 W W (.cons (.agg (ca W<|ca W<|.cons ⟨DLe.nil,W⟩ .nil)) .nil) (HV _ _ hv1) (.inl W) (sm W<|Z4 W G_hit (H7 v1) W (A1<|A5<|A9<|sd W (B1 W (gq W) W W)<|sd W (B1 W G_hit W W)<|bs h fun v2 hv2 h=>B3 W W A3 (Xy _ _ _ hv2) (.inl W) (sv W<|A1<|A9<|sv W<|sv W<|A1<|cc W h (fun c1 h=> ?_)<|fun c1 h=> ?_))))
 refine A9<|sv W<|sv W<|Z4 W (gq W) [(di 0),(.d .nilS),(.d .nilS)] W (Z4 W (gq W) [(di v2)] W (A1<|B0 ?_))
 cases h
 exact A6 (.inr W) (Rf (K3 W (gq W) (nl W) W) (EY W G_hit W) C2 C2) (.tup (.cons (.agg (ca W<|.cons ⟨DLe.nil,W⟩ (.cons ⟨DLe.nil,W⟩ .nil))) A3))
 refine A8<|A5<|A9<|sl W (gq W) W (bs h fun _ hv3 h=>B3 W W A3 (Je _ _ hv3) (.inl W) (A1<|cc W h (fun c2 h=> ?_)<|fun c2 h=> ?_))
 refine A9<|sv W<|Z4 W (gq W) [(di 0),(.d .nilS),(.d .nilS)] W (Z4 W (gq W) [(di 10)] W (A1<|B0 ?_))
 cases h
 exact A6 (.inr W) (Rf (K3 W (gq W) (nl W) W) (EY W G_hit W) C2 C2) (.tup (.cons (.agg (ca W<|.cons ⟨DLe.nil,W⟩ (.cons ⟨DLe.nil,W⟩ .nil))) A3))
 refine A8<|A5<|Tn W fun u8 _=>sd W (B1 W (gq W) W W)<|sd W (B1 W G_hit W W)<|sd W (B1 W G_hit W W)<|bs h fun _ hv4 h=>B3 W W A3 (HV _ _ hv4) (.inl W) (sv W<|sm W<|sn W W<|Z4 W G_hit [(.ptr (30,u8) 0)] W (A1<|A9<|sp W (Q6 W G_hit W)<|bs h fun v5 hv5 h=>MY (v:= .d (.tup [])) (us:= [(30,u8)]) (TH (CN _ _ hv5) [(30,u8)] [(30,u8)] _ (((30,u8),some<|.box 135 (Bc v5))::_) W Qi (Cv (uL (E5 W<|E5 W G_hit) W) CI) (Pe (E5 W<|E5 W G_hit) Mq) ⟨⟨_,(E5 W<|E5 W G_hit), .box (.cons (.of W) (.cons (.of W) (.cons (.of W) (.cons (.of W) (.cons (.of W) (.cons (.of W) (.cons (.of W) (.cons (.of W) (.cons (.of W) (.cons (.of W) (.cons (.of W) (.cons (DLe.d DLe.nil) (.cons (DLe.d DLe.nil) .nil)))))))))))))⟩,trivial⟩ (fun _ h=>h) nd1 W W W) (A1<|A5<|A9<|sp W (Q6 W (gq W) W)<|bs h fun _ hy1 h=>JG (fk Tryz.func81 Tryz.ntmps81 m0 (by with_unfolding_all rfl)) (fun (g1:Nat)=> [(2,(.ptr (2,u1) 0)),(3,(.ptr (3,u1) 0)),(4,(.ptr (4,u1) 0)),(5,(.ptr (5,u1) 0)),(8,(.ptr (8,u8) 0)),(34,(.fn (.func 174) [] [(.ptr (1,g1) 0)]))]) (fun (g1:Nat)=> [((2,u1),some<|.box 33 (M7 p1)),((3,u1),some<|.box 22 [(dl D2 p2)]),((4,u1),some<|.box 25 [(di 0),(.d .nilS),(.d .nilS)]),((5,u1),some<|.box 36 [(di 0)]),((8,u8),some<|.box 133 [(.ptr (30,u8) 0)]),((30,u8),some<|.box 135 (Bc v5)),((1,g1),some<|.box 133 [(.ptr (30,u8) 0)])]) W (nl W) ?_ ?_)))
 unfold Sk at hy1
 refine B5 (s0:=⟨T [(0,(.ptr _ _))],G [((30,u8),some<|.box 135 _),((2,u1),some<|.box 33 _),((3,u1),some<|.box 22 _),((4,u1),some<|.box 25 _),((5,u1),some<|.box 36 _),((8,u8),some<|.box 133 _)]⟩) (F0 W W) ?_
 refine lr<|fun u11 _=>sm W<|sv W<|A1<|A9<|C0 (.fn _ _ _) W W (C0 (.fn _ _ _) W W (A1<|B0 ?_))
 cases hy1
 exact XB (.inr W) (ZD<|B2 W) u11 (Bv W) (sg W<|sg W<|sg W<|sg W<|sg W<|sg W<|B4 G_hit (.of W) trivial)
 intro g1
 intro u13 hu13
 refine A1<|js h fun z1 hz1 h=>D8 (fun s=> ∃(y2:Unit) (g2:Unit),z1= .inl y2∧Sb ⟨T [(4,(.ptr (4,u1) 0)),(5,(.ptr (5,u1) 0)),(8,(.ptr (8,u8) 0))],G [((4,u1),some<|.box 25 [(di 0),(.d .nilS),(.d .nilS)]),((5,u1),some<|.box 36 [(di 0)]),((8,u8),some<|.box 133 [(.ptr (30,u8) 0)]),((30,u8),some<|.box 135 (Bc v5))]⟩ s) ?_ ?_
 refine A7<|bs hz1 fun v6 hv6 hz1=>B5 (s0:=⟨T [(2,(.ptr _ _)),(3,(.ptr _ _)),(4,(.ptr _ _)),(5,(.ptr _ _)),(8,(.ptr _ _)),(34,(.fn _ _ _))],G [((2,u1),some<|.box 33 _),((3,u1),some<|.box 22 _),((4,u1),some<|.box 25 _),((5,u1),some<|.box 36 _),((8,u8),some<|.box 133 _),((30,u8),some<|.box 135 _),((1,g1),some<|.box 133 _)]⟩) (F0 W W) ?_
 refine ZK (.fn (.func 174) [] [(.ptr (1,g1) 0)]) (CQ (1,g1) (30,u8) v5.before) RJ v6 (Ph p1 p2 v5) (fun (x1:Unit)=>(.inl ():Sum Unit (State×Int))) (fun (x1:Unit) (g3:Unit)=> [((2,u1),some<|.box 33 (M7 p1)),((3,u1),some<|.box 22 [(dl D2 p2)]),((4,u1),some<|.box 25 [(di 0),(.d .nilS),(.d .nilS)]),((5,u1),some<|.box 36 [(di 0)]),((8,u8),some<|.box 133 [(.ptr (30,u8) 0)]),((1,g1),some<|.box 133 [(.ptr (30,u8) 0)]),((30,u8),some<|.box 135 (Bc v5))]) () () _ W (RK hv6 _ _) (fun x1 g3 _ _=>⟨E5 W<|gq W,_,_,_,_,_,_,_,_,_,_,E5 W<|gq W⟩) (fun _=>W) hz1 (F0 W W) nofun ?_ ?_
 intro u15 hu15 hku15
 refine ⟨fun x1 g3=>(E5 W<|E5 W<|E5 W<|E5 W<|E5 W<|E5 W<|E5 W W),?_⟩
 intro r1 x1 g3 a1 z2 hrr1 hz2 ez2
 unfold Ph at hz2
 show Fu _ _ _ _ _ _ ⟨T [(36,(di a1.2)),(35,(di a1.1)),(2,(.ptr (2,u1) 0)),(3,(.ptr (3,u1) 0)),(4,(.ptr (4,u1) 0)),(5,(.ptr (5,u1) 0)),(8,(.ptr (8,u8) 0)),(34,(.fn (.func 174) [] [(.ptr (1,g1) 0)]))],G [((1000000,u15),some (.obj (T [(2,(.ptr (2,u1) 0)),(3,(.ptr (3,u1) 0)),(4,(.ptr (4,u1) 0)),(5,(.ptr (5,u1) 0)),(8,(.ptr (8,u8) 0)),(34,(.fn (.func 174) [] [(.ptr (1,g1) 0)]))]) r1)),((2,u1),some (.box 33 (M7 p1))),((3,u1),some (.box 22 [(dl D2 p2)])),((4,u1),some (.box 25 [(di 0),(.d .nilS),(.d .nilS)])),((5,u1),some (.box 36 [(di 0)])),((8,u8),some (.box 133 [(.ptr (30,u8) 0)])),((1,g1),some (.box 133 [(.ptr (30,u8) 0)])),((30,u8),some (.box 135 (Bc v5)))]⟩
 refine A9<|sv W<|A1<|C1<|sv W<|A1<|Y7<|dN G_hit ?_
 refine A7<|A5<|A5<|F1 W<|sd W (B1 W (gq W) W W)<|sl W (gq W) W (sv W<|bs hz2 fun _ hv7 hz2=>sd W (C5 W W hv7 W)<|sd W (D3 W hv7 W W)<|sl W (gq W) W (sv W<|bs hz2 fun _ hv8 hz2=>sd W (C5 W W hv8 W)<|sd W (D3 W hv8 W W)<|bs hz2 fun _ hv9 hz2=>B3 W W A3 (LO _ _ _ _ hv9) (.inl W) (A1<|cc W hz2 (fun c3 hz2=> ?_)<|fun c3 hz2=> ?_)))
 refine A9<|sv W<|Z4 W (gq W) [(di 0),(.d .nilS),(.d .nilS)] W (Z4 W (gq W) [(di 12)] W (A1<|B0 ?_))
 cases hz2
 obtain rfl:=ez2 _ rfl
 refine fP (gq W) nofun (F2 ?_)
 rw [bY]at h
 cases h
 exact A6 (.inr W) (Rf (K3 W (gq W) (nl W) W) (EY W (gq W) W) C2 C2) (.tup (.cons (.agg (ca W<|.cons ⟨DLe.nil,W⟩ (.cons ⟨DLe.nil,W⟩ .nil))) A3))
 refine A8<|A9<|sq W<|sl W (gq W) W (sd W (D5 W)<|sv W<|A1<|js hz2 fun z3 hz3 hz2=>D8 (fun s=> ∃(y3:Unit) (g4:Unit),z3= .inl y3∧Sb ⟨T [],G [((2,u1),some<|.box 33 (M7 p1)),((3,u1),some<|.box 22 [(dl D2 p2)]),((4,u1),some<|.box 25 [(di 0),(.d .nilS),(.d .nilS)]),((5,u1),some<|.box 36 [(di 0)]),((8,u8),some<|.box 133 [(.ptr (30,u8) 0)]),((1,g1),some<|.box 133 [(.ptr (30,u8) 0)]),((1000000,u15),some<|.obj (T [(2,(.ptr (2,u1) 0)),(3,(.ptr (3,u1) 0)),(4,(.ptr (4,u1) 0)),(5,(.ptr (5,u1) 0)),(8,(.ptr (8,u8) 0)),(34,(.fn (.func 174) [] [(.ptr (1,g1) 0)]))]) {r1 with state:= .busy}),((30,u8),some<|.box 135 (Bc v5))]⟩ s) ?_ ?_)
 refine A7<|E2 (Pg p1 v5 a1) (fun (x2:Int) (g5:Unit)=>⟨T [(4,(.ptr (4,u1) 0)),(5,(.ptr (5,u1) 0)),(8,(.ptr (8,u8) 0)),(9,(di a1.1)),(10,(di a1.2)),(50,(di (p1.Zones.length:Int))),(51,(di x2))],G [((4,u1),some<|.box 25 [(di 0),(.d .nilS),(.d .nilS)]),((5,u1),some<|.box 36 [(di 0)]),((8,u8),some<|.box 133 [(.ptr (30,u8) 0)]),((2,u1),some<|.box 33 (M7 p1)),((3,u1),some<|.box 22 [(dl D2 p2)]),((1,g1),some<|.box 133 [(.ptr (30,u8) 0)]),((1000000,u15),some<|.obj (T [(2,(.ptr (2,u1) 0)),(3,(.ptr (3,u1) 0)),(4,(.ptr (4,u1) 0)),(5,(.ptr (5,u1) 0)),(8,(.ptr (8,u8) 0)),(34,(.fn (.func 174) [] [(.ptr (1,g1) 0)]))]) {r1 with state:= .busy}),((30,u8),some<|.box 135 (Bc v5))]⟩) 0 () _ hz3 (F0 W W) ?_
 intro x2 g5 z4 hz4 ez4
 unfold Pg at hz4
 refine A9<|sv W<|A1<|A5<|cc W hz4 (fun c4 hz4=> ?_)<|fun c4 hz4=> ?_
 refine A8<|A5<|A7<|A9<|sv W<|sv W<|A1<|A9<|sp W (Q6 W (gq W) W)<|sv W<|sv W<|sv W<|bs hz4 fun _ hv10 hz4=>B3 W (F5 (Dt (gq W)<|rD<|rD<|rD<|rD<|rD<|rD<|rD<|rD<|rD<|rD<|rD<|rD<|rD G7)<|rD<|rD<|rD G7) A3 (Sj _ _ _ _ _ hv10) (.inr W) (A1<|cc W hz4 (fun c5 hz4=> ?_)<|fun c5 hz4=> ?_)
 refine A9<|sv W<|Z4 W G_hit [(di 0),(.d .nilS),(.d .nilS)] W (Z4 W (gq W) [(di 12)] W (A1<|B0 ?_))
 cases hz4
 obtain rfl:=ez4 _ rfl
 refine ⟨nofun,F2 ?_⟩
 rw [bY]at hz2
 cases hz2
 obtain rfl:=ez2 _ rfl
 refine fP (gq W) nofun (F2 ?_)
 rw [bY]at h
 cases h
 exact A6 (.inr W) (Rf (K3 W (gq W) (nl W) W) (EY W (gq W) W) C2 C2) (.tup (.cons (.agg (ca W<|.cons ⟨DLe.nil,W⟩ (.cons ⟨DLe.nil,W⟩ .nil))) A3))
 refine A8<|E4<|C1<|sv W<|sv W<|A1<|E3 ?_
 cases hz4
 exact ⟨W,(),(F0 W W)⟩
 refine C9 W ?_
 cases hz4
 obtain rfl:=ez4 _ rfl
 refine ⟨nofun,C6 W<|Y7 ?_⟩
 exact ⟨_,(),W,(F0 W W)⟩
 rintro _ ⟨y3,g4,rfl,q1⟩
 rw [bX]at hz2
 refine E4<|E3 ?_
 cases hz2
 exact rB q1 (gq W) () (B4 G_hit (.of W)<|sg W<|sg W<|sg W<|sg W<|sg W<|sg W trivial)
 rintro x1 g3 _ rfl qx1
 refine E4<|Y7 ?_
 exact ⟨_,(),W,(Sb.after qx1<|F0 W W)⟩
 rintro _ ⟨y2,g2,rfl,q2⟩
 rw [bX]at h
 refine B5 q2<|A9<|sp W (Q6 W (gq W) W)<|sq W<|sp W W<|sd W (B1 W (gq W) W W)<|Z4 W G_hit (H7 v5.after) W (Z4 W (gq W) [(di 0)] W (A1<|B0 ?_))
 cases h
 exact A6 (.inr W) (Rf (K3 W (gq W) (nl W) W) (EY W G_hit W) C2 C2) (.refl _)
def Ia (p1:Int):Option Int:=
  (cond (decide (p1≥4294967296)) (some ((p1.fdiv (2^ (min (32:Int).toNat (IntKind.bits .u64)))),32)) (some (p1,0))).bind fun y1=>(cond (decide (y1.1≥65536)) (some ((y1.1.fdiv (2^ (min (16:Int).toNat (IntKind.bits .u64)))),(C3 (y1.2+16)))) (some (y1.1,y1.2))).bind fun y2=>cond (decide (y2.1≥256)) ((iL (ByteArray.mk #[0,1,2,2,3,3,3,3,4,4,4,4,4,4,4,4,5,5,5,5,5,5,5,5,5,5,5,5,5,5,5,5,6,6,6,6,6,6,6,6,6,6,6,6,6,6,6,6,6,6,6,6,6,6,6,6,6,6,6,6,6,6,6,6,7,7,7,7,7,7,7,7,7,7,7,7,7,7,7,7,7,7,7,7,7,7,7,7,7,7,7,7,7,7,7,7,7,7,7,7,7,7,7,7,7,7,7,7,7,7,7,7,7,7,7,7,7,7,7,7,7,7,7,7,7,7,7,7,8,8,8,8,8,8,8,8,8,8,8,8,8,8,8,8,8,8,8,8,8,8,8,8,8,8,8,8,8,8,8,8,8,8,8,8,8,8,8,8,8,8,8,8,8,8,8,8,8,8,8,8,8,8,8,8,8,8,8,8,8,8,8,8,8,8,8,8,8,8,8,8,8,8,8,8,8,8,8,8,8,8,8,8,8,8,8,8,8,8,8,8,8,8,8,8,8,8,8,8,8,8,8,8,8,8,8,8,8,8,8,8,8,8,8,8,8,8,8,8,8,8,8,8,8,8,8,8]) (IntKind.wrap .u8 (y2.1.fdiv (2^ (min (8:Int).toNat (IntKind.bits .u64)))))).bind fun v1=>some (C3 ((C3 (y2.2+8))+ (C3 v1)))) ((iL (ByteArray.mk #[0,1,2,2,3,3,3,3,4,4,4,4,4,4,4,4,5,5,5,5,5,5,5,5,5,5,5,5,5,5,5,5,6,6,6,6,6,6,6,6,6,6,6,6,6,6,6,6,6,6,6,6,6,6,6,6,6,6,6,6,6,6,6,6,7,7,7,7,7,7,7,7,7,7,7,7,7,7,7,7,7,7,7,7,7,7,7,7,7,7,7,7,7,7,7,7,7,7,7,7,7,7,7,7,7,7,7,7,7,7,7,7,7,7,7,7,7,7,7,7,7,7,7,7,7,7,7,7,8,8,8,8,8,8,8,8,8,8,8,8,8,8,8,8,8,8,8,8,8,8,8,8,8,8,8,8,8,8,8,8,8,8,8,8,8,8,8,8,8,8,8,8,8,8,8,8,8,8,8,8,8,8,8,8,8,8,8,8,8,8,8,8,8,8,8,8,8,8,8,8,8,8,8,8,8,8,8,8,8,8,8,8,8,8,8,8,8,8,8,8,8,8,8,8,8,8,8,8,8,8,8,8,8,8,8,8,8,8,8,8,8,8,8,8,8,8,8,8,8,8,8,8,8,8,8,8]) (IntKind.wrap .u8 y2.1)).bind fun v2=>some (C3 (y2.2+ (C3 v2))))
theorem JI(p1 r)(h:Ia p1=some r):PCall Tryz.prog 281 [(.v (.int .u64 p1))] (i64 r):=by
 refine C4 (fk Tryz.func281 Tryz.ntmps281 m0 (by with_unfolding_all rfl)) (nl W) ?_
 unfold Ia at h
 refine B5 (s0:=⟨T [(0,(.d _))],G []⟩) (F0 W W) ?_
 refine A9<|sv W<|A1<|A5<|A9<|sv W<|sv W<|A1<|bs h fun y1 hy1 h=>D8 (fun s=> ∃g1:Unit,Sb ⟨T [(0,(.d (.v (.int .u64 y1.1)))),(2,(di y1.2))],G []⟩ s) ?_ ?_
 refine cc W hy1 (fun c1 hy1=> ?_)<|fun c1 hy1=> ?_
 refine A9<|sv W<|sv W<|sv W<|A1<|C1<|sv W<|A1 ?_
 cases hy1
 exact Y7 ⟨(),(F0 W W)⟩
 refine A8 ?_
 cases hy1
 exact Y7 ⟨(),(F0 W W)⟩
 rintro _ ⟨g1,q1⟩
 refine B5 q1<|A5<|A9<|sv W<|sv W<|A1<|bs h fun y2 hy2 h=>D8 (fun s=> ∃g2:Unit,Sb ⟨T [(0,(.d (.v (.int .u64 y2.1)))),(2,(di y2.2))],G []⟩ s) ?_ ?_
 refine cc W hy2 (fun c2 hy2=> ?_)<|fun c2 hy2=> ?_
 refine A9<|sv W<|sv W<|sv W<|A1<|C1<|sv W<|sv W<|sv W<|A1 ?_
 cases hy2
 exact Y7 ⟨(),(F0 W W)⟩
 refine A8 ?_
 cases hy2
 exact Y7 ⟨(),(F0 W W)⟩
 rintro _ ⟨g2,q2⟩
 refine B5 q2<|A5<|A9<|sv W<|sv W<|A1<|cc W h (fun c3 h=> ?_)<|fun c3 h=> ?_
 refine A9<|sv W<|sv W<|sv W<|A1<|C1<|sv W<|sv W<|sv W<|A1<|A9<|sv W<|sv W<|sv W<|bs h fun _ hv1 h=>sd W (nX W W hv1)<|sv W<|sv W<|sv W<|A1<|B0 ?_
 cases h
 exact A6 (.inr W) (B6 (B2 W) C2) (.refl _)
 refine A8<|A9<|sv W<|sv W<|sv W<|bs h fun _ hv2 h=>sd W (nX W W hv2)<|sv W<|sv W<|sv W<|A1<|B0 ?_
 cases h
 exact A6 (.inr W) (B6 (B2 W) C2) (.refl _)
def En (p1:Int):Option Int:=
  (Ia p1).bind fun v1=>some v1
theorem BR(p1 r)(h:En p1=some r):PCall Tryz.prog 267 [(.v (.int .u64 p1))] (i64 r):=by
 refine C4 (fk Tryz.func267 Tryz.ntmps267 m0 (by with_unfolding_all rfl)) (nl W) ?_
 unfold En at h
 refine B5 (s0:=⟨T [(0,(.d _))],G []⟩) (F0 W W) ?_
 refine A9<|sv W<|A1<|A5<|Zr W<|A8<|A9<|sv W<|bs h fun _ hv1 h=>B3 W W A3 (JI _ _ hv1) (.inl W) (sv W<|A1<|B0 ?_)
 cases h
 exact A6 (.inr W) (B6 (B2 W) C2) (.refl _)
def Fb (p1:Int)(p2:Int):Option Bool:=
  (U2 p1).bind fun v1=>((cond v1 (U2 p2) (some default))).bind fun v2=>some ((v1&& (!v2))||(decide (p1<p2)))
theorem LP(p1 p2 r)(h:Fb p1 p2=some r):PCall Tryz.prog 277 [(i64 p1),(i64 p2)] (bo r):=by
 refine C4 (fk Tryz.func277 Tryz.ntmps277 m0 (by with_unfolding_all rfl)) (nl W) ?_
 unfold Fb at h
 refine B5 (s0:=⟨T [(0,(.d _)),(1,(.d _))],G []⟩) (F0 W W) ?_
 refine A9<|sv W<|A1<|A9<|sv W<|bs h fun v1 hv1 h=>B3 W W A3 (Ma _ _ hv1) (.inl W) (sv W<|gt W (fun _=>W)<|bs h fun v2 hv2 h=> ?_)
 refine N2 v1 (bo v2) (M9 W) (fun w2=>⟨_,[(di p2)],_,_,(by simp only [A2 w2];rfl),W,A3,Ma _ _<|B8 w2 hv2,(.inl W)⟩) ?_
 refine N1 _ (.d (bo (!v2))) W (M9 W) (fun w3=>(by simp only [A2 w3];rfl)) ?_
 refine sa W W W<|sv W<|gf W (fun _=>W)<|gf W (fun _=>W)<|gf W (fun w6=>(L9 (A2 w6) (A2 w6) W))<|sd W (N7 W W<|fun hc=>A2<|I7 hc)<|sv W<|A1<|B0 ?_
 cases h
 exact A6 (.inr W) (B6 (B2 W) C2) (.refl _)
def F6 (p2:Int)(x2:(Int× (List Int))):Option (Stp (Int× (List Int)) (List Int)):=
  ((cond (decide (x2.1>p2)) (B7 x2.2 x2.1) (some default))).bind fun v1=>((cond (decide (x2.1>p2)) (B7 x2.2 (C3 (x2.1 - 1))) (some default))).bind fun v2=>((cond (decide (x2.1>p2)) (Fb v1 v2) (some default))).bind fun v3=>cond ((decide (x2.1>p2))&&v3) ((B7 x2.2 (C3 (x2.1 - 1))).bind fun v4=>(B7 x2.2 x2.1).bind fun v5=>(B7 x2.2 x2.1).bind fun v6=>(B7 (Kj x2.2 x2.1 v4) (C3 (x2.1 - 1))).bind fun v7=>some (.go ((C3 (x2.1 - 1)),(Kj (Kj x2.2 x2.1 v4) (C3 (x2.1 - 1)) v5)))) (some (.out x2.2))
def G5 (p2:Int)(p3:Int)(x1:(Int× (List Int))):Option (Stp (Int× (List Int)) (List Int)):=
  cond (decide (x1.1<p3)) ((loop (F6 p2) (x1.1,x1.2)).bind fun y1=>some (.go ((C3 (x1.1+1)),y1))) (some (.out (x1.2)))
def K0 (p1:(List Int))(p2:Int)(p3:Int):Option (List Int):=
  loop (G5 p2 p3) ((C3 (p2+1)),p1)
theorem Og(p1 p2 p3 r)(h:K0 p1 p2 p3=some r):MCall Tryz.prog 271 [(.sl (900000,0)),(di p2),(di p3)] [(.arr 2 1 (List.map A4 p1))] (.d (.tup [])) [some (.arr 2 1 (List.map A4 r))] []:=by
 refine CJ (fk Tryz.func271 Tryz.ntmps271 m0 (by with_unfolding_all rfl)) W (nl W) ?_
 unfold K0 at h
 refine B5 (s0:=⟨T [(0,(.sl _)),(1,(.d _)),(2,(.d _))],G [((900000,0),some _)]⟩) (F0 W W) ?_
 refine A9<|sv W<|sv W<|sv W<|A1<|A7<|E2 (G5 p2 p3) (fun (x1:(Int× (List Int))) (g1:Unit)=>⟨T [(0,(.sl (900000,0))),(1,(di p2)),(2,(di p3)),(6,(di x1.1))],G [((900000,0),some<|.arr 2 1 (List.map A4 x1.2))]⟩) ((C3 (p2+1)),p1) () _ h (F0 W W) ?_
 intro x1 g1 z1 hz1 ez1
 unfold G5 at hz1
 refine A5<|A9<|sv W<|sv W<|sv W<|A1<|cc W hz1 (fun c1 hz1=> ?_)<|fun c1 hz1=> ?_
 refine A8<|A5<|A7<|A9<|sv W<|sv W<|A1<|bs hz1 fun y1 hy1 hz1=>D8 (fun s=> ∃g2:Unit,Sb ⟨T [(0,(.sl (900000,0))),(1,(di p2)),(2,(di p3)),(6,(di x1.1))],G [((900000,0),some<|.arr 2 1 (List.map A4 y1))]⟩ s) ?_ ?_
 refine A7<|E2 (F6 p2) (fun (x2:(Int× (List Int))) (g3:Unit)=>⟨T [(0,(.sl (900000,0))),(1,(di p2)),(2,(di p3)),(6,(di x1.1)),(7,(di x2.1))],G [((900000,0),some<|.arr 2 1 (List.map A4 x2.2))]⟩) (x1.1,x1.2) () _ hy1 (F0 W W) ?_
 intro x2 g3 z2 hz2 ez2
 unfold F6 at hz2
 refine A5<|A5<|F1 W<|sv W<|sv W<|sv W<|sv W<|N1 _ (.sl _) W (M9 W) (fun _=>W) (gt W (fun _=>W)<|bs hz2 fun v1 hv1 hz2=>N1 _ (.aptr _ _ _ _) W (M9 W) (fun w3=>(Ob (A2 w3) (A2 w3) G_hit (B8 w3 hv1))) (gt W (fun w4=>(Un (A2 w4) G_hit (B8 w4 hv1) W))<|N1 _ (.sl _) W (M9 W) (fun _=>W) (gt W (fun _=>W)<|gt W (vb W W W)<|bs hz2 fun v2 hv2 hz2=>N1 _ (.aptr _ _ _ _) W (M9 W) (fun w8=>(Ob (A2 w8) (A2 w8) G_hit (B8 w8 hv2))) (gt W (fun w9=>(Un (A2 w9) G_hit (B8 w9 hv2) W))<|bs hz2 fun v3 hv3 hz2=> ?_))))
 refine N2 _ (bo v3) (M9 W) (fun w10=>⟨_,[(di v1),(di v2)],_,_,(by simp only [A2 w10];rfl),W,A3,LP _ _ _<|B8 w10 hv3,(.inl W)⟩) ?_
 refine sa W W W<|A1<|cc W hz2 (fun c2 hz2=> ?_)<|fun c2 hz2=> ?_
 refine A8<|A5<|A7<|F1 W<|ss W<|sv W<|ss W<|sv W<|sv W<|ss W<|sv W<|sv W<|bs hz2 fun v4 hv4 hz2=>C0 (.aptr _ _ _ _) W (Ob W W G_hit hv4) (sd W (Un W G_hit hv4 W)<|ss W<|sv W<|bs hz2 fun v5 hv5 hz2=>C0 (.aptr _ _ _ _) W (Ob W W G_hit hv5) (sd W (Un W G_hit hv5 W)<|bs hz2 fun _ hv6 hz2=>C0 (.aptr _ _ _ _) W (Ob W W G_hit hv6) (Rz A4 _ _ _ (x2.1) _ v4 [(i64 v4)] W W W G_hit hv6 (nl W) W (bs hz2 fun _ hv7 hz2=>C0 (.aptr _ _ _ _) W (Ob W W G_hit hv7) (Rz A4 _ _ _ ((C3 (x2.1 - 1))) _ v5 [(i64 v5)] W W W G_hit hv7 (nl W) W (A1<|E4<|C1<|sv W<|sv W<|sv W<|A1<|E3 ?_))))))
 cases hz2
 exact ⟨W,(),(F0 W W)⟩
 refine C9 W ?_
 cases hz2
 obtain rfl:=ez2 _ rfl
 refine ⟨nofun,C6 W<|Y7 ?_⟩
 exact ⟨(),(F0 W W)⟩
 rintro _ ⟨g2,q1⟩
 refine E4<|B5 q1<|C1<|sv W<|sv W<|sv W<|A1<|E3 ?_
 cases hz1
 exact ⟨W,(),(F0 W W)⟩
 refine C9 W ?_
 cases hz1
 obtain rfl:=ez1 _ rfl
 refine ⟨nofun,C6 W<|E3 ?_⟩
 exact JC (.inl W) [] JD (.refl _) ⟨⟨G_hit,Jb⟩,trivial⟩
def N8 (p1:(List Int))(x1:(Int×Int×Int×Bool×Bool)):Option (Stp (Int×Int×Int×Bool×Bool) (List Int)):=
  cond (decide ((C3 (x1.2.1 - x1.1))≤12)) ((K0 p1 x1.1 x1.2.1).bind fun v1=>some (.out (v1))) (cond (x1.2.2.1==0) (none) ((cond (!x1.2.2.2.1) (none) (some ())).bind fun _=>none))
def P1 (p1:(List Int))(p2:Int)(p3:Int)(p4:Int):Option (List Int):=
  loop (N8 p1) (p2,p3,p4,true,true)
theorem Sl(p1 p2 p3 p4 r)(h:P1 p1 p2 p3 p4=some r):MCall Tryz.prog 266 [(.sl (900000,0)),(di p2),(di p3),(di p4)] [(.arr 2 1 (List.map A4 p1))] (.d (.tup [])) [some (.arr 2 1 (List.map A4 r))] []:=by
 refine CJ (fk Tryz.func266 Tryz.ntmps266 (fun r=>if r==4 then [1004003]else []) (by with_unfolding_all rfl)) W (nl W) ?_
 unfold P1 at h
 refine B5 (s0:=⟨T [(0,(.sl _)),(1,(.d _)),(2,(.d _)),(3,(.d _))],G [((900000,0),some _)]⟩) (F0 W W) ?_
 refine A9<|sv W<|A1<|A9<|sv W<|A1<|A7<|E2 (N8 p1) (fun (x1:(Int×Int×Int×Bool×Bool)) (g1:Unit)=>⟨T [(0,(.sl (900000,0))),(1,(di x1.1)),(2,(di x1.2.1)),(3,(di x1.2.2.1)),(8,(.d (bo x1.2.2.2.1))),(9,(.d (bo x1.2.2.2.2)))],G [((900000,0),some<|.arr 2 1 (List.map A4 p1))]⟩) (p2,p3,p4,true,true) () _ h (F0 W W) ?_
 intro x1 g1 z1 hz1 ez1
 unfold N8 at hz1
 refine A7<|A9<|sv W<|sv W<|sv W<|sv W<|A1<|A5<|A9<|sv W<|sv W<|A1<|cc W hz1 (fun c1 hz1=> ?_)<|fun c1 hz1=> ?_
 refine A9<|ss W<|sv W<|sv W<|bs hz1 fun v1 hv1 hz1=>MY (v:= .d (.tup [])) (us:= [(900000,0)]) (TH (Og _ _ _ _ hv1) [(900000,0)] [(900000,0)] _ (((900000,0),some<|.arr 2 1 (List.map A4 v1))::_) W Qi (Cv OF<|Cv LF<|Cv LF CI) (Pe G_hit Mq) ⟨⟨_,G_hit, .of W⟩,trivial⟩ (fun _ h=>h) nd1 W W W) (A1<|B0 ?_)
 cases hz1
 obtain rfl:=ez1 _ rfl
 refine ⟨nofun,F2 ?_⟩
 exact JC (.inr W) [] JD (.refl _) ⟨⟨G_hit,Jb⟩,trivial⟩
 refine A8<|A5<|A9<|sv W<|sv W<|A1<|cc W hz1 (fun c2 hz1=> ?_)<|fun c2 hz1=> ?_
 refine A9<|ss W<|sv W<|sv W ?_
 cases hz1
 refine A8<|A5<|A9<|sv W<|C0 (.d (bo (!x1.2.2.2.1))) W W (A1<|bs hz1 fun _ hy1 hz1=>D8 (fun s=> ∃g2:Unit,Sb ⟨T [(0,(.sl (900000,0))),(1,(di x1.1)),(2,(di x1.2.1)),(3,(di x1.2.2.1)),(8,(.d (bo x1.2.2.2.1))),(9,(.d (bo x1.2.2.2.2))),(10,(di<|C3 (x1.2.1 - x1.1)))],G [((900000,0),some<|.arr 2 1 (List.map A4 p1))]⟩ s) ?_ ?_)
 refine cc W hy1 (fun c3 hy1=> ?_)<|fun c3 hy1=> ?_
 refine A9<|ss W<|sv W<|sv W ?_
 cases hy1
 refine A8 ?_
 cases hy1
 exact Y7 ⟨(),(F0 W W)⟩
 rintro _ ⟨g2,q1⟩
 refine B5 q1<|A9<|ss W<|sv W<|sv W ?_
 cases hz1
def Q3 (p1:(List Int)):Option (List Int):=
  (En (IntKind.wrap .u64 (p1.length:Int))).bind fun v1=>(P1 p1 0 (p1.length:Int) v1).bind fun v2=>some v2
theorem Vv(p1 r)(h:Q3 p1=some r):MCall Tryz.prog 252 [(.sl (900000,0))] [(.arr 2 1 (List.map A4 p1))] (.d (.tup [])) [some (.arr 2 1 (List.map A4 r))] []:=by
 refine CJ (fk Tryz.func252 Tryz.ntmps252 (fun r=>if r==1 then [1001005]else []) (by with_unfolding_all rfl)) W (nl W) ?_
 unfold Q3 at h
 refine B5 (s0:=⟨T [(0,(.sl _))],G [((900000,0),some _)]⟩) (F0 W W) ?_
 refine A9<|ss W<|sd W (dO (f:=A4) W G_hit)<|sv W<|A1<|C1<|ss W<|sv W<|sv W<|sv W<|bs h fun _ hv1 h=>B3 W W A3 (BR _ _ hv1) (.inl W) (bs h fun v2 hv2 h=>MY (v:= .d (.tup [])) (us:= [(900000,0)]) (TH (Sl _ _ _ _ _ hv2) [(900000,0)] [(900000,0)] _ (((900000,0),some<|.arr 2 1 (List.map A4 v2))::_) W Qi (Cv OF<|Cv LF<|Cv LF<|Cv LF CI) (Pe G_hit Mq) ⟨⟨_,G_hit, .of W⟩,trivial⟩ (fun _ h=>h) nd1 W W W) (A1<|E3 ?_))
 obtain rfl:=(lD h)
 exact JC (.inl W) [] JD (.refl _) ⟨⟨G_hit,Jb⟩,trivial⟩
section
open Go.RowKit Go.Lib
def xR:Go.Shelf.Ren:=⟨fun n=>if n=43 then 253 else 0,fun t=>if t=22 then 48 else if t=23 then 2 else t,fun x=>x⟩
theorem cmp_lay:SlLaysE.n43 Tryz.prog xR where
  mixed:=by kernel_rfl
  f43:=⟨Tryz.f253.name,by decide,by kernel_rfl⟩
  t0:=Tryz.underlying0
  a0:=Tryz.isAgg0
  z0:=Tryz.sizeOf0
  v0:=Tryz.zeroValue0
  t3:=Tryz.underlying3
  a3:=Tryz.isAgg3
  z3:=Tryz.sizeOf3
  v3:=Tryz.zeroValue3
  t4:=Tryz.underlying4
  a4:=Tryz.isAgg4
  z4:=Tryz.sizeOf4
  v4:=Tryz.zeroValue4
  t22:=Tryz.underlying48
  a22:=Tryz.isAgg48
  z22:=Tryz.sizeOf48
  v22:=Tryz.zeroValue48
  a23:=Tryz.isAgg2
  z23:=Tryz.sizeOf2
theorem iO (g cap:Nat)(d:Array Int)(w:World)(hH:Go.Sort.Holds (Value.int .i64) w g 0 d)(hsz:d.size≤9223372036854775807)(hcap:d.size≤cap):
    Calls Tryz.prog 253 #[.slice (some ⟨g,0,none⟩) d.size cap] w fun e w'=>e= .returned (.slice (some ⟨g,0,none⟩) (Go.Lib.compactUpTo d d.size).length cap)∧∃q,w'=Go.Sort.putRow (Value.int .i64) (Go.Sort.ahead w q) g 0 (Go.Lib.compactUpTo d d.size++List.replicate (d.size - (Go.Lib.compactUpTo d d.size).length) 0).toArray:=
  AnyE.slices_Compact cmp_lay (Value.int .i64) (fun _=>rfl) (.intD _ _ _) (.intD _ _ _) 0 Tryz.zeroValue2 g 0 cap d w hH hsz hcap
theorem rP (d:Array Int):(Go.Lib.compactUpTo d d.size).length≤d.size:=by
  unfold Go.Lib.compactUpTo
  rw [lR]
  refine wG (List.length_filter_le _ _) ?_
  rw [List.length_range];exact wB _
theorem UU (xs:List Int): ∀m,m≤xs.length→Go.Lib.compactUpTo xs.toArray m=Hv (xs.take m)
  |0,_=>rfl
  |m+1,h=>by
   rw [Go.Lib.compactUpTo_succ,UU xs m (by omega),List.take_add_one,lH (by omega),Option.toList_some,OG]
   congr 1
   have hm:m<xs.length:=by omega
   have e1:xs.toArray[m]! =xs[m]:=by rw [getElem!_pos xs.toArray m (by simpa using hm)];simp
   rw [Go.Lib.keeps,e1]
   cases m with
   |zero=>simp
   |succ k=>
    have e2:xs.toArray[k]! =xs[k]:=by rw [getElem!_pos xs.toArray k (by rw [List.size_toArray];omega)];simp
    have e3:(xs.take (k+1)).getLast? =some xs[k]:=by rw [List.take_add_one,lH (by omega),Option.toList_some,List.getLast?_append];simp
    rw [Nat.add_sub_cancel,e2,e3]
    by_cases e:xs[k+1]=xs[k]
    ·simp [e]
    ·rw [bL (by simp [e]),bM (fun q=>e (lD q).symm)]
theorem wS (xs r:List Int)(hr:FG xs=some r):MCall Tryz.prog 253 [.sl (900000,0)] [.arr 2 1 (List.map A4 xs)] (.sl (800000,0)) [none] [some (.arr 2 1 (List.map A4 r))]:=by
  obtain ⟨hx,rfl⟩:=XA hr
  clear hr
  refine ⟨W,fun vs w=> ?_,fun w I ρ vs H hlen hrep=> ?_⟩
  ·have hn': ¬Tryz.f253.name= "runtime.NumGoroutine" :=by decide
   have hb: ∃c,Tryz.f253.body=some c:=⟨_,rfl⟩
   obtain ⟨c,hb⟩:=hb
   simp [callFunc,Tryz.func253,hb,hn']
  have hnx:0<xs.length:=List.length_pos_iff.2 hx
  obtain ⟨a,rfl⟩: ∃a,vs= [a]:=by
    match vs,hlen with
    | [a],_=>exact ⟨a,rfl⟩
  have r0:=hrep 0 _ rfl
  simp only [List.getD_cons_zero]at r0
  have hb0:G (EB 0 [Blk.arr 2 1 (List.map A4 xs)]) (Cu 0)=some (.arr 2 1 (List.map A4 xs)):=rfl
  obtain ⟨x0,cx,p1,p2,p3,p4⟩:=H.blk _ _ hb0
  have e0:a=x0:=by
    cases r0 with
    |sl _ _ h=>exact lD (h.symm.trans p1)
  subst e0
  obtain ⟨hxl,hx'|⟨g,c,cur,rfl,_,hg,hnc,hcm,hcs,hxc⟩⟩:=p2
  ·rw [lR]at hx';omega
  rw [lR]at hxl hnc hxc
  have hval: ∀i (hi:i<xs.length),cur[i]? =some (.int .i64 xs[i]):=by
    intro i hi
    obtain ⟨_,g2⟩:=p4 i 0 (.v (.int .i64 xs[i])) (by simp [Xp,hi,A4])
    have:cx.getD (i*1+0) undef= .int .i64 xs[i]:=by generalize cx.getD (i*1+0) undef=y at g2;cases g2;rfl
    rw [← hxc,List.getD,l8,bL (by omega),Nat.mul_one,Nat.add_zero,Array.getElem?_toList]at this
    rw [Array.getElem?_eq_getElem (by omega)]at this ⊢
    rw [Option.getD_some]at this
    rw [this]
  have hH:Go.Sort.Holds (Value.int .i64) w g 0 xs.toArray:=by
    intro j hj
    rw [List.size_toArray]at hj
    have h2:=hval j hj
    refine ⟨?_,by simp [World.frozen?,hg]⟩
    simp [World.cell?,hg,h2,hj]
  have locx:Q5 ρ (Cu 0) (.arr 2 1 (List.map A4 xs))=some g:=by simp [Q5,p1,Value.ownBlock]
  have hca:=iO g c xs.toArray w hH (by rw [List.size_toArray];unfold maxLen at hcm;omega) (by rw [List.size_toArray];exact hnc)
  have hcl:=rP xs.toArray
  rw [List.size_toArray]at hca hcl
  rw [lR]
  refine hca.mono ?_
  rintro e w' ⟨rfl,q,hw'⟩
  have hheap: ∀k,w'.heap[k]? =if k=g then some (.cells (Go.Sort.putCells (Value.int .i64) 0 (Go.Lib.compactUpTo xs.toArray xs.length++List.replicate (xs.length - (Go.Lib.compactUpTo xs.toArray xs.length).length) 0).toArray cur) 2 (0,0))else w.heap[k]?:=by
    intro k
    rw [hw']
    show (w.heap.modify g _)[k]? =_
    rw [Array.getElem?_modify]
    by_cases e:g=k
    ·subst e;rw [bL rfl,bL rfl,hg];rfl
    ·rw [bM e,bM (Ne.symm e)]
  have hos:w'.os=w.os∧w'.tape=w.tape∧w'.output=w.output∧w'.heap.size=w.heap.size:=by rw [hw'];exact ⟨rfl,rfl,rfl,by simp⟩
  clear hw' hca hH
  generalize hC:Go.Lib.compactUpTo xs.toArray xs.length=C at hcl hheap ⊢
  have hCc:Hv xs=C:=by rw [← hC,UU xs _ (wB _),List.take_length]
  rw [hCc]
  obtain ⟨Z,hZ⟩: ∃Z:Array Int,Z=(C++List.replicate (xs.length - C.length) 0).toArray:=⟨_,rfl⟩
  rw [← hZ]at hheap
  have hZs:Z.size=xs.length:=by rw [hZ];simp;omega
  have hZg: ∀i (hi:i<C.length),Z[i]! =C[i]:=by
    intro i hi
    have hlt:i<Z.size:=by omega
    rw [getElem!_pos Z i hlt]
    subst hZ
    rw [List.getElem_toArray,List.getElem_append_left hi]
  clear hZ hC hCc
  obtain ⟨u0,hu0⟩:=H.fresh
  have hk0:ρ (7,u0)=none:=hu0 7 u0 (wB _)
  have hgI: ¬I g:=H.notI _ _ g hb0 locx
  have hgo:own ρ (G (EB 0 [Blk.arr 2 1 (List.map A4 xs)])) g:=⟨_,_,hb0,locx⟩
  have hother: ∀k,k≠g→w'.heap[k]? =w.heap[k]?:=fun k hk=>by rw [hheap,bM hk]
  have hI': ∀b,I b→w'.heap[b]? =w.heap[b]?:=fun b hb=>hother b (fun e=>hgI (e▸hb))
  have H0:HeapOK w' I ρ (fun _=>none):=⟨fun k b hb=>(by cases hb),fun k k' b b' g h1=>(by cases h1),fun k b g h1=>(by cases h1),fun k b g h1=>(by cases h1),fun b hb=>by rw [hos.2.2.2];exact H.ilt b hb,⟨u0,hu0⟩,H.rone⟩
  have hloc: ∀k,Q5 (Dr ρ (7,u0) (some (Value.slice (some ⟨g,0,none⟩) C.length c))) (7,u0) (.arr 2 1 (List.map A4 C))=some k→k=g:=by
    intro k hk
    have:some g=some k:=by simpa [Q5,I3,Value.ownBlock] using hk
    exact (lD this).symm
  have hown: ∀g,¬own ρ (fun _=>none) g:=fun g ⟨k,b,h,_⟩=>by cases h
  have hsz:(Go.Sort.putCells (Value.int .i64) 0 Z cur).size=c:=by unfold Go.Sort.putCells;rw [Array.size_mapIdx,hcs,Nat.mul_one]
  have Hn:=YC H0 (7,u0) (Value.slice (some ⟨g,0,none⟩) C.length c) (.arr 2 1 (List.map A4 C)) hk0 rfl (fun k hk=>by
    rw [hloc k hk]
    exact ⟨hown g,hgI,by rw [hos.2.2.2];exact H.lt _ _ g hb0 locx⟩)
    ⟨_,C.map (Value.int .i64),I3 _ _ _,⟨by simp, .inr ⟨g,c,_,by rw [lR],wC _,by rw [hheap,bL rfl],by rw [lR];omega,hcm,by rw [hsz,Nat.mul_one],by
      rw [lR,Nat.mul_one]
      apply List.ext_getElem
      ·have h3:(Go.Sort.putCells (Value.int .i64) 0 Z cur).toList.length=c:=hsz
       rw [lU,h3,lR];omega
      ·intro i h1 h2
       rw [lR]at h2
       rw [List.getElem_take,Array.getElem_toList,List.getElem_map]
       unfold Go.Sort.putCells
       rw [Array.getElem_mapIdx,bL ⟨wC _,by omega⟩,Nat.sub_zero,hZg i h2]⟩⟩,by
      intro q hq
      obtain ⟨z,_,rfl⟩:=List.mem_map.1 hq
      rfl,by
      intro r j d' hd'
      unfold Xp at hd'
      rw [lJ]at hd'
      cases hr:C[r]? with
      |none=>rw [hr]at hd';cases hd'
      |some z=>
       rw [hr]at hd'
       match j,hd' with
       |0,hd'=>
        cases hd'
        refine ⟨W,?_⟩
        rw [Nat.mul_one,Nat.add_zero,List.getD,lJ,hr]
        exact .v _
       |j+1,hd'=>simp [A4]at hd'⟩
  refine ⟨_, .sl (7,u0),I,_,_,W, .sl _ _ (I3 _ _ _),Hn,⟨hos.1,hos.2.1,hos.2.2.1,by rw [hos.2.2.2];exact wB _,fun b hb hn'=>hother b<|fun e=>hn' (e▸hgo),fun _ hb=>hb,fun _ hb _=> .inl hb,?_,WD hk0⟩,fun _=>(7,u0),W,?_,?_,?_,?_⟩
  ·rintro k ⟨k',b',h1,h2⟩ hl
   by_cases ek:k'=(7,u0)
   ·subst ek
    rw [I3]at h1
    cases h1
    rw [hloc k h2];exact hgo
   ·rw [N0 _ _ _ _ ek]at h1;cases h1
  ·intro j b hb
   match j,hb with
   |0,hb=>cases hb
   |j+1,hb=>simp at hb
  ·intro j b hb
   match j,hb with
   |0,hb=>cases hb;exact I3 _ _ _
   |j+1,hb=>simp at hb
  ·intro j _ i _ e;simp only [Cu,Prod.mk.injEq]at e;omega
  ·intro j j' h1 h2 _
   simp only [lK,lM]at h1 h2
   omega
theorem oC (A:Option Addr)(w:World):Calls Tryz.prog 253 #[.slice A 0 0] w fun e w'=>e= .returned (.slice A 0 0)∧∃q,w'=w.drewN q:=by
  have mixed:=cmp_lay.mixed
  have v0:=Tryz.zeroValue2
  go_enter Tryz.func253,Tryz.ntmps253
  go_wp2
  go_ret
  exact ⟨W,0,W⟩
theorem rQ:PCall Tryz.prog 253 [.nilS] .nilS:=by
  refine ⟨fun vs w=> ?_,fun w I vs hI hlen hrep=> ?_⟩
  ·have hn': ¬Tryz.f253.name= "runtime.NumGoroutine" :=by decide
   have hb: ∃c,Tryz.f253.body=some c:=⟨_,rfl⟩
   obtain ⟨c,hb⟩:=hb
   simp [callFunc,Tryz.func253,hb,hn']
  obtain ⟨a,rfl⟩: ∃a,vs= [a]:=by
    match vs,hlen with
    | [a],_=>exact ⟨a,rfl⟩
  have r0:=hrep 0 _ rfl
  simp only [List.getD_cons_zero]at r0
  cases r0 with
  |nilS A=>
   refine (oC A w).mono ?_
   rintro e w' ⟨rfl,q,rfl⟩
   exact ⟨_,I,W, .nilS A,W,W,W,wB _,fun _ _=>W,fun _ hb=>hb,fun _ hb _=>hb,hI⟩
end
def N3 (p1:Int)(x2:Int):Option (Stp Int Unit):=
  ((cond (decide (x2>p1)) ((none:Option Unit)) (some default))).bind fun v1=>cond ((decide (x2>p1))&&false) (none) (some (.out ()))
def N4 (p1:Int)(p2:Int)(x1:Int):Option (Stp Int Unit):=
  cond (decide (x1<p2)) ((loop (N3 p1) x1).bind fun _=>some (.go (C3 (x1+1)))) (some (.out (())))
def M8 (p1:Int)(p2:Int):Option Unit:=
  loop (N4 p1 p2) (C3 (p1+1))
theorem Oh(p1 p2 r)(h:M8 p1 p2=some r):PCall Tryz.prog 271 [.nilS,(i64 p1),(i64 p2)] (.tup []):=by
 refine C4 (fk Tryz.func271 Tryz.ntmps271 m0 (by with_unfolding_all rfl)) (nl W) ?_
 unfold M8 at h
 refine B5 (s0:=⟨T [(0,(.d _)),(1,(.d _)),(2,(.d _))],G []⟩) (F0 W W) ?_
 refine A9<|sv W<|sv W<|sv W<|A1<|A7<|E2 (N4 p1 p2) (fun (x1:Int) (g1:Unit)=>⟨T [(0,(.d .nilS)),(1,(di p1)),(2,(di p2)),(6,(di x1))],G []⟩) (C3 (p1+1)) () _ h (F0 W W) ?_
 intro x1 g1 z1 hz1 ez1
 unfold N4 at hz1
 refine A5<|A9<|sv W<|sv W<|sv W<|A1<|cc W hz1 (fun c1 hz1=> ?_)<|fun c1 hz1=> ?_
 refine A8<|A5<|A7<|A9<|sv W<|sv W<|A1<|bs hz1 fun _ hy1 hz1=>D8 (fun s=> ∃g2:Unit,Sb ⟨T [(0,(.d .nilS)),(1,(di p1)),(2,(di p2)),(6,(di x1))],G []⟩ s) ?_ ?_
 refine A7<|E2 (N3 p1) (fun (x2:Int) (g3:Unit)=>⟨T [(0,(.d .nilS)),(1,(di p1)),(2,(di p2)),(6,(di x1)),(7,(di x2))],G []⟩) x1 () _ hy1 (F0 W W) ?_
 intro x2 g3 z2 hz2 ez2
 unfold N3 at hz2
 refine A5<|A5<|F1 W<|sv W<|sv W<|sv W<|sv W<|gt W (fun _=>W)<|gt W (fun _=>W)<|bs hz2 fun _ hv1 hz2=>N1 _ (.d (.tup [])) W (M9 W) (fun w3=>nomatch B8 w3 hv1) (N1 _ (di 0) W (M9 W) (fun w4=>nomatch B8 w4 hv1) (N1 _ (.d (.tup [])) W (M9 W) (fun w5=>nomatch B8 w5 hv1) (N1 _ (di 0) W (M9 W) (fun w6=>nomatch B8 w6 hv1) (N1 _ (di 0) W (M9 W) (fun w7=>nomatch B8 w7 hv1) (N1 _ (.d (.tup [])) W (M9 W) (fun w8=>nomatch B8 w8 hv1) (N1 _ (di 0) W (M9 W) (fun w9=>nomatch B8 w9 hv1) (N2 _ (bo false) (M9 W) (fun w10=>nomatch B8 w10 hv1) (sa W W W<|A1<|cc W hz2 (fun c2 hz2=> ?_)<|fun c2 hz2=> ?_))))))))
 refine A8<|A5<|A7<|F1 W<|sv W<|sv W<|sv W<|sv W<|sv W<|sv W<|sv W<|sv W ?_
 cases hz2
 refine C9 W ?_
 cases hz2
 obtain rfl:=ez2 _ rfl
 refine ⟨nofun,C6 W<|Y7 ?_⟩
 exact ⟨(),(F0 W W)⟩
 rintro _ ⟨g2,q1⟩
 refine E4<|B5 q1<|C1<|sv W<|sv W<|sv W<|A1<|E3 ?_
 cases hz1
 exact ⟨W,(),(F0 W W)⟩
 refine C9 W ?_
 cases hz1
 obtain rfl:=ez1 _ rfl
 refine ⟨nofun,C6 W<|E3 ?_⟩
 exact A6 (.inl W) W (.refl _)
def N9 (x1:(Int×Int×Int×Bool×Bool)):Option (Stp (Int×Int×Int×Bool×Bool) Unit):=
  cond (decide ((C3 (x1.2.1 - x1.1))≤12)) ((M8 x1.1 x1.2.1).bind fun v1=>some (.out (()))) (cond (x1.2.2.1==0) (none) ((cond (!x1.2.2.2.1) (none) (some ())).bind fun _=>none))
def P2 (p1:Int)(p2:Int)(p3:Int):Option Unit:=
  loop (N9) (p1,p2,p3,true,true)
theorem Sm(p1 p2 p3 r)(h:P2 p1 p2 p3=some r):PCall Tryz.prog 266 [.nilS,(i64 p1),(i64 p2),(i64 p3)] (.tup []):=by
 refine C4 (fk Tryz.func266 Tryz.ntmps266 m0 (by with_unfolding_all rfl)) (nl W) ?_
 unfold P2 at h
 refine B5 (s0:=⟨T [(0,(.d _)),(1,(.d _)),(2,(.d _)),(3,(.d _))],G []⟩) (F0 W W) ?_
 refine A9<|sv W<|A1<|A9<|sv W<|A1<|A7<|E2 (N9) (fun (x1:(Int×Int×Int×Bool×Bool)) (g1:Unit)=>⟨T [(0,(.d .nilS)),(1,(di x1.1)),(2,(di x1.2.1)),(3,(di x1.2.2.1)),(8,(.d (bo x1.2.2.2.1))),(9,(.d (bo x1.2.2.2.2)))],G []⟩) (p1,p2,p3,true,true) () _ h (F0 W W) ?_
 intro x1 g1 z1 hz1 ez1
 unfold N9 at hz1
 refine A7<|A9<|sv W<|sv W<|sv W<|sv W<|A1<|A5<|A9<|sv W<|sv W<|A1<|cc W hz1 (fun c1 hz1=> ?_)<|fun c1 hz1=> ?_
 refine A9<|sv W<|sv W<|sv W<|bs hz1 fun _ hv1 hz1=>B3 W W A3 (Oh _ _ _ hv1) (.inl W) (A1<|B0 ?_)
 cases hz1
 obtain rfl:=ez1 _ rfl
 refine ⟨nofun,F2 ?_⟩
 exact A6 (.inr W) W (.refl _)
 refine A8<|A5<|A9<|sv W<|sv W<|A1<|cc W hz1 (fun c2 hz1=> ?_)<|fun c2 hz1=> ?_
 refine A9<|sv W<|sv W<|sv W ?_
 cases hz1
 refine A8<|A5<|A9<|sv W<|C0 (.d (bo (!x1.2.2.2.1))) W W (A1<|bs hz1 fun _ hy1 hz1=>D8 (fun s=> ∃g2:Unit,Sb ⟨T [(0,(.d .nilS)),(1,(di x1.1)),(2,(di x1.2.1)),(3,(di x1.2.2.1)),(8,(.d (bo x1.2.2.2.1))),(9,(.d (bo x1.2.2.2.2))),(10,(di<|C3 (x1.2.1 - x1.1)))],G []⟩ s) ?_ ?_)
 refine cc W hy1 (fun c3 hy1=> ?_)<|fun c3 hy1=> ?_
 refine A9<|sv W<|sv W<|sv W ?_
 cases hy1
 refine A8 ?_
 cases hy1
 exact Y7 ⟨(),(F0 W W)⟩
 rintro _ ⟨g2,q1⟩
 refine B5 q1<|A9<|sv W<|sv W<|sv W ?_
 cases hz1
def Q4:Option Unit:=
  (En (IntKind.wrap .u64 0)).bind fun v1=>(P2 0 0 v1).bind fun v2=>some ()
theorem Vw(r)(h:Q4=some r):PCall Tryz.prog 252 [.nilS] (.tup []):=by
 refine C4 (fk Tryz.func252 Tryz.ntmps252 m0 (by with_unfolding_all rfl)) (nl W) ?_
 unfold Q4 at h
 refine B5 (s0:=⟨T [(0,(.d _))],G []⟩) (F0 W W) ?_
 refine A9<|sv W<|sv W<|sv W<|A1<|C1<|sv W<|sv W<|sv W<|sv W<|bs h fun _ hv1 h=>B3 W W A3 (BR _ _ hv1) (.inl W) (bs h fun _ hv2 h=>B3 W W A3 (Sm _ _ _ _ hv2) (.inl W) (A1<|E3 ?_))
 cases h
 exact A6 (.inl W) W (.refl _)
def Db (p1:Map)(p2:Int)(p3:Int)(v1:Zone)(x2:((List Int)×Int)):Option (Stp ((List Int)×Int) (List Int)):=
  cond (decide (x2.2< (v1.Parts.length:Int))) ((B7 v1.Parts x2.2).bind fun v2=>((cond (v2.Lane_==p2) (B7 p1.Signals (C3 (v1.Signal_ - 1))) (some default))).bind fun v3=>((cond (v2.Lane_==p2) (Iq v3 p2 p3) (some default))).bind fun v4=>cond ((v2.Lane_==p2)&& (!v4)) ((Z2 x2.1 [v2.From]).bind fun v5=>some (.go (v5,(C3 (x2.2+1))))) (some (.go (x2.1,(C3 (x2.2+1)))))) (some (.out x2.1))
def Dc (p1:Map)(p2:Int)(p3:Int)(x1:((List Int)×Int)):Option (Stp ((List Int)×Int) (List Int)):=
  cond (decide (x1.2< (p1.Zones.length:Int))) ((B7 p1.Zones x1.2).bind fun v1=>cond (v1.Signal_==0) (some (.go (x1.1,(C3 (x1.2+1))))) ((loop (Db p1 p2 p3 v1) (x1.1,0)).bind fun y2=>some (.go (y2,(C3 (x1.2+1)))))) (some (.out x1.1))
def Rm (p1:Map)(p2:Int)(p3:Int):Option (List Int):=
  (loop (Dc p1 p2 p3) ([],0)).bind fun y1=>cond (List.isEmpty y1) ((Q4).bind fun v8=>some []) ((Q3 y1).bind fun v6=>(FG v6).bind fun v7=>some v7)
theorem XF(p1 p2 p3 r)(h:Rm p1 p2 p3=some r):PCall Tryz.prog 223 [(.agg (S3 p1)),(i64 p2),(i64 p3)] (.list (List.map A4 r)):=by
 refine C4 (fk Tryz.func223 Tryz.ntmps223 (fun r=>if r==10 then [1003]else if r==13 then [1013001]else if r==14 then [1014001]else []) (by with_unfolding_all rfl)) (nl W) ?_
 unfold Rm at h
 refine B5 (s0:=⟨T [(0,(.d _)),(1,(.d _)),(2,(.d _))],G []⟩) (F0 W W) ?_
 refine lr<|fun u1 _=>sm W<|sv W<|A1<|A9<|sv W<|A1<|A5<|A9<|sq W<|sl W G_hit W<|sd W (D5 W)<|sv W<|A1<|bs h fun y1 hy1 h=>D8 (fun s=> ∃g1:Nat,Sb ⟨T [(7,(oS y1 (50,g1)))],G [((50,g1),oB 2 1 A4 y1)]⟩ s) ?_ ?_
 refine A7<|E2 (Dc p1 p2 p3) (fun (x1:((List Int)×Int)) (g2:Nat)=>⟨T [(1,(di p2)),(2,(di p3)),(3,(.ptr (3,u1) 0)),(7,(oS x1.1 (50,g2))),(13,(dl Ka p1.Zones)),(14,(di (p1.Zones.length:Int))),(15,(di x1.2))],G [((3,u1),some<|.box 33 (M7 p1)),((50,g2),oB 2 1 A4 x1.1)]⟩) ([],0) 0 _ hy1 (E0 (Bv W)<|B4 G_hit (.of W)<|W0 trivial) ?_
 intro x1 g2 z1 hz1 ez1
 unfold Dc at hz1
 refine A9<|sv W<|A1<|A5<|cc W hz1 (fun c1 hz1=> ?_)<|fun c1 hz1=> ?_
 refine A8<|A5<|A7<|lr<|fun u5 _=>bs hz1 fun v1 hv1 hz1=>sd W (C5 W W hv1 W)<|sd W (D3 W hv1 W W)<|sm W<|Z4 W G_hit [(dl Dq v1.Parts),(di v1.Signal_)] W (A1<|A5<|A9<|sq W<|sl W G_hit W<|sv W<|A1<|cc W hz1 (fun c2 hz1=> ?_)<|fun c2 hz1=> ?_)
 refine Tm W<|C1<|sv W<|sv W<|A1<|E3 ?_
 cases hz1
 exact ⟨W,g2,(E0 (Bv W)<|sg W<|B9 (gq W) trivial)⟩
 refine A8<|A9<|sq W<|sl W G_hit W<|sd W (D5 W)<|sv W<|A1<|bs hz1 fun y2 hy2 hz1=>D8 (fun s=> ∃g3:Nat,Sb ⟨T [(1,(di p2)),(2,(di p3)),(3,(.ptr (3,u1) 0)),(7,(oS y2 (50,g3))),(13,(dl Ka p1.Zones)),(14,(di (p1.Zones.length:Int))),(15,(di x1.2))],G [((3,u1),some<|.box 33 (M7 p1)),((50,g3),oB 2 1 A4 y2)]⟩ s) ?_ ?_
 refine A7<|E2 (Db p1 p2 p3 v1) (fun (x2:((List Int)×Int)) (g4:Nat)=>⟨T [(1,(di p2)),(2,(di p3)),(3,(.ptr (3,u1) 0)),(7,(oS x2.1 (50,g4))),(9,(.ptr (9,u5) 0)),(13,(dl Ka p1.Zones)),(14,(di (p1.Zones.length:Int))),(15,(di x1.2)),(23,(dl Dq v1.Parts)),(24,(di (v1.Parts.length:Int))),(25,(di x2.2))],G [((3,u1),some<|.box 33 (M7 p1)),((9,u5),some<|.box 117 [(dl Dq v1.Parts),(di v1.Signal_)]),((50,g4),oB 2 1 A4 x2.1)]⟩) (x1.1,0) g2 _ hy2 (E0 (Bv W)<|sg W<|B4 G_hit (.of W)<|B9 (gq W) trivial) ?_
 intro x2 g4 z2 hz2 ez2
 unfold Db at hz2
 refine A9<|sv W<|A1<|A5<|cc W hz2 (fun c3 hz2=> ?_)<|fun c3 hz2=> ?_
 refine A8<|A5<|A7<|A9<|bs hz2 fun v2 hv2 hz2=>sd W (C5 W W hv2 W)<|sd W (D3 W hv2 W W)<|sm W<|Z4 W G_hit (Zt v2) W (A1<|A9<|sq W<|sl W G_hit W<|sv W<|sv W<|sv W<|gp W (M9 W) (fun _=>W) (gt W (vl W (gq W) W)<|gp W (M9 W) (fun _=>W) (gt W (vl W (gq W) W)<|gt W (vb W W W)<|bs hz2 fun v3 hv3 hz2=>gt W (fun w6=>(C5 (A2 w6) (A2 w6) (B8 w6 hv3) W))<|gt W (fun w7=>(D3 (A2 w7) (B8 w7 hv3) W W))<|gt W (fun _=>W)<|gt W (fun _=>W)<|bs hz2 fun v4 hv4 hz2=> ?_)))
 refine N2 _ (bo v4) (M9 W) (fun w10=>⟨_,[(.d (.agg [(i64 v3.Offset),(.list (List.map Dn v3.Phases))])),(di p2),(di p3)],_,_,(by simp only [A2 w10];rfl),W,A3,FP _ _ _ _<|B8 w10 hv4,(.inl W)⟩) ?_
 refine N1 _ (.d (bo (!v4))) W (M9 W) (fun w11=>(by simp only [A2 w11];rfl)) ?_
 refine sa W W W<|A1<|cc W hz2 (fun c4 hz2=> ?_)<|fun c4 hz2=> ?_
 refine Ew fun u12 _=>C0 (oS x2.1 (50,g4)) W W (sq W<|sl W G_hit W<|C0 (dl A4 [v2.From]) W W (bs hz2 fun _ hv5 hz2=>U1 A4 (50,g4) x2.1 v2.From [] _ (L8<|fun _=>W) W (gq W) hv5 (ss W<|A1<|E4<|C1<|sv W<|sv W<|A1<|E3 ?_)))
 cases hz2
 exact ⟨W,u12,(E0 ⟨.of W, .of W, .of W,(.of (Am<|Bb hv5).symm), .of W, .of W, .of W, .of W, .of W, .of W, .of W,trivial⟩<|sg W<|sg W<|O9 G_hit trivial)⟩
 refine A8<|E4<|C1<|sv W<|sv W<|A1<|E3 ?_
 cases hz2
 exact ⟨W,g4,(E0 (Bv W)<|sg W<|sg W<|B9 (gq W) trivial)⟩
 refine C9 W ?_
 cases hz2
 obtain rfl:=ez2 _ rfl
 refine ⟨nofun,C6 W<|Y7 ?_⟩
 exact ⟨g4,(E0 (Bv W)<|B4 G_hit (.of W)<|B9 (gq W) trivial)⟩
 rintro _ ⟨g3,q1⟩
 refine E4<|B5 q1<|C1<|sv W<|sv W<|A1<|E3 ?_
 cases hz1
 exact ⟨W,g3,(E0 (Bv W)<|B4 G_hit (.of W)<|B9 (gq W) trivial)⟩
 refine C9 W ?_
 cases hz1
 obtain rfl:=ez1 _ rfl
 refine ⟨nofun,C6 W<|Y7 ?_⟩
 exact ⟨g2,(E0 ⟨.of W,trivial⟩<|B9 (gq W) trivial)⟩
 rintro _ ⟨g1,q2⟩
 refine B5 q2<|A5 ?_
 rcases UT h with ⟨e1,h⟩|⟨e1,h⟩
 refine B5 (s0:=⟨T [(7,(.d .nilS))],G []⟩) (E0 ⟨.of (nY e1),trivial⟩ trivial) ?_
 refine C1<|sv W<|bs h fun _ hv8 h=>MY (v:= .d (.tup [])) (us:= []) (uN [] _ W W A3 (Vw _ hv8) W W) (A1<|A9<|sv W<|MY (v:= .d .nilS) (us:= []) (uN [] _ W W A3 rQ W W) (sv W<|A1<|B0 ?_))
 cases h
 exact A6 (.inr W) (B6 (B2 W) C2) DLe.nil
 refine B5 (s0:=⟨T [(7,(.sl (50,g1)))],G [((50,g1),some<|.arr 2 1 (List.map A4 y1))]⟩) (E0 ⟨.of (Am e1),trivial⟩<|B4 (Ih G_hit e1) (.of W) trivial) ?_
 refine C1<|ss W<|bs h fun v6 hv6 h=>MY (v:= .d (.tup [])) (us:= [(50,g1)]) (TH (Vv _ _ hv6) [(50,g1)] [(50,g1)] _ (((50,g1),some<|.arr 2 1 (List.map A4 v6))::_) W Qi (Cv OF CI) (Pe G_hit Mq) ⟨⟨_,G_hit, .of W⟩,trivial⟩ (fun _ h=>h) nd1 W W W) (A1<|lr<|fun u18 _=>ss W<|bs h fun v7 hv7 h=>MY (v:= .sl (10140010,u18)) (us:= [(50,g1),(10140010,u18)]) (TH (wS _ _ hv7) [(50,g1)] [(50,g1)] _ (((10140010,u18),some<|.arr 2 1 (List.map A4 v7))::((50,g1),none)::_) W Qi (Cv OF CI) (Pe G_hit Mq) ⟨⟨_,G_hit, .of W⟩,trivial⟩ (fun _ h=>h) nd1 W W W) (ss W<|A1<|B0 ?_))
 cases h
 exact A6 (.inr W) (B6 (B2 W)<|QU G_hit) (.refl _)
def Ib (p1:Map)(p2:Int)(p3:Int):Option (List Int):=
  ((cond (!(decide (p3<0))) (Qb p1 p2) (some default))).bind fun v1=>cond ((decide (p3<0))||(!v1)) (some []) ((Rm p1 p2 p3).bind fun v2=>some v2)
theorem XG(p1 p2 p3 r)(h:Ib p1 p2 p3=some r):PCall Tryz.prog 180 [(.agg (S3 p1)),(i64 p2),(i64 p3)] (.list (List.map A4 r)):=by
 refine C4 (fk Tryz.func180 Tryz.ntmps180 m0 (by with_unfolding_all rfl)) (nl W) ?_
 unfold Ib at h
 refine B5 (s0:=⟨T [(0,(.d _)),(1,(.d _)),(2,(.d _))],G []⟩) (F0 W W) ?_
 refine A9<|sm W<|sv W<|A1<|A5<|A9<|sv W<|sv W<|sv W<|gf W (fun _=>(B1 W G_hit W W))<|gf W (fun _=>W)<|bs h fun v1 hv1 h=> ?_
 refine N2 _ (bo v1) (J9 W) (fun w3=>⟨_,[(.d (.agg (S3 p1))),(di p2)],_,_,(by simp only [A2 w3];rfl),W,A3,FO _ _ _<|B8 w3 hv1,(.inl W)⟩) ?_
 refine N1 _ (.d (bo (!v1))) W (J9 W) (fun w4=>(by simp only [A2 w4];rfl)) ?_
 refine sd W (N7 W W<|fun hc=>A2<|I7 hc)<|A1<|cc W h (fun c1 h=> ?_)<|fun c1 h=> ?_
 refine A9<|sv W<|A1<|B0 ?_
 cases h
 exact A6 (.inr W) (B6 (B2 W) C2) DLe.nil
 refine A8<|A9<|sd W (B1 W G_hit W W)<|sv W<|sv W<|bs h fun _ hv2 h=>B3 W W A3 (XF _ _ _ _ hv2) (.inl W) (sv W<|A1<|B0 ?_)
 cases h
 exact A6 (.inr W) (B6 (B2 W) C2) (.refl _)
def X8 (p1:Int)(p2:Agent)(p3:Int):Option Int:=
  some (Mn true 0 (Mn false (C3 (p2.V+p1)) p3))
theorem Wt(p1 p2 p3 r)(h:X8 p1 p2 p3=some r):PCall Tryz.prog 179 [(i64 p1),(.bp (D2 p2) 0),(.bp [(i64 p3)] 0)] (i64 r):=by
 refine C4 (fk Tryz.func179 Tryz.ntmps179 m0 (by with_unfolding_all rfl)) (nl W) ?_
 unfold X8 at h
 refine B5 (s0:=⟨T [(0,(.d _)),(1,(.d _)),(2,(.d _))],G []⟩) (F0 W W) ?_
 refine A9<|sv W<|A1<|A9<|sv W<|sv W<|sv W<|sv W<|sv W<|sv W<|sv W<|sv W<|A1<|B0 ?_
 cases h
 exact A6 (.inr W) (B6 (B2 W) C2) (.refl _)
def Jg (p1:Int)(p2:Int):Option Int:=
  cond ((decide (p1<1))||(decide (p2<1))) (some 0) ((iC .i64 (C3 ((Mn false p1 1000000) - 1)) (Mn false p2 1000000)).bind fun v1=>some (C3 ((C3 (v1* (Mn false p1 1000000))) - (C3 ((Mn false p2 1000000)* (C3 ((C3 (v1* (C3 (v1+1)))).tdiv 2)))))))
theorem AR(p1 p2 r)(h:Jg p1 p2=some r):PCall Tryz.prog 41 [(i64 p1),(i64 p2)] (i64 r):=by
 refine C4 (fk Tryz.func41 Tryz.ntmps41 m0 (by with_unfolding_all rfl)) (nl W) ?_
 unfold Jg at h
 refine B5 (s0:=⟨T [(0,(.d _)),(1,(.d _))],G []⟩) (F0 W W) ?_
 refine A9<|sv W<|A1<|A5<|A9<|sv W<|sv W<|sv W<|gf W (fun _=>W)<|gf W (vb W W W)<|sd W (N7 W W<|fun hc=>A2<|I7 hc)<|A1<|cc W h (fun c1 h=> ?_)<|fun c1 h=> ?_
 refine A9<|sv W<|A1<|B0 ?_
 cases h
 exact A6 (.inr W) (B6 (B2 W) C2) (.refl _)
 refine A8<|A9<|sv W<|sv W<|sv W<|sv W<|sv W<|sv W<|A1<|A9<|sv W<|sv W<|sv W<|bs h fun _ hv1 h=>sd W (vY W W hv1)<|sv W<|A1<|A9<|sv W<|sv W<|sv W<|sv W<|sv W<|sv W<|sv W<|sv W<|sv W<|sv W<|sv W<|sv W<|A1<|B0 ?_
 cases h
 exact A6 (.inr W) (B6 (B2 W) C2) (.refl _)
end
end Go.Abs.World
