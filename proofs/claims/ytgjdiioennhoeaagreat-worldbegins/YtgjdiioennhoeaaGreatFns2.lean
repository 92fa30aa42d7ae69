/-
  The functions, part 2.
-/
import Derived.Test.YtgjdiioennhoeaaGreatFns1
set_option maxRecDepth 20000
set_option maxHeartbeats 4000000
set_option linter.unusedVariables false
namespace Go.Abs.World
noncomputable section
open Go Go.Abs Go.Proofs
attribute [local irreducible] M0 Kw Fb
def C7 (p2:Int)(x2:(Int× (List Pass))):Option (Stp (Int× (List Pass)) (List Pass)):=
  ((cond (decide (x2.1>p2)) (B7 x2.2 x2.1) (some default))).bind fun v1=>((cond (decide (x2.1>p2)) (B7 x2.2 (C5 (x2.1 - 1))) (some default))).bind fun v2=>((cond (decide (x2.1>p2)) (Ed v1 v2) (some default))).bind fun v3=>cond ((decide (x2.1>p2))&& (decide (v3<0))) ((B7 x2.2 (C5 (x2.1 - 1))).bind fun v4=>(B7 x2.2 x2.1).bind fun v5=>(B7 x2.2 x2.1).bind fun v6=>(B7 (Mo x2.2 x2.1 v4) (C5 (x2.1 - 1))).bind fun v7=>some (.go ((C5 (x2.1 - 1)),(Mo (Mo x2.2 x2.1 v4) (C5 (x2.1 - 1)) v5)))) (some (.out x2.2))
def D5 (p2:Int)(p3:Int)(x1:(Int× (List Pass))):Option (Stp (Int× (List Pass)) (List Pass)):=
  cond (decide (x1.1<p3)) ((loop (C7 p2) (x1.1,x1.2)).bind fun y1=>some (.go ((C5 (x1.1+1)),y1))) (some (.out (x1.2)))
def D3 (p1:(List Pass))(p2:Int)(p3:Int):Option (List Pass):=
  loop (D5 p2 p3) ((C5 (p2+1)),p1)
theorem Ag(p1 p2 p3 r)(h:D3 p1 p2 p3=some r):MCall Tryz.prog 282 [(.sl (900000,0)),(di p2),(di p3),(.d (.fn (.func 264) [] []))] [(.arr 229 4 (List.map T4 p1))] (.d (.tup [])) [some (.arr 229 4 (List.map T4 r))] []:=by
 refine AE (fk Tryz.func282 Tryz.ntmps282 m0 (by with_unfolding_all rfl)) W (nl W) ?_
 unfold D3 at h
 refine B4 (s0:=⟨T [(0,(.sl _)),(1,(.d _)),(2,(.d _)),(3,(.d _))],G [((900000,0),some _)]⟩) (F3 W W) ?_
 refine A9<|sv W<|sv W<|sv W<|A1<|A7<|E3 (D5 p2 p3) (fun (x1:(Int× (List Pass))) (g1:Unit)=>⟨T [(0,(.sl (900000,0))),(1,(di p2)),(2,(di p3)),(3,(.d (.fn (.func 264) [] []))),(8,(di x1.1))],G [((900000,0),some<|.arr 229 4 (List.map T4 x1.2))]⟩) ((C5 (p2+1)),p1) () _ h (F3 W W) ?_
 intro x1 g1 z1 hz1 ez1
 unfold D5 at hz1
 refine A4<|A9<|sv W<|sv W<|sv W<|A1<|cc W hz1 (fun c1 hz1=> ?_)<|fun c1 hz1=> ?_
 refine A8<|A4<|A7<|A9<|sv W<|sv W<|A1<|bs hz1 fun y1 hy1 hz1=>E0 (fun s=> ∃g2:Unit,Sb ⟨T [(0,(.sl (900000,0))),(1,(di p2)),(2,(di p3)),(3,(.d (.fn (.func 264) [] []))),(8,(di x1.1))],G [((900000,0),some<|.arr 229 4 (List.map T4 y1))]⟩ s) ?_ ?_
 refine A7<|E3 (C7 p2) (fun (x2:(Int× (List Pass))) (g3:Unit)=>⟨T [(0,(.sl (900000,0))),(1,(di p2)),(2,(di p3)),(3,(.d (.fn (.func 264) [] []))),(8,(di x1.1)),(9,(di x2.1))],G [((900000,0),some<|.arr 229 4 (List.map T4 x2.2))]⟩) (x1.1,x1.2) () _ hy1 (F3 W W) ?_
 intro x2 g3 z2 hz2 ez2
 unfold C7 at hz2
 refine A4<|A4<|F4 W<|sv W<|sv W<|sv W<|sv W<|gt W (fun _=>W)<|N2 _ (.sl _) W (M8 W) (fun _=>W) (gt W (fun _=>W)<|bs hz2 fun v1 hv1 hz2=>N2 _ (.aptr _ _ _ _) W (M8 W) (fun w4=>(Mp (A2 w4) (A2 w4) G_hit (C2 w4 hv1))) (gt W (fun w5=>(Sx (A2 w5) G_hit (C2 w5 hv1) W W))<|N2 _ (.sl _) W (M8 W) (fun _=>W) (gt W (fun _=>W)<|gt W (vb W W W)<|bs hz2 fun v2 hv2 hz2=>N2 _ (.aptr _ _ _ _) W (M8 W) (fun w9=>(Mp (A2 w9) (A2 w9) G_hit (C2 w9 hv2))) (gt W (fun w10=>(Sx (A2 w10) G_hit (C2 w10 hv2) W W))<|bs hz2 fun v3 hv3 hz2=> ?_))))
 refine O3 _ (i64 v3) (M8 W) (fun w11=>⟨_,[(.d (.agg (T4 v1))),(.d (.agg (T4 v2)))],_,_,(by simp only [A2 w11];rfl),W,A3,IL _ _ _<|C2 w11 hv3,(.inl W)⟩) ?_
 refine gt W (vb W W W)<|sa W W W<|A1<|cc W hz2 (fun c2 hz2=> ?_)<|fun c2 hz2=> ?_
 refine A8<|A4<|A7<|F4 W<|ss W<|sv W<|ss W<|sv W<|sv W<|ss W<|sv W<|sv W<|bs hz2 fun v4 hv4 hz2=>B9 (.aptr _ _ _ _) W (Mp W W G_hit hv4) (sd W (Sx W G_hit hv4 W W)<|ss W<|sv W<|bs hz2 fun v5 hv5 hz2=>B9 (.aptr _ _ _ _) W (Mp W W G_hit hv5) (sd W (Sx W G_hit hv5 W W)<|bs hz2 fun _ hv6 hz2=>B9 (.aptr _ _ _ _) W (Mp W W G_hit hv6) (Sw T4 _ _ _ (x2.1) _ v4 (T4 v4) W W W G_hit hv6 (nl W) W (bs hz2 fun _ hv7 hz2=>B9 (.aptr _ _ _ _) W (Mp W W G_hit hv7) (Sw T4 _ _ _ ((C5 (x2.1 - 1))) _ v5 (T4 v5) W W W G_hit hv7 (nl W) W (A1<|E2<|C0<|sv W<|sv W<|sv W<|A1<|E5 ?_))))))
 cases hz2
 exact ⟨W,(),(F3 W W)⟩
 refine C6 W ?_
 cases hz2
 obtain rfl:=ez2 _ rfl
 refine ⟨nofun,C4 W<|Aj ?_⟩
 exact ⟨(),(F3 W W)⟩
 rintro _ ⟨g2,q1⟩
 refine E2<|B4 q1<|C0<|sv W<|sv W<|sv W<|A1<|E5 ?_
 cases hz1
 exact ⟨W,(),(F3 W W)⟩
 refine C6 W ?_
 cases hz1
 obtain rfl:=ez1 _ rfl
 refine ⟨nofun,C4 W<|E5 ?_⟩
 exact GB (.inl W) [] GC (.refl _) ⟨⟨G_hit,Hy⟩,trivial⟩
def K8 (p2:Int)(x3:(Int×Int)):Option (Stp (Int×Int) Int):=
  cond (decide (x3.2≤p2)) (none) (some (.out x3.1))
def G9 (p2:Int)(v2:(List Pass))(x2:Int):Option (Stp Int (List Pass)):=
  cond (decide (x2<p2)) ((loop (K8 p2) (0,(C5 (2*x2)))).bind fun y2=>cond (decide ((C5 (y2+x2))<p2)) (none) (some (.go (C5 (x2*2))))) (some (.out (v2)))
def D9 (p2:Int)(x1:(Int×Int× (List Pass))):Option (Stp (Int×Int× (List Pass)) (Int× (List Pass))):=
  cond (decide (x1.2.1≤p2)) ((D3 x1.2.2 x1.1 x1.2.1).bind fun v1=>some (.go (x1.2.1,(C5 (x1.2.1+20)),v1))) (some (.out (x1.1,x1.2.2)))
def J9 (p1:(List Pass))(p2:Int):Option (List Pass):=
  (loop (D9 p2) (0,20,p1)).bind fun y1=>(D3 y1.2 y1.1 p2).bind fun v2=>loop (G9 p2 v2) 20
theorem Iq(p1 p2 r)(h:J9 p1 p2=some r):MCall Tryz.prog 270 [(.sl (900000,0)),(di p2),(.d (.fn (.func 264) [] []))] [(.arr 229 4 (List.map T4 p1))] (.d (.tup [])) [some (.arr 229 4 (List.map T4 r))] []:=by
 refine AE (fk Tryz.func270 Tryz.ntmps270 (fun r=>if r==3 then [1003004]else if r==6 then [1006004]else []) (by with_unfolding_all rfl)) W (nl W) ?_
 unfold J9 at h
 refine B4 (s0:=⟨T [(0,(.sl _)),(1,(.d _)),(2,(.d _))],G [((900000,0),some _)]⟩) (F3 W W) ?_
 refine A9<|sv W<|A1<|A9<|sv W<|sv W<|sv W<|A1<|A4<|bs h fun y1 hy1 h=>E0 (fun s=> ∃g1:Unit,Sb ⟨T [(0,(.sl (900000,0))),(1,(di p2)),(2,(.d (.fn (.func 264) [] []))),(6,(di 20)),(7,(di y1.1))],G [((900000,0),some<|.arr 229 4 (List.map T4 y1.2))]⟩ s) ?_ ?_
 refine A7<|E3 (D9 p2) (fun (x1:(Int×Int× (List Pass))) (g2:Unit)=>⟨T [(0,(.sl (900000,0))),(1,(di p2)),(2,(.d (.fn (.func 264) [] []))),(6,(di 20)),(7,(di x1.1)),(8,(di x1.2.1))],G [((900000,0),some<|.arr 229 4 (List.map T4 x1.2.2))]⟩) (0,20,p1) () _ hy1 (F3 W W) ?_
 intro x1 g2 z1 hz1 ez1
 unfold D9 at hz1
 refine A4<|A9<|sv W<|sv W<|sv W<|A1<|cc W hz1 (fun c1 hz1=> ?_)<|fun c1 hz1=> ?_
 refine A8<|A7<|A9<|ss W<|sv W<|sv W<|sv W<|bs hz1 fun v1 hv1 hz1=>JR (v:= .d (.tup [])) (us:= [(900000,0)]) (PR (Ag _ _ _ _ hv1) [(900000,0)] [(900000,0)] _ (((900000,0),some<|.arr 229 4 (List.map T4 v1))::_) W Qc (Cp KT<|Cp IE<|Cp IE<|Cp IE AD) (Nq G_hit Ky) ⟨⟨_,G_hit, .of W⟩,trivial⟩ (fun _ h=>h) nd1 W W W) (A1<|A9<|sv W<|sv W<|A1<|C0<|sv W<|sv W<|sv W<|sv W<|A1<|E2<|E5 ?_)
 cases hz1
 exact ⟨W,(),(F3 W W)⟩
 refine C6 W ?_
 cases hz1
 obtain rfl:=ez1 _ rfl
 refine ⟨nofun,C4 W<|Aj ?_⟩
 exact ⟨(),(F3 W W)⟩
 rintro _ ⟨g1,q1⟩
 refine B4 q1<|A9<|ss W<|sv W<|sv W<|sv W<|bs h fun v2 hv2 h=>JR (v:= .d (.tup [])) (us:= [(900000,0)]) (PR (Ag _ _ _ _ hv2) [(900000,0)] [(900000,0)] _ (((900000,0),some<|.arr 229 4 (List.map T4 v2))::_) W Qc (Cp KT<|Cp IE<|Cp IE<|Cp IE AD) (Nq G_hit Ky) ⟨⟨_,G_hit, .of W⟩,trivial⟩ (fun _ h=>h) nd1 W W W) (A1<|A7<|E3 (G9 p2 v2) (fun (x2:Int) (g3:Unit)=>⟨T [(0,(.sl (900000,0))),(1,(di p2)),(2,(.d (.fn (.func 264) [] []))),(6,(di x2))],G [((900000,0),some<|.arr 229 4 (List.map T4 v2))]⟩) 20 () _ h (F3 W W) ?_)
 intro x2 g3 z2 hz2 ez2
 unfold G9 at hz2
 refine A4<|A9<|sv W<|sv W<|sv W<|A1<|cc W hz2 (fun c2 hz2=> ?_)<|fun c2 hz2=> ?_
 refine A8<|A7<|A9<|sv W<|sv W<|sv W<|sv W<|A1<|A4<|bs hz2 fun y2 hy2 hz2=>E0 (fun s=> ∃g4:Unit,Sb ⟨T [(0,(.sl (900000,0))),(1,(di p2)),(2,(.d (.fn (.func 264) [] []))),(6,(di x2)),(7,(di y2))],G [((900000,0),some<|.arr 229 4 (List.map T4 v2))]⟩ s) ?_ ?_
 refine A7<|E3 (K8 p2) (fun (x3:(Int×Int)) (g5:Unit)=>⟨T [(0,(.sl (900000,0))),(1,(di p2)),(2,(.d (.fn (.func 264) [] []))),(6,(di x2)),(7,(di x3.1)),(8,(di x3.2))],G [((900000,0),some<|.arr 229 4 (List.map T4 v2))]⟩) (0,(C5 (2*x2))) () _ hy2 (F3 W W) ?_
 intro x3 g5 z3 hz3 ez3
 unfold K8 at hz3
 refine A4<|A9<|sv W<|sv W<|sv W<|A1<|cc W hz3 (fun c3 hz3=> ?_)<|fun c3 hz3=> ?_
 refine A8<|A7<|A9<|ss W<|sv W<|sv W<|sv W<|sv W<|sv W<|sv W ?_
 cases hz3
 refine C6 W ?_
 cases hz3
 obtain rfl:=ez3 _ rfl
 refine ⟨nofun,C4 W<|Aj ?_⟩
 exact ⟨(),(F3 W W)⟩
 rintro _ ⟨g4,q2⟩
 refine B4 q2<|A4<|A9<|sv W<|sv W<|sv W<|sv W<|A1<|A9<|sv W<|sv W<|sv W<|A1<|cc W hz2 (fun c4 hz2=> ?_)<|fun c4 hz2=> ?_
 refine C0<|ss W<|sv W<|sv W<|sv W<|sv W ?_
 cases hz2
 refine A8<|C0<|sv W<|sv W<|sv W<|A1<|E2<|E5 ?_
 cases hz2
 exact ⟨W,(),(F3 W W)⟩
 refine C6 W ?_
 cases hz2
 obtain rfl:=ez2 _ rfl
 refine ⟨nofun,C4 W<|E5 ?_⟩
 exact GB (.inl W) [] GC (.refl _) ⟨⟨G_hit,Hy⟩,trivial⟩
def G0 (p1:(List Pass)):Option (List Pass):=
  (J9 p1 (p1.length:Int)).bind fun v1=>some v1
theorem Fq(p1 r)(h:G0 p1=some r):MCall Tryz.prog 263 [(.sl (900000,0)),(.d (.fn (.func 264) [] []))] [(.arr 229 4 (List.map T4 p1))] (.d (.tup [])) [some (.arr 229 4 (List.map T4 r))] []:=by
 refine AE (fk Tryz.func263 Tryz.ntmps263 (fun r=>if r==0 then [1000004]else []) (by with_unfolding_all rfl)) W (nl W) ?_
 unfold G0 at h
 refine B4 (s0:=⟨T [(0,(.sl _)),(1,(.d _))],G [((900000,0),some _)]⟩) (F3 W W) ?_
 refine C0<|ss W<|ss W<|sd W (YD (f:=T4) W G_hit)<|sv W<|bs h fun v1 hv1 h=>JR (v:= .d (.tup [])) (us:= [(900000,0)]) (PR (Iq _ _ _ hv1) [(900000,0)] [(900000,0)] _ (((900000,0),some<|.arr 229 4 (List.map T4 v1))::_) W Qc (Cp KT<|Cp IE<|Cp IE AD) (Nq G_hit Ky) ⟨⟨_,G_hit, .of W⟩,trivial⟩ (fun _ h=>h) nd1 W W W) (A1<|E5 ?_)
 obtain rfl:=(lD h)
 exact GB (.inl W) [] GC (.refl _) ⟨⟨G_hit,Hy⟩,trivial⟩
def I5 (p1:Int)(x2:Int):Option (Stp Int Unit):=
  ((cond (decide (x2>p1)) ((none:Option Unit)) (some default))).bind fun v1=>cond ((decide (x2>p1))&&false) (none) (some (.out ()))
def I6 (p1:Int)(p2:Int)(x1:Int):Option (Stp Int Unit):=
  cond (decide (x1<p2)) ((loop (I5 p1) x1).bind fun _=>some (.go (C5 (x1+1)))) (some (.out (())))
def E6 (p1:Int)(p2:Int):Option Unit:=
  loop (I6 p1 p2) (C5 (p1+1))
theorem Ah(p1 p2 r)(h:E6 p1 p2=some r):PCall Tryz.prog 282 [.nilS,(i64 p1),(i64 p2),(.fn (.func 264) [] [])] (.tup []):=by
 refine C3 (fk Tryz.func282 Tryz.ntmps282 m0 (by with_unfolding_all rfl)) (nl W) ?_
 unfold E6 at h
 refine B4 (s0:=⟨T [(0,(.d _)),(1,(.d _)),(2,(.d _)),(3,(.d _))],G []⟩) (F3 W W) ?_
 refine A9<|sv W<|sv W<|sv W<|A1<|A7<|E3 (I6 p1 p2) (fun (x1:Int) (g1:Unit)=>⟨T [(0,(.d .nilS)),(1,(di p1)),(2,(di p2)),(3,(.d (.fn (.func 264) [] []))),(8,(di x1))],G []⟩) (C5 (p1+1)) () _ h (F3 W W) ?_
 intro x1 g1 z1 hz1 ez1
 unfold I6 at hz1
 refine A4<|A9<|sv W<|sv W<|sv W<|A1<|cc W hz1 (fun c1 hz1=> ?_)<|fun c1 hz1=> ?_
 refine A8<|A4<|A7<|A9<|sv W<|sv W<|A1<|bs hz1 fun _ hy1 hz1=>E0 (fun s=> ∃g2:Unit,Sb ⟨T [(0,(.d .nilS)),(1,(di p1)),(2,(di p2)),(3,(.d (.fn (.func 264) [] []))),(8,(di x1))],G []⟩ s) ?_ ?_
 refine A7<|E3 (I5 p1) (fun (x2:Int) (g3:Unit)=>⟨T [(0,(.d .nilS)),(1,(di p1)),(2,(di p2)),(3,(.d (.fn (.func 264) [] []))),(8,(di x1)),(9,(di x2))],G []⟩) x1 () _ hy1 (F3 W W) ?_
 intro x2 g3 z2 hz2 ez2
 unfold I5 at hz2
 refine A4<|A4<|F4 W<|sv W<|sv W<|sv W<|sv W<|gt W (fun _=>W)<|gt W (fun _=>W)<|gt W (fun _=>W)<|bs hz2 fun _ hv1 hz2=>N2 _ (.d (.tup [])) W (M8 W) (fun w4=>nomatch C2 w4 hv1) (N2 _ (.d (.tup [])) W (M8 W) (fun w5=>nomatch C2 w5 hv1) (N2 _ (.d (.tup [])) W (M8 W) (fun w6=>nomatch C2 w6 hv1) (N2 _ (di 0) W (M8 W) (fun w7=>nomatch C2 w7 hv1) (N2 _ (di 0) W (M8 W) (fun w8=>nomatch C2 w8 hv1) (N2 _ (.d (.tup [])) W (M8 W) (fun w9=>nomatch C2 w9 hv1) (N2 _ (.d (.tup [])) W (M8 W) (fun w10=>nomatch C2 w10 hv1) (O3 _ (i64 0) (M8 W) (fun w11=>nomatch C2 w11 hv1) (N2 _ (.d (bo false)) W (M8 W) (fun w12=>nomatch C2 w12 hv1) (sa W W W<|A1<|cc W hz2 (fun c2 hz2=> ?_)<|fun c2 hz2=> ?_)))))))))
 refine A8<|A4<|A7<|F4 W<|sv W<|sv W<|sv W<|sv W<|sv W<|sv W<|sv W<|sv W ?_
 cases hz2
 refine C6 W ?_
 cases hz2
 obtain rfl:=ez2 _ rfl
 refine ⟨nofun,C4 W<|Aj ?_⟩
 exact ⟨(),(F3 W W)⟩
 rintro _ ⟨g2,q1⟩
 refine E2<|B4 q1<|C0<|sv W<|sv W<|sv W<|A1<|E5 ?_
 cases hz1
 exact ⟨W,(),(F3 W W)⟩
 refine C6 W ?_
 cases hz1
 obtain rfl:=ez1 _ rfl
 refine ⟨nofun,C4 W<|E5 ?_⟩
 exact A6 (.inl W) W (.refl _)
def K9 (p1:Int)(x3:(Int×Int)):Option (Stp (Int×Int) Int):=
  cond (decide (x3.2≤p1)) (none) (some (.out x3.1))
def I8 (p1:Int)(x2:Int):Option (Stp Int Unit):=
  cond (decide (x2<p1)) ((loop (K9 p1) (0,(C5 (2*x2)))).bind fun y2=>cond (decide ((C5 (y2+x2))<p1)) (none) (some (.go (C5 (x2*2))))) (some (.out (())))
def I9 (p1:Int)(x1:(Int×Int)):Option (Stp (Int×Int) Int):=
  cond (decide (x1.2≤p1)) ((E6 x1.1 x1.2).bind fun v1=>some (.go (x1.2,(C5 (x1.2+20))))) (some (.out x1.1))
def K0 (p1:Int):Option Unit:=
  (loop (I9 p1) (0,20)).bind fun y1=>(E6 y1 p1).bind fun v2=>loop (I8 p1) 20
theorem Ir(p1 r)(h:K0 p1=some r):PCall Tryz.prog 270 [.nilS,(i64 p1),(.fn (.func 264) [] [])] (.tup []):=by
 refine C3 (fk Tryz.func270 Tryz.ntmps270 m0 (by with_unfolding_all rfl)) (nl W) ?_
 unfold K0 at h
 refine B4 (s0:=⟨T [(0,(.d _)),(1,(.d _)),(2,(.d _))],G []⟩) (F3 W W) ?_
 refine A9<|sv W<|A1<|A9<|sv W<|sv W<|sv W<|A1<|A4<|bs h fun y1 hy1 h=>E0 (fun s=> ∃g1:Unit,Sb ⟨T [(0,(.d .nilS)),(1,(di p1)),(2,(.d (.fn (.func 264) [] []))),(6,(di 20)),(7,(di y1))],G []⟩ s) ?_ ?_
 refine A7<|E3 (I9 p1) (fun (x1:(Int×Int)) (g2:Unit)=>⟨T [(0,(.d .nilS)),(1,(di p1)),(2,(.d (.fn (.func 264) [] []))),(6,(di 20)),(7,(di x1.1)),(8,(di x1.2))],G []⟩) (0,20) () _ hy1 (F3 W W) ?_
 intro x1 g2 z1 hz1 ez1
 unfold I9 at hz1
 refine A4<|A9<|sv W<|sv W<|sv W<|A1<|cc W hz1 (fun c1 hz1=> ?_)<|fun c1 hz1=> ?_
 refine A8<|A7<|A9<|sv W<|sv W<|sv W<|sv W<|bs hz1 fun _ hv1 hz1=>B1 W W A3 (Ah _ _ _ hv1) (.inl W) (A1<|A9<|sv W<|sv W<|A1<|C0<|sv W<|sv W<|sv W<|sv W<|A1<|E2<|E5 ?_)
 cases hz1
 exact ⟨W,(),(F3 W W)⟩
 refine C6 W ?_
 cases hz1
 obtain rfl:=ez1 _ rfl
 refine ⟨nofun,C4 W<|Aj ?_⟩
 exact ⟨(),(F3 W W)⟩
 rintro _ ⟨g1,q1⟩
 refine B4 q1<|A9<|sv W<|sv W<|sv W<|sv W<|bs h fun _ hv2 h=>B1 W W A3 (Ah _ _ _ hv2) (.inl W) (A1<|A7<|E3 (I8 p1) (fun (x2:Int) (g3:Unit)=>⟨T [(0,(.d .nilS)),(1,(di p1)),(2,(.d (.fn (.func 264) [] []))),(6,(di x2))],G []⟩) 20 () _ h (F3 W W) ?_)
 intro x2 g3 z2 hz2 ez2
 unfold I8 at hz2
 refine A4<|A9<|sv W<|sv W<|sv W<|A1<|cc W hz2 (fun c2 hz2=> ?_)<|fun c2 hz2=> ?_
 refine A8<|A7<|A9<|sv W<|sv W<|sv W<|sv W<|A1<|A4<|bs hz2 fun y2 hy2 hz2=>E0 (fun s=> ∃g4:Unit,Sb ⟨T [(0,(.d .nilS)),(1,(di p1)),(2,(.d (.fn (.func 264) [] []))),(6,(di x2)),(7,(di y2))],G []⟩ s) ?_ ?_
 refine A7<|E3 (K9 p1) (fun (x3:(Int×Int)) (g5:Unit)=>⟨T [(0,(.d .nilS)),(1,(di p1)),(2,(.d (.fn (.func 264) [] []))),(6,(di x2)),(7,(di x3.1)),(8,(di x3.2))],G []⟩) (0,(C5 (2*x2))) () _ hy2 (F3 W W) ?_
 intro x3 g5 z3 hz3 ez3
 unfold K9 at hz3
 refine A4<|A9<|sv W<|sv W<|sv W<|A1<|cc W hz3 (fun c3 hz3=> ?_)<|fun c3 hz3=> ?_
 refine A8<|A7<|A9<|sv W<|sv W<|sv W<|sv W<|sv W<|sv W<|sv W ?_
 cases hz3
 refine C6 W ?_
 cases hz3
 obtain rfl:=ez3 _ rfl
 refine ⟨nofun,C4 W<|Aj ?_⟩
 exact ⟨(),(F3 W W)⟩
 rintro _ ⟨g4,q2⟩
 refine B4 q2<|A4<|A9<|sv W<|sv W<|sv W<|sv W<|A1<|A9<|sv W<|sv W<|sv W<|A1<|cc W hz2 (fun c4 hz2=> ?_)<|fun c4 hz2=> ?_
 refine C0<|sv W<|sv W<|sv W<|sv W<|sv W ?_
 cases hz2
 refine A8<|C0<|sv W<|sv W<|sv W<|A1<|E2<|E5 ?_
 cases hz2
 exact ⟨W,(),(F3 W W)⟩
 refine C6 W ?_
 cases hz2
 obtain rfl:=ez2 _ rfl
 refine ⟨nofun,C4 W<|E5 ?_⟩
 exact A6 (.inl W) W (.refl _)
def G1:Option Unit:=
  (K0 0).bind fun v1=>some ()
theorem Fr(r)(h:G1=some r):PCall Tryz.prog 263 [.nilS,(.fn (.func 264) [] [])] (.tup []):=by
 refine C3 (fk Tryz.func263 Tryz.ntmps263 m0 (by with_unfolding_all rfl)) (nl W) ?_
 unfold G1 at h
 refine B4 (s0:=⟨T [(0,(.d _)),(1,(.d _))],G []⟩) (F3 W W) ?_
 refine C0<|sv W<|sv W<|sv W<|sv W<|bs h fun _ hv1 h=>B1 W W A3 (Ir _ _ hv1) (.inl W) (A1<|E5 ?_)
 cases h
 exact A6 (.inl W) W (.refl _)
def Y8 (v1:RoadsWay)(x1:((List Pass)×Int))(v2:Int)(x2:((List Pass)×Int))(v3:Zone)(x3:((List Pass)×Int)):Option (Stp ((List Pass)×Int) (List Pass)):=
  cond (decide (x3.2< (v3.Parts.length:Int))) ((B7 v3.Parts x3.2).bind fun v4=>cond (v4.Lane_==v2) ((B7 v1.starts x1.2).bind fun v5=>(B7 v1.starts x1.2).bind fun v6=>(Bo x3.1 [(Pass.mk x2.2 x3.2 (C5 (v5+v4.From)) (C5 (v6+v4.To)))]).bind fun v7=>some (.go (v7,(C5 (x3.2+1))))) (some (.go (x3.1,(C5 (x3.2+1)))))) (some (.out x3.1))
def Y9 (p1:Map)(v1:RoadsWay)(x1:((List Pass)×Int))(v2:Int)(x2:((List Pass)×Int)):Option (Stp ((List Pass)×Int) (List Pass)):=
  cond (decide (x2.2< (p1.Zones.length:Int))) ((B7 p1.Zones x2.2).bind fun v3=>(loop (Y8 v1 x1 v2 x2 v3) (x2.1,0)).bind fun y3=>some (.go (y3,(C5 (x2.2+1))))) (some (.out x2.1))
def P0 (p1:Map)(v1:RoadsWay)(x1:((List Pass)×Int)):Option (Stp ((List Pass)×Int) (List Pass)):=
  cond (decide (x1.2< (v1.lanes.length:Int))) ((B7 v1.lanes x1.2).bind fun v2=>(loop (Y9 p1 v1 x1 v2) (x1.1,0)).bind fun y2=>some (.go (y2,(C5 (x1.2+1))))) (some (.out x1.1))
def Ai (p1:Map)(p2:(List Int)):Option (List Pass):=
  (Cr p1 p2).bind fun v1=>(loop (P0 p1 v1) ([],0)).bind fun y1=>cond (List.isEmpty y1) ((G1).bind fun v9=>some []) ((G0 y1).bind fun v8=>some v8)
theorem LM(p1 p2 r)(h:Ai p1 p2=some r):PCall Tryz.prog 246 [(.agg (U5 p1)),(.list (List.map A5 p2))] (.list (List.map T4 r)):=by
 refine C3 (fk Tryz.func246 Tryz.ntmps246 (fun r=>if r==13 then [1020]else if r==17 then [1017001]else []) (by with_unfolding_all rfl)) (nl W) ?_
 unfold Ai at h
 refine B4 (s0:=⟨T [(0,(.d _)),(1,(.d _))],G []⟩) (F3 W W) ?_
 refine lr<|fun u1 _=>sm W<|sv W<|A1<|lr<|fun u2 _=>sd W (B3 W G_hit W W)<|sv W<|bs h fun v1 hv1 h=>B1 W W A3 (Pa _ _ _ hv1) (.inl W) (sm W<|Bc W G_hit (Rl v1) W (A1<|A9<|sv W<|A1<|A4<|A9<|sq W<|sl W G_hit W<|sd W (D7 W)<|sv W<|A1<|bs h fun y1 hy1 h=>E0 (fun s=> ∃g1:Nat,Sb ⟨T [(6,(oS y1 (65,g1)))],G [((65,g1),oB 229 4 T4 y1)]⟩ s) ?_ ?_))
 refine A7<|E3 (P0 p1 v1) (fun (x1:((List Pass)×Int)) (g2:Nat)=>⟨T [(2,(.ptr (2,u1) 0)),(5,(.ptr (5,u2) 0)),(6,(oS x1.1 (65,g2))),(17,(dl A5 v1.lanes)),(18,(di (v1.lanes.length:Int))),(19,(di x1.2))],G [((2,u1),some<|.box 33 (M7 p1)),((5,u2),some<|.box 260 (Rl v1)),((65,g2),oB 229 4 T4 x1.1)]⟩) ([],0) 0 _ hy1 (E1 (Ck W)<|sg W<|B5 G_hit (.of W)<|X0 trivial) ?_
 intro x1 g2 z1 hz1 ez1
 unfold P0 at hz1
 refine A9<|sv W<|A1<|A4<|cc W hz1 (fun c1 hz1=> ?_)<|fun c1 hz1=> ?_
 refine A8<|A4<|A7<|A9<|sv W<|bs hz1 fun v2 hv2 hz1=>sd W (C8 W W hv2 W)<|sd W (D6 W hv2 W)<|sv W<|sv W<|A1<|A9<|sq W<|sl W G_hit W<|sd W (D7 W)<|sv W<|A1<|bs hz1 fun y2 hy2 hz1=>E0 (fun s=> ∃g3:Nat,Sb ⟨T [(2,(.ptr (2,u1) 0)),(5,(.ptr (5,u2) 0)),(6,(oS y2 (65,g3))),(17,(dl A5 v1.lanes)),(18,(di (v1.lanes.length:Int))),(19,(di x1.2))],G [((2,u1),some<|.box 33 (M7 p1)),((5,u2),some<|.box 260 (Rl v1)),((65,g3),oB 229 4 T4 y2)]⟩ s) ?_ ?_
 refine A7<|E3 (Y9 p1 v1 x1 v2) (fun (x2:((List Pass)×Int)) (g4:Nat)=>⟨T [(2,(.ptr (2,u1) 0)),(5,(.ptr (5,u2) 0)),(6,(oS x2.1 (65,g4))),(7,(di x1.2)),(8,(di v2)),(17,(dl A5 v1.lanes)),(18,(di (v1.lanes.length:Int))),(19,(di x1.2)),(25,(dl Ip p1.Zones)),(26,(di (p1.Zones.length:Int))),(27,(di x2.2))],G [((2,u1),some<|.box 33 (M7 p1)),((5,u2),some<|.box 260 (Rl v1)),((65,g4),oB 229 4 T4 x2.1)]⟩) (x1.1,0) g2 _ hy2 (E1 (Ck W)<|B5 G_hit (.of W)<|sg W<|B8 (gq W) trivial) ?_
 intro x2 g4 z2 hz2 ez2
 unfold Y9 at hz2
 refine A9<|sv W<|A1<|A4<|cc W hz2 (fun c2 hz2=> ?_)<|fun c2 hz2=> ?_
 refine A8<|A4<|A7<|A9<|sv W<|bs hz2 fun v3 hv3 hz2=>sd W (C8 W W hv3 W)<|sd W (D2 W hv3 W W)<|sm W<|sv W<|Bc W G_hit [(dl Dp v3.Parts),(di v3.Signal_)] W (A1<|A9<|sq W<|sl W G_hit W<|sd W (D7 W)<|sv W<|A1<|bs hz2 fun y3 hy3 hz2=>E0 (fun s=> ∃g5:Nat,Sb ⟨T [(2,(.ptr (2,u1) 0)),(5,(.ptr (5,u2) 0)),(6,(oS y3 (65,g5))),(7,(di x1.2)),(8,(di v2)),(17,(dl A5 v1.lanes)),(18,(di (v1.lanes.length:Int))),(19,(di x1.2)),(25,(dl Ip p1.Zones)),(26,(di (p1.Zones.length:Int))),(27,(di x2.2))],G [((2,u1),some<|.box 33 (M7 p1)),((5,u2),some<|.box 260 (Rl v1)),((65,g5),oB 229 4 T4 y3)]⟩ s) ?_ ?_)
 refine A7<|E3 (Y8 v1 x1 v2 x2 v3) (fun (x3:((List Pass)×Int)) (g6:Nat)=>⟨T [(2,(.ptr (2,u1) 0)),(5,(.ptr (5,u2) 0)),(6,(oS x3.1 (65,g6))),(7,(di x1.2)),(8,(di v2)),(9,(di x2.2)),(17,(dl A5 v1.lanes)),(18,(di (v1.lanes.length:Int))),(19,(di x1.2)),(25,(dl Ip p1.Zones)),(26,(di (p1.Zones.length:Int))),(27,(di x2.2)),(33,(dl Dp v3.Parts)),(34,(di (v3.Parts.length:Int))),(35,(di x3.2))],G [((2,u1),some<|.box 33 (M7 p1)),((5,u2),some<|.box 260 (Rl v1)),((65,g6),oB 229 4 T4 x3.1)]⟩) (x2.1,0) g4 _ hy3 (E1 (Ck W)<|sg W<|sg W<|B8 (gq W) trivial) ?_
 intro x3 g6 z3 hz3 ez3
 unfold Y8 at hz3
 refine A9<|sv W<|A1<|A4<|cc W hz3 (fun c3 hz3=> ?_)<|fun c3 hz3=> ?_
 refine A8<|A4<|A7<|A9<|sv W<|bs hz3 fun v4 hv4 hz3=>sd W (C8 W W hv4 W)<|sd W (D2 W hv4 W W)<|sm W<|sv W<|Bc W G_hit (FA v4) W (A1<|A9<|sq W<|sl W G_hit W<|sv W<|sv W<|A1<|cc W hz3 (fun c4 hz3=> ?_)<|fun c4 hz3=> ?_)
 refine Rk W fun u14 _=>B9 (oS x3.1 (65,g6)) W W (sv W<|sv W<|sq W<|sl W (gq W) W (sv W<|bs hz3 fun v5 hv5 hz3=>sd W (C8 W W hv5 W)<|sd W (D6 W hv5 W)<|sq W<|sl W G_hit W<|sv W<|sq W<|sl W (gq W) W (sv W<|bs hz3 fun v6 hv6 hz3=>sd W (C8 W W hv6 W)<|sd W (D6 W hv6 W)<|sq W<|sl W G_hit W<|sv W<|sv W<|B9 (dl T4 [(Pass.mk x2.2 x3.2 (C5 (v5+v4.From))<|C5 (v6+v4.To))]) W W (bs hz3 fun _ hv7 hz3=>V3 T4 (65,g6) x3.1 (Pass.mk x2.2 x3.2 (C5 (v5+v4.From))<|C5 (v6+v4.To)) [] _ (N3<|fun _=>W) W (gq W) hv7 (ss W<|A1<|E2<|C0<|sv W<|sv W<|A1<|E5 ?_)))))
 cases hz3
 exact ⟨W,u14,(E1 ⟨.of W, .of W,(.of (Aq<|Ba hv7).symm), .of W, .of W, .of W, .of W, .of W, .of W, .of W, .of W, .of W, .of W, .of W, .of W,trivial⟩<|sg W<|sg W<|O6 G_hit trivial)⟩
 refine A8<|E2<|C0<|sv W<|sv W<|A1<|E5 ?_
 cases hz3
 exact ⟨W,g6,(E1 (Ck W)<|sg W<|sg W<|B8 (gq W) trivial)⟩
 refine C6 W ?_
 cases hz3
 obtain rfl:=ez3 _ rfl
 refine ⟨nofun,C4 W<|Aj ?_⟩
 exact ⟨g6,(E1 (Ck W)<|B5 G_hit (.of W)<|sg W<|B8 (gq W) trivial)⟩
 rintro _ ⟨g5,q1⟩
 refine E2<|B4 q1<|C0<|sv W<|sv W<|A1<|E5 ?_
 cases hz2
 exact ⟨W,g5,(E1 (Ck W)<|B5 G_hit (.of W)<|sg W<|B8 (gq W) trivial)⟩
 refine C6 W ?_
 cases hz2
 obtain rfl:=ez2 _ rfl
 refine ⟨nofun,C4 W<|Aj ?_⟩
 exact ⟨g4,(E1 (Ck W)<|B5 G_hit (.of W)<|sg W<|B8 (gq W) trivial)⟩
 rintro _ ⟨g3,q2⟩
 refine E2<|B4 q2<|C0<|sv W<|sv W<|A1<|E5 ?_
 cases hz1
 exact ⟨W,g3,(E1 (Ck W)<|B5 G_hit (.of W)<|sg W<|B8 (gq W) trivial)⟩
 refine C6 W ?_
 cases hz1
 obtain rfl:=ez1 _ rfl
 refine ⟨nofun,C4 W<|Aj ?_⟩
 exact ⟨g2,(E1 ⟨.of W,trivial⟩<|B8 (gq W) trivial)⟩
 rintro _ ⟨g1,q3⟩
 refine B4 q3<|A4 ?_
 rcases RD h with ⟨e1,h⟩|⟨e1,h⟩
 refine B4 (s0:=⟨T [(6,(.d .nilS))],G []⟩) (E1 ⟨.of (iF e1),trivial⟩ trivial) ?_
 refine C0<|sv W<|bs h fun _ hv9 h=>JR (v:= .d (.tup [])) (us:= []) (pG [] _ W W A3 (Fr _ hv9) W W) (A1<|A9<|sv W<|sv W<|A1<|B0 ?_)
 cases h
 exact A6 (.inr W) (B6 (B2 W) C1) DLe.nil
 refine B4 (s0:=⟨T [(6,(.sl (65,g1)))],G [((65,g1),some<|.arr 229 4 (List.map T4 y1))]⟩) (E1 ⟨.of (Aq e1),trivial⟩<|B5 (Jz G_hit e1) (.of W) trivial) ?_
 refine C0<|ss W<|bs h fun v8 hv8 h=>JR (v:= .d (.tup [])) (us:= [(65,g1)]) (PR (Fq _ _ hv8) [(65,g1)] [(65,g1)] _ (((65,g1),some<|.arr 229 4 (List.map T4 v8))::_) W Qc (Cp KT<|Cp IE AD) (Nq G_hit Ky) ⟨⟨_,G_hit, .of W⟩,trivial⟩ (fun _ h=>h) nd1 W W W) (A1<|A9<|ss W<|ss W<|A1<|B0 ?_)
 cases h
 exact A6 (.inr W) (B6 (B2 W)<|UT G_hit) (.refl _)
def Bh (p1:Pass)(p2:Int)(p3:WorldSpan):Option Bool:=
  some (((p1.Zone_==p2)&& (decide (p1.From≤p3.to)))&& (decide (p3.from_≤p1.To)))
theorem AJ(p1 p2 p3 r)(h:Bh p1 p2 p3=some r):PCall Tryz.prog 247 [(.agg (T4 p1)),(.bp [(i64 p2)] 0),(.bp [(i64 p3.from_),(i64 p3.to)] 0)] (bo r):=by
 refine C3 (fk Tryz.func247 Tryz.ntmps247 m0 (by with_unfolding_all rfl)) (nl W) ?_
 unfold Bh at h
 refine B4 (s0:=⟨T [(0,(.d _)),(1,(.d _)),(2,(.d _))],G []⟩) (F3 W W) ?_
 refine A9<|sm W<|sv W<|A1<|A9<|sq W<|sl W G_hit W<|sv W<|sv W<|sv W<|gp W (M8 W) (fun _=>W) (gt W (vl W G_hit W)<|gt W (fun _=>W) ?_)
 refine gt W (fun w4=>(by simp only [A2 w4];rfl)) ?_
 refine gt W (fun w5=>(N1 (A2 w5) (A2 w5) W))<|sa W W W<|sv W<|gt W (fun _=>W) ?_
 refine gt W (fun w7=>(by simp only [A2 w7];rfl)) ?_
 refine gp W (M8 W) (fun _=>W) (gt W (vl W G_hit W)<|gt W (fun w10=>(N1 (A2 w10) (A2 w10) W))<|sa W W W<|sv W<|A1<|B0 ?_)
 cases h
 exact A6 (.inr W) (B6 (B2 W) C1) (.refl _)
def G3 (p1:(List Pass))(p2:Int)(p3:WorldSpan)(x1:Int):Option (Stp Int (Sum Unit Int)):=
  cond (decide (x1< (p1.length:Int))) ((B7 p1 x1).bind fun v1=>(Bh v1 p2 p3).bind fun v2=>cond v2 (some (.out (.inr x1))) (some (.go (C5 (x1+1))))) (some (.out (.inl ())))
def J2 (p1:(List Pass))(p2:Int)(p3:WorldSpan):Option Int:=
  thenS (loop (G3 p1 p2 p3) 0) (fun _=>some (-1)) (fun r=>some r)
theorem Hg(p1 p2 p3 r)(h:J2 p1 p2 p3=some r):PCall Tryz.prog 262 [(.list (List.map T4 p1)),(.fn (.func 247) [] [(.bp [(i64 p2)] 0),(.bp [(i64 p3.from_),(i64 p3.to)] 0)])] (i64 r):=by
 refine C3 (fk Tryz.func262 Tryz.ntmps262 m0 (by with_unfolding_all rfl)) (nl W) ?_
 unfold J2 at h
 refine B4 (s0:=⟨T [(0,(.d _)),(1,(.d _))],G []⟩) (F3 W W) ?_
 refine A9<|sv W<|A1<|A4<|A9<|sv W<|sd W (D7 W)<|sv W<|A1<|js h fun z1 hz1 h=>E0 (fun s=> ∃(y1:Unit) (g1:Unit),z1= .inl y1∧Sb ⟨T [],G []⟩ s) ?_ ?_
 refine A7<|E3 (G3 p1 p2 p3) (fun (x1:Int) (g2:Unit)=>⟨T [(0,(dl T4 p1)),(1,(.d (.fn (.func 247) [] [(.bp [(i64 p2)] 0),(.bp [(i64 p3.from_),(i64 p3.to)] 0)]))),(7,(di (p1.length:Int))),(8,(di x1))],G []⟩) 0 () _ hz1 (F3 W W) ?_
 intro x1 g2 z2 hz2 ez2
 unfold G3 at hz2
 refine A9<|sv W<|A1<|A4<|cc W hz2 (fun c1 hz2=> ?_)<|fun c1 hz2=> ?_
 refine A8<|A4<|A7<|A9<|sv W<|sv W<|A1<|A9<|sv W<|sv W<|sv W<|bs hz2 fun _ hv1 hz2=>sd W (C8 W W hv1 W)<|sd W (D2 W hv1 W W)<|bs hz2 fun _ hv2 hz2=>B1 W W A3 (AJ _ _ _ _ hv2) (.inl W) (A1<|cc W hz2 (fun c2 hz2=> ?_)<|fun c2 hz2=> ?_)
 refine A9<|sv W<|sv W<|A1<|B0 ?_
 cases hz2
 obtain rfl:=ez2 _ rfl
 refine ⟨nofun,F2 ?_⟩
 rw [bT]at h
 cases h
 exact A6 (.inr W) (B6 (B2 W) C1) (.refl _)
 refine A8<|E2<|C0<|sv W<|sv W<|A1<|E5 ?_
 cases hz2
 exact ⟨W,(),(F3 W W)⟩
 refine C6 W ?_
 cases hz2
 obtain rfl:=ez2 _ rfl
 refine ⟨nofun,C4 W<|Aj ?_⟩
 exact ⟨_,(),W,(F3 W W)⟩
 rintro _ ⟨y1,g1,rfl,q1⟩
 rw [bS]at h
 refine B4 q1<|A9<|sv W<|A1<|B0 ?_
 cases h
 exact A6 (.inr W) (B6 (B2 W) C1) (.refl _)
def G4 (p1:(List Pass))(p2:Int)(p3:WorldSpan):Option Bool:=
  (J2 p1 p2 p3).bind fun v1=>some (decide (v1≥0))
theorem Ga(p1 p2 p3 r)(h:G4 p1 p2 p3=some r):PCall Tryz.prog 245 [(.list (List.map T4 p1)),(.fn (.func 247) [] [(.bp [(i64 p2)] 0),(.bp [(i64 p3.from_),(i64 p3.to)] 0)])] (bo r):=by
 refine C3 (fk Tryz.func245 Tryz.ntmps245 m0 (by with_unfolding_all rfl)) (nl W) ?_
 unfold G4 at h
 refine B4 (s0:=⟨T [(0,(.d _)),(1,(.d _))],G []⟩) (F3 W W) ?_
 refine A9<|sv W<|A1<|A9<|sv W<|sv W<|bs h fun _ hv1 h=>B1 W W A3 (Hg _ _ _ _ hv1) (.inl W) (sv W<|sv W<|A1<|B0 ?_)
 cases h
 exact A6 (.inr W) (B6 (B2 W) C1) (.refl _)
def Fl (p1:Map)(p2:Agent)(p3:Agent)(p4:Int):Option Bool:=
  (Ib p2).bind fun v1=>((cond (!(!v1)) (Ib p3) (some default))).bind fun v2=>cond ((!v1)||(!v2)) (some false) ((Bx p2).bind fun v3=>(Ai p1 p2.Route).bind fun v4=>(G4 v4 p4 (WorldSpan.mk v3.from_ p3.S)).bind fun v5=>some v5)
theorem JW(p1 p2 p3 p4 r)(h:Fl p1 p2 p3 p4=some r):PCall Tryz.prog 218 [(.agg (U5 p1)),(.agg (C9 p2)),(.agg (C9 p3)),(i64 p4)] (bo r):=by
 refine C3 (fk Tryz.func218 Tryz.ntmps218 m0 (by with_unfolding_all rfl)) (nl W) ?_
 unfold Fl at h
 refine B4 (s0:=⟨T [(0,(.d _)),(1,(.d _)),(2,(.d _)),(3,(.d _))],G []⟩) (F3 W W) ?_
 refine A9<|sm W<|sn W W<|sm W<|sn W W<|sv W<|A1<|A4<|A9<|sd W (B3 W (gq W) W W)<|bs h fun v1 hv1 h=>B1 W W A3 (Yj _ _ hv1) (.inl W) (B9 (.d (bo (!v1))) W W (sv W<|gf W (fun _=>(B3 W (gq W) W W))<|bs h fun v2 hv2 h=> ?_))
 refine O3 _ (bo v2) (K5 W) (fun w2=>⟨_,[(.d (.agg (C9 p3)))],_,_,(by simp only [A2 w2];rfl),W,A3,Yj _ _<|C2 w2 hv2,(.inl W)⟩) ?_
 refine N2 _ (.d (bo (!v2))) W (K5 W) (fun w3=>(by simp only [A2 w3];rfl)) ?_
 refine sd W (O2 W W<|fun hc=>A2<|J7 hc)<|A1<|cc W h (fun c1 h=> ?_)<|fun c1 h=> ?_
 refine A9<|sv W<|A1<|B0 ?_
 cases h
 exact A6 (.inr W) (B6 (B2 W) C1) (.refl _)
 refine A8<|A4<|F4 W<|sd W (B3 W (gq W) W W)<|bs h fun v3 hv3 h=>B1 W W A3 (Li _ _ hv3) (.inl W) (sv W<|sq W<|sl W (gq W) W (sv W<|sm W<|Bc W G_hit [(di v3.from_),(di p3.S)] W (A1<|A9<|sd W (B3 W (gq W) W W)<|sq W<|sl W (gq W) W (bs h fun _ hv4 h=>B1 W W A3 (LM _ _ _ hv4) (.inl W) (B9 (.fn _ _ _) W W (bs h fun _ hv5 h=>B1 W (rD<|E7 (EY G2<|E7 (Df (gq W)<|rD G2)<|E7 (Df G_hit<|rD<|rD G2) G2) G2) A3 (Ga _ _ _ _ hv5) (.inr W) (sv W<|A1<|B0 ?_)))))))
 cases h
 exact A6 (.inr W) (B6 (B2 W) C1) (.refl _)
def N9 (p1:WorldScene)(p2:Int)(p3:Int):Option Bool:=
  (Ec p1.before p2).bind fun v1=>((cond v1 (B7 p1.before.Agents p2) (some default))).bind fun v2=>((cond v1 (B7 p1.after.Agents p2) (some default))).bind fun v3=>((cond v1 (Fl p1.m v2 v3 p3) (some default))).bind fun v4=>some (v1&&v4)
theorem Dx(p1 p2 p3 r)(h:N9 p1 p2 p3=some r):PCall Tryz.prog 171 [(.bp (Sy p1) 0),(i64 p2),(i64 p3)] (bo r):=by
 refine C3 (fk Tryz.func171 Tryz.ntmps171 m0 (by with_unfolding_all rfl)) (nl W) ?_
 unfold N9 at h
 refine B4 (s0:=⟨T [(0,(.d _)),(1,(.d _)),(2,(.d _))],G []⟩) (F3 W W) ?_
 refine A9<|sv W<|A1<|A4<|F4 W<|sv W<|sv W<|sv W<|sv W<|sv W<|bs h fun v1 hv1 h=>B1 W W A3 (Qh _ _ _ hv1) (.inl W) (sv W<|gt W (fun _=>W) ?_)
 refine gt W (fun w2=>(by simp only [A2 w2];rfl)) ?_
 refine gt W (fun w3=>(by simp only [A2 w3];rfl)) ?_
 refine gt W (fun w4=>(by simp only [A2 w4];rfl)) ?_
 refine gt W (fun _=>W) ?_
 refine gt W (fun w6=>(by simp only [A2 w6];rfl)) ?_
 refine gt W (fun w7=>(by simp only [A2 w7];rfl)) ?_
 refine gt W (fun w8=>(by simp only [A2 w8];rfl)) ?_
 refine gt W (fun w9=>(by simp only [A2 w9];rfl)) ?_
 refine gt W (fun _=>W)<|bs h fun v2 hv2 h=>gt W (fun w11=>(C8 (A2 w11) (A2 w11) (C2 w11 hv2) W))<|gt W (fun w12=>(D2 (A2 w12) (C2 w12 hv2) W W))<|gt W (fun _=>W) ?_
 refine gt W (fun w14=>(by simp only [A2 w14];rfl)) ?_
 refine gt W (fun w15=>(by simp only [A2 w15];rfl)) ?_
 refine gt W (fun w16=>(by simp only [A2 w16];rfl)) ?_
 refine gt W (fun w17=>(by simp only [A2 w17];rfl)) ?_
 refine gt W (fun _=>W)<|bs h fun v3 hv3 h=>gt W (fun w19=>(C8 (A2 w19) (A2 w19) (C2 w19 hv3) W))<|gt W (fun w20=>(D2 (A2 w20) (C2 w20 hv3) W W))<|gt W (fun _=>W)<|bs h fun v4 hv4 h=> ?_
 refine O3 v1 (bo v4) (M8 W) (fun w22=>⟨_,[(.d (.agg (U5 p1.m))),(.d (.agg (C9 v2))),(.d (.agg (C9 v3))),(di p3)],_,_,(by simp only [A2 w22];rfl),W,A3,JW _ _ _ _ _<|C2 w22 hv4,(.inl W)⟩) ?_
 refine sa W W W<|sv W<|A1<|B0 ?_
 cases h
 exact A6 (.inr W) (B6 (B2 W) C1) (.refl _)
def D4 (p1:(List Stay))(p2:Stay)(x1:(Int×Int)):Option (Stp (Int×Int) Int):=
  cond (decide (x1.1<x1.2)) ((B7 p1 (C5 ((IntKind.wrap .u64 (C5 (x1.1+x1.2))).fdiv (2^ (min (1:Int).toNat (IntKind.bits .u64)))))).bind fun v1=>(Fj v1 p2).bind fun v2=>cond (decide (v2<0)) (some (.go ((C5 ((C5 ((IntKind.wrap .u64 (C5 (x1.1+x1.2))).fdiv (2^ (min (1:Int).toNat (IntKind.bits .u64)))))+1)),x1.2))) (some (.go (x1.1,(C5 ((IntKind.wrap .u64 (C5 (x1.1+x1.2))).fdiv (2^ (min (1:Int).toNat (IntKind.bits .u64))))))))) (some (.out x1.1))
def D0 (p1:(List Stay))(p2:Stay):Option (Int×Bool):=
  (loop (D4 p1 p2) (0,(p1.length:Int))).bind fun y1=>((cond (decide (y1< (p1.length:Int))) (B7 p1 y1) (some default))).bind fun v3=>((cond (decide (y1< (p1.length:Int))) (Fj v3 p2) (some default))).bind fun v4=>some (y1,((decide (y1< (p1.length:Int)))&& (v4==0)))
theorem P6(p1 p2 r)(h:D0 p1 p2=some r):PCall Tryz.prog 172 [(.list (List.map J8 p1)),(.agg (J8 p2)),(.fn (.func 73) [] [])] (.tup [(i64 r.1),(bo r.2)]):=by
 refine C3 (fk Tryz.func172 Tryz.ntmps172 m0 (by with_unfolding_all rfl)) (nl W) ?_
 unfold D0 at h
 refine B4 (s0:=⟨T [(0,(.d _)),(1,(.d _)),(2,(.d _))],G []⟩) (F3 W W) ?_
 refine lr<|fun u1 _=>sm W<|sv W<|sv W<|A1<|A9<|sv W<|sd W (D7 W)<|sv W<|A1<|A9<|sv W<|sv W<|sv W<|A1<|A4<|bs h fun y1 hy1 h=>E0 (fun s=> ∃g1:Unit,Sb ⟨T [(0,(dl J8 p1)),(2,(.d (.fn (.func 73) [] []))),(4,(.ptr (4,u1) 0)),(8,(di (p1.length:Int))),(9,(di y1))],G [((4,u1),some<|.box 127 (BM p2))]⟩ s) ?_ ?_
 refine A7<|E3 (D4 p1 p2) (fun (x1:(Int×Int)) (g2:Unit)=>⟨T [(0,(dl J8 p1)),(2,(.d (.fn (.func 73) [] []))),(4,(.ptr (4,u1) 0)),(8,(di (p1.length:Int))),(9,(di x1.1)),(10,(di x1.2))],G [((4,u1),some<|.box 127 (BM p2))]⟩) (0,(p1.length:Int)) () _ hy1 (F3 W W) ?_
 intro x1 g2 z1 hz1 ez1
 unfold D4 at hz1
 refine A4<|A9<|sv W<|sv W<|sv W<|A1<|cc W hz1 (fun c1 hz1=> ?_)<|fun c1 hz1=> ?_
 refine A8<|A7<|A9<|sv W<|sv W<|sv W<|sv W<|sv W<|sv W<|sv W<|A1<|A4<|F4 W<|sv W<|sv W<|sv W<|bs hz1 fun _ hv1 hz1=>sd W (C8 W W hv1 W)<|sd W (D2 W hv1 W W)<|sd W (B3 W G_hit W W)<|bs hz1 fun _ hv2 hz1=>B1 W W A3 (Vx _ _ _ hv2) (.inl W) (sv W<|A1<|cc W hz1 (fun c2 hz1=> ?_)<|fun c2 hz1=> ?_)
 refine C0<|sv W<|sv W<|sv W<|A1<|E2<|E5 ?_
 cases hz1
 exact ⟨W,(),(F3 W W)⟩
 refine C0<|sv W<|sv W<|A1<|E2<|E5 ?_
 cases hz1
 exact ⟨W,(),(F3 W W)⟩
 refine C6 W ?_
 cases hz1
 obtain rfl:=ez1 _ rfl
 refine ⟨nofun,C4 W<|Aj ?_⟩
 exact ⟨(),(F3 W W)⟩
 rintro _ ⟨g1,q1⟩
 refine B4 q1<|A4<|F4 W<|sv W<|sv W<|sv W<|sv W<|sv W<|gt W (fun _=>W)<|gt W (fun _=>W)<|gt W (fun _=>W)<|bs h fun v3 hv3 h=>gt W (fun w4=>(C8 (A2 w4) (A2 w4) (C2 w4 hv3) W))<|gt W (fun w5=>(D2 (A2 w5) (C2 w5 hv3) W W))<|gt W (fun _=>(B3 W G_hit W W))<|bs h fun v4 hv4 h=> ?_
 refine O3 _ (i64 v4) (M8 W) (fun w7=>⟨_,[(.d (.agg (J8 v3))),(.d (.agg (J8 p2)))],_,_,(by simp only [A2 w7];rfl),W,A3,Vx _ _ _<|C2 w7 hv4,(.inl W)⟩) ?_
 refine gt W (vb W W W)<|sa W W W<|sv W<|sv W<|A1<|B0 ?_
 cases h
 exact A6 (.inr W) (Po (B2 W) (B2 W) C1 C1) (.refl _)
def Gb (p1:Part)(p2:Int):Option Bool:=
  some (p1.Lane_==p2)
theorem IM(p1 p2 r)(h:Gb p1 p2=some r):PCall Tryz.prog 265 [(.agg (Dp p1)),(.bp [(i64 p2)] 0)] (bo r):=by
 refine C3 (fk Tryz.func265 Tryz.ntmps265 m0 (by with_unfolding_all rfl)) (nl W) ?_
 unfold Gb at h
 refine B4 (s0:=⟨T [(0,(.d _)),(1,(.d _))],G []⟩) (F3 W W) ?_
 refine A9<|sm W<|sv W<|A1<|A9<|sq W<|sl W G_hit W<|sv W<|sv W<|sv W<|A1<|B0 ?_
 cases h
 exact A6 (.inr W) (B6 (B2 W) C1) (.refl _)
def H9 (p1:(List Part))(p2:Int)(x1:Int):Option (Stp Int (Sum Unit Int)):=
  cond (decide (x1< (p1.length:Int))) ((B7 p1 x1).bind fun v1=>(Gb v1 p2).bind fun v2=>cond v2 (some (.out (.inr x1))) (some (.go (C5 (x1+1))))) (some (.out (.inl ())))
def K7 (p1:(List Part))(p2:Int):Option Int:=
  thenS (loop (H9 p1 p2) 0) (fun _=>some (-1)) (fun r=>some r)
theorem Jp(p1 p2 r)(h:K7 p1 p2=some r):PCall Tryz.prog 220 [(.list (List.map Dp p1)),(.fn (.func 265) [] [(.bp [(i64 p2)] 0)])] (i64 r):=by
 refine C3 (fk Tryz.func220 Tryz.ntmps220 m0 (by with_unfolding_all rfl)) (nl W) ?_
 unfold K7 at h
 refine B4 (s0:=⟨T [(0,(.d _)),(1,(.d _))],G []⟩) (F3 W W) ?_
 refine A9<|sv W<|A1<|A4<|A9<|sv W<|sd W (D7 W)<|sv W<|A1<|js h fun z1 hz1 h=>E0 (fun s=> ∃(y1:Unit) (g1:Unit),z1= .inl y1∧Sb ⟨T [],G []⟩ s) ?_ ?_
 refine A7<|E3 (H9 p1 p2) (fun (x1:Int) (g2:Unit)=>⟨T [(0,(dl Dp p1)),(1,(.d (.fn (.func 265) [] [(.bp [(i64 p2)] 0)]))),(7,(di (p1.length:Int))),(8,(di x1))],G []⟩) 0 () _ hz1 (F3 W W) ?_
 intro x1 g2 z2 hz2 ez2
 unfold H9 at hz2
 refine A9<|sv W<|A1<|A4<|cc W hz2 (fun c1 hz2=> ?_)<|fun c1 hz2=> ?_
 refine A8<|A4<|A7<|A9<|sv W<|sv W<|A1<|A9<|sv W<|sv W<|sv W<|bs hz2 fun _ hv1 hz2=>sd W (C8 W W hv1 W)<|sd W (D2 W hv1 W W)<|bs hz2 fun _ hv2 hz2=>B1 W W A3 (IM _ _ _ hv2) (.inl W) (A1<|cc W hz2 (fun c2 hz2=> ?_)<|fun c2 hz2=> ?_)
 refine A9<|sv W<|sv W<|A1<|B0 ?_
 cases hz2
 obtain rfl:=ez2 _ rfl
 refine ⟨nofun,F2 ?_⟩
 rw [bT]at h
 cases h
 exact A6 (.inr W) (B6 (B2 W) C1) (.refl _)
 refine A8<|E2<|C0<|sv W<|sv W<|A1<|E5 ?_
 cases hz2
 exact ⟨W,(),(F3 W W)⟩
 refine C6 W ?_
 cases hz2
 obtain rfl:=ez2 _ rfl
 refine ⟨nofun,C4 W<|Aj ?_⟩
 exact ⟨_,(),W,(F3 W W)⟩
 rintro _ ⟨y1,g1,rfl,q1⟩
 rw [bS]at h
 refine B4 q1<|A9<|sv W<|A1<|B0 ?_
 cases h
 exact A6 (.inr W) (B6 (B2 W) C1) (.refl _)
def Mu (p1:Zone)(p2:Int):Option (Part×Bool):=
  (K7 p1.Parts p2).bind fun v1=>cond (decide (v1<0)) (some ((Part.mk 0 0 0 0),false)) ((B7 p1.Parts v1).bind fun v2=>some (v2,true))
theorem PT(p1 p2 r)(h:Mu p1 p2=some r):PCall Tryz.prog 251 [(.agg [(.list (List.map Dp p1.Parts)),(i64 p1.Signal_)]),(i64 p2)] (.tup [(.agg (Dp r.1)),(bo r.2)]):=by
 refine C3 (fk Tryz.func251 Tryz.ntmps251 m0 (by with_unfolding_all rfl)) (nl W) ?_
 unfold Mu at h
 refine B4 (s0:=⟨T [(0,(.d _)),(1,(.d _))],G []⟩) (F3 W W) ?_
 refine A9<|sm W<|sn W W<|sm W<|sv W<|A1<|A9<|sq W<|sl W (gq W) W (B9 (.fn _ _ _) W W (bs h fun _ hv1 h=>B1 W (rD<|E7 (EY G2<|E7 (Df (gq W)<|rD G2) G2) G2) A3 (Jp _ _ _ hv1) (.inr W) (sv W<|A1<|A4<|A9<|sv W<|sv W<|A1<|cc W h (fun c1 h=> ?_)<|fun c1 h=> ?_)))
 refine A9<|sv W<|Bc W G_hit (zs 4) W (sv W<|A1<|B0 ?_)
 cases h
 exact A6 (.inr W) (Po (L4 W G_hit (nl W) W) (B2 W) C1 C1) (.refl _)
 refine A8<|A9<|sq W<|sl W (gq W) W (sv W<|bs h fun v2 hv2 h=>sd W (C8 W W hv2 W)<|sd W (D2 W hv2 W W)<|Bc W G_hit (FA v2) W (sv W<|A1<|B0 ?_))
 cases h
 exact A6 (.inr W) (Po (L4 W G_hit (nl W) W) (B2 W) C1 C1) (.refl _)
def Cu (p1:Int)(p2:Map)(p3:Int):Option Bool:=
  (B7 p2.Zones p3).bind fun v1=>(Mu v1 p1).bind fun v2=>some v2.2
theorem DF(p1 p2 p3 r)(h:Cu p1 p2 p3=some r):PCall Tryz.prog 250 [(i64 p1),(.bp (U5 p2) 0),(.bp [(i64 p3)] 0)] (bo r):=by
 refine C3 (fk Tryz.func250 Tryz.ntmps250 m0 (by with_unfolding_all rfl)) (nl W) ?_
 unfold Cu at h
 refine B4 (s0:=⟨T [(0,(.d _)),(1,(.d _)),(2,(.d _))],G []⟩) (F3 W W) ?_
 refine A9<|sv W<|A1<|A9<|sv W<|sv W<|sv W<|bs h fun _ hv1 h=>sd W (C8 W W hv1 W)<|sd W (D2 W hv1 W W)<|sv W<|bs h fun v2 hv2 h=>B1 W W A3 (PT _ _ _ hv2) (.inl W) (sv W<|sv W<|sv W<|sm W<|Bc W G_hit (FA v2.1) W (sv W<|A1<|A9<|sv W<|sv W<|A1<|B0 ?_))
 cases h
 exact A6 (.inr W) (B6 (B2 W) C1) (.refl _)
def I0 (p1:(List Int))(p2:Map)(p3:Int)(x1:Int):Option (Stp Int (Sum Unit Int)):=
  cond (decide (x1< (p1.length:Int))) ((B7 p1 x1).bind fun v1=>(Cu v1 p2 p3).bind fun v2=>cond v2 (some (.out (.inr x1))) (some (.go (C5 (x1+1))))) (some (.out (.inl ())))
def J0 (p1:(List Int))(p2:Map)(p3:Int):Option Int:=
  thenS (loop (I0 p1 p2 p3) 0) (fun _=>some (-1)) (fun r=>some r)
theorem Jq(p1 p2 p3 r)(h:J0 p1 p2 p3=some r):PCall Tryz.prog 249 [(.list (List.map A5 p1)),(.fn (.func 250) [] [(.bp (U5 p2) 0),(.bp [(i64 p3)] 0)])] (i64 r):=by
 refine C3 (fk Tryz.func249 Tryz.ntmps249 m0 (by with_unfolding_all rfl)) (nl W) ?_
 unfold J0 at h
 refine B4 (s0:=⟨T [(0,(.d _)),(1,(.d _))],G []⟩) (F3 W W) ?_
 refine A9<|sv W<|A1<|A4<|A9<|sv W<|sd W (D7 W)<|sv W<|A1<|js h fun z1 hz1 h=>E0 (fun s=> ∃(y1:Unit) (g1:Unit),z1= .inl y1∧Sb ⟨T [],G []⟩ s) ?_ ?_
 refine A7<|E3 (I0 p1 p2 p3) (fun (x1:Int) (g2:Unit)=>⟨T [(0,(dl A5 p1)),(1,(.d (.fn (.func 250) [] [(.bp (U5 p2) 0),(.bp [(i64 p3)] 0)]))),(7,(di (p1.length:Int))),(8,(di x1))],G []⟩) 0 () _ hz1 (F3 W W) ?_
 intro x1 g2 z2 hz2 ez2
 unfold I0 at hz2
 refine A9<|sv W<|A1<|A4<|cc W hz2 (fun c1 hz2=> ?_)<|fun c1 hz2=> ?_
 refine A8<|A4<|A7<|A9<|sv W<|sv W<|A1<|A9<|sv W<|sv W<|sv W<|bs hz2 fun _ hv1 hz2=>sd W (C8 W W hv1 W)<|sd W (D6 W hv1 W)<|bs hz2 fun _ hv2 hz2=>B1 W W A3 (DF _ _ _ _ hv2) (.inl W) (A1<|cc W hz2 (fun c2 hz2=> ?_)<|fun c2 hz2=> ?_)
 refine A9<|sv W<|sv W<|A1<|B0 ?_
 cases hz2
 obtain rfl:=ez2 _ rfl
 refine ⟨nofun,F2 ?_⟩
 rw [bT]at h
 cases h
 exact A6 (.inr W) (B6 (B2 W) C1) (.refl _)
 refine A8<|E2<|C0<|sv W<|sv W<|A1<|E5 ?_
 cases hz2
 exact ⟨W,(),(F3 W W)⟩
 refine C6 W ?_
 cases hz2
 obtain rfl:=ez2 _ rfl
 refine ⟨nofun,C4 W<|Aj ?_⟩
 exact ⟨_,(),W,(F3 W W)⟩
 rintro _ ⟨y1,g1,rfl,q1⟩
 rw [bS]at h
 refine B4 q1<|A9<|sv W<|A1<|B0 ?_
 cases h
 exact A6 (.inr W) (B6 (B2 W) C1) (.refl _)
def Jt (p1:Map)(p2:(List Int))(p3:Int):Option Int:=
  (Cr p1 p2).bind fun v1=>cond ((decide (p3<0))||(decide (p3≥(p1.Zones.length:Int)))) (some (-1)) ((J0 v1.lanes p1 p3).bind fun v2=>some v2)
theorem OB(p1 p2 p3 r)(h:Jt p1 p2 p3=some r):PCall Tryz.prog 222 [(.agg (U5 p1)),(.list (List.map A5 p2)),(i64 p3)] (i64 r):=by
 refine C3 (fk Tryz.func222 Tryz.ntmps222 m0 (by with_unfolding_all rfl)) (nl W) ?_
 unfold Jt at h
 refine B4 (s0:=⟨T [(0,(.d _)),(1,(.d _)),(2,(.d _))],G []⟩) (F3 W W) ?_
 refine A9<|sm W<|sn W W<|sv W<|A1<|A9<|sd W (B3 W (gq W) W W)<|sv W<|bs h fun v1 hv1 h=>B1 W W A3 (Pa _ _ _ hv1) (.inl W) (sm W<|Bc W G_hit (Rl v1) W (A1<|A4<|A9<|sl W (gq W) W (sv W<|sv W<|gf W (fun _=>(T6 W (gq W) W))<|gp W (K5 W) (fun _=>W) (gf W (vl W (gq W) W)<|gf W (fun w4=>(D7<|A2 w4))<|gf W (fun w5=>(N1 (A2 w5) (A2 w5) W))<|sd W (O2 W W<|fun hc=>A2<|J7 hc)<|A1<|cc W h (fun c1 h=> ?_)<|fun c1 h=> ?_))))
 refine A9<|sv W<|A1<|B0 ?_
 cases h
 exact A6 (.inr W) (B6 (B2 W) C1) (.refl _)
 refine A8<|A9<|sq W<|sl W G_hit W<|B9 (.fn _ _ _) W W (bs h fun _ hv2 h=>B1 W (rD<|E7 (EY G2<|E7 (Df (gq W)<|rD<|rD<|rD<|rD<|rD G2)<|E7 (Df (gq W)<|rD G2) G2) G2) A3 (Jq _ _ _ _ hv2) (.inr W) (sv W<|A1<|B0 ?_))
 cases h
 exact A6 (.inr W) (B6 (B2 W) C1) (.refl _)
def Fm (p1:Map)(p2:(List Int))(p3:Int):Option Int:=
  (Jt p1 p2 p3).bind fun v1=>cond (decide (v1≥0)) ((B7 p2 v1).bind fun v2=>some v2) (some (-1))
theorem Vz(p1 p2 p3 r)(h:Fm p1 p2 p3=some r):PCall Tryz.prog 175 [(.agg (U5 p1)),(.list (List.map A5 p2)),(i64 p3)] (i64 r):=by
 refine C3 (fk Tryz.func175 Tryz.ntmps175 m0 (by with_unfolding_all rfl)) (nl W) ?_
 unfold Fm at h
 refine B4 (s0:=⟨T [(0,(.d _)),(1,(.d _)),(2,(.d _))],G []⟩) (F3 W W) ?_
 refine A9<|sm W<|sv W<|A1<|A4<|A9<|sd W (B3 W G_hit W W)<|sv W<|sv W<|bs h fun _ hv1 h=>B1 W W A3 (OB _ _ _ _ hv1) (.inl W) (sv W<|A1<|A9<|sv W<|sv W<|A1<|cc W h (fun c1 h=> ?_)<|fun c1 h=> ?_)
 refine A9<|sv W<|sv W<|bs h fun _ hv2 h=>sd W (C8 W W hv2 W)<|sd W (D6 W hv2 W)<|sv W<|A1<|B0 ?_
 cases h
 exact A6 (.inr W) (B6 (B2 W) C1) (.refl _)
 refine A8<|A9<|sv W<|A1<|B0 ?_
 cases h
 exact A6 (.inr W) (B6 (B2 W) C1) (.refl _)
def Ol (p1:Map)(p2:Int):Option Bool:=
  ((cond ((decide (p2≥0))&& (decide (p2< (p1.Lanes.length:Int)))) (Fi p1) (some default))).bind fun v1=>some (((decide (p2≥0))&& (decide (p2< (p1.Lanes.length:Int))))&& (v1==0))
theorem DG(p1 p2 r)(h:Ol p1 p2=some r):PCall Tryz.prog 206 [(.agg (U5 p1)),(i64 p2)] (bo r):=by
 refine C3 (fk Tryz.func206 Tryz.ntmps206 m0 (by with_unfolding_all rfl)) (nl W) ?_
 unfold Ol at h
 refine B4 (s0:=⟨T [(0,(.d _)),(1,(.d _))],G []⟩) (F3 W W) ?_
 refine A9<|sm W<|sv W<|A1<|A9<|sv W<|sv W<|sv W<|gt W (fun _=>W)<|gp W (M8 W) (fun _=>W) (gt W (vl W G_hit W)<|gt W (fun w4=>(D7<|A2 w4))<|gt W (fun w5=>(N1 (A2 w5) (A2 w5) W))<|sa W W W<|sv W<|gt W (fun _=>(B3 W G_hit W W))<|bs h fun v1 hv1 h=> ?_)
 refine O3 _ (i64 v1) (M8 W) (fun w7=>⟨_,[(.d (.agg (U5 p1)))],_,_,(by simp only [A2 w7];rfl),W,A3,Vw _ _<|C2 w7 hv1,(.inl W)⟩) ?_
 refine gt W (vb W W W)<|sa W W W<|sv W<|A1<|B0 ?_
 cases h
 exact A6 (.inr W) (B6 (B2 W) C1) (.refl _)
def Z0 (p1:Signal)(p2:Int)(x2:(Int×Int)):Option (Stp (Int×Int) (Sum Unit Bool)):=
  cond (decide (x2.2< (p1.Phases.length:Int))) ((B7 p1.Phases x2.2).bind fun v5=>cond (decide (x2.1≥v5.Ticks)) (some (.go ((C5 (x2.1 - v5.Ticks)),(C5 (x2.2+1))))) ((N6 v5.Green p2).bind fun v6=>some (.out (.inr v6)))) (some (.out (.inl ())))
def At (p1:Signal)(x1:(Int×Int)):Option (Stp (Int×Int) Int):=
  cond (decide (x1.2< (p1.Phases.length:Int))) ((B7 p1.Phases x1.2).bind fun v1=>some (.go ((C5 (x1.1+v1.Ticks)),(C5 (x1.2+1))))) (some (.out x1.1))
def Hh (p1:Signal)(p2:Int)(p3:Int):Option Bool:=
  (loop (At p1) (0,0)).bind fun y1=>(ER p1.Offset y1).bind fun v2=>(ER p3 y1).bind fun v3=>(ER (C5 (v2+v3)) y1).bind fun v4=>thenS (loop (Z0 p1 p2) (v4,0)) (fun _=>some false) (fun r=>some r)
theorem DH(p1 p2 p3 r)(h:Hh p1 p2 p3=some r):PCall Tryz.prog 248 [(.agg [(i64 p1.Offset),(.list (List.map Dg p1.Phases))]),(i64 p2),(i64 p3)] (bo r):=by
 refine C3 (fk Tryz.func248 Tryz.ntmps248 m0 (by with_unfolding_all rfl)) (nl W) ?_
 unfold Hh at h
 refine B4 (s0:=⟨T [(0,(.d _)),(1,(.d _)),(2,(.d _))],G []⟩) (F3 W W) ?_
 refine lr<|fun u1 _=>sm W<|sv W<|A1<|mD<|A9<|sv W<|A1<|A4<|A9<|sq W<|sl W G_hit W<|sd W (D7 W)<|sv W<|A1<|bs h fun y1 hy1 h=>E0 (fun s=> ∃g1:Unit,Sb ⟨T [(1,(di p2)),(2,(di p3)),(3,(.ptr (3,u1) 0)),(7,(di y1))],G [((3,u1),some<|.box 120 [(di p1.Offset),(dl Dg p1.Phases)])]⟩ s) ?_ ?_
 refine A7<|E3 (At p1) (fun (x1:(Int×Int)) (g2:Unit)=>⟨T [(1,(di p2)),(2,(di p3)),(3,(.ptr (3,u1) 0)),(7,(di x1.1)),(14,(dl Dg p1.Phases)),(15,(di (p1.Phases.length:Int))),(16,(di x1.2))],G [((3,u1),some<|.box 120 [(di p1.Offset),(dl Dg p1.Phases)])]⟩) (0,0) () _ hy1 (F3 W W) ?_
 intro x1 g2 z1 hz1 ez1
 unfold At at hz1
 refine A9<|sv W<|A1<|A4<|cc W hz1 (fun c1 hz1=> ?_)<|fun c1 hz1=> ?_
 refine A8<|A4<|A7<|A9<|bs hz1 fun v1 hv1 hz1=>sd W (C8 W W hv1 W)<|sd W (D2 W hv1 W W)<|sm W<|Bc W G_hit [(di v1.Ticks),(dl A5 v1.Green)] W (A1<|C0<|sv W<|sq W<|sl W G_hit W<|sv W<|sv W<|A1<|E2<|C0<|sv W<|sv W<|A1<|E5 ?_)
 cases hz1
 exact ⟨W,(),(F3 W W)⟩
 refine C6 W ?_
 cases hz1
 obtain rfl:=ez1 _ rfl
 refine ⟨nofun,C4 W<|Aj ?_⟩
 exact ⟨(),(F3 W W)⟩
 rintro _ ⟨g1,q1⟩
 refine B4 q1<|A4<|F4 W<|sq W<|sl W G_hit W<|sv W<|bs h fun _ hv2 h=>sd W (NP W W hv2)<|sv W<|sv W<|bs h fun _ hv3 h=>sd W (NP W W hv3)<|sv W<|sv W<|bs h fun v4 hv4 h=>sd W (NP W W hv4)<|sv W<|A1<|A4<|A8<|A4<|A9<|sq W<|sl W G_hit W<|sd W (D7 W)<|sv W<|A1<|js h fun z2 hz2 h=>E0 (fun s=> ∃(y2:Unit) (g3:Unit),z2= .inl y2∧Sb ⟨T [],G []⟩ s) ?_ ?_
 refine A7<|E3 (Z0 p1 p2) (fun (x2:(Int×Int)) (g4:Unit)=>⟨T [(1,(di p2)),(10,(di x2.1)),(36,(dl Dg p1.Phases)),(37,(di (p1.Phases.length:Int))),(38,(di x2.2))],G []⟩) (v4,0) () _ hz2 (F3 W W) ?_
 intro x2 g4 z3 hz3 ez3
 unfold Z0 at hz3
 refine A9<|sv W<|A1<|A4<|cc W hz3 (fun c2 hz3=> ?_)<|fun c2 hz3=> ?_
 refine A8<|A4<|A7<|A9<|bs hz3 fun v5 hv5 hz3=>sd W (C8 W W hv5 W)<|sd W (D2 W hv5 W W)<|sm W<|Bc W G_hit [(di v5.Ticks),(dl A5 v5.Green)] W (A1<|A4<|A9<|sv W<|sq W<|sl W G_hit W<|sv W<|A1<|cc W hz3 (fun c3 hz3=> ?_)<|fun c3 hz3=> ?_)
 refine A9<|sv W<|sq W<|sl W G_hit W<|sv W<|sv W<|A1<|Zz W<|C0<|sv W<|sv W<|A1<|E5 ?_
 cases hz3
 exact ⟨W,(),(F3 W W)⟩
 refine A8<|A9<|sq W<|sl W G_hit W<|sv W<|bs hz3 fun _ hv6 hz3=>B1 W W A3 (Fz _ _ _ hv6) (.inl W) (sv W<|A1<|B0 ?_)
 cases hz3
 obtain rfl:=ez3 _ rfl
 refine ⟨nofun,F2 ?_⟩
 rw [bT]at h
 cases h
 exact A6 (.inr W) (B6 (B2 W) C1) (.refl _)
 refine C6 W ?_
 cases hz3
 obtain rfl:=ez3 _ rfl
 refine ⟨nofun,C4 W<|Aj ?_⟩
 exact ⟨_,(),W,(F3 W W)⟩
 rintro _ ⟨y2,g3,rfl,q2⟩
 rw [bS]at h
 refine B4 q2<|A9<|sv W<|A1<|B0 ?_
 cases h
 exact A6 (.inr W) (B6 (B2 W) C1) (.refl _)
def Ju (p1:Map)(p2:Int)(p3:Int)(p4:Int):Option Bool:=
  ((cond (((decide (p4≥0))&& (decide (p2≥0)))&& (decide (p2< (p1.Signals.length:Int)))) (Ol p1 p3) (some default))).bind fun v1=>((cond ((((decide (p4≥0))&& (decide (p2≥0)))&& (decide (p2< (p1.Signals.length:Int))))&&v1) (B7 p1.Signals p2) (some default))).bind fun v2=>((cond ((((decide (p4≥0))&& (decide (p2≥0)))&& (decide (p2< (p1.Signals.length:Int))))&&v1) (Hh v2 p3 p4) (some default))).bind fun v3=>some (((((decide (p4≥0))&& (decide (p2≥0)))&& (decide (p2< (p1.Signals.length:Int))))&&v1)&&v3)
theorem OD(p1 p2 p3 p4 r)(h:Ju p1 p2 p3 p4=some r):PCall Tryz.prog 219 [(.agg (U5 p1)),(i64 p2),(i64 p3),(i64 p4)] (bo r):=by
 refine C3 (fk Tryz.func219 Tryz.ntmps219 m0 (by with_unfolding_all rfl)) (nl W) ?_
 unfold Ju at h
 refine B4 (s0:=⟨T [(0,(.d _)),(1,(.d _)),(2,(.d _)),(3,(.d _))],G []⟩) (F3 W W) ?_
 refine A9<|sm W<|sv W<|A1<|A9<|sv W<|sv W<|sv W<|gt W (fun _=>W)<|gt W (vb W W W)<|sa W W W<|sv W<|gt W (fun _=>W)<|gp W (M8 W) (fun _=>W) (gt W (vl W G_hit W)<|gt W (fun w6=>(D7<|A2 w6))<|gt W (fun w7=>(N1 (A2 w7) (A2 w7) W))<|sa W W W<|sv W<|gt W (fun _=>(B3 W G_hit W W))<|gt W (fun _=>W)<|bs h fun v1 hv1 h=> ?_)
 refine O3 _ (bo v1) (M8 W) (fun w10=>⟨_,[(.d (.agg (U5 p1))),(di p3)],_,_,(by simp only [A2 w10];rfl),W,A3,DG _ _ _<|C2 w10 hv1,(.inl W)⟩) ?_
 refine sa W W W<|sv W<|gp W (M8 W) (fun _=>W) (gt W (vl W G_hit W)<|gt W (fun _=>W)<|bs h fun v2 hv2 h=>gt W (fun w14=>(C8 (A2 w14) (A2 w14) (C2 w14 hv2) W))<|gt W (fun w15=>(D2 (A2 w15) (C2 w15 hv2) W W))<|gt W (fun _=>W)<|gt W (fun _=>W)<|bs h fun v3 hv3 h=> ?_)
 refine O3 _ (bo v3) (M8 W) (fun w18=>⟨_,[(.d (.agg [(i64 v2.Offset),(.list (List.map Dg v2.Phases))])),(di p3),(di p4)],_,_,(by simp only [A2 w18];rfl),W,A3,DH _ _ _ _<|C2 w18 hv3,(.inl W)⟩) ?_
 refine sa W W W<|sv W<|A1<|B0 ?_
 cases h
 exact A6 (.inr W) (B6 (B2 W) C1) (.refl _)
def Gc (p1:Part)(p2:Int):Option Bool:=
  some (p1.Lane_==p2)
theorem IN(p1 p2 r)(h:Gc p1 p2=some r):PCall Tryz.prog 221 [(.agg (Dp p1)),(.bp [(i64 p2)] 0)] (bo r):=by
 refine C3 (fk Tryz.func221 Tryz.ntmps221 m0 (by with_unfolding_all rfl)) (nl W) ?_
 unfold Gc at h
 refine B4 (s0:=⟨T [(0,(.d _)),(1,(.d _))],G []⟩) (F3 W W) ?_
 refine A9<|sm W<|sv W<|A1<|A9<|sq W<|sl W G_hit W<|sv W<|sv W<|sv W<|A1<|B0 ?_
 cases h
 exact A6 (.inr W) (B6 (B2 W) C1) (.refl _)
def I3 (p1:(List Part))(p2:Int)(x1:Int):Option (Stp Int (Sum Unit Int)):=
  cond (decide (x1< (p1.length:Int))) ((B7 p1 x1).bind fun v1=>(Gc v1 p2).bind fun v2=>cond v2 (some (.out (.inr x1))) (some (.go (C5 (x1+1))))) (some (.out (.inl ())))
def J1 (p1:(List Part))(p2:Int):Option Int:=
  thenS (loop (I3 p1 p2) 0) (fun _=>some (-1)) (fun r=>some r)
theorem Jr(p1 p2 r)(h:J1 p1 p2=some r):PCall Tryz.prog 220 [(.list (List.map Dp p1)),(.fn (.func 221) [] [(.bp [(i64 p2)] 0)])] (i64 r):=by
 refine C3 (fk Tryz.func220 Tryz.ntmps220 m0 (by with_unfolding_all rfl)) (nl W) ?_
 unfold J1 at h
 refine B4 (s0:=⟨T [(0,(.d _)),(1,(.d _))],G []⟩) (F3 W W) ?_
 refine A9<|sv W<|A1<|A4<|A9<|sv W<|sd W (D7 W)<|sv W<|A1<|js h fun z1 hz1 h=>E0 (fun s=> ∃(y1:Unit) (g1:Unit),z1= .inl y1∧Sb ⟨T [],G []⟩ s) ?_ ?_
 refine A7<|E3 (I3 p1 p2) (fun (x1:Int) (g2:Unit)=>⟨T [(0,(dl Dp p1)),(1,(.d (.fn (.func 221) [] [(.bp [(i64 p2)] 0)]))),(7,(di (p1.length:Int))),(8,(di x1))],G []⟩) 0 () _ hz1 (F3 W W) ?_
 intro x1 g2 z2 hz2 ez2
 unfold I3 at hz2
 refine A9<|sv W<|A1<|A4<|cc W hz2 (fun c1 hz2=> ?_)<|fun c1 hz2=> ?_
 refine A8<|A4<|A7<|A9<|sv W<|sv W<|A1<|A9<|sv W<|sv W<|sv W<|bs hz2 fun _ hv1 hz2=>sd W (C8 W W hv1 W)<|sd W (D2 W hv1 W W)<|bs hz2 fun _ hv2 hz2=>B1 W W A3 (IN _ _ _ hv2) (.inl W) (A1<|cc W hz2 (fun c2 hz2=> ?_)<|fun c2 hz2=> ?_)
 refine A9<|sv W<|sv W<|A1<|B0 ?_
 cases hz2
 obtain rfl:=ez2 _ rfl
 refine ⟨nofun,F2 ?_⟩
 rw [bT]at h
 cases h
 exact A6 (.inr W) (B6 (B2 W) C1) (.refl _)
 refine A8<|E2<|C0<|sv W<|sv W<|A1<|E5 ?_
 cases hz2
 exact ⟨W,(),(F3 W W)⟩
 refine C6 W ?_
 cases hz2
 obtain rfl:=ez2 _ rfl
 refine ⟨nofun,C4 W<|Aj ?_⟩
 exact ⟨_,(),W,(F3 W W)⟩
 rintro _ ⟨y1,g1,rfl,q1⟩
 rw [bS]at h
 refine B4 q1<|A9<|sv W<|A1<|B0 ?_
 cases h
 exact A6 (.inr W) (B6 (B2 W) C1) (.refl _)
def Ic (p1:Map)(p2:Agent)(p3:Int)(p4:Int):Option Int:=
  (Fm p1 p2.Route p3).bind fun v1=>cond (decide (v1<0)) (some 0) ((B7 p1.Zones p3).bind fun v2=>((cond (decide (v2.Signal_>0)) (Ju p1 (C5 (v2.Signal_ - 1)) v1 p4) (some default))).bind fun v3=>cond ((decide (v2.Signal_>0))&&v3) (some 2) (cond (decide (v2.Signal_>0)) (some 0) ((J1 v2.Parts v1).bind fun v4=>(B7 v2.Parts v4).bind fun v5=>some v5.Rank)))
theorem FG(p1 p2 p3 p4 r)(h:Ic p1 p2 p3 p4=some r):PCall Tryz.prog 173 [(.agg (U5 p1)),(.agg (C9 p2)),(i64 p3),(i64 p4)] (i64 r):=by
 refine C3 (fk Tryz.func173 Tryz.ntmps173 m0 (by with_unfolding_all rfl)) (nl W) ?_
 unfold Ic at h
 refine B4 (s0:=⟨T [(0,(.d _)),(1,(.d _)),(2,(.d _)),(3,(.d _))],G []⟩) (F3 W W) ?_
 refine A9<|sm W<|sn W W<|sv W<|A1<|A9<|sd W (B3 W (gq W) W W)<|sq W<|sl W G_hit W<|sv W<|bs h fun v1 hv1 h=>B1 W W A3 (Vz _ _ _ _ hv1) (.inl W) (sm W<|Bc W G_hit [(di v1)] W (A1<|A4<|A9<|sl W G_hit W<|sv W<|A1<|cc W h (fun c1 h=> ?_)<|fun c1 h=> ?_))
 refine A9<|sv W<|A1<|B0 ?_
 cases h
 exact A6 (.inr W) (B6 (B2 W) C1) (.refl _)
 refine A8<|A9<|sq W<|sl W (gq W) W (sv W<|bs h fun v2 hv2 h=>sd W (C8 W W hv2 W)<|sd W (D2 W hv2 W W)<|sm W<|Bc W G_hit [(dl Dp v2.Parts),(di v2.Signal_)] W (A1<|A4<|A7<|A9<|sq W<|sl W G_hit W<|sv W<|sv W<|gt W (fun _=>(B3 W (gq W) W W))<|gp W (M8 W) (fun _=>W) (gt W (vl W G_hit W)<|gt W (vb W W W)<|gt W (fun _=>(T6 W (gq W) W))<|gt W (fun _=>W)<|bs h fun v3 hv3 h=> ?_)))
 refine O3 _ (bo v3) (M8 W) (fun w7=>⟨_,[(.d (.agg (U5 p1))),(di<|C5 (v2.Signal_ - 1)),(di v1),(di p4)],_,_,(by simp only [A2 w7];rfl),W,A3,OD _ _ _ _ _<|C2 w7 hv3,(.inl W)⟩) ?_
 refine sa W W W<|sv W<|A1<|cc W h (fun c2 h=> ?_)<|fun c2 h=> ?_
 refine A9<|sv W<|A1<|B0 ?_
 cases h
 exact A6 (.inr W) (B6 (B2 W) C1) (.refl _)
 refine A9<|sq W<|sl W G_hit W<|sv W<|sv W<|A1<|cc W h (fun c3 h=> ?_)<|fun c3 h=> ?_
 refine A9<|sv W<|A1<|B0 ?_
 cases h
 exact A6 (.inr W) (B6 (B2 W) C1) (.refl _)
 refine A8<|E2<|A4<|F4 W<|sq W<|sl W G_hit W<|sq W<|sl W G_hit W<|B9 (.fn _ _ _) W W (bs h fun _ hv4 h=>B1 W (rD<|E7 (EY G2<|E7 (Df (gq W)<|rD G2) G2) G2) A3 (Jr _ _ _ hv4) (.inr W) (bs h fun _ hv5 h=>sd W (C8 W W hv5 W)<|sv W<|sd W (D6 W hv5 W)<|sv W<|A1<|B0 ?_))
 cases h
 exact A6 (.inr W) (B6 (B2 W) C1) (.refl _)
def Q4 (p1:WorldScene)(x1:(Int× (List Stay)))(v1:Agent)(x2:(Int× (List Stay))):Option (Stp (Int× (List Stay)) (List Stay)):=
  cond (decide (x2.1< (p1.m.Zones.length:Int))) ((N9 (WorldScene.mk p1.m p1.before (State.mk p1.after.Tick p1.after.Agents x2.2) p1.acts p1.crashes) x1.1 x2.1).bind fun v2=>cond (!v2) (some (.go ((C5 (x2.1+1)),x2.2))) ((D0 p1.before.In (Stay.mk x1.1 x2.1 p1.before.Tick 0)).bind fun v3=>(cond v3.2 ((B7 p1.before.In v3.1).bind fun v4=>some v4) ((Ic p1.m v1 x2.1 p1.before.Tick).bind fun v5=>some (Stay.mk x1.1 x2.1 p1.before.Tick v5))).bind fun y2=>(Bo x2.2 [y2]).bind fun v6=>some (.go ((C5 (x2.1+1)),v6)))) (some (.out x2.2))
def U2 (p1:WorldScene)(x1:(Int× (List Stay))):Option (Stp (Int× (List Stay)) WorldScene):=
  cond (decide (x1.1< (p1.before.Agents.length:Int))) ((B7 p1.before.Agents x1.1).bind fun v1=>(loop (Q4 p1 x1 v1) (0,x1.2)).bind fun y1=>some (.go ((C5 (x1.1+1)),y1))) (some (.out ((WorldScene.mk p1.m p1.before (State.mk p1.after.Tick p1.after.Agents x1.2) p1.acts p1.crashes))))
def Z9 (p1:WorldScene):Option WorldScene:=
  loop (U2 p1) (0,[])
theorem AL(p1 r)(h:Z9 p1=some r):MCall Tryz.prog 80 [(.ptr (900000,0) 0)] [(.box 135 (Ar p1))] (.d (.tup [])) [some (.box 135 (Ar r))] []:=by
 refine AE (fk Tryz.func80 Tryz.ntmps80 (fun r=>if r==13 then [1007]else []) (by with_unfolding_all rfl)) W (nl W) ?_
 unfold Z9 at h
 refine B4 (s0:=⟨T [(0,(.ptr _ _))],G [((900000,0),some<|.box 135 _)]⟩) (F3 W W) ?_
 refine A9<|sq W<|sp W W<|sq W<|sp W W<|Bc W G_hit ((Ar p1).set 10 (.d .nilS)) W (A1<|A9<|sq W<|sp W W<|sq W<|sp W W<|sl W G_hit W<|sd W (D7 W)<|sv W<|A1<|A7<|E3 (U2 p1) (fun (x1:(Int× (List Stay))) (g1:Nat)=>⟨T [(0,(.ptr (900000,0) 0)),(16,(dl C9 p1.before.Agents)),(17,(di (p1.before.Agents.length:Int))),(18,(di x1.1))],G [((900000,0),some<|.box 135 ((Ar p1).set 10 (oS x1.2 (85,g1)))),((85,g1),oB 127 4 J8 x1.2)]⟩) (0,[]) 0 _ h (E1 (Ck W)<|B5 G_hit (.of W)<|X0 trivial) ?_)
 intro x1 g1 z1 hz1 ez1
 unfold U2 at hz1
 refine A9<|sv W<|A1<|A4<|cc W hz1 (fun c1 hz1=> ?_)<|fun c1 hz1=> ?_
 refine A8<|A4<|A7<|lr<|fun u4 _=>sv W<|bs hz1 fun v1 hv1 hz1=>sd W (C8 W W hv1 W)<|sd W (D2 W hv1 W W)<|sm W<|sv W<|Bc W G_hit (X2 v1) W (A1<|A9<|sq W<|sp W W<|sq W<|sp W W<|sl W (gq W) W (sd W (D7 W)<|sv W<|A1<|bs hz1 fun y1 hy1 hz1=>E0 (fun s=> ∃g2:Nat,Sb ⟨T [(0,(.ptr (900000,0) 0)),(16,(dl C9 p1.before.Agents)),(17,(di (p1.before.Agents.length:Int))),(18,(di x1.1))],G [((900000,0),some<|.box 135 ((Ar p1).set 10 (oS y1 (85,g2)))),((85,g2),oB 127 4 J8 y1)]⟩ s) ?_ ?_))
 refine A7<|E3 (Q4 p1 x1 v1) (fun (x2:(Int× (List Stay))) (g3:Nat)=>⟨T [(0,(.ptr (900000,0) 0)),(2,(di x1.1)),(3,(.ptr (3,u4) 0)),(16,(dl C9 p1.before.Agents)),(17,(di (p1.before.Agents.length:Int))),(18,(di x1.1)),(28,(di (p1.m.Zones.length:Int))),(29,(di x2.1))],G [((900000,0),some<|.box 135 ((Ar p1).set 10 (oS x2.2 (85,g3)))),((3,u4),some<|.box 45 (X2 v1)),((85,g3),oB 127 4 J8 x2.2)]⟩) (0,x1.2) g1 _ hy1 (E1 (Ck W)<|sg W<|B5 G_hit (.of W)<|B8 (gq W) trivial) ?_
 intro x2 g3 z2 hz2 ez2
 unfold Q4 at hz2
 refine A9<|sv W<|A1<|A4<|cc W hz2 (fun c2 hz2=> ?_)<|fun c2 hz2=> ?_
 refine A8<|A4<|A7<|A9<|sv W<|sv W<|A1<|A4<|A9<|sq W<|sv W<|sv W<|bs hz2 fun v2 hv2 hz2=>B1 W (E7 (Df G_hit<|rD<|rD<|rD<|rD<|rD<|rD<|rD<|rD<|rD<|rD<|E7 (Y3<|gq W)<|rD<|rD G2)<|rD<|rD G2) (.cons (DLe.bp<|ca W<|ca W<|ca W<|ca W<|ca W<|ca W<|ca W<|ca W<|ca W<|ca W<|.cons ⟨Y2,W⟩ (cz W)) (.cons (.refl _) A3)) (Dx _ _ _ _ hv2) (.inr W) (B9 (.d (bo (!v2))) W W (A1<|cc W hz2 (fun c3 hz2=> ?_)<|fun c3 hz2=> ?_))
 refine Zz W<|C0<|sv W<|sv W<|A1<|E5 ?_
 cases hz2
 exact ⟨W,g3,(E1 (Ck W)<|B5 G_hit (.of W)<|sg W<|B8 (gq W) trivial)⟩
 refine A8<|lr<|fun u10 _=>sv W<|sv W<|sq W<|sp W W<|sq W<|sp W W<|sl W G_hit W<|sv W<|sm W<|Bc W G_hit [(di x1.1),(di x2.1),(di p1.before.Tick),(di 0)] W (A1<|A4<|A4<|F4 W<|sq W<|sq W<|sp W W<|sq W<|sl W (gq W) W (sd W (B3 W G_hit W W)<|bs hz2 fun _ hv3 hz2=>B1 W W A3 (P6 _ _ _ hv3) (.inl W) (sv W<|sv W<|sv W<|sv W<|sv W<|A1<|A9<|sv W<|A1<|bs hz2 fun y2 hy2 hz2=>E0 (fun s=> ∃g4:Unit,Sb ⟨T [(0,(.ptr (900000,0) 0)),(2,(di x1.1)),(3,(.ptr (3,u4) 0)),(5,(.ptr (5,u10) 0)),(16,(dl C9 p1.before.Agents)),(17,(di (p1.before.Agents.length:Int))),(18,(di x1.1)),(28,(di (p1.m.Zones.length:Int))),(29,(di x2.1))],G [((900000,0),some<|.box 135 ((Ar p1).set 10 (oS x2.2 (85,g3)))),((3,u4),some<|.box 45 (X2 v1)),((5,u10),some<|.box 127 (BM y2)),((85,g3),oB 127 4 J8 x2.2)]⟩ s) ?_ ?_)))
 refine cc W hy2 (fun c4 hy2=> ?_)<|fun c4 hy2=> ?_
 refine C0<|sq W<|sq W<|sp W W<|sq W<|sl W (gq W) W (sv W<|bs hy2 fun v4 hv4 hy2=>sd W (C8 W W hv4 W)<|sd W (D2 W hv4 W W)<|Bc W G_hit (BM v4) W (A1 ?_))
 obtain rfl:=(lD hy2)
 exact Aj ⟨(),(E1 (Ck W)<|sg W<|sg W<|B5 G_hit (.of W)<|B8 (gq W) trivial)⟩
 refine F4 W<|sq W<|sq W<|sp W W<|sd W (B3 W (gq W) W W)<|sd W (B3 W (gq W) W W)<|sv W<|sq W<|sp W W<|sq W<|sp W W<|sl W (gq W) W (bs hy2 fun v5 hv5 hy2=>B1 W W A3 (FG _ _ _ _ _ hv5) (.inl W) (sq W<|Bc W G_hit [(di x1.1),(di x2.1),(di p1.before.Tick),(di v5)] W (A1 ?_)))
 cases hy2
 exact Aj ⟨(),(E1 (Ck W)<|sg W<|sg W<|B5 G_hit (.of W)<|B8 (gq W) trivial)⟩
 rintro _ ⟨g4,q1⟩
 refine B4 q1<|Rk W fun u15 _=>sq W<|sq W<|sp W W<|sq W<|sp W W<|B9 (oS x2.2 (85,g3)) W (T6 W G_hit W) (sd W (B3 W (gq W) W W)<|B9 (dl J8 [y2]) W W (bs hz2 fun _ hv6 hz2=>V3 J8 (85,g3) x2.2 y2 [] _ (N3<|fun _=>W) W (gq W) hv6 (sq W<|sp W W<|sq W<|Bc W (gq W) ((Ar p1).set 10 (.sl (85,u15))) W (A1<|E2<|C0<|sv W<|sv W<|A1<|E5 ?_))))
 cases hz2
 exact ⟨W,u15,(E1 (Ck W)<|B5 G_hit (.box (cv<|cv<|cv<|cv<|cv<|cv<|cv<|cv<|cv<|cv<|.cons (.of (Aq<|Ba hv6).symm) cw))<|sg W<|O6 (gq W) trivial)⟩
 refine C6 W ?_
 cases hz2
 obtain rfl:=ez2 _ rfl
 refine ⟨nofun,C4 W<|Aj ?_⟩
 exact ⟨g3,(E1 (Ck W)<|B5 G_hit (.of W)<|B8 (gq W) trivial)⟩
 rintro _ ⟨g2,q2⟩
 refine E2<|B4 q2<|C0<|sv W<|sv W<|A1<|E5 ?_
 cases hz1
 exact ⟨W,g2,(E1 (Ck W)<|B5 G_hit (.of W)<|B8 (gq W) trivial)⟩
 refine C6 W ?_
 cases hz1
 obtain rfl:=ez1 _ rfl
 refine ⟨nofun,C4 W<|E5 ?_⟩
 exact GB (.inl W) [(85,g1)] GC (.refl _) ⟨⟨_,_,_,G_hit,(cT W Hy),(rD<|rD<|rD<|rD<|rD<|rD<|rD<|rD<|rD<|rD<|E7 (Y3<|VF (.head _)<|gq W)<|rD<|rD G2),(.cons (.refl _) (.cons (.refl _) (.cons (.refl _) (.cons (.refl _) (.cons (.refl _) (.cons (.refl _) (.cons (.refl _) (.cons (.refl _) (.cons (.refl _) (.cons (.refl _) (.cons Y2 (.cons (.refl _) A3)))))))))))),W⟩,trivial⟩
def Yk (s:State)(i:Nat):Nat→Nat→Option (List (Int×Int))
  |0,_=>some []
  |k+1,j=>(Ec s i).bind fun a=>(Ec s j).bind fun b=>(Yk s i k (j+1)).bind fun l=>some (cond (a&&b) (((i:Int),(j:Int))::l) l)
def AM (s:State)(n:Nat):Nat→Nat→Option (List (Int×Int))
  |0,_=>some []
  |k+1,i=>(Yk s i (n - (i+1)) (i+1)).bind fun a=>(AM s n k (i+1)).bind fun b=>some (a++b)
def AN (s:State):Option (List (Int×Int)):=if s.Agents.length≤1000000 then AM s s.Agents.length s.Agents.length 0 else none
abbrev OE (a:Int×Int):List D:= [i64 a.1,i64 a.2]
def AO (kb ks:F8)(s:State)(h:E4):Prop:=h kb=some (.box 133 [.ptr ks 0])∧∃c0 c1 c2 c3 c4 c8 c9 c10 c11 c12,h ks=some (.box 135 [c0,c1,c2,c3,c4, .d (i64 s.Tick), .d (.list (List.map C9 s.Agents)), .d (.list (List.map J8 s.In)),c8,c9,c10,c11,c12])
theorem OF {s:State}{L:List (Int×Int)}(h:AN s=some L)(kb ks:F8):oA Tryz.prog (.fn (.func 174) [] [.ptr kb 0]) (AO kb ks s) (L.map OE):=by
  unfold AN at h
  split at h
  case isFalse=>cases h
  rename_i hlen
  refine ⟨174,[],[.ptr kb 0],W,?_⟩
  intro k h0 Inv Stop hi0 hcan hy
  refine NL (fk Tryz.func174 Tryz.ntmps174 (fun r=>if r==6 then [18]else []) (by with_unfolding_all rfl)) (by simp) (mC ?_)
  obtain ⟨g0,S0,i0,c0⟩:=hcan 0 h0 hi0
  have hLm:(L.map OE).length=L.length:=lR ..
  rw [hLm]
  refine B4 (s0:=⟨T [(0, .yld k),(1, .ptr kb 0)],g0⟩) ⟨fun i=> ?_,S0.h⟩ ?_
  ·match i with
   |0=>exact .refl _
   |1=>exact .refl _
   |n+2=>exact .any _
  have c0':=c0
  obtain ⟨e1,a0,a1,a2,a3,a4,a8,a9,a10,a11,a12,e2⟩:=c0'
  refine A4 ?_
  refine Yg fun u hu=> ?_
  refine G7 (.ptr ks 0) W (T6 W e1 W) ?_
  refine G7 (.ptr ks 0) W W ?_
  refine G7 (.ptr ks 5) W W ?_
  refine G7 (.ptr ks 6) W W ?_
  refine G7 (.d (.list (List.map C9 s.Agents))) W (T6 W e2 W) ?_
  refine G7 (.d (i64 s.Agents.length)) W (D7 (f:=C9) W) ?_
  refine G7 (.d (i64 0)) W W ?_
  refine De ?_
  refine A7 ?_
  refine aK (α:=Nat×Nat×E4) (fun x=>⟨T [(0, .yld k),(1, .ptr kb 0),(10, .d (i64 s.Agents.length)),(11, .d (i64 (x.1:Int)))],x.2.2⟩) (fun x=>s.Agents.length - x.1)
    (fun x=>Inv x.2.1 x.2.2∧AO kb ks s x.2.2∧x.1≤s.Agents.length∧x.2.1≤L.length∧AM s s.Agents.length (s.Agents.length - x.1) x.1=some (L.drop x.2.1)) (0,0,g0) ⟨i0,c0,bX _,bX _,h⟩ (CT ⟨rfl,rfl,rfl,rfl,trivial⟩ fun _ _ h=>h) ?_
  rintro ⟨i,pos,hh⟩ ⟨hinv,hrq,hi,hpos,hgo⟩
  dsimp only at hinv hrq hi hpos hgo ⊢
  refine A4 ?_
  refine Yg fun u hu=> ?_
  refine G7 (.d (bo<|decide ((i:Int)< (s.Agents.length:Int)))) W W ?_
  refine De ?_
  refine A4 ?_
  refine XY (decide ((i:Int)< (s.Agents.length:Int))) W (fun hlt=> ?_) (fun hlt=> ?_)
  ·refine A8 ?_
   have hlt:i<s.Agents.length:=by simpa using hlt
   have hw1: ∀n:Nat,n≤1000000→IntKind.i64.wrap ((n:Int)+1)=((n+1:Nat):Int):=fun n _=>(Go.IntWalk.i64_in _ (by omega)).trans (by omega)
   obtain ⟨m,hm⟩: ∃m,s.Agents.length - i=m+1:=⟨s.Agents.length - i - 1,by omega⟩
   rw [hm,AM]at hgo
   obtain ⟨l1,hl1,hgo⟩:=bind_some hgo
   obtain ⟨l2,hl2,hgo⟩:=bind_some hgo
   have hgo:l1++l2=L.drop pos:=lD hgo
   refine A4 ?_
   refine A7 ?_
   refine A4 ?_
   refine Yg fun u hu=> ?_
   refine G7 (.d (i64 i)) W W ?_
   refine G7 (.d (i64 i)) W W ?_
   refine De ?_
   refine A4 ?_
   refine Yg fun u hu=> ?_
   refine G7 (.d (i64 i)) W W ?_
   refine G7 (.d (i64 ((i+1:Nat):Int))) W (by rw [← hw1 i (by omega)];rfl) ?_
   refine G7 (.d (i64 ((i+1:Nat):Int))) W W ?_
   refine De ?_
   refine A7 ?_
   refine aK (α:=Nat×Nat×E4) (fun x=>⟨T [(0, .yld k),(1, .ptr kb 0),(3, .d (i64 (i:Int))),(4, .d (i64 (x.1:Int))),(10, .d (i64 s.Agents.length)),(11, .d (i64 (i:Int)))],x.2.2⟩) (fun x=>s.Agents.length - x.1)
     (fun x=>Inv x.2.1 x.2.2∧AO kb ks s x.2.2∧x.1≤s.Agents.length∧x.2.1≤L.length∧∃l,Yk s i (s.Agents.length - x.1) x.1=some l∧l++l2=L.drop x.2.1) (i+1,pos,hh) ⟨hinv,hrq,hlt,hpos,l1,hl1,hgo⟩ (CT ⟨rfl,rfl,rfl,rfl,rfl,rfl,trivial⟩ fun _ _ h=>h) ?_
   rintro ⟨j,pos,hh⟩ ⟨hinv,hrq,hj,hpos,l,hl,hgo⟩
   dsimp only at hinv hrq hj hpos hl hgo ⊢
   have hrq':=hrq
   obtain ⟨e1,a0,a1,a2,a3,a4,a8,a9,a10,a11,a12,e2⟩:=hrq'
   refine A4 ?_
   refine A4 ?_
   refine Yg fun u hu=> ?_
   refine G7 (.d (i64 j)) W W ?_
   refine G7 (.ptr ks 0) W (T6 W e1 W) ?_
   refine G7 (.ptr ks 0) W W ?_
   refine G7 (.ptr ks 5) W W ?_
   refine G7 (.ptr ks 6) W W ?_
   refine G7 (.d (.list (List.map C9 s.Agents))) W (T6 W e2 W) ?_
   refine G7 (.d (i64 s.Agents.length)) W (D7 (f:=C9) W) ?_
   refine G7 (.d (bo<|decide ((j:Int)< (s.Agents.length:Int)))) W W ?_
   refine De ?_
   refine XY (decide ((j:Int)< (s.Agents.length:Int))) W (fun hjl=> ?_) (fun hjl=> ?_)
   ·refine A8 ?_
    have hjl:j<s.Agents.length:=by simpa using hjl
    obtain ⟨m',hm'⟩: ∃m',s.Agents.length - j=m'+1:=⟨s.Agents.length - j - 1,by omega⟩
    rw [hm',Yk]at hl
    obtain ⟨a,ha,hl⟩:=bind_some hl
    obtain ⟨b,hb,hl⟩:=bind_some hl
    obtain ⟨l',hl',hl⟩:=bind_some hl
    have hl:cond (a&&b) (((i:Int),(j:Int))::l') l'=l:=lD hl
    have hm1:s.Agents.length - (j+1)=m':=by omega
    -- what a round leaves
    have hend: ∀(p':Nat) (h':E4),Inv p' h'→AO kb ks s h'→p'≤L.length→l'++l2=L.drop p'→∃y:Nat×Nat×E4,(Inv y.2.1 y.2.2∧AO kb ks s y.2.2∧y.1≤s.Agents.length∧y.2.1≤L.length∧∃l,Yk s i (s.Agents.length - y.1) y.1=some l∧l++l2=L.drop y.2.1)∧s.Agents.length - y.1<s.Agents.length - j∧y=(j+1,p',h'):=fun p' h' q1 q2 q3 q4=>⟨(j+1,p',h'),⟨q1,q2,hjl,q3,l',by dsimp only;rw [hm1];exact hl',q4⟩,by dsimp only;omega,rfl⟩
    refine A4 ?_
    refine A7 ?_
    refine A4 ?_
    refine Yg fun u hu=> ?_
    refine G7 (.ptr ks 0) W (T6 W e1 W) ?_
    refine G7 (.ptr ks 0) W W ?_
    refine G7 (.ptr ks 5) W W ?_
    refine G7 (.d (.agg [i64 s.Tick, .list (List.map C9 s.Agents), .list (List.map J8 s.In)])) W (B3 W e2 W W) ?_
    refine G7 (.d (i64 i)) W W ?_
    refine EE W W (Qh s i _ ha) (.inl W) ?_
    refine G7 (.d (bo a)) W W ?_
    cases a with
    |false=>
     iterate 6 (refine YG rfl rfl ?_)
     refine G7 (.d (bo false)) W W ?_
     refine G7 (.d (bo false)) W W ?_
     iterate 5 (refine YG rfl rfl ?_)
     refine G7 (.d (bo false)) W W ?_
     refine De ?_
     refine Xr W<|A8<|E2 ?_
     refine Yg fun u hu=> ?_
     refine G7 (.d (i64 j)) W W ?_
     refine G7 (.d (i64 ((j+1:Nat):Int))) W (by rw [← hw1 j (by omega)];rfl) ?_
     refine G7 (.d (i64 ((j+1:Nat):Int))) W W ?_
     refine De ?_
     obtain ⟨y,y1,y2,rfl⟩:=hend pos hh hinv hrq hpos (by rw [← hgo,← hl];rfl)
     exact E5 ⟨_,y1,y2,CT ⟨W,W,W,W,W,W,trivial⟩ fun _ _ h=>h⟩
    |true=>
     refine BL W ?_
     refine G7 (.ptr ks 0) W (T6 W e1 W) ?_
     refine BL W ?_
     refine G7 (.ptr ks 0) W W ?_
     refine BL W ?_
     refine G7 (.ptr ks 5) W W ?_
     refine BL W ?_
     refine G7 (.d (.agg [i64 s.Tick, .list (List.map C9 s.Agents), .list (List.map J8 s.In)])) W (B3 W e2 W W) ?_
     refine BL W ?_
     refine G7 (.d (i64 j)) W W ?_
     refine BL W ?_
     refine EE W W (Qh s j _ hb) (.inl W) ?_
     refine G7 (.d (bo b)) W W ?_
     refine G7 (.d (bo b)) W W ?_
     cases b with
     |false=>
      iterate 5 (refine YG rfl rfl ?_)
      refine G7 (.d (bo false)) W W ?_
      refine De ?_
      refine Xr W<|A8<|E2 ?_
      refine Yg fun u hu=> ?_
      refine G7 (.d (i64 j)) W W ?_
      refine G7 (.d (i64 ((j+1:Nat):Int))) W (by rw [← hw1 j (by omega)];rfl) ?_
      refine G7 (.d (i64 ((j+1:Nat):Int))) W W ?_
      refine De ?_
      obtain ⟨y,y1,y2,rfl⟩:=hend pos hh hinv hrq hpos (by rw [← hgo,← hl];rfl)
      exact E5 ⟨_,y1,y2,CT ⟨W,W,W,W,W,W,trivial⟩ fun _ _ h=>h⟩
     |true=>
      have hcons:((i:Int),(j:Int))::(l'++l2)=L.drop pos:=by rw [← hgo,← hl];rfl
      have hLi:(L.map OE)[pos]? =some (OE ((i:Int),(j:Int))):=by
        have:=congrArg (fun z=>z[0]?) hcons
        rw [lJ]
        simp at this
        rw [← this];rfl
      have hLd:L.drop (pos+1)=l'++l2:=by
        have:=congrArg (fun z=>z.drop 1) hcons
        simpa using this.symm
      have hplt:pos+1≤L.length:=by
        have:=congrArg List.length hcons
        simp at this
        omega
      refine BL W ?_
      refine G7 (.yld k) W W ?_
      refine BL W ?_
      refine G7 (.d (i64 i)) W W ?_
      refine BL W ?_
      refine G7 (.d (i64 j)) W W ?_
      refine BL W ?_
      refine cZ k ((OE ((i:Int),(j:Int))).map .d) W W ?_
      refine (hy pos hh _ hLi hinv).mono ?_
      rintro v' h' (⟨rfl,hin⟩|⟨rfl,hst⟩)
      ·obtain ⟨h1,S1,i1,q1⟩:=hcan _ _ hin
       refine ⟨h1,S1,fun u4 hu4=> ?_⟩
       refine BL W ?_
       refine G7 (.d (bo false)) W W ?_
       refine G7 (.d (bo false)) W W ?_
       refine De ?_
       refine Xr W<|A8<|E2 ?_
       refine Yg fun u hu=> ?_
       refine G7 (.d (i64 j)) W W ?_
       refine G7 (.d (i64 ((j+1:Nat):Int))) W (by rw [← hw1 j (by omega)];rfl) ?_
       refine G7 (.d (i64 ((j+1:Nat):Int))) W W ?_
       refine De ?_
       obtain ⟨y,y1,y2,rfl⟩:=hend (pos+1) h1 i1 q1 hplt hLd.symm
       exact E5 ⟨_,y1,y2,CT ⟨W,W,W,W,W,W,trivial⟩ fun _ _ h=>h⟩
      ·refine ⟨h',Sb.refl _,fun u4 hu4=> ?_⟩
       refine BL W ?_
       refine G7 (.d (bo true)) W W ?_
       refine G7 (.d (bo true)) W W ?_
       refine De ?_
       refine EF W ?_
       refine B0<|F2<|F2 ?_
       exact ⟨Or.inr W,AV.tup [],W,Or.inr hst⟩
   ·refine C6 rfl ?_
    have hjn:j=s.Agents.length:=by
      have: ¬((j:Int)< (s.Agents.length:Int)):=by simpa using hjl
      omega
    subst hjn
    rw [Nat.sub_self,Yk]at hl
    cases hl
    refine C4 (r':= [.b 1, .c _]) W (E2 ?_)
    refine Yg fun u hu=> ?_
    refine G7 (.d (i64 ((i+1:Nat):Int))) W (by rw [← hw1 i (by omega)];rfl) ?_
    refine G7 (.d (i64 ((i+1:Nat):Int))) W W ?_
    refine De ?_
    refine E5 ⟨(i+1,pos,hh),⟨hinv,hrq,hlt,hpos,?_⟩,by dsimp only;omega,CT ⟨rfl,rfl,rfl,rfl,trivial⟩ fun _ _ h=>h⟩
    dsimp only
    rw [show s.Agents.length - (i+1)=m by omega,hl2]
    exact congrArg some hgo
  ·refine C6 rfl ?_
   have hin:i=s.Agents.length:=by
     have: ¬((i:Int)< (s.Agents.length:Int)):=by simpa using hlt
     omega
   subst hin
   rw [Nat.sub_self,AM]at hgo
   have h1:L.drop pos= []:=(lD hgo).symm
   have h2:=List.drop_eq_nil_iff.1 h1
   have h3:pos=L.length:=by omega
   subst h3
   refine C4 (r':= []) W (E5 ?_)
   exact ⟨.inl W,AV.tup [],W, .inl hinv⟩
def Az (p1:WorldSpan)(p2:Int):Option WorldSpan:=
  some (WorldSpan.mk (C5 (p1.from_ - p2)) (C5 (p1.to - p2)))
theorem Kg(p1 p2 r)(h:Az p1 p2=some r):PCall Tryz.prog 141 [(.agg [(i64 p1.from_),(i64 p1.to)]),(i64 p2)] (.agg [(i64 r.from_),(i64 r.to)]):=by
 refine C3 (fk Tryz.func141 Tryz.ntmps141 m0 (by with_unfolding_all rfl)) (nl W) ?_
 unfold Az at h
 refine B4 (s0:=⟨T [(0,(.d _)),(1,(.d _))],G []⟩) (F3 W W) ?_
 refine A9<|sm W<|sn W W<|A1<|A9<|sq W<|sl W (gq W) W (sv W<|sv W<|sq W<|sl W (gq W) W (sv W<|sv W<|sv W<|Bc W G_hit [(di<|C5 (p1.from_ - p2)),(di<|C5 (p1.to - p2))] W (A1<|B0 ?_)))
 cases h
 exact A6 (.inr W) (B6 (L4 W G_hit (nl W) W) C1) (.refl _)
def Dy (p1:Map)(p2:Int):Option Int:=
  (Ol p1 p2).bind fun v1=>cond (!v1) (some 0) ((Es p1 p2).bind fun v2=>some v2)
theorem Tu(p1 p2 r)(h:Dy p1 p2=some r):PCall Tryz.prog 143 [(.agg (U5 p1)),(i64 p2)] (i64 r):=by
 refine C3 (fk Tryz.func143 Tryz.ntmps143 m0 (by with_unfolding_all rfl)) (nl W) ?_
 unfold Dy at h
 refine B4 (s0:=⟨T [(0,(.d _)),(1,(.d _))],G []⟩) (F3 W W) ?_
 refine A9<|sm W<|sv W<|A1<|A4<|A9<|sd W (B3 W G_hit W W)<|sv W<|bs h fun v1 hv1 h=>B1 W W A3 (DG _ _ _ hv1) (.inl W) (B9 (.d (bo (!v1))) W W (A1<|cc W h (fun c1 h=> ?_)<|fun c1 h=> ?_))
 refine A9<|sv W<|A1<|B0 ?_
 cases h
 exact A6 (.inr W) (B6 (B2 W) C1) (.refl _)
 refine A8<|A9<|sd W (B3 W G_hit W W)<|sv W<|bs h fun _ hv2 h=>B1 W W A3 (Sk _ _ _ hv2) (.inl W) (sv W<|A1<|B0 ?_)
 cases h
 exact A6 (.inr W) (B6 (B2 W) C1) (.refl _)
def Cv (p1:WorldSpan)(p2:WorldSpan):Option WorldSpan:=
  some (WorldSpan.mk (Us true p1.from_ p2.from_) (Us false p1.to p2.to))
theorem Xu(p1 p2 r)(h:Cv p1 p2=some r):PCall Tryz.prog 142 [(.agg [(i64 p1.from_),(i64 p1.to)]),(.agg [(i64 p2.from_),(i64 p2.to)])] (.agg [(i64 r.from_),(i64 r.to)]):=by
 refine C3 (fk Tryz.func142 Tryz.ntmps142 m0 (by with_unfolding_all rfl)) (nl W) ?_
 unfold Cv at h
 refine B4 (s0:=⟨T [(0,(.d _)),(1,(.d _))],G []⟩) (F3 W W) ?_
 refine A9<|sm W<|sn W W<|sm W<|A1<|A9<|sq W<|sl W (gq W) W (sq W<|sl W (gq W) W (sv W<|sq W<|sl W (gq W) W (sq W<|sl W (gq W) W (sv W<|sv W<|Bc W G_hit [(di<|Us true p1.from_ p2.from_),(di<|Us false p1.to p2.to)] W (A1<|B0 ?_)))))
 cases h
 exact A6 (.inr W) (B6 (L4 W G_hit (nl W) W) C1) (.refl _)
def Be (p1:WorldSpan):Option Bool:=
  some (decide (p1.from_>p1.to))
theorem Uu(p1 r)(h:Be p1=some r):PCall Tryz.prog 144 [(.agg [(i64 p1.from_),(i64 p1.to)])] (bo r):=by
 refine C3 (fk Tryz.func144 Tryz.ntmps144 m0 (by with_unfolding_all rfl)) (nl W) ?_
 unfold Be at h
 refine B4 (s0:=⟨T [(0,(.d _))],G []⟩) (F3 W W) ?_
 refine A9<|sm W<|sv W<|A1<|A9<|sq W<|sl W G_hit W<|sq W<|sl W G_hit W<|sv W<|sv W<|A1<|B0 ?_
 cases h
 exact A6 (.inr W) (B6 (B2 W) C1) (.refl _)
def Dz (p1:Map)(p2:Agent)(v2:(List Int))(x1:((List Span)×Int)):Option (Stp ((List Span)×Int) (List Span)):=
  cond (decide (x1.2< (v2.length:Int))) ((B7 v2 x1.2).bind fun v3=>(B7 p2.Route x1.2).bind fun v4=>(Bx p2).bind fun v5=>(Az v5 v3).bind fun v6=>(Dy p1 v4).bind fun v7=>(Cv v6 (WorldSpan.mk 0 v7)).bind fun v8=>(Be v8).bind fun v9=>cond (!v9) ((Bo x1.1 [(Span.mk v4 v8.from_ v8.to)]).bind fun v10=>some (.go (v10,(C5 (x1.2+1))))) (some (.go (x1.1,(C5 (x1.2+1)))))) (some (.out x1.1))
def Kh (p1:Map)(p2:Agent):Option (List Span):=
  (Ib p2).bind fun v1=>cond (!v1) (some []) ((Du p1 p2.Route).bind fun v2=>(loop (Dz p1 p2 v2) ([],0)).bind fun y1=>some y1)
theorem FH(p1 p2 r)(h:Kh p1 p2=some r):PCall Tryz.prog 67 [(.agg (U5 p1)),(.agg (C9 p2))] (.list (List.map Ez r)):=by
 refine C3 (fk Tryz.func67 Tryz.ntmps67 (fun r=>if r==10 then [1007]else []) (by with_unfolding_all rfl)) (nl W) ?_
 unfold Kh at h
 refine B4 (s0:=⟨T [(0,(.d _)),(1,(.d _))],G []⟩) (F3 W W) ?_
 refine lr<|fun u1 _=>sm W<|sm W<|sv W<|A1<|A4<|A9<|sd W (B3 W G_hit W W)<|bs h fun v1 hv1 h=>B1 W W A3 (Yj _ _ hv1) (.inl W) (B9 (.d (bo (!v1))) W W (A1<|cc W h (fun c1 h=> ?_)<|fun c1 h=> ?_))
 refine A9<|sv W<|A1<|B0 ?_
 cases h
 exact A6 (.inr W) (B6 (B2 W) C1) DLe.nil
 refine A8<|A9<|sv W<|A1<|A4<|A9<|sd W (B3 W (gq W) W W)<|sq W<|sl W G_hit W<|bs h fun v2 hv2 h=>B1 W W A3 (Tt _ _ _ hv2) (.inl W) (sd W (D7 W)<|sv W<|A1<|bs h fun y1 hy1 h=>E0 (fun s=> ∃g1:Nat,Sb ⟨T [(5,(oS y1 (48,g1)))],G [((48,g1),oB 93 3 Ez y1)]⟩ s) ?_ ?_)
 refine A7<|E3 (Dz p1 p2 v2) (fun (x1:((List Span)×Int)) (g2:Nat)=>⟨T [(2,(.ptr (2,u1) 0)),(3,(.ptr (3,u1) 0)),(5,(oS x1.1 (48,g2))),(16,(dl A5 v2)),(17,(di (v2.length:Int))),(18,(di x1.2))],G [((2,u1),some<|.box 33 (M7 p1)),((3,u1),some<|.box 45 (X2 p2)),((48,g2),oB 93 3 Ez x1.1)]⟩) ([],0) 0 _ hy1 (E1 (Ck W)<|sg W<|B5 G_hit (.of W)<|X0 trivial) ?_
 intro x1 g2 z1 hz1 ez1
 unfold Dz at hz1
 refine A9<|sv W<|A1<|A4<|cc W hz1 (fun c2 hz1=> ?_)<|fun c2 hz1=> ?_
 refine A8<|A4<|A7<|A9<|sv W<|bs hz1 fun _ hv3 hz1=>sd W (C8 W W hv3 W)<|sd W (D6 W hv3 W)<|sv W<|sv W<|A1<|A9<|sq W<|sl W (gq W) W (sv W<|bs hz1 fun v4 hv4 hz1=>sd W (C8 W W hv4 W)<|sd W (D6 W hv4 W)<|sv W<|A1<|A4<|F4 W<|sd W (B3 W (gq W) W W)<|bs hz1 fun _ hv5 hz1=>B1 W W A3 (Li _ _ hv5) (.inl W) (sv W<|bs hz1 fun _ hv6 hz1=>B1 W W A3 (Kg _ _ _ hv6) (.inl W) (sd W (B3 W G_hit W W)<|sv W<|bs hz1 fun _ hv7 hz1=>B1 W W A3 (Tu _ _ _ hv7) (.inl W) (sv W<|bs hz1 fun v8 hv8 hz1=>B1 W W A3 (Xu _ _ _ hv8) (.inl W) (sm W<|Bc W G_hit [(di v8.from_),(di v8.to)] W (A1<|A9<|sd W (B3 W G_hit W W)<|bs hz1 fun v9 hv9 hz1=>B1 W W A3 (Uu _ _ hv9) (.inl W) (B9 (.d (bo (!v9))) W W (A1<|cc W hz1 (fun c3 hz1=> ?_)<|fun c3 hz1=> ?_))))))))
 refine Eh fun u11 _=>B9 (oS x1.1 (48,g2)) W W (sv W<|sq W<|sl W G_hit W<|sq W<|sl W G_hit W<|sv W<|B9 (dl Ez [(Span.mk v4 v8.from_ v8.to)]) W W (bs hz1 fun _ hv10 hz1=>V3 Ez (48,g2) x1.1 (Span.mk v4 v8.from_ v8.to) [] _ (N3<|fun _=>W) W (gq W) hv10 (ss W<|A1<|E2<|C0<|sv W<|sv W<|A1<|E5 ?_)))
 cases hz1
 exact ⟨W,u11,(E1 ⟨.of W, .of W,(.of (Aq<|Ba hv10).symm), .of W, .of W, .of W,trivial⟩<|sg W<|sg W<|O6 G_hit trivial)⟩
 refine A8<|E2<|C0<|sv W<|sv W<|A1<|E5 ?_
 cases hz1
 exact ⟨W,g2,(E1 (Ck W)<|sg W<|sg W<|B8 (gq W) trivial)⟩
 refine C6 W ?_
 cases hz1
 obtain rfl:=ez1 _ rfl
 refine ⟨nofun,C4 W<|Aj ?_⟩
 exact ⟨g2,(E1 ⟨.of W,trivial⟩<|B8 (gq W) trivial)⟩
 rintro _ ⟨g1,q1⟩
 refine B4 q1<|A9<|B9 (oS y1 (48,g1)) W W (B9 (oS y1 (48,g1)) W W (A1<|B0 ?_))
 cases h
 exact A6 (.inr W) (B6 (B2 W)<|Y3 G_hit) Y2
def Au (p1:Span)(p2:Span):Option Bool:=
  ((cond (p2.Lane_==p1.Lane_) (Cv (WorldSpan.mk p2.From p2.To) (WorldSpan.mk p1.From p1.To)) (some default))).bind fun v1=>((cond (p2.Lane_==p1.Lane_) (Be v1) (some default))).bind fun v2=>some ((p2.Lane_==p1.Lane_)&& (!v2))
theorem Zh(p1 p2 r)(h:Au p1 p2=some r):PCall Tryz.prog 147 [(.agg (Ez p1)),(.bp (Ez p2) 0)] (bo r):=by
 refine C3 (fk Tryz.func147 Tryz.ntmps147 m0 (by with_unfolding_all rfl)) (nl W) ?_
 unfold Au at h
 refine B4 (s0:=⟨T [(0,(.d _)),(1,(.d _))],G []⟩) (F3 W W) ?_
 refine A9<|sm W<|sv W<|A1<|A9<|sv W<|sv W<|sq W<|sl W G_hit W<|sv W<|sv W<|gt W (fun _=>W) ?_
 refine gt W (fun w2=>(by simp only [A2 w2];rfl)) ?_
 refine gt W (fun _=>W) ?_
 refine gt W (fun w4=>(by simp only [A2 w4];rfl)) ?_
 refine gt W (fun w5=>(by simp only [A2 w5];rfl)) ?_
 refine gp W (M8 W) (fun _=>W) (gt W (vl W G_hit W)<|gp W (M8 W) (fun _=>W) (gt W (vl W G_hit W) ?_))
 refine gt W (fun w10=>(by simp only [A2 w10];rfl)) ?_
 refine bs h fun v1 hv1 h=> ?_
 refine O3 _ (.agg [(i64 v1.from_),(i64 v1.to)]) (M8 W) (fun w11=>⟨_,[(.d (.agg [(i64 p2.From),(i64 p2.To)])),(.d (.agg [(i64 p1.From),(i64 p1.To)]))],_,_,(by simp only [A2 w11];rfl),W,A3,Xu _ _ _<|C2 w11 hv1,(.inl W)⟩) ?_
 refine bs h fun v2 hv2 h=> ?_
 refine O3 _ (bo v2) (M8 W) (fun w12=>⟨_,[(.d (.agg [(i64 v1.from_),(i64 v1.to)]))],_,_,(by simp only [A2 w12];rfl),W,A3,Uu _ _<|C2 w12 hv2,(.inl W)⟩) ?_
 refine N2 _ (.d (bo (!v2))) W (M8 W) (fun w13=>(by simp only [A2 w13];rfl)) ?_
 refine sa W W W<|sv W<|A1<|B0 ?_
 cases h
 exact A6 (.inr W) (B6 (B2 W) C1) (.refl _)
def F5 (p1:(List Span))(p2:Span)(x1:Int):Option (Stp Int (Sum Unit Int)):=
  cond (decide (x1< (p1.length:Int))) ((B7 p1 x1).bind fun v1=>(Au v1 p2).bind fun v2=>cond v2 (some (.out (.inr x1))) (some (.go (C5 (x1+1))))) (some (.out (.inl ())))
def I4 (p1:(List Span))(p2:Span):Option Int:=
  thenS (loop (F5 p1 p2) 0) (fun _=>some (-1)) (fun r=>some r)
theorem Gp(p1 p2 r)(h:I4 p1 p2=some r):PCall Tryz.prog 208 [(.list (List.map Ez p1)),(.fn (.func 147) [] [(.bp (Ez p2) 0)])] (i64 r):=by
 refine C3 (fk Tryz.func208 Tryz.ntmps208 m0 (by with_unfolding_all rfl)) (nl W) ?_
 unfold I4 at h
 refine B4 (s0:=⟨T [(0,(.d _)),(1,(.d _))],G []⟩) (F3 W W) ?_
 refine A9<|sv W<|A1<|A4<|A9<|sv W<|sd W (D7 W)<|sv W<|A1<|js h fun z1 hz1 h=>E0 (fun s=> ∃(y1:Unit) (g1:Unit),z1= .inl y1∧Sb ⟨T [],G []⟩ s) ?_ ?_
 refine A7<|E3 (F5 p1 p2) (fun (x1:Int) (g2:Unit)=>⟨T [(0,(dl Ez p1)),(1,(.d (.fn (.func 147) [] [(.bp (Ez p2) 0)]))),(7,(di (p1.length:Int))),(8,(di x1))],G []⟩) 0 () _ hz1 (F3 W W) ?_
 intro x1 g2 z2 hz2 ez2
 unfold F5 at hz2
 refine A9<|sv W<|A1<|A4<|cc W hz2 (fun c1 hz2=> ?_)<|fun c1 hz2=> ?_
 refine A8<|A4<|A7<|A9<|sv W<|sv W<|A1<|A9<|sv W<|sv W<|sv W<|bs hz2 fun _ hv1 hz2=>sd W (C8 W W hv1 W)<|sd W (D2 W hv1 W W)<|bs hz2 fun _ hv2 hz2=>B1 W W A3 (Zh _ _ _ hv2) (.inl W) (A1<|cc W hz2 (fun c2 hz2=> ?_)<|fun c2 hz2=> ?_)
 refine A9<|sv W<|sv W<|A1<|B0 ?_
 cases hz2
 obtain rfl:=ez2 _ rfl
 refine ⟨nofun,F2 ?_⟩
 rw [bT]at h
 cases h
 exact A6 (.inr W) (B6 (B2 W) C1) (.refl _)
 refine A8<|E2<|C0<|sv W<|sv W<|A1<|E5 ?_
 cases hz2
 exact ⟨W,(),(F3 W W)⟩
 refine C6 W ?_
 cases hz2
 obtain rfl:=ez2 _ rfl
 refine ⟨nofun,C4 W<|Aj ?_⟩
 exact ⟨_,(),W,(F3 W W)⟩
 rintro _ ⟨y1,g1,rfl,q1⟩
 rw [bS]at h
 refine B4 q1<|A9<|sv W<|A1<|B0 ?_
 cases h
 exact A6 (.inr W) (B6 (B2 W) C1) (.refl _)
def F6 (p1:(List Span))(p2:Span):Option Bool:=
  (I4 p1 p2).bind fun v1=>some (decide (v1≥0))
theorem Fc(p1 p2 r)(h:F6 p1 p2=some r):PCall Tryz.prog 145 [(.list (List.map Ez p1)),(.fn (.func 147) [] [(.bp (Ez p2) 0)])] (bo r):=by
 refine C3 (fk Tryz.func145 Tryz.ntmps145 m0 (by with_unfolding_all rfl)) (nl W) ?_
 unfold F6 at h
 refine B4 (s0:=⟨T [(0,(.d _)),(1,(.d _))],G []⟩) (F3 W W) ?_
 refine A9<|sv W<|A1<|A9<|sv W<|sv W<|bs h fun _ hv1 h=>B1 W W A3 (Gp _ _ _ hv1) (.inl W) (sv W<|sv W<|A1<|B0 ?_)
 cases h
 exact A6 (.inr W) (B6 (B2 W) C1) (.refl _)
def By (p1:Span)(p2:(List Span)):Option Bool:=
  (F6 p2 p1).bind fun v1=>some v1
theorem BZ(p1 p2 r)(h:By p1 p2=some r):PCall Tryz.prog 146 [(.agg (Ez p1)),(.bp [(.list (List.map Ez p2))] 0)] (bo r):=by
 refine C3 (fk Tryz.func146 Tryz.ntmps146 m0 (by with_unfolding_all rfl)) (nl W) ?_
 unfold By at h
 refine B4 (s0:=⟨T [(0,(.d _)),(1,(.d _))],G []⟩) (F3 W W) ?_
 refine A9<|sm W<|sv W<|A1<|A9<|sv W<|B9 (.fn _ _ _) W W (bs h fun _ hv1 h=>B1 W (rD<|E7 (EY G2<|E7 (Df G_hit<|rD<|rD<|rD G2) G2) G2) A3 (Fc _ _ _ hv1) (.inr W) (sv W<|A1<|B0 ?_))
 cases h
 exact A6 (.inr W) (B6 (B2 W) C1) (.refl _)
def G5 (p1:(List Span))(p2:(List Span))(x1:Int):Option (Stp Int (Sum Unit Int)):=
  cond (decide (x1< (p1.length:Int))) ((B7 p1 x1).bind fun v1=>(By v1 p2).bind fun v2=>cond v2 (some (.out (.inr x1))) (some (.go (C5 (x1+1))))) (some (.out (.inl ())))
def J3 (p1:(List Span))(p2:(List Span)):Option Int:=
  thenS (loop (G5 p1 p2) 0) (fun _=>some (-1)) (fun r=>some r)
theorem Hj(p1 p2 r)(h:J3 p1 p2=some r):PCall Tryz.prog 208 [(.list (List.map Ez p1)),(.fn (.func 146) [] [(.bp [(.list (List.map Ez p2))] 0)])] (i64 r):=by
 refine C3 (fk Tryz.func208 Tryz.ntmps208 m0 (by with_unfolding_all rfl)) (nl W) ?_
 unfold J3 at h
 refine B4 (s0:=⟨T [(0,(.d _)),(1,(.d _))],G []⟩) (F3 W W) ?_
 refine A9<|sv W<|A1<|A4<|A9<|sv W<|sd W (D7 W)<|sv W<|A1<|js h fun z1 hz1 h=>E0 (fun s=> ∃(y1:Unit) (g1:Unit),z1= .inl y1∧Sb ⟨T [],G []⟩ s) ?_ ?_
 refine A7<|E3 (G5 p1 p2) (fun (x1:Int) (g2:Unit)=>⟨T [(0,(dl Ez p1)),(1,(.d (.fn (.func 146) [] [(.bp [(.list (List.map Ez p2))] 0)]))),(7,(di (p1.length:Int))),(8,(di x1))],G []⟩) 0 () _ hz1 (F3 W W) ?_
 intro x1 g2 z2 hz2 ez2
 unfold G5 at hz2
 refine A9<|sv W<|A1<|A4<|cc W hz2 (fun c1 hz2=> ?_)<|fun c1 hz2=> ?_
 refine A8<|A4<|A7<|A9<|sv W<|sv W<|A1<|A9<|sv W<|sv W<|sv W<|bs hz2 fun _ hv1 hz2=>sd W (C8 W W hv1 W)<|sd W (D2 W hv1 W W)<|bs hz2 fun _ hv2 hz2=>B1 W W A3 (BZ _ _ _ hv2) (.inl W) (A1<|cc W hz2 (fun c2 hz2=> ?_)<|fun c2 hz2=> ?_)
 refine A9<|sv W<|sv W<|A1<|B0 ?_
 cases hz2
 obtain rfl:=ez2 _ rfl
 refine ⟨nofun,F2 ?_⟩
 rw [bT]at h
 cases h
 exact A6 (.inr W) (B6 (B2 W) C1) (.refl _)
 refine A8<|E2<|C0<|sv W<|sv W<|A1<|E5 ?_
 cases hz2
 exact ⟨W,(),(F3 W W)⟩
 refine C6 W ?_
 cases hz2
 obtain rfl:=ez2 _ rfl
 refine ⟨nofun,C4 W<|Aj ?_⟩
 exact ⟨_,(),W,(F3 W W)⟩
 rintro _ ⟨y1,g1,rfl,q1⟩
 rw [bS]at h
 refine B4 q1<|A9<|sv W<|A1<|B0 ?_
 cases h
 exact A6 (.inr W) (B6 (B2 W) C1) (.refl _)
def G6 (p1:(List Span))(p2:(List Span)):Option Bool:=
  (J3 p1 p2).bind fun v1=>some (decide (v1≥0))
theorem Gd(p1 p2 r)(h:G6 p1 p2=some r):PCall Tryz.prog 145 [(.list (List.map Ez p1)),(.fn (.func 146) [] [(.bp [(.list (List.map Ez p2))] 0)])] (bo r):=by
 refine C3 (fk Tryz.func145 Tryz.ntmps145 m0 (by with_unfolding_all rfl)) (nl W) ?_
 unfold G6 at h
 refine B4 (s0:=⟨T [(0,(.d _)),(1,(.d _))],G []⟩) (F3 W W) ?_
 refine A9<|sv W<|A1<|A9<|sv W<|sv W<|bs h fun _ hv1 h=>B1 W W A3 (Hj _ _ _ hv1) (.inl W) (sv W<|sv W<|A1<|B0 ?_)
 cases h
 exact A6 (.inr W) (B6 (B2 W) C1) (.refl _)
def Ee (p1:Map)(p2:Agent)(p3:Agent):Option Bool:=
  (Kh p1 p3).bind fun v1=>(Kh p1 p2).bind fun v2=>(G6 v2 v1).bind fun v3=>some v3
theorem IO(p1 p2 p3 r)(h:Ee p1 p2 p3=some r):PCall Tryz.prog 68 [(.agg (U5 p1)),(.agg (C9 p2)),(.agg (C9 p3))] (bo r):=by
 refine C3 (fk Tryz.func68 Tryz.ntmps68 m0 (by with_unfolding_all rfl)) (nl W) ?_
 unfold Ee at h
 refine B4 (s0:=⟨T [(0,(.d _)),(1,(.d _)),(2,(.d _))],G []⟩) (F3 W W) ?_
 refine A9<|sm W<|sn W W<|sm W<|sv W<|A1<|A9<|sd W (B3 W (gq W) W W)<|sd W (B3 W G_hit W W)<|bs h fun v1 hv1 h=>B1 W W A3 (FH _ _ _ hv1) (.inl W) (sm W<|Bc W G_hit [(dl Ez v1)] W (A1<|A9<|sd W (B3 W (gq W) W W)<|sd W (B3 W (gq W) W W)<|bs h fun _ hv2 h=>B1 W W A3 (FH _ _ _ hv2) (.inl W) (B9 (.fn _ _ _) W W (bs h fun _ hv3 h=>B1 W (rD<|E7 (EY G2<|E7 (Df G_hit<|rD G2) G2) G2) A3 (Gd _ _ _ hv3) (.inr W) (sv W<|A1<|B0 ?_)))))
 cases h
 exact A6 (.inr W) (B6 (B2 W) C1) (.refl _)
def W2 (p1:WorldScene)(p2:Int)(p3:Int)(p4:Int):Option Bool:=
  (N9 p1 p2 p4).bind fun v1=>((cond v1 (N9 p1 p3 p4) (some default))).bind fun v2=>((cond (v1&&v2) (B7 p1.before.Agents p2) (some default))).bind fun v3=>((cond (v1&&v2) (Fm p1.m v3.Route p4) (some default))).bind fun v4=>((cond (v1&&v2) (B7 p1.before.Agents p3) (some default))).bind fun v5=>((cond (v1&&v2) (Fm p1.m v5.Route p4) (some default))).bind fun v6=>some ((v1&&v2)&& (v4 !=v6))
theorem Qi(p1 p2 p3 p4 r)(h:W2 p1 p2 p3 p4=some r):PCall Tryz.prog 82 [(.bp (Sy p1) 0),(i64 p2),(i64 p3),(i64 p4)] (bo r):=by
 refine C3 (fk Tryz.func82 Tryz.ntmps82 m0 (by with_unfolding_all rfl)) (nl W) ?_
 unfold W2 at h
 refine B4 (s0:=⟨T [(0,(.d _)),(1,(.d _)),(2,(.d _)),(3,(.d _))],G []⟩) (F3 W W) ?_
 refine A9<|sv W<|A1<|A4<|F4 W<|sv W<|sv W<|sv W<|bs h fun v1 hv1 h=>B1 W W A3 (Dx _ _ _ _ hv1) (.inl W) (sv W<|gt W (fun _=>W)<|gt W (fun _=>W)<|gt W (fun _=>W)<|bs h fun v2 hv2 h=> ?_)
 refine O3 v1 (bo v2) (M8 W) (fun w4=>⟨_,[(.d (.bp (Sy p1) 0)),(di p3),(di p4)],_,_,(by simp only [A2 w4];rfl),W,A3,Dx _ _ _ _<|C2 w4 hv2,(.inl W)⟩) ?_
 refine sa W W W<|sv W<|gt W (fun _=>W) ?_
 refine gt W (fun w6=>(by simp only [A2 w6];rfl)) ?_
 refine gt W (fun w7=>(by simp only [A2 w7];rfl)) ?_
 refine gt W (fun w8=>(by simp only [A2 w8];rfl)) ?_
 refine gt W (fun _=>W) ?_
 refine gt W (fun w10=>(by simp only [A2 w10];rfl)) ?_
 refine gt W (fun w11=>(by simp only [A2 w11];rfl)) ?_
 refine gt W (fun w12=>(by simp only [A2 w12];rfl)) ?_
 refine gt W (fun w13=>(by simp only [A2 w13];rfl)) ?_
 refine gt W (fun _=>W)<|bs h fun v3 hv3 h=>gt W (fun w15=>(C8 (A2 w15) (A2 w15) (C2 w15 hv3) W)) ?_
 refine gt W (fun w16=>(by simp only [A2 w16];rfl)) ?_
 refine gt W (fun w17=>(D6 (A2 w17) (C2 w17 hv3) W))<|gt W (fun _=>W)<|bs h fun v4 hv4 h=> ?_
 refine O3 _ (i64 v4) (M8 W) (fun w19=>⟨_,[(.d (.agg (U5 p1.m))),(dl A5 v3.Route),(di p4)],_,_,(by simp only [A2 w19];rfl),W,A3,Vz _ _ _ _<|C2 w19 hv4,(.inl W)⟩) ?_
 refine gt W (fun _=>W) ?_
 refine gt W (fun w21=>(by simp only [A2 w21];rfl)) ?_
 refine gt W (fun w22=>(by simp only [A2 w22];rfl)) ?_
 refine gt W (fun w23=>(by simp only [A2 w23];rfl)) ?_
 refine gt W (fun _=>W) ?_
 refine gt W (fun w25=>(by simp only [A2 w25];rfl)) ?_
 refine gt W (fun w26=>(by simp only [A2 w26];rfl)) ?_
 refine gt W (fun w27=>(by simp only [A2 w27];rfl)) ?_
 refine gt W (fun w28=>(by simp only [A2 w28];rfl)) ?_
 refine gt W (fun _=>W)<|bs h fun v5 hv5 h=>gt W (fun w30=>(C8 (A2 w30) (A2 w30) (C2 w30 hv5) W)) ?_
 refine gt W (fun w31=>(by simp only [A2 w31];rfl)) ?_
 refine gt W (fun w32=>(D6 (A2 w32) (C2 w32 hv5) W))<|gt W (fun _=>W)<|bs h fun v6 hv6 h=> ?_
 refine O3 _ (i64 v6) (M8 W) (fun w34=>⟨_,[(.d (.agg (U5 p1.m))),(dl A5 v5.Route),(di p4)],_,_,(by simp only [A2 w34];rfl),W,A3,Vz _ _ _ _<|C2 w34 hv6,(.inl W)⟩) ?_
 refine gt W (fun w35=>(N1 (A2 w35) (A2 w35) W))<|sa W W W<|sv W<|A1<|B0 ?_
 cases h
 exact A6 (.inr W) (B6 (B2 W) C1) (.refl _)
def Fd (p1:Map)(v5:WorldScene)(a1:(Int×Int))(x2:Int):Option (Stp Int (Sum Unit (State×Int))):=
  cond (decide (x2< (p1.Zones.length:Int))) ((W2 v5 a1.1 a1.2 x2).bind fun v10=>cond v10 (some (.out (.inr ((State.mk 0 [] []),12)))) (some (.go (C5 (x2+1))))) (some (.out (.inl ())))
def Hl (p1:Map)(p2:(List Agent))(v5:WorldScene)(x1:Unit)(a1:(Int×Int)):Option (Stp Unit (Sum Unit (State×Int))):=
  (B7 p2 a1.1).bind fun v7=>(B7 p2 a1.2).bind fun v8=>(Ee p1 v7 v8).bind fun v9=>cond v9 (some (.out (.inr ((State.mk 0 [] []),12)))) (thenS (loop (Fd p1 v5 a1) 0) (fun _=>some (.go ())) (fun r=>some (.out (.inr r))))
def Ns:Option Unit:=
  some ()
def Nt (p1:Map)(p2:(List Agent)):Option (State×Int):=
  (Ka (State.mk 0 p2 [])).bind fun v1=>(Fk p1 v1).bind fun v2=>cond (v2 !=0) (some ((State.mk 0 [] []),v2)) ((H8 p2).bind fun v3=>cond v3 (some ((State.mk 0 [] []),10)) ((Ka v1).bind fun v4=>(Z9 (WorldScene.mk p1 v1 v4 [] [])).bind fun v5=>(Ns).bind fun y1=>thenS ((AN v5.before).bind fun v6=>loopL (Hl p1 p2 v5) (fun (x1:Unit)=> .inl ()) v6 ()) (fun _=>some (v5.after,0)) (fun r=>some r)))
theorem IP(p1 p2 r)(h:Nt p1 p2=some r):PCall Tryz.prog 27 [(.agg (U5 p1)),(.list (List.map C9 p2))] (.tup [(.agg (Cf r.1)),(i64 r.2)]):=by
 refine C3 (fk Tryz.func27 Tryz.ntmps27 (fun r=>if r==8 then [1008001]else if r==9 then [1]else []) (by with_unfolding_all rfl)) (nl W) ?_
 unfold Nt at h
 refine B4 (s0:=⟨T [(0,(.d _)),(1,(.d _))],G []⟩) (F3 W W) ?_
 refine lr<|fun u1 _=>sm W<|sm W<|sn W W<|sm W<|A1<|A9<|sl W (gq W) W (sv W<|bs h fun v1 hv1 h=>B1 W W (.cons (.agg (ca W<|ca W<|.cons ⟨DLe.nil,W⟩ .nil)) .nil) (FB _ _ hv1) (.inl W) (sm W<|Bc W G_hit (L0 v1) W (A1<|A4<|A9<|sd W (B3 W (gq W) W W)<|sd W (B3 W G_hit W W)<|bs h fun v2 hv2 h=>B1 W W A3 (Vy _ _ _ hv2) (.inl W) (sv W<|A1<|A9<|sv W<|sv W<|A1<|cc W h (fun c1 h=> ?_)<|fun c1 h=> ?_))))
 refine A9<|sv W<|sv W<|Bc W (gq W) [(di 0),(.d .nilS),(.d .nilS)] W (Bc W (gq W) [(di v2)] W (A1<|B0 ?_))
 cases h
 exact A6 (.inr W) (Po (L4 W (gq W) (nl W) W) (CU W G_hit W) C1 C1) (.tup (.cons (.agg (ca W<|.cons ⟨DLe.nil,W⟩ (.cons ⟨DLe.nil,W⟩ .nil))) A3))
 refine A8<|A4<|A9<|sl W (gq W) W (bs h fun _ hv3 h=>B1 W W A3 (Ia _ _ hv3) (.inl W) (A1<|cc W h (fun c2 h=> ?_)<|fun c2 h=> ?_))
 refine A9<|sv W<|Bc W (gq W) [(di 0),(.d .nilS),(.d .nilS)] W (Bc W (gq W) [(di 10)] W (A1<|B0 ?_))
 cases h
 exact A6 (.inr W) (Po (L4 W (gq W) (nl W) W) (CU W G_hit W) C1 C1) (.tup (.cons (.agg (ca W<|.cons ⟨DLe.nil,W⟩ (.cons ⟨DLe.nil,W⟩ .nil))) A3))
 refine A8<|A4<|Rk W fun u8 _=>sd W (B3 W (gq W) W W)<|sd W (B3 W G_hit W W)<|sd W (B3 W G_hit W W)<|bs h fun _ hv4 h=>B1 W W A3 (FB _ _ hv4) (.inl W) (sv W<|sm W<|sn W W<|Bc W G_hit [(.ptr (30,u8) 0)] W (A1<|A9<|sp W (T6 W G_hit W)<|bs h fun v5 hv5 h=>JR (v:= .d (.tup [])) (us:= [(30,u8)]) (PR (AL _ _ hv5) [(30,u8)] [(30,u8)] _ (((30,u8),some<|.box 135 (Ar v5))::_) W Qc (Cp (pE (F9 W<|F9 W G_hit) W) AD) (Nq (F9 W<|F9 W G_hit) Ky) ⟨⟨_,(F9 W<|F9 W G_hit), .box (.cons (.of W) (.cons (.of W) (.cons (.of W) (.cons (.of W) (.cons (.of W) (.cons (.of W) (.cons (.of W) (.cons (.of W) (.cons (.of W) (.cons (.of W) (.cons (.of W) (.cons (DLe.d DLe.nil) (.cons (DLe.d DLe.nil) .nil)))))))))))))⟩,trivial⟩ (fun _ h=>h) nd1 W W W) (A1<|A4<|A9<|sp W (T6 W (gq W) W)<|bs h fun _ hy1 h=>GG (fk Tryz.func81 Tryz.ntmps81 m0 (by with_unfolding_all rfl)) (fun (g1:Nat)=> [(2,(.ptr (2,u1) 0)),(3,(.ptr (3,u1) 0)),(4,(.ptr (4,u1) 0)),(5,(.ptr (5,u1) 0)),(8,(.ptr (8,u8) 0)),(34,(.fn (.func 174) [] [(.ptr (1,g1) 0)]))]) (fun (g1:Nat)=> [((2,u1),some<|.box 33 (M7 p1)),((3,u1),some<|.box 22 [(dl C9 p2)]),((4,u1),some<|.box 25 [(di 0),(.d .nilS),(.d .nilS)]),((5,u1),some<|.box 36 [(di 0)]),((8,u8),some<|.box 133 [(.ptr (30,u8) 0)]),((30,u8),some<|.box 135 (Ar v5)),((1,g1),some<|.box 133 [(.ptr (30,u8) 0)])]) W (nl W) ?_ ?_)))
 unfold Ns at hy1
 refine B4 (s0:=⟨T [(0,(.ptr _ _))],G [((30,u8),some<|.box 135 _),((2,u1),some<|.box 33 _),((3,u1),some<|.box 22 _),((4,u1),some<|.box 25 _),((5,u1),some<|.box 36 _),((8,u8),some<|.box 133 _)]⟩) (F3 W W) ?_
 refine lr<|fun u11 _=>sm W<|sv W<|A1<|A9<|B9 (.fn _ _ _) W W (B9 (.fn _ _ _) W W (A1<|B0 ?_))
 cases hy1
 exact TC (.inr W) (VC<|B2 W) u11 (Ck W) (sg W<|sg W<|sg W<|sg W<|sg W<|sg W<|B5 G_hit (.of W) trivial)
 intro g1
 intro u13 hu13
 refine A1<|js h fun z1 hz1 h=>E0 (fun s=> ∃(y2:Unit) (g2:Unit),z1= .inl y2∧Sb ⟨T [(4,(.ptr (4,u1) 0)),(5,(.ptr (5,u1) 0)),(8,(.ptr (8,u8) 0))],G [((4,u1),some<|.box 25 [(di 0),(.d .nilS),(.d .nilS)]),((5,u1),some<|.box 36 [(di 0)]),((8,u8),some<|.box 133 [(.ptr (30,u8) 0)]),((30,u8),some<|.box 135 (Ar v5))]⟩ s) ?_ ?_
 refine A7<|bs hz1 fun v6 hv6 hz1=>B4 (s0:=⟨T [(2,(.ptr _ _)),(3,(.ptr _ _)),(4,(.ptr _ _)),(5,(.ptr _ _)),(8,(.ptr _ _)),(34,(.fn _ _ _))],G [((2,u1),some<|.box 33 _),((3,u1),some<|.box 22 _),((4,u1),some<|.box 25 _),((5,u1),some<|.box 36 _),((8,u8),some<|.box 133 _),((30,u8),some<|.box 135 _),((1,g1),some<|.box 133 _)]⟩) (F3 W W) ?_
 refine VK (.fn (.func 174) [] [(.ptr (1,g1) 0)]) (AO (1,g1) (30,u8) v5.before) OE v6 (Hl p1 p2 v5) (fun (x1:Unit)=>(.inl ():Sum Unit (State×Int))) (fun (x1:Unit) (g3:Unit)=> [((2,u1),some<|.box 33 (M7 p1)),((3,u1),some<|.box 22 [(dl C9 p2)]),((4,u1),some<|.box 25 [(di 0),(.d .nilS),(.d .nilS)]),((5,u1),some<|.box 36 [(di 0)]),((8,u8),some<|.box 133 [(.ptr (30,u8) 0)]),((1,g1),some<|.box 133 [(.ptr (30,u8) 0)]),((30,u8),some<|.box 135 (Ar v5))]) () () _ W (OF hv6 _ _) (fun x1 g3 _ _=>⟨F9 W<|gq W,_,_,_,_,_,_,_,_,_,_,F9 W<|gq W⟩) (fun _=>W) hz1 (F3 W W) nofun ?_ ?_
 intro u15 hu15 hku15
 refine ⟨fun x1 g3=>(F9 W<|F9 W<|F9 W<|F9 W<|F9 W<|F9 W<|F9 W W),?_⟩
 intro r1 x1 g3 a1 z2 hrr1 hz2 ez2
 unfold Hl at hz2
 show Fb _ _ _ _ _ _ ⟨T [(36,(di a1.2)),(35,(di a1.1)),(2,(.ptr (2,u1) 0)),(3,(.ptr (3,u1) 0)),(4,(.ptr (4,u1) 0)),(5,(.ptr (5,u1) 0)),(8,(.ptr (8,u8) 0)),(34,(.fn (.func 174) [] [(.ptr (1,g1) 0)]))],G [((1000000,u15),some (.obj (T [(2,(.ptr (2,u1) 0)),(3,(.ptr (3,u1) 0)),(4,(.ptr (4,u1) 0)),(5,(.ptr (5,u1) 0)),(8,(.ptr (8,u8) 0)),(34,(.fn (.func 174) [] [(.ptr (1,g1) 0)]))]) r1)),((2,u1),some (.box 33 (M7 p1))),((3,u1),some (.box 22 [(dl C9 p2)])),((4,u1),some (.box 25 [(di 0),(.d .nilS),(.d .nilS)])),((5,u1),some (.box 36 [(di 0)])),((8,u8),some (.box 133 [(.ptr (30,u8) 0)])),((1,g1),some (.box 133 [(.ptr (30,u8) 0)])),((30,u8),some (.box 135 (Ar v5)))]⟩
 refine A9<|sv W<|A1<|C0<|sv W<|A1<|Aj<|YC G_hit ?_
 refine A7<|A4<|A4<|F4 W<|sd W (B3 W (gq W) W W)<|sl W (gq W) W (sv W<|bs hz2 fun _ hv7 hz2=>sd W (C8 W W hv7 W)<|sd W (D2 W hv7 W W)<|sl W (gq W) W (sv W<|bs hz2 fun _ hv8 hz2=>sd W (C8 W W hv8 W)<|sd W (D2 W hv8 W W)<|bs hz2 fun _ hv9 hz2=>B1 W W A3 (IO _ _ _ _ hv9) (.inl W) (A1<|cc W hz2 (fun c3 hz2=> ?_)<|fun c3 hz2=> ?_)))
 refine A9<|sv W<|Bc W (gq W) [(di 0),(.d .nilS),(.d .nilS)] W (Bc W (gq W) [(di 12)] W (A1<|B0 ?_))
 cases hz2
 obtain rfl:=ez2 _ rfl
 refine ZW (gq W) nofun (F2 ?_)
 rw [bT]at h
 cases h
 exact A6 (.inr W) (Po (L4 W (gq W) (nl W) W) (CU W (gq W) W) C1 C1) (.tup (.cons (.agg (ca W<|.cons ⟨DLe.nil,W⟩ (.cons ⟨DLe.nil,W⟩ .nil))) A3))
 refine A8<|A9<|sq W<|sl W (gq W) W (sd W (D7 W)<|sv W<|A1<|js hz2 fun z3 hz3 hz2=>E0 (fun s=> ∃(y3:Unit) (g4:Unit),z3= .inl y3∧Sb ⟨T [],G [((2,u1),some<|.box 33 (M7 p1)),((3,u1),some<|.box 22 [(dl C9 p2)]),((4,u1),some<|.box 25 [(di 0),(.d .nilS),(.d .nilS)]),((5,u1),some<|.box 36 [(di 0)]),((8,u8),some<|.box 133 [(.ptr (30,u8) 0)]),((1,g1),some<|.box 133 [(.ptr (30,u8) 0)]),((1000000,u15),some<|.obj (T [(2,(.ptr (2,u1) 0)),(3,(.ptr (3,u1) 0)),(4,(.ptr (4,u1) 0)),(5,(.ptr (5,u1) 0)),(8,(.ptr (8,u8) 0)),(34,(.fn (.func 174) [] [(.ptr (1,g1) 0)]))]) {r1 with state:= .busy}),((30,u8),some<|.box 135 (Ar v5))]⟩ s) ?_ ?_)
 refine A7<|E3 (Fd p1 v5 a1) (fun (x2:Int) (g5:Unit)=>⟨T [(4,(.ptr (4,u1) 0)),(5,(.ptr (5,u1) 0)),(8,(.ptr (8,u8) 0)),(9,(di a1.1)),(10,(di a1.2)),(50,(di (p1.Zones.length:Int))),(51,(di x2))],G [((4,u1),some<|.box 25 [(di 0),(.d .nilS),(.d .nilS)]),((5,u1),some<|.box 36 [(di 0)]),((8,u8),some<|.box 133 [(.ptr (30,u8) 0)]),((2,u1),some<|.box 33 (M7 p1)),((3,u1),some<|.box 22 [(dl C9 p2)]),((1,g1),some<|.box 133 [(.ptr (30,u8) 0)]),((1000000,u15),some<|.obj (T [(2,(.ptr (2,u1) 0)),(3,(.ptr (3,u1) 0)),(4,(.ptr (4,u1) 0)),(5,(.ptr (5,u1) 0)),(8,(.ptr (8,u8) 0)),(34,(.fn (.func 174) [] [(.ptr (1,g1) 0)]))]) {r1 with state:= .busy}),((30,u8),some<|.box 135 (Ar v5))]⟩) 0 () _ hz3 (F3 W W) ?_
 intro x2 g5 z4 hz4 ez4
 unfold Fd at hz4
 refine A9<|sv W<|A1<|A4<|cc W hz4 (fun c4 hz4=> ?_)<|fun c4 hz4=> ?_
 refine A8<|A4<|A7<|A9<|sv W<|sv W<|A1<|A9<|sp W (T6 W (gq W) W)<|sv W<|sv W<|sv W<|bs hz4 fun _ hv10 hz4=>B1 W (E7 (Df (gq W)<|rD<|rD<|rD<|rD<|rD<|rD<|rD<|rD<|rD<|rD<|rD<|rD<|rD G2)<|rD<|rD<|rD G2) A3 (Qi _ _ _ _ _ hv10) (.inr W) (A1<|cc W hz4 (fun c5 hz4=> ?_)<|fun c5 hz4=> ?_)
 refine A9<|sv W<|Bc W G_hit [(di 0),(.d .nilS),(.d .nilS)] W (Bc W (gq W) [(di 12)] W (A1<|B0 ?_))
 cases hz4
 obtain rfl:=ez4 _ rfl
 refine ⟨nofun,F2 ?_⟩
 rw [bT]at hz2
 cases hz2
 obtain rfl:=ez2 _ rfl
 refine ZW (gq W) nofun (F2 ?_)
 rw [bT]at h
 cases h
 exact A6 (.inr W) (Po (L4 W (gq W) (nl W) W) (CU W (gq W) W) C1 C1) (.tup (.cons (.agg (ca W<|.cons ⟨DLe.nil,W⟩ (.cons ⟨DLe.nil,W⟩ .nil))) A3))
 refine A8<|E2<|C0<|sv W<|sv W<|A1<|E5 ?_
 cases hz4
 exact ⟨W,(),(F3 W W)⟩
 refine C6 W ?_
 cases hz4
 obtain rfl:=ez4 _ rfl
 refine ⟨nofun,C4 W<|Aj ?_⟩
 exact ⟨_,(),W,(F3 W W)⟩
 rintro _ ⟨y3,g4,rfl,q1⟩
 rw [bS]at hz2
 refine E2<|E5 ?_
 cases hz2
 exact mE q1 (gq W) () (B5 G_hit (.of W)<|sg W<|sg W<|sg W<|sg W<|sg W<|sg W trivial)
 rintro x1 g3 _ rfl qx1
 refine E2<|Aj ?_
 exact ⟨_,(),W,(Sb.after qx1<|F3 W W)⟩
 rintro _ ⟨y2,g2,rfl,q2⟩
 rw [bS]at h
 refine B4 q2<|A9<|sp W (T6 W (gq W) W)<|sq W<|sp W W<|sd W (B3 W (gq W) W W)<|Bc W G_hit (L0 v5.after) W (Bc W (gq W) [(di 0)] W (A1<|B0 ?_))
 cases h
 exact A6 (.inr W) (Po (L4 W (gq W) (nl W) W) (CU W G_hit W) C1 C1) (.refl _)
def Gx (p1:Int):Option Int:=
  (cond (decide (p1≥4294967296)) (some ((p1.fdiv (2^ (min (32:Int).toNat (IntKind.bits .u64)))),32)) (some (p1,0))).bind fun y1=>(cond (decide (y1.1≥65536)) (some ((y1.1.fdiv (2^ (min (16:Int).toNat (IntKind.bits .u64)))),(C5 (y1.2+16)))) (some (y1.1,y1.2))).bind fun y2=>cond (decide (y2.1≥256)) ((cY (ByteArray.mk #[0,1,2,2,3,3,3,3,4,4,4,4,4,4,4,4,5,5,5,5,5,5,5,5,5,5,5,5,5,5,5,5,6,6,6,6,6,6,6,6,6,6,6,6,6,6,6,6,6,6,6,6,6,6,6,6,6,6,6,6,6,6,6,6,7,7,7,7,7,7,7,7,7,7,7,7,7,7,7,7,7,7,7,7,7,7,7,7,7,7,7,7,7,7,7,7,7,7,7,7,7,7,7,7,7,7,7,7,7,7,7,7,7,7,7,7,7,7,7,7,7,7,7,7,7,7,7,7,8,8,8,8,8,8,8,8,8,8,8,8,8,8,8,8,8,8,8,8,8,8,8,8,8,8,8,8,8,8,8,8,8,8,8,8,8,8,8,8,8,8,8,8,8,8,8,8,8,8,8,8,8,8,8,8,8,8,8,8,8,8,8,8,8,8,8,8,8,8,8,8,8,8,8,8,8,8,8,8,8,8,8,8,8,8,8,8,8,8,8,8,8,8,8,8,8,8,8,8,8,8,8,8,8,8,8,8,8,8,8,8,8,8,8,8,8,8,8,8,8,8,8,8,8,8,8,8]) (IntKind.wrap .u8 (y2.1.fdiv (2^ (min (8:Int).toNat (IntKind.bits .u64)))))).bind fun v1=>some (C5 ((C5 (y2.2+8))+ (C5 v1)))) ((cY (ByteArray.mk #[0,1,2,2,3,3,3,3,4,4,4,4,4,4,4,4,5,5,5,5,5,5,5,5,5,5,5,5,5,5,5,5,6,6,6,6,6,6,6,6,6,6,6,6,6,6,6,6,6,6,6,6,6,6,6,6,6,6,6,6,6,6,6,6,7,7,7,7,7,7,7,7,7,7,7,7,7,7,7,7,7,7,7,7,7,7,7,7,7,7,7,7,7,7,7,7,7,7,7,7,7,7,7,7,7,7,7,7,7,7,7,7,7,7,7,7,7,7,7,7,7,7,7,7,7,7,7,7,8,8,8,8,8,8,8,8,8,8,8,8,8,8,8,8,8,8,8,8,8,8,8,8,8,8,8,8,8,8,8,8,8,8,8,8,8,8,8,8,8,8,8,8,8,8,8,8,8,8,8,8,8,8,8,8,8,8,8,8,8,8,8,8,8,8,8,8,8,8,8,8,8,8,8,8,8,8,8,8,8,8,8,8,8,8,8,8,8,8,8,8,8,8,8,8,8,8,8,8,8,8,8,8,8,8,8,8,8,8,8,8,8,8,8,8,8,8,8,8,8,8,8,8,8,8,8,8]) (IntKind.wrap .u8 y2.1)).bind fun v2=>some (C5 (y2.2+ (C5 v2))))
theorem GI(p1 r)(h:Gx p1=some r):PCall Tryz.prog 281 [(.v (.int .u64 p1))] (i64 r):=by
 refine C3 (fk Tryz.func281 Tryz.ntmps281 m0 (by with_unfolding_all rfl)) (nl W) ?_
 unfold Gx at h
 refine B4 (s0:=⟨T [(0,(.d _))],G []⟩) (F3 W W) ?_
 refine A9<|sv W<|A1<|A4<|A9<|sv W<|sv W<|A1<|bs h fun y1 hy1 h=>E0 (fun s=> ∃g1:Unit,Sb ⟨T [(0,(.d (.v (.int .u64 y1.1)))),(2,(di y1.2))],G []⟩ s) ?_ ?_
 refine cc W hy1 (fun c1 hy1=> ?_)<|fun c1 hy1=> ?_
 refine A9<|sv W<|sv W<|sv W<|A1<|C0<|sv W<|A1 ?_
 cases hy1
 exact Aj ⟨(),(F3 W W)⟩
 refine A8 ?_
 cases hy1
 exact Aj ⟨(),(F3 W W)⟩
 rintro _ ⟨g1,q1⟩
 refine B4 q1<|A4<|A9<|sv W<|sv W<|A1<|bs h fun y2 hy2 h=>E0 (fun s=> ∃g2:Unit,Sb ⟨T [(0,(.d (.v (.int .u64 y2.1)))),(2,(di y2.2))],G []⟩ s) ?_ ?_
 refine cc W hy2 (fun c2 hy2=> ?_)<|fun c2 hy2=> ?_
 refine A9<|sv W<|sv W<|sv W<|A1<|C0<|sv W<|sv W<|sv W<|A1 ?_
 cases hy2
 exact Aj ⟨(),(F3 W W)⟩
 refine A8 ?_
 cases hy2
 exact Aj ⟨(),(F3 W W)⟩
 rintro _ ⟨g2,q2⟩
 refine B4 q2<|A4<|A9<|sv W<|sv W<|A1<|cc W h (fun c3 h=> ?_)<|fun c3 h=> ?_
 refine A9<|sv W<|sv W<|sv W<|A1<|C0<|sv W<|sv W<|sv W<|A1<|A9<|sv W<|sv W<|sv W<|bs h fun _ hv1 h=>sd W (iE W W hv1)<|sv W<|sv W<|sv W<|A1<|B0 ?_
 cases h
 exact A6 (.inr W) (B6 (B2 W) C1) (.refl _)
 refine A8<|A9<|sv W<|sv W<|sv W<|bs h fun _ hv2 h=>sd W (iE W W hv2)<|sv W<|sv W<|sv W<|A1<|B0 ?_
 cases h
 exact A6 (.inr W) (B6 (B2 W) C1) (.refl _)
def Ie (p1:Int):Option Int:=
  (Gx p1).bind fun v1=>some v1
theorem Zi(p1 r)(h:Ie p1=some r):PCall Tryz.prog 267 [(.v (.int .u64 p1))] (i64 r):=by
 refine C3 (fk Tryz.func267 Tryz.ntmps267 m0 (by with_unfolding_all rfl)) (nl W) ?_
 unfold Ie at h
 refine B4 (s0:=⟨T [(0,(.d _))],G []⟩) (F3 W W) ?_
 refine A9<|sv W<|A1<|A4<|Xr W<|A8<|A9<|sv W<|bs h fun _ hv1 h=>B1 W W A3 (GI _ _ hv1) (.inl W) (sv W<|A1<|B0 ?_)
 cases h
 exact A6 (.inr W) (B6 (B2 W) C1) (.refl _)
def Ja (p1:Int)(p2:Int):Option Bool:=
  (Y7 p1).bind fun v1=>((cond v1 (Y7 p2) (some default))).bind fun v2=>some ((v1&& (!v2))||(decide (p1<p2)))
theorem IQ(p1 p2 r)(h:Ja p1 p2=some r):PCall Tryz.prog 277 [(i64 p1),(i64 p2)] (bo r):=by
 refine C3 (fk Tryz.func277 Tryz.ntmps277 m0 (by with_unfolding_all rfl)) (nl W) ?_
 unfold Ja at h
 refine B4 (s0:=⟨T [(0,(.d _)),(1,(.d _))],G []⟩) (F3 W W) ?_
 refine A9<|sv W<|A1<|A9<|sv W<|bs h fun v1 hv1 h=>B1 W W A3 (Kf _ _ hv1) (.inl W) (sv W<|gt W (fun _=>W)<|bs h fun v2 hv2 h=> ?_)
 refine O3 v1 (bo v2) (M8 W) (fun w2=>⟨_,[(di p2)],_,_,(by simp only [A2 w2];rfl),W,A3,Kf _ _<|C2 w2 hv2,(.inl W)⟩) ?_
 refine N2 _ (.d (bo (!v2))) W (M8 W) (fun w3=>(by simp only [A2 w3];rfl)) ?_
 refine sa W W W<|sv W<|gf W (fun _=>W)<|gf W (fun _=>W)<|gf W (fun w6=>(N1 (A2 w6) (A2 w6) W))<|sd W (O2 W W<|fun hc=>A2<|J7 hc)<|sv W<|A1<|B0 ?_
 cases h
 exact A6 (.inr W) (B6 (B2 W) C1) (.refl _)
def M2 (p2:Int)(x2:(Int× (List Int))):Option (Stp (Int× (List Int)) (List Int)):=
  ((cond (decide (x2.1>p2)) (B7 x2.2 x2.1) (some default))).bind fun v1=>((cond (decide (x2.1>p2)) (B7 x2.2 (C5 (x2.1 - 1))) (some default))).bind fun v2=>((cond (decide (x2.1>p2)) (Ja v1 v2) (some default))).bind fun v3=>cond ((decide (x2.1>p2))&&v3) ((B7 x2.2 (C5 (x2.1 - 1))).bind fun v4=>(B7 x2.2 x2.1).bind fun v5=>(B7 x2.2 x2.1).bind fun v6=>(B7 (Mo x2.2 x2.1 v4) (C5 (x2.1 - 1))).bind fun v7=>some (.go ((C5 (x2.1 - 1)),(Mo (Mo x2.2 x2.1 v4) (C5 (x2.1 - 1)) v5)))) (some (.out x2.2))
def M3 (p2:Int)(p3:Int)(x1:(Int× (List Int))):Option (Stp (Int× (List Int)) (List Int)):=
  cond (decide (x1.1<p3)) ((loop (M2 p2) (x1.1,x1.2)).bind fun y1=>some (.go ((C5 (x1.1+1)),y1))) (some (.out (x1.2)))
def N7 (p1:(List Int))(p2:Int)(p3:Int):Option (List Int):=
  loop (M3 p2 p3) ((C5 (p2+1)),p1)
theorem Mv(p1 p2 p3 r)(h:N7 p1 p2 p3=some r):MCall Tryz.prog 271 [(.sl (900000,0)),(di p2),(di p3)] [(.arr 2 1 (List.map A5 p1))] (.d (.tup [])) [some (.arr 2 1 (List.map A5 r))] []:=by
 refine AE (fk Tryz.func271 Tryz.ntmps271 m0 (by with_unfolding_all rfl)) W (nl W) ?_
 unfold N7 at h
 refine B4 (s0:=⟨T [(0,(.sl _)),(1,(.d _)),(2,(.d _))],G [((900000,0),some _)]⟩) (F3 W W) ?_
 refine A9<|sv W<|sv W<|sv W<|A1<|A7<|E3 (M3 p2 p3) (fun (x1:(Int× (List Int))) (g1:Unit)=>⟨T [(0,(.sl (900000,0))),(1,(di p2)),(2,(di p3)),(6,(di x1.1))],G [((900000,0),some<|.arr 2 1 (List.map A5 x1.2))]⟩) ((C5 (p2+1)),p1) () _ h (F3 W W) ?_
 intro x1 g1 z1 hz1 ez1
 unfold M3 at hz1
 refine A4<|A9<|sv W<|sv W<|sv W<|A1<|cc W hz1 (fun c1 hz1=> ?_)<|fun c1 hz1=> ?_
 refine A8<|A4<|A7<|A9<|sv W<|sv W<|A1<|bs hz1 fun y1 hy1 hz1=>E0 (fun s=> ∃g2:Unit,Sb ⟨T [(0,(.sl (900000,0))),(1,(di p2)),(2,(di p3)),(6,(di x1.1))],G [((900000,0),some<|.arr 2 1 (List.map A5 y1))]⟩ s) ?_ ?_
 refine A7<|E3 (M2 p2) (fun (x2:(Int× (List Int))) (g3:Unit)=>⟨T [(0,(.sl (900000,0))),(1,(di p2)),(2,(di p3)),(6,(di x1.1)),(7,(di x2.1))],G [((900000,0),some<|.arr 2 1 (List.map A5 x2.2))]⟩) (x1.1,x1.2) () _ hy1 (F3 W W) ?_
 intro x2 g3 z2 hz2 ez2
 unfold M2 at hz2
 refine A4<|A4<|F4 W<|sv W<|sv W<|sv W<|sv W<|N2 _ (.sl _) W (M8 W) (fun _=>W) (gt W (fun _=>W)<|bs hz2 fun v1 hv1 hz2=>N2 _ (.aptr _ _ _ _) W (M8 W) (fun w3=>(Mp (A2 w3) (A2 w3) G_hit (C2 w3 hv1))) (gt W (fun w4=>(Sj (A2 w4) G_hit (C2 w4 hv1) W))<|N2 _ (.sl _) W (M8 W) (fun _=>W) (gt W (fun _=>W)<|gt W (vb W W W)<|bs hz2 fun v2 hv2 hz2=>N2 _ (.aptr _ _ _ _) W (M8 W) (fun w8=>(Mp (A2 w8) (A2 w8) G_hit (C2 w8 hv2))) (gt W (fun w9=>(Sj (A2 w9) G_hit (C2 w9 hv2) W))<|bs hz2 fun v3 hv3 hz2=> ?_))))
 refine O3 _ (bo v3) (M8 W) (fun w10=>⟨_,[(di v1),(di v2)],_,_,(by simp only [A2 w10];rfl),W,A3,IQ _ _ _<|C2 w10 hv3,(.inl W)⟩) ?_
 refine sa W W W<|A1<|cc W hz2 (fun c2 hz2=> ?_)<|fun c2 hz2=> ?_
 refine A8<|A4<|A7<|F4 W<|ss W<|sv W<|ss W<|sv W<|sv W<|ss W<|sv W<|sv W<|bs hz2 fun v4 hv4 hz2=>B9 (.aptr _ _ _ _) W (Mp W W G_hit hv4) (sd W (Sj W G_hit hv4 W)<|ss W<|sv W<|bs hz2 fun v5 hv5 hz2=>B9 (.aptr _ _ _ _) W (Mp W W G_hit hv5) (sd W (Sj W G_hit hv5 W)<|bs hz2 fun _ hv6 hz2=>B9 (.aptr _ _ _ _) W (Mp W W G_hit hv6) (Sw A5 _ _ _ (x2.1) _ v4 [(i64 v4)] W W W G_hit hv6 (nl W) W (bs hz2 fun _ hv7 hz2=>B9 (.aptr _ _ _ _) W (Mp W W G_hit hv7) (Sw A5 _ _ _ ((C5 (x2.1 - 1))) _ v5 [(i64 v5)] W W W G_hit hv7 (nl W) W (A1<|E2<|C0<|sv W<|sv W<|sv W<|A1<|E5 ?_))))))
 cases hz2
 exact ⟨W,(),(F3 W W)⟩
 refine C6 W ?_
 cases hz2
 obtain rfl:=ez2 _ rfl
 refine ⟨nofun,C4 W<|Aj ?_⟩
 exact ⟨(),(F3 W W)⟩
 rintro _ ⟨g2,q1⟩
 refine E2<|B4 q1<|C0<|sv W<|sv W<|sv W<|A1<|E5 ?_
 cases hz1
 exact ⟨W,(),(F3 W W)⟩
 refine C6 W ?_
 cases hz1
 obtain rfl:=ez1 _ rfl
 refine ⟨nofun,C4 W<|E5 ?_⟩
 exact GB (.inl W) [] GC (.refl _) ⟨⟨G_hit,Hy⟩,trivial⟩
def O7 (p1:(List Int))(x1:(Int×Int×Int×Bool×Bool)):Option (Stp (Int×Int×Int×Bool×Bool) (List Int)):=
  cond (decide ((C5 (x1.2.1 - x1.1))≤12)) ((N7 p1 x1.1 x1.2.1).bind fun v1=>some (.out (v1))) (cond (x1.2.2.1==0) (none) ((cond (!x1.2.2.2.1) (none) (some ())).bind fun _=>none))
def R9 (p1:(List Int))(p2:Int)(p3:Int)(p4:Int):Option (List Int):=
  loop (O7 p1) (p2,p3,p4,true,true)
theorem Qj(p1 p2 p3 p4 r)(h:R9 p1 p2 p3 p4=some r):MCall Tryz.prog 266 [(.sl (900000,0)),(di p2),(di p3),(di p4)] [(.arr 2 1 (List.map A5 p1))] (.d (.tup [])) [some (.arr 2 1 (List.map A5 r))] []:=by
 refine AE (fk Tryz.func266 Tryz.ntmps266 (fun r=>if r==4 then [1004003]else []) (by with_unfolding_all rfl)) W (nl W) ?_
 unfold R9 at h
 refine B4 (s0:=⟨T [(0,(.sl _)),(1,(.d _)),(2,(.d _)),(3,(.d _))],G [((900000,0),some _)]⟩) (F3 W W) ?_
 refine A9<|sv W<|A1<|A9<|sv W<|A1<|A7<|E3 (O7 p1) (fun (x1:(Int×Int×Int×Bool×Bool)) (g1:Unit)=>⟨T [(0,(.sl (900000,0))),(1,(di x1.1)),(2,(di x1.2.1)),(3,(di x1.2.2.1)),(8,(.d (bo x1.2.2.2.1))),(9,(.d (bo x1.2.2.2.2)))],G [((900000,0),some<|.arr 2 1 (List.map A5 p1))]⟩) (p2,p3,p4,true,true) () _ h (F3 W W) ?_
 intro x1 g1 z1 hz1 ez1
 unfold O7 at hz1
 refine A7<|A9<|sv W<|sv W<|sv W<|sv W<|A1<|A4<|A9<|sv W<|sv W<|A1<|cc W hz1 (fun c1 hz1=> ?_)<|fun c1 hz1=> ?_
 refine A9<|ss W<|sv W<|sv W<|bs hz1 fun v1 hv1 hz1=>JR (v:= .d (.tup [])) (us:= [(900000,0)]) (PR (Mv _ _ _ _ hv1) [(900000,0)] [(900000,0)] _ (((900000,0),some<|.arr 2 1 (List.map A5 v1))::_) W Qc (Cp KT<|Cp IE<|Cp IE AD) (Nq G_hit Ky) ⟨⟨_,G_hit, .of W⟩,trivial⟩ (fun _ h=>h) nd1 W W W) (A1<|B0 ?_)
 cases hz1
 obtain rfl:=ez1 _ rfl
 refine ⟨nofun,F2 ?_⟩
 exact GB (.inr W) [] GC (.refl _) ⟨⟨G_hit,Hy⟩,trivial⟩
 refine A8<|A4<|A9<|sv W<|sv W<|A1<|cc W hz1 (fun c2 hz1=> ?_)<|fun c2 hz1=> ?_
 refine A9<|ss W<|sv W<|sv W ?_
 cases hz1
 refine A8<|A4<|A9<|sv W<|B9 (.d (bo (!x1.2.2.2.1))) W W (A1<|bs hz1 fun _ hy1 hz1=>E0 (fun s=> ∃g2:Unit,Sb ⟨T [(0,(.sl (900000,0))),(1,(di x1.1)),(2,(di x1.2.1)),(3,(di x1.2.2.1)),(8,(.d (bo x1.2.2.2.1))),(9,(.d (bo x1.2.2.2.2))),(10,(di<|C5 (x1.2.1 - x1.1)))],G [((900000,0),some<|.arr 2 1 (List.map A5 p1))]⟩ s) ?_ ?_)
 refine cc W hy1 (fun c3 hy1=> ?_)<|fun c3 hy1=> ?_
 refine A9<|ss W<|sv W<|sv W ?_
 cases hy1
 refine A8 ?_
 cases hy1
 exact Aj ⟨(),(F3 W W)⟩
 rintro _ ⟨g2,q1⟩
 refine B4 q1<|A9<|ss W<|sv W<|sv W ?_
 cases hz1
def X8 (p1:(List Int)):Option (List Int):=
  (Ie (IntKind.wrap .u64 (p1.length:Int))).bind fun v1=>(R9 p1 0 (p1.length:Int) v1).bind fun v2=>some v2
theorem Tv(p1 r)(h:X8 p1=some r):MCall Tryz.prog 252 [(.sl (900000,0))] [(.arr 2 1 (List.map A5 p1))] (.d (.tup [])) [some (.arr 2 1 (List.map A5 r))] []:=by
 refine AE (fk Tryz.func252 Tryz.ntmps252 (fun r=>if r==1 then [1001005]else []) (by with_unfolding_all rfl)) W (nl W) ?_
 unfold X8 at h
 refine B4 (s0:=⟨T [(0,(.sl _))],G [((900000,0),some _)]⟩) (F3 W W) ?_
 refine A9<|ss W<|sd W (YD (f:=A5) W G_hit)<|sv W<|A1<|C0<|ss W<|sv W<|sv W<|sv W<|bs h fun _ hv1 h=>B1 W W A3 (Zi _ _ hv1) (.inl W) (bs h fun v2 hv2 h=>JR (v:= .d (.tup [])) (us:= [(900000,0)]) (PR (Qj _ _ _ _ _ hv2) [(900000,0)] [(900000,0)] _ (((900000,0),some<|.arr 2 1 (List.map A5 v2))::_) W Qc (Cp KT<|Cp IE<|Cp IE<|Cp IE AD) (Nq G_hit Ky) ⟨⟨_,G_hit, .of W⟩,trivial⟩ (fun _ h=>h) nd1 W W W) (A1<|E5 ?_))
 obtain rfl:=(lD h)
 exact GB (.inl W) [] GC (.refl _) ⟨⟨G_hit,Hy⟩,trivial⟩
section
open Go.RowKit Go.Lib
def rQ:Go.Shelf.Ren:=⟨fun n=>if n=43 then 253 else 0,fun t=>if t=22 then 48 else if t=23 then 2 else t,fun x=>x⟩
theorem cmp_lay:SlLaysE.n43 Tryz.prog rQ where
  mixed:=by kernel_rfl
  f43:=⟨Tryz.f253.name,by decide,by kernel_rfl⟩
  t0:=Tryz.underlying0
  a0:=Tryz.isAgg0
  z0:=Tryz.sizeOf0
  v0:=Tryz.zeroValue0
  t3:=Tryz.underlying3
  a3:=Tryz.isAgg3
  z3:=Tryz.sizeOf3
  v3:=Tryz.zeroValue3
  t4:=Tryz.underlying4
  a4:=Tryz.isAgg4
  z4:=Tryz.sizeOf4
  v4:=Tryz.zeroValue4
  t22:=Tryz.underlying48
  a22:=Tryz.isAgg48
  z22:=Tryz.sizeOf48
  v22:=Tryz.zeroValue48
  a23:=Tryz.isAgg2
  z23:=Tryz.sizeOf2
theorem dB (g cap:Nat)(d:Array Int)(w:World)(hH:Go.Sort.Holds (Value.int .i64) w g 0 d)(hsz:d.size≤9223372036854775807)(hcap:d.size≤cap):
    Calls Tryz.prog 253 #[.slice (some ⟨g,0,none⟩) d.size cap] w fun e w'=>e= .returned (.slice (some ⟨g,0,none⟩) (Go.Lib.compactUpTo d d.size).length cap)∧∃q,w'=Go.Sort.putRow (Value.int .i64) (Go.Sort.ahead w q) g 0 (Go.Lib.compactUpTo d d.size++List.replicate (d.size - (Go.Lib.compactUpTo d d.size).length) 0).toArray:=
  AnyE.slices_Compact cmp_lay (Value.int .i64) (fun _=>rfl) (.intD _ _ _) (.intD _ _ _) 0 Tryz.zeroValue2 g 0 cap d w hH hsz hcap
theorem mR (d:Array Int):(Go.Lib.compactUpTo d d.size).length≤d.size:=by
  unfold Go.Lib.compactUpTo
  rw [lR]
  refine Nat.le_trans (List.length_filter_le _ _) ?_
  rw [List.length_range];exact bW _
theorem RE (xs:List Int): ∀m,m≤xs.length→Go.Lib.compactUpTo xs.toArray m=Tq (xs.take m)
  |0,_=>rfl
  |m+1,h=>by
   rw [Go.Lib.compactUpTo_succ,RE xs m (by omega),List.take_add_one,lH (by omega),Option.toList_some,KU]
   congr 1
   have hm:m<xs.length:=by omega
   have e1:xs.toArray[m]! =xs[m]:=by rw [getElem!_pos xs.toArray m (by simpa using hm)];simp
   rw [Go.Lib.keeps,e1]
   cases m with
   |zero=>simp
   |succ k=>
    have e2:xs.toArray[k]! =xs[k]:=by rw [getElem!_pos xs.toArray k (by rw [List.size_toArray];omega)];simp
    have e3:(xs.take (k+1)).getLast? =some xs[k]:=by rw [List.take_add_one,lH (by omega),Option.toList_some,List.getLast?_append];simp
    rw [Nat.add_sub_cancel,e2,e3]
    by_cases e:xs[k+1]=xs[k]
    ·simp [e]
    ·rw [bG (by simp [e]),bH (fun q=>e (lD q).symm)]
theorem qR (xs r:List Int)(hr:II xs=some r):MCall Tryz.prog 253 [.sl (900000,0)] [.arr 2 1 (List.map A5 xs)] (.sl (800000,0)) [none] [some (.arr 2 1 (List.map A5 r))]:=by
  obtain ⟨hx,rfl⟩:=TB hr
  clear hr
  refine ⟨W,fun vs w=> ?_,fun w I ρ vs H hlen hrep=> ?_⟩
  ·have hn': ¬Tryz.f253.name= "runtime.NumGoroutine" :=by decide
   have hb: ∃c,Tryz.f253.body=some c:=⟨_,rfl⟩
   obtain ⟨c,hb⟩:=hb
   simp [callFunc,Tryz.func253,hb,hn']
  have hnx:0<xs.length:=List.length_pos_iff.2 hx
  obtain ⟨a,rfl⟩: ∃a,vs= [a]:=by
    match vs,hlen with
    | [a],_=>exact ⟨a,rfl⟩
  have r0:=hrep 0 _ rfl
  simp only [List.getD_cons_zero]at r0
  have hb0:G (BX 0 [Blk.arr 2 1 (List.map A5 xs)]) (Co 0)=some (.arr 2 1 (List.map A5 xs)):=rfl
  obtain ⟨x0,cx,p1,p2,p3,p4⟩:=H.blk _ _ hb0
  have e0:a=x0:=by
    cases r0 with
    |sl _ _ h=>exact lD (h.symm.trans p1)
  subst e0
  obtain ⟨hxl,hx'|⟨g,c,cur,rfl,_,hg,hnc,hcm,hcs,hxc⟩⟩:=p2
  ·rw [lR]at hx';omega
  rw [lR]at hxl hnc hxc
  have hval: ∀i (hi:i<xs.length),cur[i]? =some (.int .i64 xs[i]):=by
    intro i hi
    obtain ⟨_,g2⟩:=p4 i 0 (.v (.int .i64 xs[i])) (by simp [Vo,hi,A5])
    have:cx.getD (i*1+0) undef= .int .i64 xs[i]:=by generalize cx.getD (i*1+0) undef=y at g2;cases g2;rfl
    rw [← hxc,List.getD,l7,bG (by omega),Nat.mul_one,Nat.add_zero,Array.getElem?_toList]at this
    rw [Array.getElem?_eq_getElem (by omega)]at this ⊢
    rw [Option.getD_some]at this
    rw [this]
  have hH:Go.Sort.Holds (Value.int .i64) w g 0 xs.toArray:=by
    intro j hj
    rw [List.size_toArray]at hj
    have h2:=hval j hj
    refine ⟨?_,by simp [World.frozen?,hg]⟩
    simp [World.cell?,hg,h2,hj]
  have locx:P4 ρ (Co 0) (.arr 2 1 (List.map A5 xs))=some g:=by simp [P4,p1,Value.ownBlock]
  have hca:=dB g c xs.toArray w hH (by rw [List.size_toArray];unfold maxLen at hcm;omega) (by rw [List.size_toArray];exact hnc)
  have hcl:=mR xs.toArray
  rw [List.size_toArray]at hca hcl
  rw [lR]
  refine hca.mono ?_
  rintro e w' ⟨rfl,q,hw'⟩
  have hheap: ∀k,w'.heap[k]? =if k=g then some (.cells (Go.Sort.putCells (Value.int .i64) 0 (Go.Lib.compactUpTo xs.toArray xs.length++List.replicate (xs.length - (Go.Lib.compactUpTo xs.toArray xs.length).length) 0).toArray cur) 2 (0,0))else w.heap[k]?:=by
    intro k
    rw [hw']
    show (w.heap.modify g _)[k]? =_
    rw [Array.getElem?_modify]
    by_cases e:g=k
    ·subst e;rw [bG rfl,bG rfl,hg];rfl
    ·rw [bH e,bH (Ne.symm e)]
  have hos:w'.os=w.os∧w'.tape=w.tape∧w'.output=w.output∧w'.heap.size=w.heap.size:=by rw [hw'];exact ⟨rfl,rfl,rfl,by simp⟩
  clear hw' hca hH
  generalize hC:Go.Lib.compactUpTo xs.toArray xs.length=C at hcl hheap ⊢
  have hCc:Tq xs=C:=by rw [← hC,RE xs _ (bW _),List.take_length]
  rw [hCc]
  obtain ⟨Z,hZ⟩: ∃Z:Array Int,Z=(C++List.replicate (xs.length - C.length) 0).toArray:=⟨_,rfl⟩
  rw [← hZ]at hheap
  have hZs:Z.size=xs.length:=by rw [hZ];simp;omega
  have hZg: ∀i (hi:i<C.length),Z[i]! =C[i]:=by
    intro i hi
    have hlt:i<Z.size:=by omega
    rw [getElem!_pos Z i hlt]
    subst hZ
    rw [List.getElem_toArray,List.getElem_append_left hi]
  clear hZ hC hCc
  obtain ⟨u0,hu0⟩:=H.fresh
  have hk0:ρ (7,u0)=none:=hu0 7 u0 (bW _)
  have hgI: ¬I g:=H.notI _ _ g hb0 locx
  have hgo:own ρ (G (BX 0 [Blk.arr 2 1 (List.map A5 xs)])) g:=⟨_,_,hb0,locx⟩
  have hother: ∀k,k≠g→w'.heap[k]? =w.heap[k]?:=fun k hk=>by rw [hheap,bH hk]
  have hI': ∀b,I b→w'.heap[b]? =w.heap[b]?:=fun b hb=>hother b (fun e=>hgI (e▸hb))
  have H0:HeapOK w' I ρ (fun _=>none):=⟨fun k b hb=>(by cases hb),fun k k' b b' g h1=>(by cases h1),fun k b g h1=>(by cases h1),fun k b g h1=>(by cases h1),fun b hb=>by rw [hos.2.2.2];exact H.ilt b hb,⟨u0,hu0⟩,H.rone⟩
  have hloc: ∀k,P4 (Dd ρ (7,u0) (some (Value.slice (some ⟨g,0,none⟩) C.length c))) (7,u0) (.arr 2 1 (List.map A5 C))=some k→k=g:=by
    intro k hk
    have:some g=some k:=by simpa [P4,H6,Value.ownBlock] using hk
    exact (lD this).symm
  have hown: ∀g,¬own ρ (fun _=>none) g:=fun g ⟨k,b,h,_⟩=>by cases h
  have hsz:(Go.Sort.putCells (Value.int .i64) 0 Z cur).size=c:=by unfold Go.Sort.putCells;rw [Array.size_mapIdx,hcs,Nat.mul_one]
  have Hn:=TZ H0 (7,u0) (Value.slice (some ⟨g,0,none⟩) C.length c) (.arr 2 1 (List.map A5 C)) hk0 rfl (fun k hk=>by
    rw [hloc k hk]
    exact ⟨hown g,hgI,by rw [hos.2.2.2];exact H.lt _ _ g hb0 locx⟩)
    ⟨_,C.map (Value.int .i64),H6 _ _ _,⟨by simp, .inr ⟨g,c,_,by rw [lR],bX _,by rw [hheap,bG rfl],by rw [lR];omega,hcm,by rw [hsz,Nat.mul_one],by
      rw [lR,Nat.mul_one]
      apply List.ext_getElem
      ·have h3:(Go.Sort.putCells (Value.int .i64) 0 Z cur).toList.length=c:=hsz
       rw [lU,h3,lR];omega
      ·intro i h1 h2
       rw [lR]at h2
       rw [List.getElem_take,Array.getElem_toList,List.getElem_map]
       unfold Go.Sort.putCells
       rw [Array.getElem_mapIdx,bG ⟨bX _,by omega⟩,Nat.sub_zero,hZg i h2]⟩⟩,by
      intro q hq
      obtain ⟨z,_,rfl⟩:=List.mem_map.1 hq
      rfl,by
      intro r j d' hd'
      unfold Vo at hd'
      rw [lJ]at hd'
      cases hr:C[r]? with
      |none=>rw [hr]at hd';cases hd'
      |some z=>
       rw [hr]at hd'
       match j,hd' with
       |0,hd'=>
        cases hd'
        refine ⟨W,?_⟩
        rw [Nat.mul_one,Nat.add_zero,List.getD,lJ,hr]
        exact .v _
       |j+1,hd'=>simp [A5]at hd'⟩
  refine ⟨_, .sl (7,u0),I,_,_,W, .sl _ _ (H6 _ _ _),Hn,⟨hos.1,hos.2.1,hos.2.2.1,by rw [hos.2.2.2];exact bW _,fun b hb hn'=>hother b<|fun e=>hn' (e▸hgo),fun _ hb=>hb,fun _ hb _=> .inl hb,?_,SG hk0⟩,fun _=>(7,u0),W,?_,?_,?_,?_⟩
  ·rintro k ⟨k',b',h1,h2⟩ hl
   by_cases ek:k'=(7,u0)
   ·subst ek
    rw [H6]at h1
    cases h1
    rw [hloc k h2];exact hgo
   ·rw [M1 _ _ _ _ ek]at h1;cases h1
  ·intro j b hb
   match j,hb with
   |0,hb=>cases hb
   |j+1,hb=>simp at hb
  ·intro j b hb
   match j,hb with
   |0,hb=>cases hb;exact H6 _ _ _
   |j+1,hb=>simp at hb
  ·intro j _ i _ e;simp only [Co,Prod.mk.injEq]at e;omega
  ·intro j j' h1 h2 _
   simp only [lK,lM]at h1 h2
   omega
theorem iI (A:Option Addr)(w:World):Calls Tryz.prog 253 #[.slice A 0 0] w fun e w'=>e= .returned (.slice A 0 0)∧∃q,w'=w.drewN q:=by
  have mixed:=cmp_lay.mixed
  have v0:=Tryz.zeroValue2
  go_enter Tryz.func253,Tryz.ntmps253
  go_wp2
  go_ret
  exact ⟨W,0,W⟩
theorem mS:PCall Tryz.prog 253 [.nilS] .nilS:=by
  refine ⟨fun vs w=> ?_,fun w I vs hI hlen hrep=> ?_⟩
  ·have hn': ¬Tryz.f253.name= "runtime.NumGoroutine" :=by decide
   have hb: ∃c,Tryz.f253.body=some c:=⟨_,rfl⟩
   obtain ⟨c,hb⟩:=hb
   simp [callFunc,Tryz.func253,hb,hn']
  obtain ⟨a,rfl⟩: ∃a,vs= [a]:=by
    match vs,hlen with
    | [a],_=>exact ⟨a,rfl⟩
  have r0:=hrep 0 _ rfl
  simp only [List.getD_cons_zero]at r0
  cases r0 with
  |nilS A=>
   refine (iI A w).mono ?_
   rintro e w' ⟨rfl,q,rfl⟩
   exact ⟨_,I,W, .nilS A,W,W,W,bW _,fun _ _=>W,fun _ hb=>hb,fun _ hb _=>hb,hI⟩
end
def M4 (p1:Int)(x2:Int):Option (Stp Int Unit):=
  ((cond (decide (x2>p1)) ((none:Option Unit)) (some default))).bind fun v1=>cond ((decide (x2>p1))&&false) (none) (some (.out ()))
def M5 (p1:Int)(p2:Int)(x1:Int):Option (Stp Int Unit):=
  cond (decide (x1<p2)) ((loop (M4 p1) x1).bind fun _=>some (.go (C5 (x1+1)))) (some (.out (())))
def N8 (p1:Int)(p2:Int):Option Unit:=
  loop (M5 p1 p2) (C5 (p1+1))
theorem Mw(p1 p2 r)(h:N8 p1 p2=some r):PCall Tryz.prog 271 [.nilS,(i64 p1),(i64 p2)] (.tup []):=by
 refine C3 (fk Tryz.func271 Tryz.ntmps271 m0 (by with_unfolding_all rfl)) (nl W) ?_
 unfold N8 at h
 refine B4 (s0:=⟨T [(0,(.d _)),(1,(.d _)),(2,(.d _))],G []⟩) (F3 W W) ?_
 refine A9<|sv W<|sv W<|sv W<|A1<|A7<|E3 (M5 p1 p2) (fun (x1:Int) (g1:Unit)=>⟨T [(0,(.d .nilS)),(1,(di p1)),(2,(di p2)),(6,(di x1))],G []⟩) (C5 (p1+1)) () _ h (F3 W W) ?_
 intro x1 g1 z1 hz1 ez1
 unfold M5 at hz1
 refine A4<|A9<|sv W<|sv W<|sv W<|A1<|cc W hz1 (fun c1 hz1=> ?_)<|fun c1 hz1=> ?_
 refine A8<|A4<|A7<|A9<|sv W<|sv W<|A1<|bs hz1 fun _ hy1 hz1=>E0 (fun s=> ∃g2:Unit,Sb ⟨T [(0,(.d .nilS)),(1,(di p1)),(2,(di p2)),(6,(di x1))],G []⟩ s) ?_ ?_
 refine A7<|E3 (M4 p1) (fun (x2:Int) (g3:Unit)=>⟨T [(0,(.d .nilS)),(1,(di p1)),(2,(di p2)),(6,(di x1)),(7,(di x2))],G []⟩) x1 () _ hy1 (F3 W W) ?_
 intro x2 g3 z2 hz2 ez2
 unfold M4 at hz2
 refine A4<|A4<|F4 W<|sv W<|sv W<|sv W<|sv W<|gt W (fun _=>W)<|gt W (fun _=>W)<|bs hz2 fun _ hv1 hz2=>N2 _ (.d (.tup [])) W (M8 W) (fun w3=>nomatch C2 w3 hv1) (N2 _ (di 0) W (M8 W) (fun w4=>nomatch C2 w4 hv1) (N2 _ (.d (.tup [])) W (M8 W) (fun w5=>nomatch C2 w5 hv1) (N2 _ (di 0) W (M8 W) (fun w6=>nomatch C2 w6 hv1) (N2 _ (di 0) W (M8 W) (fun w7=>nomatch C2 w7 hv1) (N2 _ (.d (.tup [])) W (M8 W) (fun w8=>nomatch C2 w8 hv1) (N2 _ (di 0) W (M8 W) (fun w9=>nomatch C2 w9 hv1) (O3 _ (bo false) (M8 W) (fun w10=>nomatch C2 w10 hv1) (sa W W W<|A1<|cc W hz2 (fun c2 hz2=> ?_)<|fun c2 hz2=> ?_))))))))
 refine A8<|A4<|A7<|F4 W<|sv W<|sv W<|sv W<|sv W<|sv W<|sv W<|sv W<|sv W ?_
 cases hz2
 refine C6 W ?_
 cases hz2
 obtain rfl:=ez2 _ rfl
 refine ⟨nofun,C4 W<|Aj ?_⟩
 exact ⟨(),(F3 W W)⟩
 rintro _ ⟨g2,q1⟩
 refine E2<|B4 q1<|C0<|sv W<|sv W<|sv W<|A1<|E5 ?_
 cases hz1
 exact ⟨W,(),(F3 W W)⟩
 refine C6 W ?_
 cases hz1
 obtain rfl:=ez1 _ rfl
 refine ⟨nofun,C4 W<|E5 ?_⟩
 exact A6 (.inl W) W (.refl _)
def O8 (x1:(Int×Int×Int×Bool×Bool)):Option (Stp (Int×Int×Int×Bool×Bool) Unit):=
  cond (decide ((C5 (x1.2.1 - x1.1))≤12)) ((N8 x1.1 x1.2.1).bind fun v1=>some (.out (()))) (cond (x1.2.2.1==0) (none) ((cond (!x1.2.2.2.1) (none) (some ())).bind fun _=>none))
def S3 (p1:Int)(p2:Int)(p3:Int):Option Unit:=
  loop (O8) (p1,p2,p3,true,true)
theorem Qk(p1 p2 p3 r)(h:S3 p1 p2 p3=some r):PCall Tryz.prog 266 [.nilS,(i64 p1),(i64 p2),(i64 p3)] (.tup []):=by
 refine C3 (fk Tryz.func266 Tryz.ntmps266 m0 (by with_unfolding_all rfl)) (nl W) ?_
 unfold S3 at h
 refine B4 (s0:=⟨T [(0,(.d _)),(1,(.d _)),(2,(.d _)),(3,(.d _))],G []⟩) (F3 W W) ?_
 refine A9<|sv W<|A1<|A9<|sv W<|A1<|A7<|E3 (O8) (fun (x1:(Int×Int×Int×Bool×Bool)) (g1:Unit)=>⟨T [(0,(.d .nilS)),(1,(di x1.1)),(2,(di x1.2.1)),(3,(di x1.2.2.1)),(8,(.d (bo x1.2.2.2.1))),(9,(.d (bo x1.2.2.2.2)))],G []⟩) (p1,p2,p3,true,true) () _ h (F3 W W) ?_
 intro x1 g1 z1 hz1 ez1
 unfold O8 at hz1
 refine A7<|A9<|sv W<|sv W<|sv W<|sv W<|A1<|A4<|A9<|sv W<|sv W<|A1<|cc W hz1 (fun c1 hz1=> ?_)<|fun c1 hz1=> ?_
 refine A9<|sv W<|sv W<|sv W<|bs hz1 fun _ hv1 hz1=>B1 W W A3 (Mw _ _ _ hv1) (.inl W) (A1<|B0 ?_)
 cases hz1
 obtain rfl:=ez1 _ rfl
 refine ⟨nofun,F2 ?_⟩
 exact A6 (.inr W) W (.refl _)
 refine A8<|A4<|A9<|sv W<|sv W<|A1<|cc W hz1 (fun c2 hz1=> ?_)<|fun c2 hz1=> ?_
 refine A9<|sv W<|sv W<|sv W ?_
 cases hz1
 refine A8<|A4<|A9<|sv W<|B9 (.d (bo (!x1.2.2.2.1))) W W (A1<|bs hz1 fun _ hy1 hz1=>E0 (fun s=> ∃g2:Unit,Sb ⟨T [(0,(.d .nilS)),(1,(di x1.1)),(2,(di x1.2.1)),(3,(di x1.2.2.1)),(8,(.d (bo x1.2.2.2.1))),(9,(.d (bo x1.2.2.2.2))),(10,(di<|C5 (x1.2.1 - x1.1)))],G []⟩ s) ?_ ?_)
 refine cc W hy1 (fun c3 hy1=> ?_)<|fun c3 hy1=> ?_
 refine A9<|sv W<|sv W<|sv W ?_
 cases hy1
 refine A8 ?_
 cases hy1
 exact Aj ⟨(),(F3 W W)⟩
 rintro _ ⟨g2,q1⟩
 refine B4 q1<|A9<|sv W<|sv W<|sv W ?_
 cases hz1
def X9:Option Unit:=
  (Ie (IntKind.wrap .u64 0)).bind fun v1=>(S3 0 0 v1).bind fun v2=>some ()
theorem Tw(r)(h:X9=some r):PCall Tryz.prog 252 [.nilS] (.tup []):=by
 refine C3 (fk Tryz.func252 Tryz.ntmps252 m0 (by with_unfolding_all rfl)) (nl W) ?_
 unfold X9 at h
 refine B4 (s0:=⟨T [(0,(.d _))],G []⟩) (F3 W W) ?_
 refine A9<|sv W<|sv W<|sv W<|A1<|C0<|sv W<|sv W<|sv W<|sv W<|bs h fun _ hv1 h=>B1 W W A3 (Zi _ _ hv1) (.inl W) (bs h fun _ hv2 h=>B1 W W A3 (Qk _ _ _ _ hv2) (.inl W) (A1<|E5 ?_))
 cases h
 exact A6 (.inl W) W (.refl _)
def Nu (p1:Map)(p2:Int)(p3:Int)(v1:Zone)(x2:((List Int)×Int)):Option (Stp ((List Int)×Int) (List Int)):=
  cond (decide (x2.2< (v1.Parts.length:Int))) ((B7 v1.Parts x2.2).bind fun v2=>((cond (v2.Lane_==p2) (B7 p1.Signals (C5 (v1.Signal_ - 1))) (some default))).bind fun v3=>((cond (v2.Lane_==p2) (Hh v3 p2 p3) (some default))).bind fun v4=>cond ((v2.Lane_==p2)&& (!v4)) ((Bo x2.1 [v2.From]).bind fun v5=>some (.go (v5,(C5 (x2.2+1))))) (some (.go (x2.1,(C5 (x2.2+1)))))) (some (.out x2.1))
def Nv (p1:Map)(p2:Int)(p3:Int)(x1:((List Int)×Int)):Option (Stp ((List Int)×Int) (List Int)):=
  cond (decide (x1.2< (p1.Zones.length:Int))) ((B7 p1.Zones x1.2).bind fun v1=>cond (v1.Signal_==0) (some (.go (x1.1,(C5 (x1.2+1))))) ((loop (Nu p1 p2 p3 v1) (x1.1,0)).bind fun y2=>some (.go (y2,(C5 (x1.2+1)))))) (some (.out x1.1))
def Vk (p1:Map)(p2:Int)(p3:Int):Option (List Int):=
  (loop (Nv p1 p2 p3) ([],0)).bind fun y1=>cond (List.isEmpty y1) ((X9).bind fun v8=>some []) ((X8 y1).bind fun v6=>(II v6).bind fun v7=>some v7)
theorem TF(p1 p2 p3 r)(h:Vk p1 p2 p3=some r):PCall Tryz.prog 223 [(.agg (U5 p1)),(i64 p2),(i64 p3)] (.list (List.map A5 r)):=by
 refine C3 (fk Tryz.func223 Tryz.ntmps223 (fun r=>if r==10 then [1003]else if r==13 then [1013001]else if r==14 then [1014001]else []) (by with_unfolding_all rfl)) (nl W) ?_
 unfold Vk at h
 refine B4 (s0:=⟨T [(0,(.d _)),(1,(.d _)),(2,(.d _))],G []⟩) (F3 W W) ?_
 refine lr<|fun u1 _=>sm W<|sv W<|A1<|A9<|sv W<|A1<|A4<|A9<|sq W<|sl W G_hit W<|sd W (D7 W)<|sv W<|A1<|bs h fun y1 hy1 h=>E0 (fun s=> ∃g1:Nat,Sb ⟨T [(7,(oS y1 (50,g1)))],G [((50,g1),oB 2 1 A5 y1)]⟩ s) ?_ ?_
 refine A7<|E3 (Nv p1 p2 p3) (fun (x1:((List Int)×Int)) (g2:Nat)=>⟨T [(1,(di p2)),(2,(di p3)),(3,(.ptr (3,u1) 0)),(7,(oS x1.1 (50,g2))),(13,(dl Ip p1.Zones)),(14,(di (p1.Zones.length:Int))),(15,(di x1.2))],G [((3,u1),some<|.box 33 (M7 p1)),((50,g2),oB 2 1 A5 x1.1)]⟩) ([],0) 0 _ hy1 (E1 (Ck W)<|B5 G_hit (.of W)<|X0 trivial) ?_
 intro x1 g2 z1 hz1 ez1
 unfold Nv at hz1
 refine A9<|sv W<|A1<|A4<|cc W hz1 (fun c1 hz1=> ?_)<|fun c1 hz1=> ?_
 refine A8<|A4<|A7<|lr<|fun u5 _=>bs hz1 fun v1 hv1 hz1=>sd W (C8 W W hv1 W)<|sd W (D2 W hv1 W W)<|sm W<|Bc W G_hit [(dl Dp v1.Parts),(di v1.Signal_)] W (A1<|A4<|A9<|sq W<|sl W G_hit W<|sv W<|A1<|cc W hz1 (fun c2 hz1=> ?_)<|fun c2 hz1=> ?_)
 refine Zz W<|C0<|sv W<|sv W<|A1<|E5 ?_
 cases hz1
 exact ⟨W,g2,(E1 (Ck W)<|sg W<|B8 (gq W) trivial)⟩
 refine A8<|A9<|sq W<|sl W G_hit W<|sd W (D7 W)<|sv W<|A1<|bs hz1 fun y2 hy2 hz1=>E0 (fun s=> ∃g3:Nat,Sb ⟨T [(1,(di p2)),(2,(di p3)),(3,(.ptr (3,u1) 0)),(7,(oS y2 (50,g3))),(13,(dl Ip p1.Zones)),(14,(di (p1.Zones.length:Int))),(15,(di x1.2))],G [((3,u1),some<|.box 33 (M7 p1)),((50,g3),oB 2 1 A5 y2)]⟩ s) ?_ ?_
 refine A7<|E3 (Nu p1 p2 p3 v1) (fun (x2:((List Int)×Int)) (g4:Nat)=>⟨T [(1,(di p2)),(2,(di p3)),(3,(.ptr (3,u1) 0)),(7,(oS x2.1 (50,g4))),(9,(.ptr (9,u5) 0)),(13,(dl Ip p1.Zones)),(14,(di (p1.Zones.length:Int))),(15,(di x1.2)),(23,(dl Dp v1.Parts)),(24,(di (v1.Parts.length:Int))),(25,(di x2.2))],G [((3,u1),some<|.box 33 (M7 p1)),((9,u5),some<|.box 117 [(dl Dp v1.Parts),(di v1.Signal_)]),((50,g4),oB 2 1 A5 x2.1)]⟩) (x1.1,0) g2 _ hy2 (E1 (Ck W)<|sg W<|B5 G_hit (.of W)<|B8 (gq W) trivial) ?_
 intro x2 g4 z2 hz2 ez2
 unfold Nu at hz2
 refine A9<|sv W<|A1<|A4<|cc W hz2 (fun c3 hz2=> ?_)<|fun c3 hz2=> ?_
 refine A8<|A4<|A7<|A9<|bs hz2 fun v2 hv2 hz2=>sd W (C8 W W hv2 W)<|sd W (D2 W hv2 W W)<|sm W<|Bc W G_hit (FA v2) W (A1<|A9<|sq W<|sl W G_hit W<|sv W<|sv W<|sv W<|gp W (M8 W) (fun _=>W) (gt W (vl W (gq W) W)<|gp W (M8 W) (fun _=>W) (gt W (vl W (gq W) W)<|gt W (vb W W W)<|bs hz2 fun v3 hv3 hz2=>gt W (fun w6=>(C8 (A2 w6) (A2 w6) (C2 w6 hv3) W))<|gt W (fun w7=>(D2 (A2 w7) (C2 w7 hv3) W W))<|gt W (fun _=>W)<|gt W (fun _=>W)<|bs hz2 fun v4 hv4 hz2=> ?_)))
 refine O3 _ (bo v4) (M8 W) (fun w10=>⟨_,[(.d (.agg [(i64 v3.Offset),(.list (List.map Dg v3.Phases))])),(di p2),(di p3)],_,_,(by simp only [A2 w10];rfl),W,A3,DH _ _ _ _<|C2 w10 hv4,(.inl W)⟩) ?_
 refine N2 _ (.d (bo (!v4))) W (M8 W) (fun w11=>(by simp only [A2 w11];rfl)) ?_
 refine sa W W W<|A1<|cc W hz2 (fun c4 hz2=> ?_)<|fun c4 hz2=> ?_
 refine Eh fun u12 _=>B9 (oS x2.1 (50,g4)) W W (sq W<|sl W G_hit W<|B9 (dl A5 [v2.From]) W W (bs hz2 fun _ hv5 hz2=>V3 A5 (50,g4) x2.1 v2.From [] _ (N3<|fun _=>W) W (gq W) hv5 (ss W<|A1<|E2<|C0<|sv W<|sv W<|A1<|E5 ?_)))
 cases hz2
 exact ⟨W,u12,(E1 ⟨.of W, .of W, .of W,(.of (Aq<|Ba hv5).symm), .of W, .of W, .of W, .of W, .of W, .of W, .of W,trivial⟩<|sg W<|sg W<|O6 G_hit trivial)⟩
 refine A8<|E2<|C0<|sv W<|sv W<|A1<|E5 ?_
 cases hz2
 exact ⟨W,g4,(E1 (Ck W)<|sg W<|sg W<|B8 (gq W) trivial)⟩
 refine C6 W ?_
 cases hz2
 obtain rfl:=ez2 _ rfl
 refine ⟨nofun,C4 W<|Aj ?_⟩
 exact ⟨g4,(E1 (Ck W)<|B5 G_hit (.of W)<|B8 (gq W) trivial)⟩
 rintro _ ⟨g3,q1⟩
 refine E2<|B4 q1<|C0<|sv W<|sv W<|A1<|E5 ?_
 cases hz1
 exact ⟨W,g3,(E1 (Ck W)<|B5 G_hit (.of W)<|B8 (gq W) trivial)⟩
 refine C6 W ?_
 cases hz1
 obtain rfl:=ez1 _ rfl
 refine ⟨nofun,C4 W<|Aj ?_⟩
 exact ⟨g2,(E1 ⟨.of W,trivial⟩<|B8 (gq W) trivial)⟩
 rintro _ ⟨g1,q2⟩
 refine B4 q2<|A4 ?_
 rcases RD h with ⟨e1,h⟩|⟨e1,h⟩
 refine B4 (s0:=⟨T [(7,(.d .nilS))],G []⟩) (E1 ⟨.of (iF e1),trivial⟩ trivial) ?_
 refine C0<|sv W<|bs h fun _ hv8 h=>JR (v:= .d (.tup [])) (us:= []) (pG [] _ W W A3 (Tw _ hv8) W W) (A1<|A9<|sv W<|JR (v:= .d .nilS) (us:= []) (pG [] _ W W A3 mS W W) (sv W<|A1<|B0 ?_))
 cases h
 exact A6 (.inr W) (B6 (B2 W) C1) DLe.nil
 refine B4 (s0:=⟨T [(7,(.sl (50,g1)))],G [((50,g1),some<|.arr 2 1 (List.map A5 y1))]⟩) (E1 ⟨.of (Aq e1),trivial⟩<|B5 (Jz G_hit e1) (.of W) trivial) ?_
 refine C0<|ss W<|bs h fun v6 hv6 h=>JR (v:= .d (.tup [])) (us:= [(50,g1)]) (PR (Tv _ _ hv6) [(50,g1)] [(50,g1)] _ (((50,g1),some<|.arr 2 1 (List.map A5 v6))::_) W Qc (Cp KT AD) (Nq G_hit Ky) ⟨⟨_,G_hit, .of W⟩,trivial⟩ (fun _ h=>h) nd1 W W W) (A1<|lr<|fun u18 _=>ss W<|bs h fun v7 hv7 h=>JR (v:= .sl (10140010,u18)) (us:= [(50,g1),(10140010,u18)]) (PR (qR _ _ hv7) [(50,g1)] [(50,g1)] _ (((10140010,u18),some<|.arr 2 1 (List.map A5 v7))::((50,g1),none)::_) W Qc (Cp KT AD) (Nq G_hit Ky) ⟨⟨_,G_hit, .of W⟩,trivial⟩ (fun _ h=>h) nd1 W W W) (ss W<|A1<|B0 ?_))
 cases h
 exact A6 (.inr W) (B6 (B2 W)<|UT G_hit) (.refl _)
def Vl (p1:Map)(p2:Int)(p3:Int):Option (List Int):=
  ((cond (!(decide (p3<0))) (Ol p1 p2) (some default))).bind fun v1=>cond ((decide (p3<0))||(!v1)) (some []) ((Vk p1 p2 p3).bind fun v2=>some v2)
theorem TG(p1 p2 p3 r)(h:Vl p1 p2 p3=some r):PCall Tryz.prog 180 [(.agg (U5 p1)),(i64 p2),(i64 p3)] (.list (List.map A5 r)):=by
 refine C3 (fk Tryz.func180 Tryz.ntmps180 m0 (by with_unfolding_all rfl)) (nl W) ?_
 unfold Vl at h
 refine B4 (s0:=⟨T [(0,(.d _)),(1,(.d _)),(2,(.d _))],G []⟩) (F3 W W) ?_
 refine A9<|sm W<|sv W<|A1<|A4<|A9<|sv W<|sv W<|sv W<|gf W (fun _=>(B3 W G_hit W W))<|gf W (fun _=>W)<|bs h fun v1 hv1 h=> ?_
 refine O3 _ (bo v1) (K5 W) (fun w3=>⟨_,[(.d (.agg (U5 p1))),(di p2)],_,_,(by simp only [A2 w3];rfl),W,A3,DG _ _ _<|C2 w3 hv1,(.inl W)⟩) ?_
 refine N2 _ (.d (bo (!v1))) W (K5 W) (fun w4=>(by simp only [A2 w4];rfl)) ?_
 refine sd W (O2 W W<|fun hc=>A2<|J7 hc)<|A1<|cc W h (fun c1 h=> ?_)<|fun c1 h=> ?_
 refine A9<|sv W<|A1<|B0 ?_
 cases h
 exact A6 (.inr W) (B6 (B2 W) C1) DLe.nil
 refine A8<|A9<|sd W (B3 W G_hit W W)<|sv W<|sv W<|bs h fun _ hv2 h=>B1 W W A3 (TF _ _ _ _ hv2) (.inl W) (sv W<|A1<|B0 ?_)
 cases h
 exact A6 (.inr W) (B6 (B2 W) C1) (.refl _)
def Dh (p1:Int)(p2:Agent)(p3:Int):Option Int:=
  some (Us true 0 (Us false (C5 (p2.V+p1)) p3))
theorem Uv(p1 p2 p3 r)(h:Dh p1 p2 p3=some r):PCall Tryz.prog 179 [(i64 p1),(.bp (C9 p2) 0),(.bp [(i64 p3)] 0)] (i64 r):=by
 refine C3 (fk Tryz.func179 Tryz.ntmps179 m0 (by with_unfolding_all rfl)) (nl W) ?_
 unfold Dh at h
 refine B4 (s0:=⟨T [(0,(.d _)),(1,(.d _)),(2,(.d _))],G []⟩) (F3 W W) ?_
 refine A9<|sv W<|A1<|A9<|sv W<|sv W<|sv W<|sv W<|sv W<|sv W<|sv W<|sv W<|A1<|B0 ?_
 cases h
 exact A6 (.inr W) (B6 (B2 W) C1) (.refl _)
def Mx (p1:Int)(p2:Int):Option Int:=
  cond ((decide (p1<1))||(decide (p2<1))) (some 0) ((gK .i64 (C5 ((Us false p1 1000000) - 1)) (Us false p2 1000000)).bind fun v1=>some (C5 ((C5 (v1* (Us false p1 1000000))) - (C5 ((Us false p2 1000000)* (C5 ((C5 (v1* (C5 (v1+1)))).tdiv 2)))))))
theorem Yl(p1 p2 r)(h:Mx p1 p2=some r):PCall Tryz.prog 41 [(i64 p1),(i64 p2)] (i64 r):=by
 refine C3 (fk Tryz.func41 Tryz.ntmps41 m0 (by with_unfolding_all rfl)) (nl W) ?_
 unfold Mx at h
 refine B4 (s0:=⟨T [(0,(.d _)),(1,(.d _))],G []⟩) (F3 W W) ?_
 refine A9<|sv W<|A1<|A4<|A9<|sv W<|sv W<|sv W<|gf W (fun _=>W)<|gf W (vb W W W)<|sd W (O2 W W<|fun hc=>A2<|J7 hc)<|A1<|cc W h (fun c1 h=> ?_)<|fun c1 h=> ?_
 refine A9<|sv W<|A1<|B0 ?_
 cases h
 exact A6 (.inr W) (B6 (B2 W) C1) (.refl _)
 refine A8<|A9<|sv W<|sv W<|sv W<|sv W<|sv W<|sv W<|A1<|A9<|sv W<|sv W<|sv W<|bs h fun _ hv1 h=>sd W (qG W W hv1)<|sv W<|A1<|A9<|sv W<|sv W<|sv W<|sv W<|sv W<|sv W<|sv W<|sv W<|sv W<|sv W<|sv W<|sv W<|A1<|B0 ?_
 cases h
 exact A6 (.inr W) (B6 (B2 W) C1) (.refl _)
end
end Go.Abs.World
