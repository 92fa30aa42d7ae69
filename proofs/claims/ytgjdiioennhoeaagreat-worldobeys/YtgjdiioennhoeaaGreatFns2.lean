/-
  The functions, part 2.
-/
import Derived.Test.YtgjdiioennhoeaaGreatFns1
set_option maxRecDepth 20000
set_option maxHeartbeats 4000000
set_option linter.unusedVariables false
namespace Go.Abs.World
noncomputable section
open Go Go.Abs Go.Proofs Tryz
attribute [local irreducible] L8 Fb De
def R8 (p2:Int)(x3:(Int×Int)):Option (Stp (Int×Int) Int):=
  cond (decide (x3.2≤p2)) (none) (some (.out x3.1))
def G9 [Lp](p2:Int)(v2:(List Pass))(x2:Int):Option (Stp Int (List Pass)):=
  cond (decide (x2<p2)) ((loop (R8 p2) (0,(D3 (2*x2)))).bind fun y2=>cond (decide ((D3 (y2+x2))<p2)) (none) (some (.go (D3 (x2*2))))) (some (.out (v2)))
def E1 [Lp](p2:Int)(x1:(Int×Int× (List Pass))):Option (Stp (Int×Int× (List Pass)) (Int× (List Pass))):=
  cond (decide (x1.2.1≤p2)) ((D5 x1.2.2 x1.1 x1.2.1).bind fun v1=>some (.go (x1.2.1,(D3 (x1.2.1+20)),v1))) (some (.out (x1.1,x1.2.2)))
def J8 [Lp](p1:(List Pass))(p2:Int):Option (List Pass):=
  (loop (E1 p2) (0,20,p1)).bind fun y1=>(D5 y1.2 y1.1 p2).bind fun v2=>loop (G9 p2 v2) 20
theorem Gw(p1 p2 r)(h:J8 p1 p2=some r):MCall prog 270 [(.sl (900000,0)),(di p2),(.d (.fn (.func 264) [] []))] [(.arr 229 4 (List.map Q6 p1))] (.d (.tup [])) [some (.arr 229 4 (List.map Q6 r))] []:=by
 refine Vt (fk func270 ntmps270 (fun r=>if r==3 then [1003004]else if r==6 then [1006004]else []) (by with_unfolding_all rfl)) W (nl W) ?_
 unfold J8 at h
 refine B4 (s0:=⟨T [(0,(.sl _)),(1,(.d _)),(2,(.d _))],G [((900000,0),some _)]⟩) (F2 W W) ?_
 refine B0<|sv W<|A1<|B0<|sv W<|sv W<|sv W<|A1<|A5<|bs h fun y1 hy1 h=>D9 (fun s=> ∃g1:Unit,Sb ⟨T [(0,(.sl (900000,0))),(1,(di p2)),(2,(.d (.fn (.func 264) [] []))),(6,(di 20)),(7,(di y1.1))],G [((900000,0),some<|.arr 229 4 (List.map Q6 y1.2))]⟩ s) ?_ ?_
 refine A7<|E4 (E1 p2) (fun (x1:(Int×Int× (List Pass))) (g2:Unit)=>⟨T [(0,(.sl (900000,0))),(1,(di p2)),(2,(.d (.fn (.func 264) [] []))),(6,(di 20)),(7,(di x1.1)),(8,(di x1.2.1))],G [((900000,0),some<|.arr 229 4 (List.map Q6 x1.2.2))]⟩) (0,20,p1) () _ hy1 (F2 W W) ?_
 intro x1 g2 z1 hz1 ez1
 unfold E1 at hz1
 refine A5<|B0<|sv W<|sv W<|sv W<|A1<|cc W hz1 (fun c1 hz1=> ?_)<|fun c1 hz1=> ?_
 refine A8<|A7<|B0<|ss W<|sv W<|sv W<|sv W<|bs hz1 fun v1 hv1 hz1=>FS (v:= .d (.tup [])) (us:= [(900000,0)]) (MI (V9 _ _ _ _ hv1) [(900000,0)] [(900000,0)] _ (((900000,0),some<|.arr 229 4 (List.map Q6 v1))::_) W Nt (Y6 EC<|Y6 CD<|Y6 CD<|Y6 CD Ub) (Kz G_hit Jc) ⟨⟨_,G_hit, .of W⟩,trivial⟩ (fun _ h=>h) nd1 W W W) (A1<|B0<|sv W<|sv W<|A1<|B7<|sv W<|sv W<|sv W<|sv W<|A1<|E3<|E2 ?_)
 cases hz1
 exact ⟨W,(),(F2 W W)⟩
 refine C8 W ?_
 cases hz1
 obtain rfl:=ez1 _ rfl
 refine ⟨nofun,C6 W<|U4 ?_⟩
 exact ⟨(),(F2 W W)⟩
 rintro _ ⟨g1,q1⟩
 refine B4 q1<|B0<|ss W<|sv W<|sv W<|sv W<|bs h fun v2 hv2 h=>FS (v:= .d (.tup [])) (us:= [(900000,0)]) (MI (V9 _ _ _ _ hv2) [(900000,0)] [(900000,0)] _ (((900000,0),some<|.arr 229 4 (List.map Q6 v2))::_) W Nt (Y6 EC<|Y6 CD<|Y6 CD<|Y6 CD Ub) (Kz G_hit Jc) ⟨⟨_,G_hit, .of W⟩,trivial⟩ (fun _ h=>h) nd1 W W W) (A1<|A7<|E4 (G9 p2 v2) (fun (x2:Int) (g3:Unit)=>⟨T [(0,(.sl (900000,0))),(1,(di p2)),(2,(.d (.fn (.func 264) [] []))),(6,(di x2))],G [((900000,0),some<|.arr 229 4 (List.map Q6 v2))]⟩) 20 () _ h (F2 W W) ?_)
 intro x2 g3 z2 hz2 ez2
 unfold G9 at hz2
 refine A5<|B0<|sv W<|sv W<|sv W<|A1<|cc W hz2 (fun c2 hz2=> ?_)<|fun c2 hz2=> ?_
 refine A8<|A7<|B0<|sv W<|sv W<|sv W<|sv W<|A1<|A5<|bs hz2 fun y2 hy2 hz2=>D9 (fun s=> ∃g4:Unit,Sb ⟨T [(0,(.sl (900000,0))),(1,(di p2)),(2,(.d (.fn (.func 264) [] []))),(6,(di x2)),(7,(di y2))],G [((900000,0),some<|.arr 229 4 (List.map Q6 v2))]⟩ s) ?_ ?_
 refine A7<|E4 (R8 p2) (fun (x3:(Int×Int)) (g5:Unit)=>⟨T [(0,(.sl (900000,0))),(1,(di p2)),(2,(.d (.fn (.func 264) [] []))),(6,(di x2)),(7,(di x3.1)),(8,(di x3.2))],G [((900000,0),some<|.arr 229 4 (List.map Q6 v2))]⟩) (0,(D3 (2*x2))) () _ hy2 (F2 W W) ?_
 intro x3 g5 z3 hz3 ez3
 unfold R8 at hz3
 refine A5<|B0<|sv W<|sv W<|sv W<|A1<|cc W hz3 (fun c3 hz3=> ?_)<|fun c3 hz3=> ?_
 refine A8<|A7<|B0<|ss W<|sv W<|sv W<|sv W<|sv W<|sv W<|sv W ?_
 cases hz3
 refine C8 W ?_
 cases hz3
 obtain rfl:=ez3 _ rfl
 refine ⟨nofun,C6 W<|U4 ?_⟩
 exact ⟨(),(F2 W W)⟩
 rintro _ ⟨g4,q2⟩
 refine B4 q2<|A5<|B0<|sv W<|sv W<|sv W<|sv W<|A1<|B0<|sv W<|sv W<|sv W<|A1<|cc W hz2 (fun c4 hz2=> ?_)<|fun c4 hz2=> ?_
 refine B7<|ss W<|sv W<|sv W<|sv W<|sv W ?_
 cases hz2
 refine A8<|B7<|sv W<|sv W<|sv W<|A1<|E3<|E2 ?_
 cases hz2
 exact ⟨W,(),(F2 W W)⟩
 refine C8 W ?_
 cases hz2
 obtain rfl:=ez2 _ rfl
 refine ⟨nofun,C6 W<|E2 ?_⟩
 exact CE (.inl W) [] CF (.refl _) ⟨⟨G_hit,Fx⟩,trivial⟩
def F9 [Lp](p1:(List Pass)):Option (List Pass):=
  (J8 p1 (p1.length:Int)).bind fun v1=>some v1
theorem Dt(p1 r)(h:F9 p1=some r):MCall prog 263 [(.sl (900000,0)),(.d (.fn (.func 264) [] []))] [(.arr 229 4 (List.map Q6 p1))] (.d (.tup [])) [some (.arr 229 4 (List.map Q6 r))] []:=by
 refine Vt (fk func263 ntmps263 (fun r=>if r==0 then [1000004]else []) (by with_unfolding_all rfl)) W (nl W) ?_
 unfold F9 at h
 refine B4 (s0:=⟨T [(0,(.sl _)),(1,(.d _))],G [((900000,0),some _)]⟩) (F2 W W) ?_
 refine B7<|ss W<|ss W<|sd W (VS (f:=Q6) W G_hit)<|sv W<|bs h fun v1 hv1 h=>FS (v:= .d (.tup [])) (us:= [(900000,0)]) (MI (Gw _ _ _ hv1) [(900000,0)] [(900000,0)] _ (((900000,0),some<|.arr 229 4 (List.map Q6 v1))::_) W Nt (Y6 EC<|Y6 CD<|Y6 CD Ub) (Kz G_hit Jc) ⟨⟨_,G_hit, .of W⟩,trivial⟩ (fun _ h=>h) nd1 W W W) (A1<|E2 ?_)
 obtain rfl:=(lD h)
 exact CE (.inl W) [] CF (.refl _) ⟨⟨G_hit,Fx⟩,trivial⟩
def P4 (p1:Int)(x2:Int):Option (Stp Int Unit):=
  ((cond (decide (x2>p1)) ((none:Option Unit)) (some default))).bind fun v1=>cond ((decide (x2>p1))&&false) (none) (some (.out ()))
def I4 [Lp](p1:Int)(p2:Int)(x1:Int):Option (Stp Int Unit):=
  cond (decide (x1<p2)) ((loop (P4 p1) x1).bind fun _=>some (.go (D3 (x1+1)))) (some (.out (())))
def E8 [Lp](p1:Int)(p2:Int):Option Unit:=
  loop (I4 p1 p2) (D3 (p1+1))
theorem W0(p1 p2 r)(h:E8 p1 p2=some r):PCall prog 282 [.nilS,(i64 p1),(i64 p2),(.fn (.func 264) [] [])] (.tup []):=by
 refine C4 (fk func282 ntmps282 m0 (by with_unfolding_all rfl)) (nl W) ?_
 unfold E8 at h
 refine B4 (s0:=⟨T [(0,(.d _)),(1,(.d _)),(2,(.d _)),(3,(.d _))],G []⟩) (F2 W W) ?_
 refine B0<|sv W<|sv W<|sv W<|A1<|A7<|E4 (I4 p1 p2) (fun (x1:Int) (g1:Unit)=>⟨T [(0,(.d .nilS)),(1,(di p1)),(2,(di p2)),(3,(.d (.fn (.func 264) [] []))),(8,(di x1))],G []⟩) (D3 (p1+1)) () _ h (F2 W W) ?_
 intro x1 g1 z1 hz1 ez1
 unfold I4 at hz1
 refine A5<|B0<|sv W<|sv W<|sv W<|A1<|cc W hz1 (fun c1 hz1=> ?_)<|fun c1 hz1=> ?_
 refine A8<|A5<|A7<|B0<|sv W<|sv W<|A1<|bs hz1 fun _ hy1 hz1=>D9 (fun s=> ∃g2:Unit,Sb ⟨T [(0,(.d .nilS)),(1,(di p1)),(2,(di p2)),(3,(.d (.fn (.func 264) [] []))),(8,(di x1))],G []⟩ s) ?_ ?_
 refine A7<|E4 (P4 p1) (fun (x2:Int) (g3:Unit)=>⟨T [(0,(.d .nilS)),(1,(di p1)),(2,(di p2)),(3,(.d (.fn (.func 264) [] []))),(8,(di x1)),(9,(di x2))],G []⟩) x1 () _ hy1 (F2 W W) ?_
 intro x2 g3 z2 hz2 ez2
 unfold P4 at hz2
 refine A5<|A5<|E7 W<|sv W<|sv W<|sv W<|sv W<|gt W (fun _=>W)<|gt W (fun _=>W)<|gt W (fun _=>W)<|bs hz2 fun _ hv1 hz2=>M8 _ (.d (.tup [])) W (M3 W) (fun w4=>nomatch B9 w4 hv1) (M8 _ (.d (.tup [])) W (M3 W) (fun w5=>nomatch B9 w5 hv1) (M8 _ (.d (.tup [])) W (M3 W) (fun w6=>nomatch B9 w6 hv1) (M8 _ (di 0) W (M3 W) (fun w7=>nomatch B9 w7 hv1) (M8 _ (di 0) W (M3 W) (fun w8=>nomatch B9 w8 hv1) (M8 _ (.d (.tup [])) W (M3 W) (fun w9=>nomatch B9 w9 hv1) (M8 _ (.d (.tup [])) W (M3 W) (fun w10=>nomatch B9 w10 hv1) (N6 _ (i64 0) (M3 W) (fun w11=>nomatch B9 w11 hv1) (M8 _ (.d (bo false)) W (M3 W) (fun w12=>nomatch B9 w12 hv1) (sa W W W<|A1<|cc W hz2 (fun c2 hz2=> ?_)<|fun c2 hz2=> ?_)))))))))
 refine A8<|A5<|A7<|E7 W<|sv W<|sv W<|sv W<|sv W<|sv W<|sv W<|sv W<|sv W ?_
 cases hz2
 refine C8 W ?_
 cases hz2
 obtain rfl:=ez2 _ rfl
 refine ⟨nofun,C6 W<|U4 ?_⟩
 exact ⟨(),(F2 W W)⟩
 rintro _ ⟨g2,q1⟩
 refine E3<|B4 q1<|B7<|sv W<|sv W<|sv W<|A1<|E2 ?_
 cases hz1
 exact ⟨W,(),(F2 W W)⟩
 refine C8 W ?_
 cases hz1
 obtain rfl:=ez1 _ rfl
 refine ⟨nofun,C6 W<|E2 ?_⟩
 exact A6 (.inl W) W (.refl _)
def R9 (p1:Int)(x3:(Int×Int)):Option (Stp (Int×Int) Int):=
  cond (decide (x3.2≤p1)) (none) (some (.out x3.1))
def I5 [Lp](p1:Int)(x2:Int):Option (Stp Int Unit):=
  cond (decide (x2<p1)) ((loop (R9 p1) (0,(D3 (2*x2)))).bind fun y2=>cond (decide ((D3 (y2+x2))<p1)) (none) (some (.go (D3 (x2*2))))) (some (.out (())))
def I6 [Lp](p1:Int)(x1:(Int×Int)):Option (Stp (Int×Int) Int):=
  cond (decide (x1.2≤p1)) ((E8 x1.1 x1.2).bind fun v1=>some (.go (x1.2,(D3 (x1.2+20))))) (some (.out x1.1))
def J9 [Lp](p1:Int):Option Unit:=
  (loop (I6 p1) (0,20)).bind fun y1=>(E8 y1 p1).bind fun v2=>loop (I5 p1) 20
theorem Gx(p1 r)(h:J9 p1=some r):PCall prog 270 [.nilS,(i64 p1),(.fn (.func 264) [] [])] (.tup []):=by
 refine C4 (fk func270 ntmps270 m0 (by with_unfolding_all rfl)) (nl W) ?_
 unfold J9 at h
 refine B4 (s0:=⟨T [(0,(.d _)),(1,(.d _)),(2,(.d _))],G []⟩) (F2 W W) ?_
 refine B0<|sv W<|A1<|B0<|sv W<|sv W<|sv W<|A1<|A5<|bs h fun y1 hy1 h=>D9 (fun s=> ∃g1:Unit,Sb ⟨T [(0,(.d .nilS)),(1,(di p1)),(2,(.d (.fn (.func 264) [] []))),(6,(di 20)),(7,(di y1))],G []⟩ s) ?_ ?_
 refine A7<|E4 (I6 p1) (fun (x1:(Int×Int)) (g2:Unit)=>⟨T [(0,(.d .nilS)),(1,(di p1)),(2,(.d (.fn (.func 264) [] []))),(6,(di 20)),(7,(di x1.1)),(8,(di x1.2))],G []⟩) (0,20) () _ hy1 (F2 W W) ?_
 intro x1 g2 z1 hz1 ez1
 unfold I6 at hz1
 refine A5<|B0<|sv W<|sv W<|sv W<|A1<|cc W hz1 (fun c1 hz1=> ?_)<|fun c1 hz1=> ?_
 refine A8<|A7<|B0<|sv W<|sv W<|sv W<|sv W<|bs hz1 fun _ hv1 hz1=>A9 W W A3 (W0 _ _ _ hv1) (.inl W) (A1<|B0<|sv W<|sv W<|A1<|B7<|sv W<|sv W<|sv W<|sv W<|A1<|E3<|E2 ?_)
 cases hz1
 exact ⟨W,(),(F2 W W)⟩
 refine C8 W ?_
 cases hz1
 obtain rfl:=ez1 _ rfl
 refine ⟨nofun,C6 W<|U4 ?_⟩
 exact ⟨(),(F2 W W)⟩
 rintro _ ⟨g1,q1⟩
 refine B4 q1<|B0<|sv W<|sv W<|sv W<|sv W<|bs h fun _ hv2 h=>A9 W W A3 (W0 _ _ _ hv2) (.inl W) (A1<|A7<|E4 (I5 p1) (fun (x2:Int) (g3:Unit)=>⟨T [(0,(.d .nilS)),(1,(di p1)),(2,(.d (.fn (.func 264) [] []))),(6,(di x2))],G []⟩) 20 () _ h (F2 W W) ?_)
 intro x2 g3 z2 hz2 ez2
 unfold I5 at hz2
 refine A5<|B0<|sv W<|sv W<|sv W<|A1<|cc W hz2 (fun c2 hz2=> ?_)<|fun c2 hz2=> ?_
 refine A8<|A7<|B0<|sv W<|sv W<|sv W<|sv W<|A1<|A5<|bs hz2 fun y2 hy2 hz2=>D9 (fun s=> ∃g4:Unit,Sb ⟨T [(0,(.d .nilS)),(1,(di p1)),(2,(.d (.fn (.func 264) [] []))),(6,(di x2)),(7,(di y2))],G []⟩ s) ?_ ?_
 refine A7<|E4 (R9 p1) (fun (x3:(Int×Int)) (g5:Unit)=>⟨T [(0,(.d .nilS)),(1,(di p1)),(2,(.d (.fn (.func 264) [] []))),(6,(di x2)),(7,(di x3.1)),(8,(di x3.2))],G []⟩) (0,(D3 (2*x2))) () _ hy2 (F2 W W) ?_
 intro x3 g5 z3 hz3 ez3
 unfold R9 at hz3
 refine A5<|B0<|sv W<|sv W<|sv W<|A1<|cc W hz3 (fun c3 hz3=> ?_)<|fun c3 hz3=> ?_
 refine A8<|A7<|B0<|sv W<|sv W<|sv W<|sv W<|sv W<|sv W<|sv W ?_
 cases hz3
 refine C8 W ?_
 cases hz3
 obtain rfl:=ez3 _ rfl
 refine ⟨nofun,C6 W<|U4 ?_⟩
 exact ⟨(),(F2 W W)⟩
 rintro _ ⟨g4,q2⟩
 refine B4 q2<|A5<|B0<|sv W<|sv W<|sv W<|sv W<|A1<|B0<|sv W<|sv W<|sv W<|A1<|cc W hz2 (fun c4 hz2=> ?_)<|fun c4 hz2=> ?_
 refine B7<|sv W<|sv W<|sv W<|sv W<|sv W ?_
 cases hz2
 refine A8<|B7<|sv W<|sv W<|sv W<|A1<|E3<|E2 ?_
 cases hz2
 exact ⟨W,(),(F2 W W)⟩
 refine C8 W ?_
 cases hz2
 obtain rfl:=ez2 _ rfl
 refine ⟨nofun,C6 W<|E2 ?_⟩
 exact A6 (.inl W) W (.refl _)
def G0 [Lp]:Option Unit:=
  (J9 0).bind fun v1=>some ()
theorem Du(r)(h:G0=some r):PCall prog 263 [.nilS,(.fn (.func 264) [] [])] (.tup []):=by
 refine C4 (fk func263 ntmps263 m0 (by with_unfolding_all rfl)) (nl W) ?_
 unfold G0 at h
 refine B4 (s0:=⟨T [(0,(.d _)),(1,(.d _))],G []⟩) (F2 W W) ?_
 refine B7<|sv W<|sv W<|sv W<|sv W<|bs h fun _ hv1 h=>A9 W W A3 (Gx _ _ hv1) (.inl W) (A1<|E2 ?_)
 cases h
 exact A6 (.inl W) W (.refl _)
def Aw (v1:RoadsWay)(x1:((List Pass)×Int))(v2:Int)(x2:((List Pass)×Int))(v3:Zone)(x3:((List Pass)×Int)):Option (Stp ((List Pass)×Int) (List Pass)):=
  cond (decide (x3.2< (v3.Parts.length:Int))) ((C1 v3.Parts x3.2).bind fun v4=>cond (v4.Lane_==v2) ((C1 v1.starts x1.2).bind fun v5=>(C1 v1.starts x1.2).bind fun v6=>(X6 x3.1 [(Pass.mk x2.2 x3.2 (D3 (v5+v4.From)) (D3 (v6+v4.To)))]).bind fun v7=>some (.go (v7,(D3 (x3.2+1))))) (some (.go (x3.1,(D3 (x3.2+1)))))) (some (.out x3.1))
def U7 [Lp](p1:Map)(v1:RoadsWay)(x1:((List Pass)×Int))(v2:Int)(x2:((List Pass)×Int)):Option (Stp ((List Pass)×Int) (List Pass)):=
  cond (decide (x2.2< (p1.Zones.length:Int))) ((C1 p1.Zones x2.2).bind fun v3=>(loop (Aw v1 x1 v2 x2 v3) (x2.1,0)).bind fun y3=>some (.go (y3,(D3 (x2.2+1))))) (some (.out x2.1))
def O6 [Lp](p1:Map)(v1:RoadsWay)(x1:((List Pass)×Int)):Option (Stp ((List Pass)×Int) (List Pass)):=
  cond (decide (x1.2< (v1.lanes.length:Int))) ((C1 v1.lanes x1.2).bind fun v2=>(loop (U7 p1 v1 x1 v2) (x1.1,0)).bind fun y2=>some (.go (y2,(D3 (x1.2+1))))) (some (.out x1.1))
def W1 [Lp](p1:Map)(p2:(List Int)):Option (List Pass):=
  (Af p1 p2).bind fun v1=>(loop (O6 p1 v1) ([],0)).bind fun y1=>cond (List.isEmpty y1) ((G0).bind fun v9=>some []) ((F9 y1).bind fun v8=>some v8)
theorem IB(p1 p2 r)(h:W1 p1 p2=some r):PCall prog 246 [(.agg (P7 p1)),(.list (List.map A4 p2))] (.list (List.map Q6 r)):=by
 refine C4 (fk func246 ntmps246 (fun r=>if r==13 then [1020]else if r==17 then [1017001]else []) (by with_unfolding_all rfl)) (nl W) ?_
 unfold W1 at h
 refine B4 (s0:=⟨T [(0,(.d _)),(1,(.d _))],G []⟩) (F2 W W) ?_
 refine lr<|fun u1 _=>sm W<|sv W<|A1<|lr<|fun u2 _=>sd W (B1 W G_hit W W)<|sv W<|bs h fun v1 hv1 h=>A9 W W A3 (Mk _ _ _ hv1) (.inl W) (sm W<|U0 W G_hit (Pc v1) W (A1<|B0<|sv W<|A1<|A5<|B0<|sq W<|sl W G_hit W<|sd W (D7 W)<|sv W<|A1<|bs h fun y1 hy1 h=>D9 (fun s=> ∃g1:Nat,Sb ⟨T [(6,(oS y1 (65,g1)))],G [((65,g1),oB 229 4 Q6 y1)]⟩ s) ?_ ?_))
 refine A7<|E4 (O6 p1 v1) (fun (x1:((List Pass)×Int)) (g2:Nat)=>⟨T [(2,(.ptr (2,u1) 0)),(5,(.ptr (5,u2) 0)),(6,(oS x1.1 (65,g2))),(17,(dl A4 v1.lanes)),(18,(di (v1.lanes.length:Int))),(19,(di x1.2))],G [((2,u1),some<|.box 33 (L4 p1)),((5,u2),some<|.box 260 (Pc v1)),((65,g2),oB 229 4 Q6 x1.1)]⟩) ([],0) 0 _ hy1 (E0 (Z7 W)<|sg W<|B5 G_hit (.of W)<|S5 trivial) ?_
 intro x1 g2 z1 hz1 ez1
 unfold O6 at hz1
 refine B0<|sv W<|A1<|A5<|cc W hz1 (fun c1 hz1=> ?_)<|fun c1 hz1=> ?_
 refine A8<|A5<|A7<|B0<|sv W<|bs hz1 fun v2 hv2 hz1=>sd W (C5 W W hv2 W)<|sd W (C9 W hv2 W)<|sv W<|sv W<|A1<|B0<|sq W<|sl W G_hit W<|sd W (D7 W)<|sv W<|A1<|bs hz1 fun y2 hy2 hz1=>D9 (fun s=> ∃g3:Nat,Sb ⟨T [(2,(.ptr (2,u1) 0)),(5,(.ptr (5,u2) 0)),(6,(oS y2 (65,g3))),(17,(dl A4 v1.lanes)),(18,(di (v1.lanes.length:Int))),(19,(di x1.2))],G [((2,u1),some<|.box 33 (L4 p1)),((5,u2),some<|.box 260 (Pc v1)),((65,g3),oB 229 4 Q6 y2)]⟩ s) ?_ ?_
 refine A7<|E4 (U7 p1 v1 x1 v2) (fun (x2:((List Pass)×Int)) (g4:Nat)=>⟨T [(2,(.ptr (2,u1) 0)),(5,(.ptr (5,u2) 0)),(6,(oS x2.1 (65,g4))),(7,(di x1.2)),(8,(di v2)),(17,(dl A4 v1.lanes)),(18,(di (v1.lanes.length:Int))),(19,(di x1.2)),(25,(dl Gs p1.Zones)),(26,(di (p1.Zones.length:Int))),(27,(di x2.2))],G [((2,u1),some<|.box 33 (L4 p1)),((5,u2),some<|.box 260 (Pc v1)),((65,g4),oB 229 4 Q6 x2.1)]⟩) (x1.1,0) g2 _ hy2 (E0 (Z7 W)<|B5 G_hit (.of W)<|sg W<|B8 (gq W) trivial) ?_
 intro x2 g4 z2 hz2 ez2
 unfold U7 at hz2
 refine B0<|sv W<|A1<|A5<|cc W hz2 (fun c2 hz2=> ?_)<|fun c2 hz2=> ?_
 refine A8<|A5<|A7<|B0<|sv W<|bs hz2 fun v3 hv3 hz2=>sd W (C5 W W hv3 W)<|sd W (D4 W hv3 W W)<|sm W<|sv W<|U0 W G_hit [(dl Bf v3.Parts),(di v3.Signal_)] W (A1<|B0<|sq W<|sl W G_hit W<|sd W (D7 W)<|sv W<|A1<|bs hz2 fun y3 hy3 hz2=>D9 (fun s=> ∃g5:Nat,Sb ⟨T [(2,(.ptr (2,u1) 0)),(5,(.ptr (5,u2) 0)),(6,(oS y3 (65,g5))),(7,(di x1.2)),(8,(di v2)),(17,(dl A4 v1.lanes)),(18,(di (v1.lanes.length:Int))),(19,(di x1.2)),(25,(dl Gs p1.Zones)),(26,(di (p1.Zones.length:Int))),(27,(di x2.2))],G [((2,u1),some<|.box 33 (L4 p1)),((5,u2),some<|.box 260 (Pc v1)),((65,g5),oB 229 4 Q6 y3)]⟩ s) ?_ ?_)
 refine A7<|E4 (Aw v1 x1 v2 x2 v3) (fun (x3:((List Pass)×Int)) (g6:Nat)=>⟨T [(2,(.ptr (2,u1) 0)),(5,(.ptr (5,u2) 0)),(6,(oS x3.1 (65,g6))),(7,(di x1.2)),(8,(di v2)),(9,(di x2.2)),(17,(dl A4 v1.lanes)),(18,(di (v1.lanes.length:Int))),(19,(di x1.2)),(25,(dl Gs p1.Zones)),(26,(di (p1.Zones.length:Int))),(27,(di x2.2)),(33,(dl Bf v3.Parts)),(34,(di (v3.Parts.length:Int))),(35,(di x3.2))],G [((2,u1),some<|.box 33 (L4 p1)),((5,u2),some<|.box 260 (Pc v1)),((65,g6),oB 229 4 Q6 x3.1)]⟩) (x2.1,0) g4 _ hy3 (E0 (Z7 W)<|sg W<|sg W<|B8 (gq W) trivial) ?_
 intro x3 g6 z3 hz3 ez3
 unfold Aw at hz3
 refine B0<|sv W<|A1<|A5<|cc W hz3 (fun c3 hz3=> ?_)<|fun c3 hz3=> ?_
 refine A8<|A5<|A7<|B0<|sv W<|bs hz3 fun v4 hv4 hz3=>sd W (C5 W W hv4 W)<|sd W (D4 W hv4 W W)<|sm W<|sv W<|U0 W G_hit (Tn v4) W (A1<|B0<|sq W<|sl W G_hit W<|sv W<|sv W<|A1<|cc W hz3 (fun c4 hz3=> ?_)<|fun c4 hz3=> ?_)
 refine Nr W fun u14 _=>C0 (oS x3.1 (65,g6)) W W (sv W<|sv W<|sq W<|sl W (gq W) W (sv W<|bs hz3 fun v5 hv5 hz3=>sd W (C5 W W hv5 W)<|sd W (C9 W hv5 W)<|sq W<|sl W G_hit W<|sv W<|sq W<|sl W (gq W) W (sv W<|bs hz3 fun v6 hv6 hz3=>sd W (C5 W W hv6 W)<|sd W (C9 W hv6 W)<|sq W<|sl W G_hit W<|sv W<|sv W<|C0 (dl Q6 [(Pass.mk x2.2 x3.2 (D3 (v5+v4.From))<|D3 (v6+v4.To))]) W W (bs hz3 fun _ hv7 hz3=>Q3 Q6 (65,g6) x3.1 (Pass.mk x2.2 x3.2 (D3 (v5+v4.From))<|D3 (v6+v4.To)) [] _ (K7<|fun _=>W) W (gq W) hv7 (ss W<|A1<|E3<|B7<|sv W<|sv W<|A1<|E2 ?_)))))
 cases hz3
 exact ⟨W,u14,(E0 ⟨.of W, .of W,(.of (V1<|V4 hv7).symm), .of W, .of W, .of W, .of W, .of W, .of W, .of W, .of W, .of W, .of W, .of W, .of W,trivial⟩<|sg W<|sg W<|N8 G_hit trivial)⟩
 refine A8<|E3<|B7<|sv W<|sv W<|A1<|E2 ?_
 cases hz3
 exact ⟨W,g6,(E0 (Z7 W)<|sg W<|sg W<|B8 (gq W) trivial)⟩
 refine C8 W ?_
 cases hz3
 obtain rfl:=ez3 _ rfl
 refine ⟨nofun,C6 W<|U4 ?_⟩
 exact ⟨g6,(E0 (Z7 W)<|B5 G_hit (.of W)<|sg W<|B8 (gq W) trivial)⟩
 rintro _ ⟨g5,q1⟩
 refine E3<|B4 q1<|B7<|sv W<|sv W<|A1<|E2 ?_
 cases hz2
 exact ⟨W,g5,(E0 (Z7 W)<|B5 G_hit (.of W)<|sg W<|B8 (gq W) trivial)⟩
 refine C8 W ?_
 cases hz2
 obtain rfl:=ez2 _ rfl
 refine ⟨nofun,C6 W<|U4 ?_⟩
 exact ⟨g4,(E0 (Z7 W)<|B5 G_hit (.of W)<|sg W<|B8 (gq W) trivial)⟩
 rintro _ ⟨g3,q2⟩
 refine E3<|B4 q2<|B7<|sv W<|sv W<|A1<|E2 ?_
 cases hz1
 exact ⟨W,g3,(E0 (Z7 W)<|B5 G_hit (.of W)<|sg W<|B8 (gq W) trivial)⟩
 refine C8 W ?_
 cases hz1
 obtain rfl:=ez1 _ rfl
 refine ⟨nofun,C6 W<|U4 ?_⟩
 exact ⟨g2,(E0 ⟨.of W,trivial⟩<|B8 (gq W) trivial)⟩
 rintro _ ⟨g1,q3⟩
 refine B4 q3<|A5 ?_
 rcases NO h with ⟨e1,h⟩|⟨e1,h⟩
 refine B4 (s0:=⟨T [(6,(.d .nilS))],G []⟩) (E0 ⟨.of (fW e1),trivial⟩ trivial) ?_
 refine B7<|sv W<|bs h fun _ hv9 h=>FS (v:= .d (.tup [])) (us:= []) (kF [] _ W W A3 (Du _ hv9) W W) (A1<|B0<|sv W<|sv W<|A1<|B2 ?_)
 cases h
 exact A6 (.inr W) (B6 (B3 W) C2) DLe.nil
 refine B4 (s0:=⟨T [(6,(.sl (65,g1)))],G [((65,g1),some<|.arr 229 4 (List.map Q6 y1))]⟩) (E0 ⟨.of (V1 e1),trivial⟩<|B5 (Ii G_hit e1) (.of W) trivial) ?_
 refine B7<|ss W<|bs h fun v8 hv8 h=>FS (v:= .d (.tup [])) (us:= [(65,g1)]) (MI (Dt _ _ hv8) [(65,g1)] [(65,g1)] _ (((65,g1),some<|.arr 229 4 (List.map Q6 v8))::_) W Nt (Y6 EC<|Y6 CD Ub) (Kz G_hit Jc) ⟨⟨_,G_hit, .of W⟩,trivial⟩ (fun _ h=>h) nd1 W W W) (A1<|B0<|ss W<|ss W<|A1<|B2 ?_)
 cases h
 exact A6 (.inr W) (B6 (B3 W)<|HE G_hit) (.refl _)
def Gz (p1:Pass)(p2:Int)(p3:WorldSpan):Option Bool:=
  some (((p1.Zone_==p2)&& (decide (p1.From≤p3.to)))&& (decide (p3.from_≤p1.To)))
theorem Vx(p1 p2 p3 r)(h:Gz p1 p2 p3=some r):PCall prog 247 [(.agg (Q6 p1)),(.bp [(i64 p2)] 0),(.bp [(i64 p3.from_),(i64 p3.to)] 0)] (bo r):=by
 refine C4 (fk func247 ntmps247 m0 (by with_unfolding_all rfl)) (nl W) ?_
 unfold Gz at h
 refine B4 (s0:=⟨T [(0,(.d _)),(1,(.d _)),(2,(.d _))],G []⟩) (F2 W W) ?_
 refine B0<|sm W<|sv W<|A1<|B0<|sq W<|sl W G_hit W<|sv W<|sv W<|sv W<|gp W (M3 W) (fun _=>W) (gt W (vl W G_hit W)<|gt W (fun _=>W) ?_)
 refine gt W (fun w4=>(by simp only [A2 w4];rfl)) ?_
 refine gt W (fun w5=>(M7 (A2 w5) (A2 w5) W))<|sa W W W<|sv W<|gt W (fun _=>W) ?_
 refine gt W (fun w7=>(by simp only [A2 w7];rfl)) ?_
 refine gp W (M3 W) (fun _=>W) (gt W (vl W G_hit W)<|gt W (fun w10=>(M7 (A2 w10) (A2 w10) W))<|sa W W W<|sv W<|A1<|B2 ?_)
 cases h
 exact A6 (.inr W) (B6 (B3 W) C2) (.refl _)
def L5 (p1:(List Pass))(p2:Int)(p3:WorldSpan)(x1:Int):Option (Stp Int (Sum Unit Int)):=
  cond (decide (x1< (p1.length:Int))) ((C1 p1 x1).bind fun v1=>(Gz v1 p2 p3).bind fun v2=>cond v2 (some (.out (.inr x1))) (some (.go (D3 (x1+1))))) (some (.out (.inl ())))
def J0 [Lp](p1:(List Pass))(p2:Int)(p3:WorldSpan):Option Int:=
  thenS (loop (L5 p1 p2 p3) 0) (fun _=>some (-1)) (fun r=>some r)
theorem Fj(p1 p2 p3 r)(h:J0 p1 p2 p3=some r):PCall prog 262 [(.list (List.map Q6 p1)),(.fn (.func 247) [] [(.bp [(i64 p2)] 0),(.bp [(i64 p3.from_),(i64 p3.to)] 0)])] (i64 r):=by
 refine C4 (fk func262 ntmps262 m0 (by with_unfolding_all rfl)) (nl W) ?_
 unfold J0 at h
 refine B4 (s0:=⟨T [(0,(.d _)),(1,(.d _))],G []⟩) (F2 W W) ?_
 refine B0<|sv W<|A1<|A5<|B0<|sv W<|sd W (D7 W)<|sv W<|A1<|js h fun z1 hz1 h=>D9 (fun s=> ∃(y1:Unit) (g1:Unit),z1= .inl y1∧Sb ⟨T [],G []⟩ s) ?_ ?_
 refine A7<|E4 (L5 p1 p2 p3) (fun (x1:Int) (g2:Unit)=>⟨T [(0,(dl Q6 p1)),(1,(.d (.fn (.func 247) [] [(.bp [(i64 p2)] 0),(.bp [(i64 p3.from_),(i64 p3.to)] 0)]))),(7,(di (p1.length:Int))),(8,(di x1))],G []⟩) 0 () _ hz1 (F2 W W) ?_
 intro x1 g2 z2 hz2 ez2
 unfold L5 at hz2
 refine B0<|sv W<|A1<|A5<|cc W hz2 (fun c1 hz2=> ?_)<|fun c1 hz2=> ?_
 refine A8<|A5<|A7<|B0<|sv W<|sv W<|A1<|B0<|sv W<|sv W<|sv W<|bs hz2 fun _ hv1 hz2=>sd W (C5 W W hv1 W)<|sd W (D4 W hv1 W W)<|bs hz2 fun _ hv2 hz2=>A9 W W A3 (Vx _ _ _ _ hv2) (.inl W) (A1<|cc W hz2 (fun c2 hz2=> ?_)<|fun c2 hz2=> ?_)
 refine B0<|sv W<|sv W<|A1<|B2 ?_
 cases hz2
 obtain rfl:=ez2 _ rfl
 refine ⟨nofun,F4 ?_⟩
 rw [wE]at h
 cases h
 exact A6 (.inr W) (B6 (B3 W) C2) (.refl _)
 refine A8<|E3<|B7<|sv W<|sv W<|A1<|E2 ?_
 cases hz2
 exact ⟨W,(),(F2 W W)⟩
 refine C8 W ?_
 cases hz2
 obtain rfl:=ez2 _ rfl
 refine ⟨nofun,C6 W<|U4 ?_⟩
 exact ⟨_,(),W,(F2 W W)⟩
 rintro _ ⟨y1,g1,rfl,q1⟩
 rw [wD]at h
 refine B4 q1<|B0<|sv W<|A1<|B2 ?_
 cases h
 exact A6 (.inr W) (B6 (B3 W) C2) (.refl _)
def G2 [Lp](p1:(List Pass))(p2:Int)(p3:WorldSpan):Option Bool:=
  (J0 p1 p2 p3).bind fun v1=>some (decide (v1≥0))
theorem Ec(p1 p2 p3 r)(h:G2 p1 p2 p3=some r):PCall prog 245 [(.list (List.map Q6 p1)),(.fn (.func 247) [] [(.bp [(i64 p2)] 0),(.bp [(i64 p3.from_),(i64 p3.to)] 0)])] (bo r):=by
 refine C4 (fk func245 ntmps245 m0 (by with_unfolding_all rfl)) (nl W) ?_
 unfold G2 at h
 refine B4 (s0:=⟨T [(0,(.d _)),(1,(.d _))],G []⟩) (F2 W W) ?_
 refine B0<|sv W<|A1<|B0<|sv W<|sv W<|bs h fun _ hv1 h=>A9 W W A3 (Fj _ _ _ _ hv1) (.inl W) (sv W<|sv W<|A1<|B2 ?_)
 cases h
 exact A6 (.inr W) (B6 (B3 W) C2) (.refl _)
def Dn [Lp](p1:Map)(p2:Agent)(p3:Agent)(p4:Int):Option Bool:=
  (Mr p2).bind fun v1=>((cond (!(!v1)) (Mr p3) (some default))).bind fun v2=>cond ((!v1)||(!v2)) (some false) ((Ag p2).bind fun v3=>(W1 p1 p2.Route).bind fun v4=>(G2 v4 p4 (WorldSpan.mk v3.from_ p3.S)).bind fun v5=>some v5)
theorem FX(p1 p2 p3 p4 r)(h:Dn p1 p2 p3 p4=some r):PCall prog 218 [(.agg (P7 p1)),(.agg (D0 p2)),(.agg (D0 p3)),(i64 p4)] (bo r):=by
 refine C4 (fk func218 ntmps218 m0 (by with_unfolding_all rfl)) (nl W) ?_
 unfold Dn at h
 refine B4 (s0:=⟨T [(0,(.d _)),(1,(.d _)),(2,(.d _)),(3,(.d _))],G []⟩) (F2 W W) ?_
 refine B0<|sm W<|sn W W<|sm W<|sn W W<|sv W<|A1<|A5<|B0<|sd W (B1 W (gq W) W W)<|bs h fun v1 hv1 h=>A9 W W A3 (Uf _ _ hv1) (.inl W) (C0 (.d (bo (!v1))) W W (sv W<|gf W (fun _=>(B1 W (gq W) W W))<|bs h fun v2 hv2 h=> ?_))
 refine N6 _ (bo v2) (K6 W) (fun w2=>⟨_,[(.d (.agg (D0 p3)))],_,_,(by simp only [A2 w2];rfl),W,A3,Uf _ _<|B9 w2 hv2,(.inl W)⟩) ?_
 refine M8 _ (.d (bo (!v2))) W (K6 W) (fun w3=>(by simp only [A2 w3];rfl)) ?_
 refine sd W (O2 W W<|fun hc=>A2<|J4 hc)<|A1<|cc W h (fun c1 h=> ?_)<|fun c1 h=> ?_
 refine B0<|sv W<|A1<|B2 ?_
 cases h
 exact A6 (.inr W) (B6 (B3 W) C2) (.refl _)
 refine A8<|A5<|E7 W<|sd W (B1 W (gq W) W W)<|bs h fun v3 hv3 h=>A9 W W A3 (Jq _ _ hv3) (.inl W) (sv W<|sq W<|sl W (gq W) W (sv W<|sm W<|U0 W G_hit [(di v3.from_),(di p3.S)] W (A1<|B0<|sd W (B1 W (gq W) W W)<|sq W<|sl W (gq W) W (bs h fun _ hv4 h=>A9 W W A3 (IB _ _ _ hv4) (.inl W) (C0 (.fn _ _ _) W W (bs h fun _ hv5 h=>A9 W (rD<|E6 (AS G1<|E6 (Bi (gq W)<|rD G1)<|E6 (Bi G_hit<|rD<|rD G1) G1) G1) A3 (Ec _ _ _ _ hv5) (.inr W) (sv W<|A1<|B2 ?_)))))))
 cases h
 exact A6 (.inr W) (B6 (B3 W) C2) (.refl _)
def N7 [Lp](p1:WorldScene)(p2:Int)(p3:Int):Option Bool:=
  (Ia p1.before p2).bind fun v1=>((cond v1 (C1 p1.before.Agents p2) (some default))).bind fun v2=>((cond v1 (C1 p1.after.Agents p2) (some default))).bind fun v3=>((cond v1 (Dn p1.m v2 v3 p3) (some default))).bind fun v4=>some (v1&&v4)
theorem Bv(p1 p2 p3 r)(h:N7 p1 p2 p3=some r):PCall prog 171 [(.bp (Qf p1) 0),(i64 p2),(i64 p3)] (bo r):=by
 refine C4 (fk func171 ntmps171 m0 (by with_unfolding_all rfl)) (nl W) ?_
 unfold N7 at h
 refine B4 (s0:=⟨T [(0,(.d _)),(1,(.d _)),(2,(.d _))],G []⟩) (F2 W W) ?_
 refine B0<|sv W<|A1<|A5<|E7 W<|sv W<|sv W<|sv W<|sv W<|sv W<|bs h fun v1 hv1 h=>A9 W W A3 (Nx _ _ _ hv1) (.inl W) (sv W<|gt W (fun _=>W) ?_)
 refine gt W (fun w2=>(by simp only [A2 w2];rfl)) ?_
 refine gt W (fun w3=>(by simp only [A2 w3];rfl)) ?_
 refine gt W (fun w4=>(by simp only [A2 w4];rfl)) ?_
 refine gt W (fun _=>W) ?_
 refine gt W (fun w6=>(by simp only [A2 w6];rfl)) ?_
 refine gt W (fun w7=>(by simp only [A2 w7];rfl)) ?_
 refine gt W (fun w8=>(by simp only [A2 w8];rfl)) ?_
 refine gt W (fun w9=>(by simp only [A2 w9];rfl)) ?_
 refine gt W (fun _=>W)<|bs h fun v2 hv2 h=>gt W (fun w11=>(C5 (A2 w11) (A2 w11) (B9 w11 hv2) W))<|gt W (fun w12=>(D4 (A2 w12) (B9 w12 hv2) W W))<|gt W (fun _=>W) ?_
 refine gt W (fun w14=>(by simp only [A2 w14];rfl)) ?_
 refine gt W (fun w15=>(by simp only [A2 w15];rfl)) ?_
 refine gt W (fun w16=>(by simp only [A2 w16];rfl)) ?_
 refine gt W (fun w17=>(by simp only [A2 w17];rfl)) ?_
 refine gt W (fun _=>W)<|bs h fun v3 hv3 h=>gt W (fun w19=>(C5 (A2 w19) (A2 w19) (B9 w19 hv3) W))<|gt W (fun w20=>(D4 (A2 w20) (B9 w20 hv3) W W))<|gt W (fun _=>W)<|bs h fun v4 hv4 h=> ?_
 refine N6 v1 (bo v4) (M3 W) (fun w22=>⟨_,[(.d (.agg (P7 p1.m))),(.d (.agg (D0 v2))),(.d (.agg (D0 v3))),(di p3)],_,_,(by simp only [A2 w22];rfl),W,A3,FX _ _ _ _ _<|B9 w22 hv4,(.inl W)⟩) ?_
 refine sa W W W<|sv W<|A1<|B2 ?_
 cases h
 exact A6 (.inr W) (B6 (B3 W) C2) (.refl _)
def D6 [Lp](p1:(List Stay))(p2:Stay)(x1:(Int×Int)):Option (Stp (Int×Int) Int):=
  cond (decide (x1.1<x1.2)) ((C1 p1 (D3 ((IntKind.wrap .u64 (D3 (x1.1+x1.2))).fdiv (2^ (min (1:Int).toNat (IntKind.bits .u64)))))).bind fun v1=>(Dl v1 p2).bind fun v2=>cond (decide (v2<0)) (some (.go ((D3 ((D3 ((IntKind.wrap .u64 (D3 (x1.1+x1.2))).fdiv (2^ (min (1:Int).toNat (IntKind.bits .u64)))))+1)),x1.2))) (some (.go (x1.1,(D3 ((IntKind.wrap .u64 (D3 (x1.1+x1.2))).fdiv (2^ (min (1:Int).toNat (IntKind.bits .u64))))))))) (some (.out x1.1))
def D2 [Lp](p1:(List Stay))(p2:Stay):Option (Int×Bool):=
  (loop (D6 p1 p2) (0,(p1.length:Int))).bind fun y1=>((cond (decide (y1< (p1.length:Int))) (C1 p1 y1) (some default))).bind fun v3=>((cond (decide (y1< (p1.length:Int))) (Dl v3 p2) (some default))).bind fun v4=>some (y1,((decide (y1< (p1.length:Int)))&& (v4==0)))
theorem P1(p1 p2 r)(h:D2 p1 p2=some r):PCall prog 172 [(.list (List.map J7 p1)),(.agg (J7 p2)),(.fn (.func 73) [] [])] (.tup [(i64 r.1),(bo r.2)]):=by
 refine C4 (fk func172 ntmps172 m0 (by with_unfolding_all rfl)) (nl W) ?_
 unfold D2 at h
 refine B4 (s0:=⟨T [(0,(.d _)),(1,(.d _)),(2,(.d _))],G []⟩) (F2 W W) ?_
 refine lr<|fun u1 _=>sm W<|sv W<|sv W<|A1<|B0<|sv W<|sd W (D7 W)<|sv W<|A1<|B0<|sv W<|sv W<|sv W<|A1<|A5<|bs h fun y1 hy1 h=>D9 (fun s=> ∃g1:Unit,Sb ⟨T [(0,(dl J7 p1)),(2,(.d (.fn (.func 73) [] []))),(4,(.ptr (4,u1) 0)),(8,(di (p1.length:Int))),(9,(di y1))],G [((4,u1),some<|.box 127 (Wx p2))]⟩ s) ?_ ?_
 refine A7<|E4 (D6 p1 p2) (fun (x1:(Int×Int)) (g2:Unit)=>⟨T [(0,(dl J7 p1)),(2,(.d (.fn (.func 73) [] []))),(4,(.ptr (4,u1) 0)),(8,(di (p1.length:Int))),(9,(di x1.1)),(10,(di x1.2))],G [((4,u1),some<|.box 127 (Wx p2))]⟩) (0,(p1.length:Int)) () _ hy1 (F2 W W) ?_
 intro x1 g2 z1 hz1 ez1
 unfold D6 at hz1
 refine A5<|B0<|sv W<|sv W<|sv W<|A1<|cc W hz1 (fun c1 hz1=> ?_)<|fun c1 hz1=> ?_
 refine A8<|A7<|B0<|sv W<|sv W<|sv W<|sv W<|sv W<|sv W<|sv W<|A1<|A5<|E7 W<|sv W<|sv W<|sv W<|bs hz1 fun _ hv1 hz1=>sd W (C5 W W hv1 W)<|sd W (D4 W hv1 W W)<|sd W (B1 W G_hit W W)<|bs hz1 fun _ hv2 hz1=>A9 W W A3 (Sk _ _ _ hv2) (.inl W) (sv W<|A1<|cc W hz1 (fun c2 hz1=> ?_)<|fun c2 hz1=> ?_)
 refine B7<|sv W<|sv W<|sv W<|A1<|E3<|E2 ?_
 cases hz1
 exact ⟨W,(),(F2 W W)⟩
 refine B7<|sv W<|sv W<|A1<|E3<|E2 ?_
 cases hz1
 exact ⟨W,(),(F2 W W)⟩
 refine C8 W ?_
 cases hz1
 obtain rfl:=ez1 _ rfl
 refine ⟨nofun,C6 W<|U4 ?_⟩
 exact ⟨(),(F2 W W)⟩
 rintro _ ⟨g1,q1⟩
 refine B4 q1<|A5<|E7 W<|sv W<|sv W<|sv W<|sv W<|sv W<|gt W (fun _=>W)<|gt W (fun _=>W)<|gt W (fun _=>W)<|bs h fun v3 hv3 h=>gt W (fun w4=>(C5 (A2 w4) (A2 w4) (B9 w4 hv3) W))<|gt W (fun w5=>(D4 (A2 w5) (B9 w5 hv3) W W))<|gt W (fun _=>(B1 W G_hit W W))<|bs h fun v4 hv4 h=> ?_
 refine N6 _ (i64 v4) (M3 W) (fun w7=>⟨_,[(.d (.agg (J7 v3))),(.d (.agg (J7 p2)))],_,_,(by simp only [A2 w7];rfl),W,A3,Sk _ _ _<|B9 w7 hv4,(.inl W)⟩) ?_
 refine gt W (vb W W W)<|sa W W W<|sv W<|sv W<|A1<|B2 ?_
 cases h
 exact A6 (.inr W) (Na (B3 W) (B3 W) C2 C2) (.refl _)
def Ny (p1:Part)(p2:Int):Option Bool:=
  some (p1.Lane_==p2)
theorem EJ(p1 p2 r)(h:Ny p1 p2=some r):PCall prog 265 [(.agg (Bf p1)),(.bp [(i64 p2)] 0)] (bo r):=by
 refine C4 (fk func265 ntmps265 m0 (by with_unfolding_all rfl)) (nl W) ?_
 unfold Ny at h
 refine B4 (s0:=⟨T [(0,(.d _)),(1,(.d _))],G []⟩) (F2 W W) ?_
 refine B0<|sm W<|sv W<|A1<|B0<|sq W<|sl W G_hit W<|sv W<|sv W<|sv W<|A1<|B2 ?_
 cases h
 exact A6 (.inr W) (B6 (B3 W) C2) (.refl _)
def M4 (p1:(List Part))(p2:Int)(x1:Int):Option (Stp Int (Sum Unit Int)):=
  cond (decide (x1< (p1.length:Int))) ((C1 p1 x1).bind fun v1=>(Ny v1 p2).bind fun v2=>cond v2 (some (.out (.inr x1))) (some (.go (D3 (x1+1))))) (some (.out (.inl ())))
def K4 [Lp](p1:(List Part))(p2:Int):Option Int:=
  thenS (loop (M4 p1 p2) 0) (fun _=>some (-1)) (fun r=>some r)
theorem Hu(p1 p2 r)(h:K4 p1 p2=some r):PCall prog 220 [(.list (List.map Bf p1)),(.fn (.func 265) [] [(.bp [(i64 p2)] 0)])] (i64 r):=by
 refine C4 (fk func220 ntmps220 m0 (by with_unfolding_all rfl)) (nl W) ?_
 unfold K4 at h
 refine B4 (s0:=⟨T [(0,(.d _)),(1,(.d _))],G []⟩) (F2 W W) ?_
 refine B0<|sv W<|A1<|A5<|B0<|sv W<|sd W (D7 W)<|sv W<|A1<|js h fun z1 hz1 h=>D9 (fun s=> ∃(y1:Unit) (g1:Unit),z1= .inl y1∧Sb ⟨T [],G []⟩ s) ?_ ?_
 refine A7<|E4 (M4 p1 p2) (fun (x1:Int) (g2:Unit)=>⟨T [(0,(dl Bf p1)),(1,(.d (.fn (.func 265) [] [(.bp [(i64 p2)] 0)]))),(7,(di (p1.length:Int))),(8,(di x1))],G []⟩) 0 () _ hz1 (F2 W W) ?_
 intro x1 g2 z2 hz2 ez2
 unfold M4 at hz2
 refine B0<|sv W<|A1<|A5<|cc W hz2 (fun c1 hz2=> ?_)<|fun c1 hz2=> ?_
 refine A8<|A5<|A7<|B0<|sv W<|sv W<|A1<|B0<|sv W<|sv W<|sv W<|bs hz2 fun _ hv1 hz2=>sd W (C5 W W hv1 W)<|sd W (D4 W hv1 W W)<|bs hz2 fun _ hv2 hz2=>A9 W W A3 (EJ _ _ _ hv2) (.inl W) (A1<|cc W hz2 (fun c2 hz2=> ?_)<|fun c2 hz2=> ?_)
 refine B0<|sv W<|sv W<|A1<|B2 ?_
 cases hz2
 obtain rfl:=ez2 _ rfl
 refine ⟨nofun,F4 ?_⟩
 rw [wE]at h
 cases h
 exact A6 (.inr W) (B6 (B3 W) C2) (.refl _)
 refine A8<|E3<|B7<|sv W<|sv W<|A1<|E2 ?_
 cases hz2
 exact ⟨W,(),(F2 W W)⟩
 refine C8 W ?_
 cases hz2
 obtain rfl:=ez2 _ rfl
 refine ⟨nofun,C6 W<|U4 ?_⟩
 exact ⟨_,(),W,(F2 W W)⟩
 rintro _ ⟨y1,g1,rfl,q1⟩
 rw [wD]at h
 refine B4 q1<|B0<|sv W<|A1<|B2 ?_
 cases h
 exact A6 (.inr W) (B6 (B3 W) C2) (.refl _)
def Kj [Lp](p1:Zone)(p2:Int):Option (Part×Bool):=
  (K4 p1.Parts p2).bind fun v1=>cond (decide (v1<0)) (some ((Part.mk 0 0 0 0),false)) ((C1 p1.Parts v1).bind fun v2=>some (v2,true))
theorem MK(p1 p2 r)(h:Kj p1 p2=some r):PCall prog 251 [(.agg [(.list (List.map Bf p1.Parts)),(i64 p1.Signal_)]),(i64 p2)] (.tup [(.agg (Bf r.1)),(bo r.2)]):=by
 refine C4 (fk func251 ntmps251 m0 (by with_unfolding_all rfl)) (nl W) ?_
 unfold Kj at h
 refine B4 (s0:=⟨T [(0,(.d _)),(1,(.d _))],G []⟩) (F2 W W) ?_
 refine B0<|sm W<|sn W W<|sm W<|sv W<|A1<|B0<|sq W<|sl W (gq W) W (C0 (.fn _ _ _) W W (bs h fun _ hv1 h=>A9 W (rD<|E6 (AS G1<|E6 (Bi (gq W)<|rD G1) G1) G1) A3 (Hu _ _ _ hv1) (.inr W) (sv W<|A1<|A5<|B0<|sv W<|sv W<|A1<|cc W h (fun c1 h=> ?_)<|fun c1 h=> ?_)))
 refine B0<|sv W<|U0 W G_hit (zs 4) W (sv W<|A1<|B2 ?_)
 cases h
 exact A6 (.inr W) (Na (K2 W G_hit (nl W) W) (B3 W) C2 C2) (.refl _)
 refine A8<|B0<|sq W<|sl W (gq W) W (sv W<|bs h fun v2 hv2 h=>sd W (C5 W W hv2 W)<|sd W (D4 W hv2 W W)<|U0 W G_hit (Tn v2) W (sv W<|A1<|B2 ?_))
 cases h
 exact A6 (.inr W) (Na (K2 W G_hit (nl W) W) (B3 W) C2 C2) (.refl _)
def Ak [Lp](p1:Int)(p2:Map)(p3:Int):Option Bool:=
  (C1 p2.Zones p3).bind fun v1=>(Kj v1 p1).bind fun v2=>some v2.2
theorem Yx(p1 p2 p3 r)(h:Ak p1 p2 p3=some r):PCall prog 250 [(i64 p1),(.bp (P7 p2) 0),(.bp [(i64 p3)] 0)] (bo r):=by
 refine C4 (fk func250 ntmps250 m0 (by with_unfolding_all rfl)) (nl W) ?_
 unfold Ak at h
 refine B4 (s0:=⟨T [(0,(.d _)),(1,(.d _)),(2,(.d _))],G []⟩) (F2 W W) ?_
 refine B0<|sv W<|A1<|B0<|sv W<|sv W<|sv W<|bs h fun _ hv1 h=>sd W (C5 W W hv1 W)<|sd W (D4 W hv1 W W)<|sv W<|bs h fun v2 hv2 h=>A9 W W A3 (MK _ _ _ hv2) (.inl W) (sv W<|sv W<|sv W<|sm W<|U0 W G_hit (Tn v2.1) W (sv W<|A1<|B0<|sv W<|sv W<|A1<|B2 ?_))
 cases h
 exact A6 (.inr W) (B6 (B3 W) C2) (.refl _)
def H8 [Lp](p1:(List Int))(p2:Map)(p3:Int)(x1:Int):Option (Stp Int (Sum Unit Int)):=
  cond (decide (x1< (p1.length:Int))) ((C1 p1 x1).bind fun v1=>(Ak v1 p2 p3).bind fun v2=>cond v2 (some (.out (.inr x1))) (some (.go (D3 (x1+1))))) (some (.out (.inl ())))
def I8 [Lp](p1:(List Int))(p2:Map)(p3:Int):Option Int:=
  thenS (loop (H8 p1 p2 p3) 0) (fun _=>some (-1)) (fun r=>some r)
theorem Hv(p1 p2 p3 r)(h:I8 p1 p2 p3=some r):PCall prog 249 [(.list (List.map A4 p1)),(.fn (.func 250) [] [(.bp (P7 p2) 0),(.bp [(i64 p3)] 0)])] (i64 r):=by
 refine C4 (fk func249 ntmps249 m0 (by with_unfolding_all rfl)) (nl W) ?_
 unfold I8 at h
 refine B4 (s0:=⟨T [(0,(.d _)),(1,(.d _))],G []⟩) (F2 W W) ?_
 refine B0<|sv W<|A1<|A5<|B0<|sv W<|sd W (D7 W)<|sv W<|A1<|js h fun z1 hz1 h=>D9 (fun s=> ∃(y1:Unit) (g1:Unit),z1= .inl y1∧Sb ⟨T [],G []⟩ s) ?_ ?_
 refine A7<|E4 (H8 p1 p2 p3) (fun (x1:Int) (g2:Unit)=>⟨T [(0,(dl A4 p1)),(1,(.d (.fn (.func 250) [] [(.bp (P7 p2) 0),(.bp [(i64 p3)] 0)]))),(7,(di (p1.length:Int))),(8,(di x1))],G []⟩) 0 () _ hz1 (F2 W W) ?_
 intro x1 g2 z2 hz2 ez2
 unfold H8 at hz2
 refine B0<|sv W<|A1<|A5<|cc W hz2 (fun c1 hz2=> ?_)<|fun c1 hz2=> ?_
 refine A8<|A5<|A7<|B0<|sv W<|sv W<|A1<|B0<|sv W<|sv W<|sv W<|bs hz2 fun _ hv1 hz2=>sd W (C5 W W hv1 W)<|sd W (C9 W hv1 W)<|bs hz2 fun _ hv2 hz2=>A9 W W A3 (Yx _ _ _ _ hv2) (.inl W) (A1<|cc W hz2 (fun c2 hz2=> ?_)<|fun c2 hz2=> ?_)
 refine B0<|sv W<|sv W<|A1<|B2 ?_
 cases hz2
 obtain rfl:=ez2 _ rfl
 refine ⟨nofun,F4 ?_⟩
 rw [wE]at h
 cases h
 exact A6 (.inr W) (B6 (B3 W) C2) (.refl _)
 refine A8<|E3<|B7<|sv W<|sv W<|A1<|E2 ?_
 cases hz2
 exact ⟨W,(),(F2 W W)⟩
 refine C8 W ?_
 cases hz2
 obtain rfl:=ez2 _ rfl
 refine ⟨nofun,C6 W<|U4 ?_⟩
 exact ⟨_,(),W,(F2 W W)⟩
 rintro _ ⟨y1,g1,rfl,q1⟩
 rw [wD]at h
 refine B4 q1<|B0<|sv W<|A1<|B2 ?_
 cases h
 exact A6 (.inr W) (B6 (B3 W) C2) (.refl _)
def Ib [Lp](p1:Map)(p2:(List Int))(p3:Int):Option Int:=
  (Af p1 p2).bind fun v1=>cond ((decide (p3<0))||(decide (p3≥(p1.Zones.length:Int)))) (some (-1)) ((I8 v1.lanes p1 p3).bind fun v2=>some v2)
theorem KG(p1 p2 p3 r)(h:Ib p1 p2 p3=some r):PCall prog 222 [(.agg (P7 p1)),(.list (List.map A4 p2)),(i64 p3)] (i64 r):=by
 refine C4 (fk func222 ntmps222 m0 (by with_unfolding_all rfl)) (nl W) ?_
 unfold Ib at h
 refine B4 (s0:=⟨T [(0,(.d _)),(1,(.d _)),(2,(.d _))],G []⟩) (F2 W W) ?_
 refine B0<|sm W<|sn W W<|sv W<|A1<|B0<|sd W (B1 W (gq W) W W)<|sv W<|bs h fun v1 hv1 h=>A9 W W A3 (Mk _ _ _ hv1) (.inl W) (sm W<|U0 W G_hit (Pc v1) W (A1<|A5<|B0<|sl W (gq W) W (sv W<|sv W<|gf W (fun _=>(Q8 W (gq W) W))<|gp W (K6 W) (fun _=>W) (gf W (vl W (gq W) W)<|gf W (fun w4=>(D7<|A2 w4))<|gf W (fun w5=>(M7 (A2 w5) (A2 w5) W))<|sd W (O2 W W<|fun hc=>A2<|J4 hc)<|A1<|cc W h (fun c1 h=> ?_)<|fun c1 h=> ?_))))
 refine B0<|sv W<|A1<|B2 ?_
 cases h
 exact A6 (.inr W) (B6 (B3 W) C2) (.refl _)
 refine A8<|B0<|sq W<|sl W G_hit W<|C0 (.fn _ _ _) W W (bs h fun _ hv2 h=>A9 W (rD<|E6 (AS G1<|E6 (Bi (gq W)<|rD<|rD<|rD<|rD<|rD G1)<|E6 (Bi (gq W)<|rD G1) G1) G1) A3 (Hv _ _ _ _ hv2) (.inr W) (sv W<|A1<|B2 ?_))
 cases h
 exact A6 (.inr W) (B6 (B3 W) C2) (.refl _)
def Do [Lp](p1:Map)(p2:(List Int))(p3:Int):Option Int:=
  (Ib p1 p2 p3).bind fun v1=>cond (decide (v1≥0)) ((C1 p2 v1).bind fun v2=>some v2) (some (-1))
theorem Sm(p1 p2 p3 r)(h:Do p1 p2 p3=some r):PCall prog 175 [(.agg (P7 p1)),(.list (List.map A4 p2)),(i64 p3)] (i64 r):=by
 refine C4 (fk func175 ntmps175 m0 (by with_unfolding_all rfl)) (nl W) ?_
 unfold Do at h
 refine B4 (s0:=⟨T [(0,(.d _)),(1,(.d _)),(2,(.d _))],G []⟩) (F2 W W) ?_
 refine B0<|sm W<|sv W<|A1<|A5<|B0<|sd W (B1 W G_hit W W)<|sv W<|sv W<|bs h fun _ hv1 h=>A9 W W A3 (KG _ _ _ _ hv1) (.inl W) (sv W<|A1<|B0<|sv W<|sv W<|A1<|cc W h (fun c1 h=> ?_)<|fun c1 h=> ?_)
 refine B0<|sv W<|sv W<|bs h fun _ hv2 h=>sd W (C5 W W hv2 W)<|sd W (C9 W hv2 W)<|sv W<|A1<|B2 ?_
 cases h
 exact A6 (.inr W) (B6 (B3 W) C2) (.refl _)
 refine A8<|B0<|sv W<|A1<|B2 ?_
 cases h
 exact A6 (.inr W) (B6 (B3 W) C2) (.refl _)
def Ma [Lp](p1:Map)(p2:Int):Option Bool:=
  ((cond ((decide (p2≥0))&& (decide (p2< (p1.Lanes.length:Int)))) (Cf p1) (some default))).bind fun v1=>some (((decide (p2≥0))&& (decide (p2< (p1.Lanes.length:Int))))&& (v1==0))
theorem Yy(p1 p2 r)(h:Ma p1 p2=some r):PCall prog 206 [(.agg (P7 p1)),(i64 p2)] (bo r):=by
 refine C4 (fk func206 ntmps206 m0 (by with_unfolding_all rfl)) (nl W) ?_
 unfold Ma at h
 refine B4 (s0:=⟨T [(0,(.d _)),(1,(.d _))],G []⟩) (F2 W W) ?_
 refine B0<|sm W<|sv W<|A1<|B0<|sv W<|sv W<|sv W<|gt W (fun _=>W)<|gp W (M3 W) (fun _=>W) (gt W (vl W G_hit W)<|gt W (fun w4=>(D7<|A2 w4))<|gt W (fun w5=>(M7 (A2 w5) (A2 w5) W))<|sa W W W<|sv W<|gt W (fun _=>(B1 W G_hit W W))<|bs h fun v1 hv1 h=> ?_)
 refine N6 _ (i64 v1) (M3 W) (fun w7=>⟨_,[(.d (.agg (P7 p1)))],_,_,(by simp only [A2 w7];rfl),W,A3,Sj _ _<|B9 w7 hv1,(.inl W)⟩) ?_
 refine gt W (vb W W W)<|sa W W W<|sv W<|A1<|B2 ?_
 cases h
 exact A6 (.inr W) (B6 (B3 W) C2) (.refl _)
def U8 [Lp](p1:Signal)(p2:Int)(x2:(Int×Int)):Option (Stp (Int×Int) (Sum Unit Bool)):=
  cond (decide (x2.2< (p1.Phases.length:Int))) ((C1 p1.Phases x2.2).bind fun v5=>cond (decide (x2.1≥v5.Ticks)) (some (.go ((D3 (x2.1 - v5.Ticks)),(D3 (x2.2+1))))) ((N4 v5.Green p2).bind fun v6=>some (.out (.inr v6)))) (some (.out (.inl ())))
def Ci (p1:Signal)(x1:(Int×Int)):Option (Stp (Int×Int) Int):=
  cond (decide (x1.2< (p1.Phases.length:Int))) ((C1 p1.Phases x1.2).bind fun v1=>some (.go ((D3 (x1.1+v1.Ticks)),(D3 (x1.2+1))))) (some (.out x1.1))
def Fk [Lp](p1:Signal)(p2:Int)(p3:Int):Option Bool:=
  (loop (Ci p1) (0,0)).bind fun y1=>(Vq p1.Offset y1).bind fun v2=>(Vq p3 y1).bind fun v3=>(Vq (D3 (v2+v3)) y1).bind fun v4=>thenS (loop (U8 p1 p2) (v4,0)) (fun _=>some false) (fun r=>some r)
theorem Yz(p1 p2 p3 r)(h:Fk p1 p2 p3=some r):PCall prog 248 [(.agg [(i64 p1.Offset),(.list (List.map Bb p1.Phases))]),(i64 p2),(i64 p3)] (bo r):=by
 refine C4 (fk func248 ntmps248 m0 (by with_unfolding_all rfl)) (nl W) ?_
 unfold Fk at h
 refine B4 (s0:=⟨T [(0,(.d _)),(1,(.d _)),(2,(.d _))],G []⟩) (F2 W W) ?_
 refine lr<|fun u1 _=>sm W<|sv W<|A1<|jV<|B0<|sv W<|A1<|A5<|B0<|sq W<|sl W G_hit W<|sd W (D7 W)<|sv W<|A1<|bs h fun y1 hy1 h=>D9 (fun s=> ∃g1:Unit,Sb ⟨T [(1,(di p2)),(2,(di p3)),(3,(.ptr (3,u1) 0)),(7,(di y1))],G [((3,u1),some<|.box 120 [(di p1.Offset),(dl Bb p1.Phases)])]⟩ s) ?_ ?_
 refine A7<|E4 (Ci p1) (fun (x1:(Int×Int)) (g2:Unit)=>⟨T [(1,(di p2)),(2,(di p3)),(3,(.ptr (3,u1) 0)),(7,(di x1.1)),(14,(dl Bb p1.Phases)),(15,(di (p1.Phases.length:Int))),(16,(di x1.2))],G [((3,u1),some<|.box 120 [(di p1.Offset),(dl Bb p1.Phases)])]⟩) (0,0) () _ hy1 (F2 W W) ?_
 intro x1 g2 z1 hz1 ez1
 unfold Ci at hz1
 refine B0<|sv W<|A1<|A5<|cc W hz1 (fun c1 hz1=> ?_)<|fun c1 hz1=> ?_
 refine A8<|A5<|A7<|B0<|bs hz1 fun v1 hv1 hz1=>sd W (C5 W W hv1 W)<|sd W (D4 W hv1 W W)<|sm W<|U0 W G_hit [(di v1.Ticks),(dl A4 v1.Green)] W (A1<|B7<|sv W<|sq W<|sl W G_hit W<|sv W<|sv W<|A1<|E3<|B7<|sv W<|sv W<|A1<|E2 ?_)
 cases hz1
 exact ⟨W,(),(F2 W W)⟩
 refine C8 W ?_
 cases hz1
 obtain rfl:=ez1 _ rfl
 refine ⟨nofun,C6 W<|U4 ?_⟩
 exact ⟨(),(F2 W W)⟩
 rintro _ ⟨g1,q1⟩
 refine B4 q1<|A5<|E7 W<|sq W<|sl W G_hit W<|sv W<|bs h fun _ hv2 h=>sd W (AT W W hv2)<|sv W<|sv W<|bs h fun _ hv3 h=>sd W (AT W W hv3)<|sv W<|sv W<|bs h fun v4 hv4 h=>sd W (AT W W hv4)<|sv W<|A1<|A5<|A8<|A5<|B0<|sq W<|sl W G_hit W<|sd W (D7 W)<|sv W<|A1<|js h fun z2 hz2 h=>D9 (fun s=> ∃(y2:Unit) (g3:Unit),z2= .inl y2∧Sb ⟨T [],G []⟩ s) ?_ ?_
 refine A7<|E4 (U8 p1 p2) (fun (x2:(Int×Int)) (g4:Unit)=>⟨T [(1,(di p2)),(10,(di x2.1)),(36,(dl Bb p1.Phases)),(37,(di (p1.Phases.length:Int))),(38,(di x2.2))],G []⟩) (v4,0) () _ hz2 (F2 W W) ?_
 intro x2 g4 z3 hz3 ez3
 unfold U8 at hz3
 refine B0<|sv W<|A1<|A5<|cc W hz3 (fun c2 hz3=> ?_)<|fun c2 hz3=> ?_
 refine A8<|A5<|A7<|B0<|bs hz3 fun v5 hv5 hz3=>sd W (C5 W W hv5 W)<|sd W (D4 W hv5 W W)<|sm W<|U0 W G_hit [(di v5.Ticks),(dl A4 v5.Green)] W (A1<|A5<|B0<|sv W<|sq W<|sl W G_hit W<|sv W<|A1<|cc W hz3 (fun c3 hz3=> ?_)<|fun c3 hz3=> ?_)
 refine B0<|sv W<|sq W<|sl W G_hit W<|sv W<|sv W<|A1<|Pa W<|B7<|sv W<|sv W<|A1<|E2 ?_
 cases hz3
 exact ⟨W,(),(F2 W W)⟩
 refine A8<|B0<|sq W<|sl W G_hit W<|sv W<|bs hz3 fun _ hv6 hz3=>A9 W W A3 (Eb _ _ _ hv6) (.inl W) (sv W<|A1<|B2 ?_)
 cases hz3
 obtain rfl:=ez3 _ rfl
 refine ⟨nofun,F4 ?_⟩
 rw [wE]at h
 cases h
 exact A6 (.inr W) (B6 (B3 W) C2) (.refl _)
 refine C8 W ?_
 cases hz3
 obtain rfl:=ez3 _ rfl
 refine ⟨nofun,C6 W<|U4 ?_⟩
 exact ⟨_,(),W,(F2 W W)⟩
 rintro _ ⟨y2,g3,rfl,q2⟩
 rw [wD]at h
 refine B4 q2<|B0<|sv W<|A1<|B2 ?_
 cases h
 exact A6 (.inr W) (B6 (B3 W) C2) (.refl _)
def Ic [Lp](p1:Map)(p2:Int)(p3:Int)(p4:Int):Option Bool:=
  ((cond (((decide (p4≥0))&& (decide (p2≥0)))&& (decide (p2< (p1.Signals.length:Int)))) (Ma p1 p3) (some default))).bind fun v1=>((cond ((((decide (p4≥0))&& (decide (p2≥0)))&& (decide (p2< (p1.Signals.length:Int))))&&v1) (C1 p1.Signals p2) (some default))).bind fun v2=>((cond ((((decide (p4≥0))&& (decide (p2≥0)))&& (decide (p2< (p1.Signals.length:Int))))&&v1) (Fk v2 p3 p4) (some default))).bind fun v3=>some (((((decide (p4≥0))&& (decide (p2≥0)))&& (decide (p2< (p1.Signals.length:Int))))&&v1)&&v3)
theorem KH(p1 p2 p3 p4 r)(h:Ic p1 p2 p3 p4=some r):PCall prog 219 [(.agg (P7 p1)),(i64 p2),(i64 p3),(i64 p4)] (bo r):=by
 refine C4 (fk func219 ntmps219 m0 (by with_unfolding_all rfl)) (nl W) ?_
 unfold Ic at h
 refine B4 (s0:=⟨T [(0,(.d _)),(1,(.d _)),(2,(.d _)),(3,(.d _))],G []⟩) (F2 W W) ?_
 refine B0<|sm W<|sv W<|A1<|B0<|sv W<|sv W<|sv W<|gt W (fun _=>W)<|gt W (vb W W W)<|sa W W W<|sv W<|gt W (fun _=>W)<|gp W (M3 W) (fun _=>W) (gt W (vl W G_hit W)<|gt W (fun w6=>(D7<|A2 w6))<|gt W (fun w7=>(M7 (A2 w7) (A2 w7) W))<|sa W W W<|sv W<|gt W (fun _=>(B1 W G_hit W W))<|gt W (fun _=>W)<|bs h fun v1 hv1 h=> ?_)
 refine N6 _ (bo v1) (M3 W) (fun w10=>⟨_,[(.d (.agg (P7 p1))),(di p3)],_,_,(by simp only [A2 w10];rfl),W,A3,Yy _ _ _<|B9 w10 hv1,(.inl W)⟩) ?_
 refine sa W W W<|sv W<|gp W (M3 W) (fun _=>W) (gt W (vl W G_hit W)<|gt W (fun _=>W)<|bs h fun v2 hv2 h=>gt W (fun w14=>(C5 (A2 w14) (A2 w14) (B9 w14 hv2) W))<|gt W (fun w15=>(D4 (A2 w15) (B9 w15 hv2) W W))<|gt W (fun _=>W)<|gt W (fun _=>W)<|bs h fun v3 hv3 h=> ?_)
 refine N6 _ (bo v3) (M3 W) (fun w18=>⟨_,[(.d (.agg [(i64 v2.Offset),(.list (List.map Bb v2.Phases))])),(di p3),(di p4)],_,_,(by simp only [A2 w18];rfl),W,A3,Yz _ _ _ _<|B9 w18 hv3,(.inl W)⟩) ?_
 refine sa W W W<|sv W<|A1<|B2 ?_
 cases h
 exact A6 (.inr W) (B6 (B3 W) C2) (.refl _)
def Nz (p1:Part)(p2:Int):Option Bool:=
  some (p1.Lane_==p2)
theorem EK(p1 p2 r)(h:Nz p1 p2=some r):PCall prog 221 [(.agg (Bf p1)),(.bp [(i64 p2)] 0)] (bo r):=by
 refine C4 (fk func221 ntmps221 m0 (by with_unfolding_all rfl)) (nl W) ?_
 unfold Nz at h
 refine B4 (s0:=⟨T [(0,(.d _)),(1,(.d _))],G []⟩) (F2 W W) ?_
 refine B0<|sm W<|sv W<|A1<|B0<|sq W<|sl W G_hit W<|sv W<|sv W<|sv W<|A1<|B2 ?_
 cases h
 exact A6 (.inr W) (B6 (B3 W) C2) (.refl _)
def M5 (p1:(List Part))(p2:Int)(x1:Int):Option (Stp Int (Sum Unit Int)):=
  cond (decide (x1< (p1.length:Int))) ((C1 p1 x1).bind fun v1=>(Nz v1 p2).bind fun v2=>cond v2 (some (.out (.inr x1))) (some (.go (D3 (x1+1))))) (some (.out (.inl ())))
def I9 [Lp](p1:(List Part))(p2:Int):Option Int:=
  thenS (loop (M5 p1 p2) 0) (fun _=>some (-1)) (fun r=>some r)
theorem Hy(p1 p2 r)(h:I9 p1 p2=some r):PCall prog 220 [(.list (List.map Bf p1)),(.fn (.func 221) [] [(.bp [(i64 p2)] 0)])] (i64 r):=by
 refine C4 (fk func220 ntmps220 m0 (by with_unfolding_all rfl)) (nl W) ?_
 unfold I9 at h
 refine B4 (s0:=⟨T [(0,(.d _)),(1,(.d _))],G []⟩) (F2 W W) ?_
 refine B0<|sv W<|A1<|A5<|B0<|sv W<|sd W (D7 W)<|sv W<|A1<|js h fun z1 hz1 h=>D9 (fun s=> ∃(y1:Unit) (g1:Unit),z1= .inl y1∧Sb ⟨T [],G []⟩ s) ?_ ?_
 refine A7<|E4 (M5 p1 p2) (fun (x1:Int) (g2:Unit)=>⟨T [(0,(dl Bf p1)),(1,(.d (.fn (.func 221) [] [(.bp [(i64 p2)] 0)]))),(7,(di (p1.length:Int))),(8,(di x1))],G []⟩) 0 () _ hz1 (F2 W W) ?_
 intro x1 g2 z2 hz2 ez2
 unfold M5 at hz2
 refine B0<|sv W<|A1<|A5<|cc W hz2 (fun c1 hz2=> ?_)<|fun c1 hz2=> ?_
 refine A8<|A5<|A7<|B0<|sv W<|sv W<|A1<|B0<|sv W<|sv W<|sv W<|bs hz2 fun _ hv1 hz2=>sd W (C5 W W hv1 W)<|sd W (D4 W hv1 W W)<|bs hz2 fun _ hv2 hz2=>A9 W W A3 (EK _ _ _ hv2) (.inl W) (A1<|cc W hz2 (fun c2 hz2=> ?_)<|fun c2 hz2=> ?_)
 refine B0<|sv W<|sv W<|A1<|B2 ?_
 cases hz2
 obtain rfl:=ez2 _ rfl
 refine ⟨nofun,F4 ?_⟩
 rw [wE]at h
 cases h
 exact A6 (.inr W) (B6 (B3 W) C2) (.refl _)
 refine A8<|E3<|B7<|sv W<|sv W<|A1<|E2 ?_
 cases hz2
 exact ⟨W,(),(F2 W W)⟩
 refine C8 W ?_
 cases hz2
 obtain rfl:=ez2 _ rfl
 refine ⟨nofun,C6 W<|U4 ?_⟩
 exact ⟨_,(),W,(F2 W W)⟩
 rintro _ ⟨y1,g1,rfl,q1⟩
 rw [wD]at h
 refine B4 q1<|B0<|sv W<|A1<|B2 ?_
 cases h
 exact A6 (.inr W) (B6 (B3 W) C2) (.refl _)
def Gc [Lp](p1:Map)(p2:Agent)(p3:Int)(p4:Int):Option Int:=
  (Do p1 p2.Route p3).bind fun v1=>cond (decide (v1<0)) (some 0) ((C1 p1.Zones p3).bind fun v2=>((cond (decide (v2.Signal_>0)) (Ic p1 (D3 (v2.Signal_ - 1)) v1 p4) (some default))).bind fun v3=>cond ((decide (v2.Signal_>0))&&v3) (some 2) (cond (decide (v2.Signal_>0)) (some 0) ((I9 v2.Parts v1).bind fun v4=>(C1 v2.Parts v4).bind fun v5=>some v5.Rank)))
theorem BD(p1 p2 p3 p4 r)(h:Gc p1 p2 p3 p4=some r):PCall prog 173 [(.agg (P7 p1)),(.agg (D0 p2)),(i64 p3),(i64 p4)] (i64 r):=by
 refine C4 (fk func173 ntmps173 m0 (by with_unfolding_all rfl)) (nl W) ?_
 unfold Gc at h
 refine B4 (s0:=⟨T [(0,(.d _)),(1,(.d _)),(2,(.d _)),(3,(.d _))],G []⟩) (F2 W W) ?_
 refine B0<|sm W<|sn W W<|sv W<|A1<|B0<|sd W (B1 W (gq W) W W)<|sq W<|sl W G_hit W<|sv W<|bs h fun v1 hv1 h=>A9 W W A3 (Sm _ _ _ _ hv1) (.inl W) (sm W<|U0 W G_hit [(di v1)] W (A1<|A5<|B0<|sl W G_hit W<|sv W<|A1<|cc W h (fun c1 h=> ?_)<|fun c1 h=> ?_))
 refine B0<|sv W<|A1<|B2 ?_
 cases h
 exact A6 (.inr W) (B6 (B3 W) C2) (.refl _)
 refine A8<|B0<|sq W<|sl W (gq W) W (sv W<|bs h fun v2 hv2 h=>sd W (C5 W W hv2 W)<|sd W (D4 W hv2 W W)<|sm W<|U0 W G_hit [(dl Bf v2.Parts),(di v2.Signal_)] W (A1<|A5<|A7<|B0<|sq W<|sl W G_hit W<|sv W<|sv W<|gt W (fun _=>(B1 W (gq W) W W))<|gp W (M3 W) (fun _=>W) (gt W (vl W G_hit W)<|gt W (vb W W W)<|gt W (fun _=>(Q8 W (gq W) W))<|gt W (fun _=>W)<|bs h fun v3 hv3 h=> ?_)))
 refine N6 _ (bo v3) (M3 W) (fun w7=>⟨_,[(.d (.agg (P7 p1))),(di<|D3 (v2.Signal_ - 1)),(di v1),(di p4)],_,_,(by simp only [A2 w7];rfl),W,A3,KH _ _ _ _ _<|B9 w7 hv3,(.inl W)⟩) ?_
 refine sa W W W<|sv W<|A1<|cc W h (fun c2 h=> ?_)<|fun c2 h=> ?_
 refine B0<|sv W<|A1<|B2 ?_
 cases h
 exact A6 (.inr W) (B6 (B3 W) C2) (.refl _)
 refine B0<|sq W<|sl W G_hit W<|sv W<|sv W<|A1<|cc W h (fun c3 h=> ?_)<|fun c3 h=> ?_
 refine B0<|sv W<|A1<|B2 ?_
 cases h
 exact A6 (.inr W) (B6 (B3 W) C2) (.refl _)
 refine A8<|E3<|A5<|E7 W<|sq W<|sl W G_hit W<|sq W<|sl W G_hit W<|C0 (.fn _ _ _) W W (bs h fun _ hv4 h=>A9 W (rD<|E6 (AS G1<|E6 (Bi (gq W)<|rD G1) G1) G1) A3 (Hy _ _ _ hv4) (.inr W) (bs h fun _ hv5 h=>sd W (C5 W W hv5 W)<|sv W<|sd W (C9 W hv5 W)<|sv W<|A1<|B2 ?_))
 cases h
 exact A6 (.inr W) (B6 (B3 W) C2) (.refl _)
def X3 [Lp](p1:WorldScene)(x1:(Int× (List Stay)))(v1:Agent)(x2:(Int× (List Stay))):Option (Stp (Int× (List Stay)) (List Stay)):=
  cond (decide (x2.1< (p1.m.Zones.length:Int))) ((N7 (WorldScene.mk p1.m p1.before (State.mk p1.after.Tick p1.after.Agents x2.2) p1.acts p1.crashes) x1.1 x2.1).bind fun v2=>cond (!v2) (some (.go ((D3 (x2.1+1)),x2.2))) ((D2 p1.before.In (Stay.mk x1.1 x2.1 p1.before.Tick 0)).bind fun v3=>(cond v3.2 ((C1 p1.before.In v3.1).bind fun v4=>some v4) ((Gc p1.m v1 x2.1 p1.before.Tick).bind fun v5=>some (Stay.mk x1.1 x2.1 p1.before.Tick v5))).bind fun y2=>(X6 x2.2 [y2]).bind fun v6=>some (.go ((D3 (x2.1+1)),v6)))) (some (.out x2.2))
def X4 [Lp](p1:WorldScene)(x1:(Int× (List Stay))):Option (Stp (Int× (List Stay)) WorldScene):=
  cond (decide (x1.1< (p1.before.Agents.length:Int))) ((C1 p1.before.Agents x1.1).bind fun v1=>(loop (X3 p1 x1 v1) (0,x1.2)).bind fun y1=>some (.go ((D3 (x1.1+1)),y1))) (some (.out ((WorldScene.mk p1.m p1.before (State.mk p1.after.Tick p1.after.Agents x1.2) p1.acts p1.crashes))))
def At [Lp](p1:WorldScene):Option WorldScene:=
  loop (X4 p1) (0,[])
theorem Vy(p1 r)(h:At p1=some r):MCall prog 80 [(.ptr (900000,0) 0)] [(.box 135 (W4 p1))] (.d (.tup [])) [some (.box 135 (W4 r))] []:=by
 refine Vt (fk func80 ntmps80 (fun r=>if r==13 then [1007]else []) (by with_unfolding_all rfl)) W (nl W) ?_
 unfold At at h
 refine B4 (s0:=⟨T [(0,(.ptr _ _))],G [((900000,0),some<|.box 135 _)]⟩) (F2 W W) ?_
 refine B0<|sq W<|sp W W<|sq W<|sp W W<|U0 W G_hit ((W4 p1).set 10 (.d .nilS)) W (A1<|B0<|sq W<|sp W W<|sq W<|sp W W<|sl W G_hit W<|sd W (D7 W)<|sv W<|A1<|A7<|E4 (X4 p1) (fun (x1:(Int× (List Stay))) (g1:Nat)=>⟨T [(0,(.ptr (900000,0) 0)),(16,(dl D0 p1.before.Agents)),(17,(di (p1.before.Agents.length:Int))),(18,(di x1.1))],G [((900000,0),some<|.box 135 ((W4 p1).set 10 (oS x1.2 (85,g1)))),((85,g1),oB 127 4 J7 x1.2)]⟩) (0,[]) 0 _ h (E0 (Z7 W)<|B5 G_hit (.of W)<|S5 trivial) ?_)
 intro x1 g1 z1 hz1 ez1
 unfold X4 at hz1
 refine B0<|sv W<|A1<|A5<|cc W hz1 (fun c1 hz1=> ?_)<|fun c1 hz1=> ?_
 refine A8<|A5<|A7<|lr<|fun u4 _=>sv W<|bs hz1 fun v1 hv1 hz1=>sd W (C5 W W hv1 W)<|sd W (D4 W hv1 W W)<|sm W<|sv W<|U0 W G_hit (T0 v1) W (A1<|B0<|sq W<|sp W W<|sq W<|sp W W<|sl W (gq W) W (sd W (D7 W)<|sv W<|A1<|bs hz1 fun y1 hy1 hz1=>D9 (fun s=> ∃g2:Nat,Sb ⟨T [(0,(.ptr (900000,0) 0)),(16,(dl D0 p1.before.Agents)),(17,(di (p1.before.Agents.length:Int))),(18,(di x1.1))],G [((900000,0),some<|.box 135 ((W4 p1).set 10 (oS y1 (85,g2)))),((85,g2),oB 127 4 J7 y1)]⟩ s) ?_ ?_))
 refine A7<|E4 (X3 p1 x1 v1) (fun (x2:(Int× (List Stay))) (g3:Nat)=>⟨T [(0,(.ptr (900000,0) 0)),(2,(di x1.1)),(3,(.ptr (3,u4) 0)),(16,(dl D0 p1.before.Agents)),(17,(di (p1.before.Agents.length:Int))),(18,(di x1.1)),(28,(di (p1.m.Zones.length:Int))),(29,(di x2.1))],G [((900000,0),some<|.box 135 ((W4 p1).set 10 (oS x2.2 (85,g3)))),((3,u4),some<|.box 45 (T0 v1)),((85,g3),oB 127 4 J7 x2.2)]⟩) (0,x1.2) g1 _ hy1 (E0 (Z7 W)<|sg W<|B5 G_hit (.of W)<|B8 (gq W) trivial) ?_
 intro x2 g3 z2 hz2 ez2
 unfold X3 at hz2
 refine B0<|sv W<|A1<|A5<|cc W hz2 (fun c2 hz2=> ?_)<|fun c2 hz2=> ?_
 refine A8<|A5<|A7<|B0<|sv W<|sv W<|A1<|A5<|B0<|sq W<|sv W<|sv W<|bs hz2 fun v2 hv2 hz2=>A9 W (E6 (Bi G_hit<|rD<|rD<|rD<|rD<|rD<|rD<|rD<|rD<|rD<|rD<|E6 (T9<|gq W)<|rD<|rD G1)<|rD<|rD G1) (.cons (DLe.bp<|ca W<|ca W<|ca W<|ca W<|ca W<|ca W<|ca W<|ca W<|ca W<|ca W<|.cons ⟨T8,W⟩ (cz W)) (.cons (.refl _) A3)) (Bv _ _ _ _ hv2) (.inr W) (C0 (.d (bo (!v2))) W W (A1<|cc W hz2 (fun c3 hz2=> ?_)<|fun c3 hz2=> ?_))
 refine Pa W<|B7<|sv W<|sv W<|A1<|E2 ?_
 cases hz2
 exact ⟨W,g3,(E0 (Z7 W)<|B5 G_hit (.of W)<|sg W<|B8 (gq W) trivial)⟩
 refine A8<|lr<|fun u10 _=>sv W<|sv W<|sq W<|sp W W<|sq W<|sp W W<|sl W G_hit W<|sv W<|sm W<|U0 W G_hit [(di x1.1),(di x2.1),(di p1.before.Tick),(di 0)] W (A1<|A5<|A5<|E7 W<|sq W<|sq W<|sp W W<|sq W<|sl W (gq W) W (sd W (B1 W G_hit W W)<|bs hz2 fun _ hv3 hz2=>A9 W W A3 (P1 _ _ _ hv3) (.inl W) (sv W<|sv W<|sv W<|sv W<|sv W<|A1<|B0<|sv W<|A1<|bs hz2 fun y2 hy2 hz2=>D9 (fun s=> ∃g4:Unit,Sb ⟨T [(0,(.ptr (900000,0) 0)),(2,(di x1.1)),(3,(.ptr (3,u4) 0)),(5,(.ptr (5,u10) 0)),(16,(dl D0 p1.before.Agents)),(17,(di (p1.before.Agents.length:Int))),(18,(di x1.1)),(28,(di (p1.m.Zones.length:Int))),(29,(di x2.1))],G [((900000,0),some<|.box 135 ((W4 p1).set 10 (oS x2.2 (85,g3)))),((3,u4),some<|.box 45 (T0 v1)),((5,u10),some<|.box 127 (Wx y2)),((85,g3),oB 127 4 J7 x2.2)]⟩ s) ?_ ?_)))
 refine cc W hy2 (fun c4 hy2=> ?_)<|fun c4 hy2=> ?_
 refine B7<|sq W<|sq W<|sp W W<|sq W<|sl W (gq W) W (sv W<|bs hy2 fun v4 hv4 hy2=>sd W (C5 W W hv4 W)<|sd W (D4 W hv4 W W)<|U0 W G_hit (Wx v4) W (A1 ?_))
 obtain rfl:=(lD hy2)
 exact U4 ⟨(),(E0 (Z7 W)<|sg W<|sg W<|B5 G_hit (.of W)<|B8 (gq W) trivial)⟩
 refine E7 W<|sq W<|sq W<|sp W W<|sd W (B1 W (gq W) W W)<|sd W (B1 W (gq W) W W)<|sv W<|sq W<|sp W W<|sq W<|sp W W<|sl W (gq W) W (bs hy2 fun v5 hv5 hy2=>A9 W W A3 (BD _ _ _ _ _ hv5) (.inl W) (sq W<|U0 W G_hit [(di x1.1),(di x2.1),(di p1.before.Tick),(di v5)] W (A1 ?_)))
 cases hy2
 exact U4 ⟨(),(E0 (Z7 W)<|sg W<|sg W<|B5 G_hit (.of W)<|B8 (gq W) trivial)⟩
 rintro _ ⟨g4,q1⟩
 refine B4 q1<|Nr W fun u15 _=>sq W<|sq W<|sp W W<|sq W<|sp W W<|C0 (oS x2.2 (85,g3)) W (Q8 W G_hit W) (sd W (B1 W (gq W) W W)<|C0 (dl J7 [y2]) W W (bs hz2 fun _ hv6 hz2=>Q3 J7 (85,g3) x2.2 y2 [] _ (K7<|fun _=>W) W (gq W) hv6 (sq W<|sp W W<|sq W<|U0 W (gq W) ((W4 p1).set 10 (.sl (85,u15))) W (A1<|E3<|B7<|sv W<|sv W<|A1<|E2 ?_))))
 cases hz2
 exact ⟨W,u15,(E0 (Z7 W)<|B5 G_hit (.box (cv<|cv<|cv<|cv<|cv<|cv<|cv<|cv<|cv<|cv<|.cons (.of (V1<|V4 hv6).symm) cw))<|sg W<|N8 (gq W) trivial)⟩
 refine C8 W ?_
 cases hz2
 obtain rfl:=ez2 _ rfl
 refine ⟨nofun,C6 W<|U4 ?_⟩
 exact ⟨g3,(E0 (Z7 W)<|B5 G_hit (.of W)<|B8 (gq W) trivial)⟩
 rintro _ ⟨g2,q2⟩
 refine E3<|B4 q2<|B7<|sv W<|sv W<|A1<|E2 ?_
 cases hz1
 exact ⟨W,g2,(E0 (Z7 W)<|B5 G_hit (.of W)<|B8 (gq W) trivial)⟩
 refine C8 W ?_
 cases hz1
 obtain rfl:=ez1 _ rfl
 refine ⟨nofun,C6 W<|E2 ?_⟩
 exact CE (.inl W) [(85,g1)] CF (.refl _) ⟨⟨_,_,_,G_hit,(ZS W Fx),(rD<|rD<|rD<|rD<|rD<|rD<|rD<|rD<|rD<|rD<|E6 (T9<|KD (.head _)<|gq W)<|rD<|rD G1),(.cons (.refl _) (.cons (.refl _) (.cons (.refl _) (.cons (.refl _) (.cons (.refl _) (.cons (.refl _) (.cons (.refl _) (.cons (.refl _) (.cons (.refl _) (.cons (.refl _) (.cons T8 (.cons (.refl _) A3)))))))))))),W⟩,trivial⟩
def Za (s:State)(i:Nat):Nat→Nat→Option (List (Int×Int))
  |0,_=>some []
  |k+1,j=>(Ia s i).bind fun a=>(Ia s j).bind fun b=>(Za s i k (j+1)).bind fun l=>some (cond (a&&b) (((i:Int),(j:Int))::l) l)
def CM (s:State)(n:Nat):Nat→Nat→Option (List (Int×Int))
  |0,_=>some []
  |k+1,i=>(Za s i (n - (i+1)) (i+1)).bind fun a=>(CM s n k (i+1)).bind fun b=>some (a++b)
def FY (s:State):Option (List (Int×Int)):=if s.Agents.length≤1000000 then CM s s.Agents.length s.Agents.length 0 else none
abbrev KI (a:Int×Int):List D:= [i64 a.1,i64 a.2]
def Vz (kb ks:F7)(s:State)(h:E5):Prop:=h kb=some (.box 133 [.ptr ks 0])∧∃c0 c1 c2 c3 c4 c8 c9 c10 c11 c12,h ks=some (.box 135 [c0,c1,c2,c3,c4, .d (i64 s.Tick), .d (.list (List.map D0 s.Agents)), .d (.list (List.map J7 s.In)),c8,c9,c10,c11,c12])
theorem KJ {s:State}{L:List (Int×Int)}(h:FY s=some L)(kb ks:F7):nF prog (.fn (.func 174) [] [.ptr kb 0]) (Vz kb ks s) (L.map KI):=by
  unfold FY at h
  split at h
  case isFalse=>cases h
  rename_i hlen
  refine ⟨174,[],[.ptr kb 0],W,?_⟩
  intro k h0 Inv Stop hi0 hcan hy
  refine JU (fk func174 ntmps174 (fun r=>if r==6 then [18]else []) (by with_unfolding_all rfl)) (by simp) (jU ?_)
  obtain ⟨g0,S0,i0,c0⟩:=hcan 0 h0 hi0
  have hLm:(L.map KI).length=L.length:=lS ..
  rw [hLm]
  refine B4 (s0:=⟨T [(0, .yld k),(1, .ptr kb 0)],g0⟩) ⟨fun i=> ?_,S0.h⟩ ?_
  ·match i with
   |0=>exact .refl _
   |1=>exact .refl _
   |n+2=>exact .any _
  have c0':=c0
  obtain ⟨e1,a0,a1,a2,a3,a4,a8,a9,a10,a11,a12,e2⟩:=c0'
  refine A5 ?_
  refine Uc fun u hu=> ?_
  refine G5 (.ptr ks 0) W (Q8 W e1 W) ?_
  refine G5 (.ptr ks 0) W W ?_
  refine G5 (.ptr ks 5) W W ?_
  refine G5 (.ptr ks 6) W W ?_
  refine G5 (.d (.list (List.map D0 s.Agents))) W (Q8 W e2 W) ?_
  refine G5 (.d (i64 s.Agents.length)) W (D7 (f:=D0) W) ?_
  refine G5 (.d (i64 0)) W W ?_
  refine Bh ?_
  refine A7 ?_
  refine YF (α:=Nat×Nat×E5) (fun x=>⟨T [(0, .yld k),(1, .ptr kb 0),(10, .d (i64 s.Agents.length)),(11, .d (i64 (x.1:Int)))],x.2.2⟩) (fun x=>s.Agents.length - x.1)
    (fun x=>Inv x.2.1 x.2.2∧Vz kb ks s x.2.2∧x.1≤s.Agents.length∧x.2.1≤L.length∧CM s s.Agents.length (s.Agents.length - x.1) x.1=some (L.drop x.2.1)) (0,0,g0) ⟨i0,c0,wI _,wI _,h⟩ (Yh ⟨rfl,rfl,rfl,rfl,trivial⟩ fun _ _ h=>h) ?_
  rintro ⟨i,pos,hh⟩ ⟨hinv,hrq,hi,hpos,hgo⟩
  dsimp only at hinv hrq hi hpos hgo ⊢
  refine A5 ?_
  refine Uc fun u hu=> ?_
  refine G5 (.d (bo<|decide ((i:Int)< (s.Agents.length:Int)))) W W ?_
  refine Bh ?_
  refine A5 ?_
  refine VO (decide ((i:Int)< (s.Agents.length:Int))) W (fun hlt=> ?_) (fun hlt=> ?_)
  ·refine A8 ?_
   have hlt:i<s.Agents.length:=by simpa using hlt
   have hw1: ∀n:Nat,n≤1000000→IntKind.i64.wrap ((n:Int)+1)=((n+1:Nat):Int):=fun n _=>(Go.IntWalk.i64_in _ (by omega)).trans (by omega)
   obtain ⟨m,hm⟩: ∃m,s.Agents.length - i=m+1:=⟨s.Agents.length - i - 1,by omega⟩
   rw [hm,CM]at hgo
   obtain ⟨l1,hl1,hgo⟩:=bind_some hgo
   obtain ⟨l2,hl2,hgo⟩:=bind_some hgo
   have hgo:l1++l2=L.drop pos:=lD hgo
   refine A5 ?_
   refine A7 ?_
   refine A5 ?_
   refine Uc fun u hu=> ?_
   refine G5 (.d (i64 i)) W W ?_
   refine G5 (.d (i64 i)) W W ?_
   refine Bh ?_
   refine A5 ?_
   refine Uc fun u hu=> ?_
   refine G5 (.d (i64 i)) W W ?_
   refine G5 (.d (i64 ((i+1:Nat):Int))) W (by rw [← hw1 i (by omega)];rfl) ?_
   refine G5 (.d (i64 ((i+1:Nat):Int))) W W ?_
   refine Bh ?_
   refine A7 ?_
   refine YF (α:=Nat×Nat×E5) (fun x=>⟨T [(0, .yld k),(1, .ptr kb 0),(3, .d (i64 (i:Int))),(4, .d (i64 (x.1:Int))),(10, .d (i64 s.Agents.length)),(11, .d (i64 (i:Int)))],x.2.2⟩) (fun x=>s.Agents.length - x.1)
     (fun x=>Inv x.2.1 x.2.2∧Vz kb ks s x.2.2∧x.1≤s.Agents.length∧x.2.1≤L.length∧∃l,Za s i (s.Agents.length - x.1) x.1=some l∧l++l2=L.drop x.2.1) (i+1,pos,hh) ⟨hinv,hrq,hlt,hpos,l1,hl1,hgo⟩ (Yh ⟨rfl,rfl,rfl,rfl,rfl,rfl,trivial⟩ fun _ _ h=>h) ?_
   rintro ⟨j,pos,hh⟩ ⟨hinv,hrq,hj,hpos,l,hl,hgo⟩
   dsimp only at hinv hrq hj hpos hl hgo ⊢
   have hrq':=hrq
   obtain ⟨e1,a0,a1,a2,a3,a4,a8,a9,a10,a11,a12,e2⟩:=hrq'
   refine A5 ?_
   refine A5 ?_
   refine Uc fun u hu=> ?_
   refine G5 (.d (i64 j)) W W ?_
   refine G5 (.ptr ks 0) W (Q8 W e1 W) ?_
   refine G5 (.ptr ks 0) W W ?_
   refine G5 (.ptr ks 5) W W ?_
   refine G5 (.ptr ks 6) W W ?_
   refine G5 (.d (.list (List.map D0 s.Agents))) W (Q8 W e2 W) ?_
   refine G5 (.d (i64 s.Agents.length)) W (D7 (f:=D0) W) ?_
   refine G5 (.d (bo<|decide ((j:Int)< (s.Agents.length:Int)))) W W ?_
   refine Bh ?_
   refine VO (decide ((j:Int)< (s.Agents.length:Int))) W (fun hjl=> ?_) (fun hjl=> ?_)
   ·refine A8 ?_
    have hjl:j<s.Agents.length:=by simpa using hjl
    obtain ⟨m',hm'⟩: ∃m',s.Agents.length - j=m'+1:=⟨s.Agents.length - j - 1,by omega⟩
    rw [hm',Za]at hl
    obtain ⟨a,ha,hl⟩:=bind_some hl
    obtain ⟨b,hb,hl⟩:=bind_some hl
    obtain ⟨l',hl',hl⟩:=bind_some hl
    have hl:cond (a&&b) (((i:Int),(j:Int))::l') l'=l:=lD hl
    have hm1:s.Agents.length - (j+1)=m':=by omega
    -- what a round leaves
    have hend: ∀(p':Nat) (h':E5),Inv p' h'→Vz kb ks s h'→p'≤L.length→l'++l2=L.drop p'→∃y:Nat×Nat×E5,(Inv y.2.1 y.2.2∧Vz kb ks s y.2.2∧y.1≤s.Agents.length∧y.2.1≤L.length∧∃l,Za s i (s.Agents.length - y.1) y.1=some l∧l++l2=L.drop y.2.1)∧s.Agents.length - y.1<s.Agents.length - j∧y=(j+1,p',h'):=fun p' h' q1 q2 q3 q4=>⟨(j+1,p',h'),⟨q1,q2,hjl,q3,l',by dsimp only;rw [hm1];exact hl',q4⟩,by dsimp only;omega,rfl⟩
    refine A5 ?_
    refine A7 ?_
    refine A5 ?_
    refine Uc fun u hu=> ?_
    refine G5 (.ptr ks 0) W (Q8 W e1 W) ?_
    refine G5 (.ptr ks 0) W W ?_
    refine G5 (.ptr ks 5) W W ?_
    refine G5 (.d (.agg [i64 s.Tick, .list (List.map D0 s.Agents), .list (List.map J7 s.In)])) W (B1 W e2 W W) ?_
    refine G5 (.d (i64 i)) W W ?_
    refine Zu W W (Nx s i _ ha) (.inl W) ?_
    refine G5 (.d (bo a)) W W ?_
    cases a with
    |false=>
     iterate 6 (refine VV rfl rfl ?_)
     refine G5 (.d (bo false)) W W ?_
     refine G5 (.d (bo false)) W W ?_
     iterate 5 (refine VV rfl rfl ?_)
     refine G5 (.d (bo false)) W W ?_
     refine Bh ?_
     refine Tm W<|A8<|E3 ?_
     refine Uc fun u hu=> ?_
     refine G5 (.d (i64 j)) W W ?_
     refine G5 (.d (i64 ((j+1:Nat):Int))) W (by rw [← hw1 j (by omega)];rfl) ?_
     refine G5 (.d (i64 ((j+1:Nat):Int))) W W ?_
     refine Bh ?_
     obtain ⟨y,y1,y2,rfl⟩:=hend pos hh hinv hrq hpos (by rw [← hgo,← hl];rfl)
     exact E2 ⟨_,y1,y2,Yh ⟨W,W,W,W,W,W,trivial⟩ fun _ _ h=>h⟩
    |true=>
     refine Ww W ?_
     refine G5 (.ptr ks 0) W (Q8 W e1 W) ?_
     refine Ww W ?_
     refine G5 (.ptr ks 0) W W ?_
     refine Ww W ?_
     refine G5 (.ptr ks 5) W W ?_
     refine Ww W ?_
     refine G5 (.d (.agg [i64 s.Tick, .list (List.map D0 s.Agents), .list (List.map J7 s.In)])) W (B1 W e2 W W) ?_
     refine Ww W ?_
     refine G5 (.d (i64 j)) W W ?_
     refine Ww W ?_
     refine Zu W W (Nx s j _ hb) (.inl W) ?_
     refine G5 (.d (bo b)) W W ?_
     refine G5 (.d (bo b)) W W ?_
     cases b with
     |false=>
      iterate 5 (refine VV rfl rfl ?_)
      refine G5 (.d (bo false)) W W ?_
      refine Bh ?_
      refine Tm W<|A8<|E3 ?_
      refine Uc fun u hu=> ?_
      refine G5 (.d (i64 j)) W W ?_
      refine G5 (.d (i64 ((j+1:Nat):Int))) W (by rw [← hw1 j (by omega)];rfl) ?_
      refine G5 (.d (i64 ((j+1:Nat):Int))) W W ?_
      refine Bh ?_
      obtain ⟨y,y1,y2,rfl⟩:=hend pos hh hinv hrq hpos (by rw [← hgo,← hl];rfl)
      exact E2 ⟨_,y1,y2,Yh ⟨W,W,W,W,W,W,trivial⟩ fun _ _ h=>h⟩
     |true=>
      have hcons:((i:Int),(j:Int))::(l'++l2)=L.drop pos:=by rw [← hgo,← hl];rfl
      have hLi:(L.map KI)[pos]? =some (KI ((i:Int),(j:Int))):=by
        have:=congrArg (fun z=>z[0]?) hcons
        rw [lK]
        simp at this
        rw [← this];rfl
      have hLd:L.drop (pos+1)=l'++l2:=by
        have:=congrArg (fun z=>z.drop 1) hcons
        simpa using this.symm
      have hplt:pos+1≤L.length:=by
        have:=congrArg List.length hcons
        simp at this
        omega
      refine Ww W ?_
      refine G5 (.yld k) W W ?_
      refine Ww W ?_
      refine G5 (.d (i64 i)) W W ?_
      refine Ww W ?_
      refine G5 (.d (i64 j)) W W ?_
      refine Ww W ?_
      refine ZY k ((KI ((i:Int),(j:Int))).map .d) W W ?_
      refine (hy pos hh _ hLi hinv).mono ?_
      rintro v' h' (⟨rfl,hin⟩|⟨rfl,hst⟩)
      ·obtain ⟨h1,S1,i1,q1⟩:=hcan _ _ hin
       refine ⟨h1,S1,fun u4 hu4=> ?_⟩
       refine Ww W ?_
       refine G5 (.d (bo false)) W W ?_
       refine G5 (.d (bo false)) W W ?_
       refine Bh ?_
       refine Tm W<|A8<|E3 ?_
       refine Uc fun u hu=> ?_
       refine G5 (.d (i64 j)) W W ?_
       refine G5 (.d (i64 ((j+1:Nat):Int))) W (by rw [← hw1 j (by omega)];rfl) ?_
       refine G5 (.d (i64 ((j+1:Nat):Int))) W W ?_
       refine Bh ?_
       obtain ⟨y,y1,y2,rfl⟩:=hend (pos+1) h1 i1 q1 hplt hLd.symm
       exact E2 ⟨_,y1,y2,Yh ⟨W,W,W,W,W,W,trivial⟩ fun _ _ h=>h⟩
      ·refine ⟨h',Sb.refl _,fun u4 hu4=> ?_⟩
       refine Ww W ?_
       refine G5 (.d (bo true)) W W ?_
       refine G5 (.d (bo true)) W W ?_
       refine Bh ?_
       refine Zv W ?_
       refine B2<|F4<|F4 ?_
       exact ⟨Or.inr W,AV.tup [],W,Or.inr hst⟩
   ·refine C8 rfl ?_
    have hjn:j=s.Agents.length:=by
      have: ¬((j:Int)< (s.Agents.length:Int)):=by simpa using hjl
      omega
    subst hjn
    rw [Nat.sub_self,Za]at hl
    cases hl
    refine C6 (r':= [.b 1, .c _]) W (E3 ?_)
    refine Uc fun u hu=> ?_
    refine G5 (.d (i64 ((i+1:Nat):Int))) W (by rw [← hw1 i (by omega)];rfl) ?_
    refine G5 (.d (i64 ((i+1:Nat):Int))) W W ?_
    refine Bh ?_
    refine E2 ⟨(i+1,pos,hh),⟨hinv,hrq,hlt,hpos,?_⟩,by dsimp only;omega,Yh ⟨rfl,rfl,rfl,rfl,trivial⟩ fun _ _ h=>h⟩
    dsimp only
    rw [show s.Agents.length - (i+1)=m by omega,hl2]
    exact congrArg some hgo
  ·refine C8 rfl ?_
   have hin:i=s.Agents.length:=by
     have: ¬((i:Int)< (s.Agents.length:Int)):=by simpa using hlt
     omega
   subst hin
   rw [Nat.sub_self,CM]at hgo
   have h1:L.drop pos= []:=(lD hgo).symm
   have h2:=List.drop_eq_nil_iff.1 h1
   have h3:pos=L.length:=by omega
   subst h3
   refine C6 (r':= []) W (E2 ?_)
   exact ⟨.inl W,AV.tup [],W, .inl hinv⟩
def Y8 (p1:WorldSpan)(p2:Int):Option WorldSpan:=
  some (WorldSpan.mk (D3 (p1.from_ - p2)) (D3 (p1.to - p2)))
theorem Io(p1 p2 r)(h:Y8 p1 p2=some r):PCall prog 141 [(.agg [(i64 p1.from_),(i64 p1.to)]),(i64 p2)] (.agg [(i64 r.from_),(i64 r.to)]):=by
 refine C4 (fk func141 ntmps141 m0 (by with_unfolding_all rfl)) (nl W) ?_
 unfold Y8 at h
 refine B4 (s0:=⟨T [(0,(.d _)),(1,(.d _))],G []⟩) (F2 W W) ?_
 refine B0<|sm W<|sn W W<|A1<|B0<|sq W<|sl W (gq W) W (sv W<|sv W<|sq W<|sl W (gq W) W (sv W<|sv W<|sv W<|U0 W G_hit [(di<|D3 (p1.from_ - p2)),(di<|D3 (p1.to - p2))] W (A1<|B2 ?_)))
 cases h
 exact A6 (.inr W) (B6 (K2 W G_hit (nl W) W) C2) (.refl _)
def Bw [Lp](p1:Map)(p2:Int):Option Int:=
  (Ma p1 p2).bind fun v1=>cond (!v1) (some 0) ((Cx p1 p2).bind fun v2=>some v2)
theorem Qu(p1 p2 r)(h:Bw p1 p2=some r):PCall prog 143 [(.agg (P7 p1)),(i64 p2)] (i64 r):=by
 refine C4 (fk func143 ntmps143 m0 (by with_unfolding_all rfl)) (nl W) ?_
 unfold Bw at h
 refine B4 (s0:=⟨T [(0,(.d _)),(1,(.d _))],G []⟩) (F2 W W) ?_
 refine B0<|sm W<|sv W<|A1<|A5<|B0<|sd W (B1 W G_hit W W)<|sv W<|bs h fun v1 hv1 h=>A9 W W A3 (Yy _ _ _ hv1) (.inl W) (C0 (.d (bo (!v1))) W W (A1<|cc W h (fun c1 h=> ?_)<|fun c1 h=> ?_))
 refine B0<|sv W<|A1<|B2 ?_
 cases h
 exact A6 (.inr W) (B6 (B3 W) C2) (.refl _)
 refine A8<|B0<|sd W (B1 W G_hit W W)<|sv W<|bs h fun _ hv2 h=>A9 W W A3 (Pt _ _ _ hv2) (.inl W) (sv W<|A1<|B2 ?_)
 cases h
 exact A6 (.inr W) (B6 (B3 W) C2) (.refl _)
def He (p1:WorldSpan)(p2:WorldSpan):Option WorldSpan:=
  some (WorldSpan.mk (Mp true p1.from_ p2.from_) (Mp false p1.to p2.to))
theorem Tt(p1 p2 r)(h:He p1 p2=some r):PCall prog 142 [(.agg [(i64 p1.from_),(i64 p1.to)]),(.agg [(i64 p2.from_),(i64 p2.to)])] (.agg [(i64 r.from_),(i64 r.to)]):=by
 refine C4 (fk func142 ntmps142 m0 (by with_unfolding_all rfl)) (nl W) ?_
 unfold He at h
 refine B4 (s0:=⟨T [(0,(.d _)),(1,(.d _))],G []⟩) (F2 W W) ?_
 refine B0<|sm W<|sn W W<|sm W<|A1<|B0<|sq W<|sl W (gq W) W (sq W<|sl W (gq W) W (sv W<|sq W<|sl W (gq W) W (sq W<|sl W (gq W) W (sv W<|sv W<|U0 W G_hit [(di<|Mp true p1.from_ p2.from_),(di<|Mp false p1.to p2.to)] W (A1<|B2 ?_)))))
 cases h
 exact A6 (.inr W) (B6 (K2 W G_hit (nl W) W) C2) (.refl _)
def Dv (p1:WorldSpan):Option Bool:=
  some (decide (p1.from_>p1.to))
theorem Re(p1 r)(h:Dv p1=some r):PCall prog 144 [(.agg [(i64 p1.from_),(i64 p1.to)])] (bo r):=by
 refine C4 (fk func144 ntmps144 m0 (by with_unfolding_all rfl)) (nl W) ?_
 unfold Dv at h
 refine B4 (s0:=⟨T [(0,(.d _))],G []⟩) (F2 W W) ?_
 refine B0<|sm W<|sv W<|A1<|B0<|sq W<|sl W G_hit W<|sq W<|sl W G_hit W<|sv W<|sv W<|A1<|B2 ?_
 cases h
 exact A6 (.inr W) (B6 (B3 W) C2) (.refl _)
def Bx [Lp](p1:Map)(p2:Agent)(v2:(List Int))(x1:((List Span)×Int)):Option (Stp ((List Span)×Int) (List Span)):=
  cond (decide (x1.2< (v2.length:Int))) ((C1 v2 x1.2).bind fun v3=>(C1 p2.Route x1.2).bind fun v4=>(Ag p2).bind fun v5=>(Y8 v5 v3).bind fun v6=>(Bw p1 v4).bind fun v7=>(He v6 (WorldSpan.mk 0 v7)).bind fun v8=>(Dv v8).bind fun v9=>cond (!v9) ((X6 x1.1 [(Span.mk v4 v8.from_ v8.to)]).bind fun v10=>some (.go (v10,(D3 (x1.2+1))))) (some (.go (x1.1,(D3 (x1.2+1)))))) (some (.out x1.1))
def Ip [Lp](p1:Map)(p2:Agent):Option (List Span):=
  (Mr p2).bind fun v1=>cond (!v1) (some []) ((Bu p1 p2.Route).bind fun v2=>(loop (Bx p1 p2 v2) ([],0)).bind fun y1=>some y1)
theorem BE(p1 p2 r)(h:Ip p1 p2=some r):PCall prog 67 [(.agg (P7 p1)),(.agg (D0 p2))] (.list (List.map Dc r)):=by
 refine C4 (fk func67 ntmps67 (fun r=>if r==10 then [1007]else []) (by with_unfolding_all rfl)) (nl W) ?_
 unfold Ip at h
 refine B4 (s0:=⟨T [(0,(.d _)),(1,(.d _))],G []⟩) (F2 W W) ?_
 refine lr<|fun u1 _=>sm W<|sm W<|sv W<|A1<|A5<|B0<|sd W (B1 W G_hit W W)<|bs h fun v1 hv1 h=>A9 W W A3 (Uf _ _ hv1) (.inl W) (C0 (.d (bo (!v1))) W W (A1<|cc W h (fun c1 h=> ?_)<|fun c1 h=> ?_))
 refine B0<|sv W<|A1<|B2 ?_
 cases h
 exact A6 (.inr W) (B6 (B3 W) C2) DLe.nil
 refine A8<|B0<|sv W<|A1<|A5<|B0<|sd W (B1 W (gq W) W W)<|sq W<|sl W G_hit W<|bs h fun v2 hv2 h=>A9 W W A3 (Qt _ _ _ hv2) (.inl W) (sd W (D7 W)<|sv W<|A1<|bs h fun y1 hy1 h=>D9 (fun s=> ∃g1:Nat,Sb ⟨T [(5,(oS y1 (48,g1)))],G [((48,g1),oB 93 3 Dc y1)]⟩ s) ?_ ?_)
 refine A7<|E4 (Bx p1 p2 v2) (fun (x1:((List Span)×Int)) (g2:Nat)=>⟨T [(2,(.ptr (2,u1) 0)),(3,(.ptr (3,u1) 0)),(5,(oS x1.1 (48,g2))),(16,(dl A4 v2)),(17,(di (v2.length:Int))),(18,(di x1.2))],G [((2,u1),some<|.box 33 (L4 p1)),((3,u1),some<|.box 45 (T0 p2)),((48,g2),oB 93 3 Dc x1.1)]⟩) ([],0) 0 _ hy1 (E0 (Z7 W)<|sg W<|B5 G_hit (.of W)<|S5 trivial) ?_
 intro x1 g2 z1 hz1 ez1
 unfold Bx at hz1
 refine B0<|sv W<|A1<|A5<|cc W hz1 (fun c2 hz1=> ?_)<|fun c2 hz1=> ?_
 refine A8<|A5<|A7<|B0<|sv W<|bs hz1 fun _ hv3 hz1=>sd W (C5 W W hv3 W)<|sd W (C9 W hv3 W)<|sv W<|sv W<|A1<|B0<|sq W<|sl W (gq W) W (sv W<|bs hz1 fun v4 hv4 hz1=>sd W (C5 W W hv4 W)<|sd W (C9 W hv4 W)<|sv W<|A1<|A5<|E7 W<|sd W (B1 W (gq W) W W)<|bs hz1 fun _ hv5 hz1=>A9 W W A3 (Jq _ _ hv5) (.inl W) (sv W<|bs hz1 fun _ hv6 hz1=>A9 W W A3 (Io _ _ _ hv6) (.inl W) (sd W (B1 W G_hit W W)<|sv W<|bs hz1 fun _ hv7 hz1=>A9 W W A3 (Qu _ _ _ hv7) (.inl W) (sv W<|bs hz1 fun v8 hv8 hz1=>A9 W W A3 (Tt _ _ _ hv8) (.inl W) (sm W<|U0 W G_hit [(di v8.from_),(di v8.to)] W (A1<|B0<|sd W (B1 W G_hit W W)<|bs hz1 fun v9 hv9 hz1=>A9 W W A3 (Re _ _ hv9) (.inl W) (C0 (.d (bo (!v9))) W W (A1<|cc W hz1 (fun c3 hz1=> ?_)<|fun c3 hz1=> ?_))))))))
 refine Br fun u11 _=>C0 (oS x1.1 (48,g2)) W W (sv W<|sq W<|sl W G_hit W<|sq W<|sl W G_hit W<|sv W<|C0 (dl Dc [(Span.mk v4 v8.from_ v8.to)]) W W (bs hz1 fun _ hv10 hz1=>Q3 Dc (48,g2) x1.1 (Span.mk v4 v8.from_ v8.to) [] _ (K7<|fun _=>W) W (gq W) hv10 (ss W<|A1<|E3<|B7<|sv W<|sv W<|A1<|E2 ?_)))
 cases hz1
 exact ⟨W,u11,(E0 ⟨.of W, .of W,(.of (V1<|V4 hv10).symm), .of W, .of W, .of W,trivial⟩<|sg W<|sg W<|N8 G_hit trivial)⟩
 refine A8<|E3<|B7<|sv W<|sv W<|A1<|E2 ?_
 cases hz1
 exact ⟨W,g2,(E0 (Z7 W)<|sg W<|sg W<|B8 (gq W) trivial)⟩
 refine C8 W ?_
 cases hz1
 obtain rfl:=ez1 _ rfl
 refine ⟨nofun,C6 W<|U4 ?_⟩
 exact ⟨g2,(E0 ⟨.of W,trivial⟩<|B8 (gq W) trivial)⟩
 rintro _ ⟨g1,q1⟩
 refine B4 q1<|B0<|C0 (oS y1 (48,g1)) W W (C0 (oS y1 (48,g1)) W W (A1<|B2 ?_))
 cases h
 exact A6 (.inr W) (B6 (B3 W)<|T9 G_hit) T8
def Fl (p1:Span)(p2:Span):Option Bool:=
  ((cond (p2.Lane_==p1.Lane_) (He (WorldSpan.mk p2.From p2.To) (WorldSpan.mk p1.From p1.To)) (some default))).bind fun v1=>((cond (p2.Lane_==p1.Lane_) (Dv v1) (some default))).bind fun v2=>some ((p2.Lane_==p1.Lane_)&& (!v2))
theorem Uw(p1 p2 r)(h:Fl p1 p2=some r):PCall prog 147 [(.agg (Dc p1)),(.bp (Dc p2) 0)] (bo r):=by
 refine C4 (fk func147 ntmps147 m0 (by with_unfolding_all rfl)) (nl W) ?_
 unfold Fl at h
 refine B4 (s0:=⟨T [(0,(.d _)),(1,(.d _))],G []⟩) (F2 W W) ?_
 refine B0<|sm W<|sv W<|A1<|B0<|sv W<|sv W<|sq W<|sl W G_hit W<|sv W<|sv W<|gt W (fun _=>W) ?_
 refine gt W (fun w2=>(by simp only [A2 w2];rfl)) ?_
 refine gt W (fun _=>W) ?_
 refine gt W (fun w4=>(by simp only [A2 w4];rfl)) ?_
 refine gt W (fun w5=>(by simp only [A2 w5];rfl)) ?_
 refine gp W (M3 W) (fun _=>W) (gt W (vl W G_hit W)<|gp W (M3 W) (fun _=>W) (gt W (vl W G_hit W) ?_))
 refine gt W (fun w10=>(by simp only [A2 w10];rfl)) ?_
 refine bs h fun v1 hv1 h=> ?_
 refine N6 _ (.agg [(i64 v1.from_),(i64 v1.to)]) (M3 W) (fun w11=>⟨_,[(.d (.agg [(i64 p2.From),(i64 p2.To)])),(.d (.agg [(i64 p1.From),(i64 p1.To)]))],_,_,(by simp only [A2 w11];rfl),W,A3,Tt _ _ _<|B9 w11 hv1,(.inl W)⟩) ?_
 refine bs h fun v2 hv2 h=> ?_
 refine N6 _ (bo v2) (M3 W) (fun w12=>⟨_,[(.d (.agg [(i64 v1.from_),(i64 v1.to)]))],_,_,(by simp only [A2 w12];rfl),W,A3,Re _ _<|B9 w12 hv2,(.inl W)⟩) ?_
 refine M8 _ (.d (bo (!v2))) W (M3 W) (fun w13=>(by simp only [A2 w13];rfl)) ?_
 refine sa W W W<|sv W<|A1<|B2 ?_
 cases h
 exact A6 (.inr W) (B6 (B3 W) C2) (.refl _)
def K9 (p1:(List Span))(p2:Span)(x1:Int):Option (Stp Int (Sum Unit Int)):=
  cond (decide (x1< (p1.length:Int))) ((C1 p1 x1).bind fun v1=>(Fl v1 p2).bind fun v2=>cond v2 (some (.out (.inr x1))) (some (.go (D3 (x1+1))))) (some (.out (.inl ())))
def I0 [Lp](p1:(List Span))(p2:Span):Option Int:=
  thenS (loop (K9 p1 p2) 0) (fun _=>some (-1)) (fun r=>some r)
theorem En(p1 p2 r)(h:I0 p1 p2=some r):PCall prog 208 [(.list (List.map Dc p1)),(.fn (.func 147) [] [(.bp (Dc p2) 0)])] (i64 r):=by
 refine C4 (fk func208 ntmps208 m0 (by with_unfolding_all rfl)) (nl W) ?_
 unfold I0 at h
 refine B4 (s0:=⟨T [(0,(.d _)),(1,(.d _))],G []⟩) (F2 W W) ?_
 refine B0<|sv W<|A1<|A5<|B0<|sv W<|sd W (D7 W)<|sv W<|A1<|js h fun z1 hz1 h=>D9 (fun s=> ∃(y1:Unit) (g1:Unit),z1= .inl y1∧Sb ⟨T [],G []⟩ s) ?_ ?_
 refine A7<|E4 (K9 p1 p2) (fun (x1:Int) (g2:Unit)=>⟨T [(0,(dl Dc p1)),(1,(.d (.fn (.func 147) [] [(.bp (Dc p2) 0)]))),(7,(di (p1.length:Int))),(8,(di x1))],G []⟩) 0 () _ hz1 (F2 W W) ?_
 intro x1 g2 z2 hz2 ez2
 unfold K9 at hz2
 refine B0<|sv W<|A1<|A5<|cc W hz2 (fun c1 hz2=> ?_)<|fun c1 hz2=> ?_
 refine A8<|A5<|A7<|B0<|sv W<|sv W<|A1<|B0<|sv W<|sv W<|sv W<|bs hz2 fun _ hv1 hz2=>sd W (C5 W W hv1 W)<|sd W (D4 W hv1 W W)<|bs hz2 fun _ hv2 hz2=>A9 W W A3 (Uw _ _ _ hv2) (.inl W) (A1<|cc W hz2 (fun c2 hz2=> ?_)<|fun c2 hz2=> ?_)
 refine B0<|sv W<|sv W<|A1<|B2 ?_
 cases hz2
 obtain rfl:=ez2 _ rfl
 refine ⟨nofun,F4 ?_⟩
 rw [wE]at h
 cases h
 exact A6 (.inr W) (B6 (B3 W) C2) (.refl _)
 refine A8<|E3<|B7<|sv W<|sv W<|A1<|E2 ?_
 cases hz2
 exact ⟨W,(),(F2 W W)⟩
 refine C8 W ?_
 cases hz2
 obtain rfl:=ez2 _ rfl
 refine ⟨nofun,C6 W<|U4 ?_⟩
 exact ⟨_,(),W,(F2 W W)⟩
 rintro _ ⟨y1,g1,rfl,q1⟩
 rw [wD]at h
 refine B4 q1<|B0<|sv W<|A1<|B2 ?_
 cases h
 exact A6 (.inr W) (B6 (B3 W) C2) (.refl _)
def F6 [Lp](p1:(List Span))(p2:Span):Option Bool:=
  (I0 p1 p2).bind fun v1=>some (decide (v1≥0))
theorem Di(p1 p2 r)(h:F6 p1 p2=some r):PCall prog 145 [(.list (List.map Dc p1)),(.fn (.func 147) [] [(.bp (Dc p2) 0)])] (bo r):=by
 refine C4 (fk func145 ntmps145 m0 (by with_unfolding_all rfl)) (nl W) ?_
 unfold F6 at h
 refine B4 (s0:=⟨T [(0,(.d _)),(1,(.d _))],G []⟩) (F2 W W) ?_
 refine B0<|sv W<|A1<|B0<|sv W<|sv W<|bs h fun _ hv1 h=>A9 W W A3 (En _ _ _ hv1) (.inl W) (sv W<|sv W<|A1<|B2 ?_)
 cases h
 exact A6 (.inr W) (B6 (B3 W) C2) (.refl _)
def Z0 [Lp](p1:Span)(p2:(List Span)):Option Bool:=
  (F6 p2 p1).bind fun v1=>some v1
theorem Xn(p1 p2 r)(h:Z0 p1 p2=some r):PCall prog 146 [(.agg (Dc p1)),(.bp [(.list (List.map Dc p2))] 0)] (bo r):=by
 refine C4 (fk func146 ntmps146 m0 (by with_unfolding_all rfl)) (nl W) ?_
 unfold Z0 at h
 refine B4 (s0:=⟨T [(0,(.d _)),(1,(.d _))],G []⟩) (F2 W W) ?_
 refine B0<|sm W<|sv W<|A1<|B0<|sv W<|C0 (.fn _ _ _) W W (bs h fun _ hv1 h=>A9 W (rD<|E6 (AS G1<|E6 (Bi G_hit<|rD<|rD<|rD G1) G1) G1) A3 (Di _ _ _ hv1) (.inr W) (sv W<|A1<|B2 ?_))
 cases h
 exact A6 (.inr W) (B6 (B3 W) C2) (.refl _)
def G3 [Lp](p1:(List Span))(p2:(List Span))(x1:Int):Option (Stp Int (Sum Unit Int)):=
  cond (decide (x1< (p1.length:Int))) ((C1 p1 x1).bind fun v1=>(Z0 v1 p2).bind fun v2=>cond v2 (some (.out (.inr x1))) (some (.go (D3 (x1+1))))) (some (.out (.inl ())))
def J1 [Lp](p1:(List Span))(p2:(List Span)):Option Int:=
  thenS (loop (G3 p1 p2) 0) (fun _=>some (-1)) (fun r=>some r)
theorem Fm(p1 p2 r)(h:J1 p1 p2=some r):PCall prog 208 [(.list (List.map Dc p1)),(.fn (.func 146) [] [(.bp [(.list (List.map Dc p2))] 0)])] (i64 r):=by
 refine C4 (fk func208 ntmps208 m0 (by with_unfolding_all rfl)) (nl W) ?_
 unfold J1 at h
 refine B4 (s0:=⟨T [(0,(.d _)),(1,(.d _))],G []⟩) (F2 W W) ?_
 refine B0<|sv W<|A1<|A5<|B0<|sv W<|sd W (D7 W)<|sv W<|A1<|js h fun z1 hz1 h=>D9 (fun s=> ∃(y1:Unit) (g1:Unit),z1= .inl y1∧Sb ⟨T [],G []⟩ s) ?_ ?_
 refine A7<|E4 (G3 p1 p2) (fun (x1:Int) (g2:Unit)=>⟨T [(0,(dl Dc p1)),(1,(.d (.fn (.func 146) [] [(.bp [(.list (List.map Dc p2))] 0)]))),(7,(di (p1.length:Int))),(8,(di x1))],G []⟩) 0 () _ hz1 (F2 W W) ?_
 intro x1 g2 z2 hz2 ez2
 unfold G3 at hz2
 refine B0<|sv W<|A1<|A5<|cc W hz2 (fun c1 hz2=> ?_)<|fun c1 hz2=> ?_
 refine A8<|A5<|A7<|B0<|sv W<|sv W<|A1<|B0<|sv W<|sv W<|sv W<|bs hz2 fun _ hv1 hz2=>sd W (C5 W W hv1 W)<|sd W (D4 W hv1 W W)<|bs hz2 fun _ hv2 hz2=>A9 W W A3 (Xn _ _ _ hv2) (.inl W) (A1<|cc W hz2 (fun c2 hz2=> ?_)<|fun c2 hz2=> ?_)
 refine B0<|sv W<|sv W<|A1<|B2 ?_
 cases hz2
 obtain rfl:=ez2 _ rfl
 refine ⟨nofun,F4 ?_⟩
 rw [wE]at h
 cases h
 exact A6 (.inr W) (B6 (B3 W) C2) (.refl _)
 refine A8<|E3<|B7<|sv W<|sv W<|A1<|E2 ?_
 cases hz2
 exact ⟨W,(),(F2 W W)⟩
 refine C8 W ?_
 cases hz2
 obtain rfl:=ez2 _ rfl
 refine ⟨nofun,C6 W<|U4 ?_⟩
 exact ⟨_,(),W,(F2 W W)⟩
 rintro _ ⟨y1,g1,rfl,q1⟩
 rw [wD]at h
 refine B4 q1<|B0<|sv W<|A1<|B2 ?_
 cases h
 exact A6 (.inr W) (B6 (B3 W) C2) (.refl _)
def G4 [Lp](p1:(List Span))(p2:(List Span)):Option Bool:=
  (J1 p1 p2).bind fun v1=>some (decide (v1≥0))
theorem Ed(p1 p2 r)(h:G4 p1 p2=some r):PCall prog 145 [(.list (List.map Dc p1)),(.fn (.func 146) [] [(.bp [(.list (List.map Dc p2))] 0)])] (bo r):=by
 refine C4 (fk func145 ntmps145 m0 (by with_unfolding_all rfl)) (nl W) ?_
 unfold G4 at h
 refine B4 (s0:=⟨T [(0,(.d _)),(1,(.d _))],G []⟩) (F2 W W) ?_
 refine B0<|sv W<|A1<|B0<|sv W<|sv W<|bs h fun _ hv1 h=>A9 W W A3 (Fm _ _ _ hv1) (.inl W) (sv W<|sv W<|A1<|B2 ?_)
 cases h
 exact A6 (.inr W) (B6 (B3 W) C2) (.refl _)
def Cj [Lp](p1:Map)(p2:Agent)(p3:Agent):Option Bool:=
  (Ip p1 p3).bind fun v1=>(Ip p1 p2).bind fun v2=>(G4 v2 v1).bind fun v3=>some v3
theorem EL(p1 p2 p3 r)(h:Cj p1 p2 p3=some r):PCall prog 68 [(.agg (P7 p1)),(.agg (D0 p2)),(.agg (D0 p3))] (bo r):=by
 refine C4 (fk func68 ntmps68 m0 (by with_unfolding_all rfl)) (nl W) ?_
 unfold Cj at h
 refine B4 (s0:=⟨T [(0,(.d _)),(1,(.d _)),(2,(.d _))],G []⟩) (F2 W W) ?_
 refine B0<|sm W<|sn W W<|sm W<|sv W<|A1<|B0<|sd W (B1 W (gq W) W W)<|sd W (B1 W G_hit W W)<|bs h fun v1 hv1 h=>A9 W W A3 (BE _ _ _ hv1) (.inl W) (sm W<|U0 W G_hit [(dl Dc v1)] W (A1<|B0<|sd W (B1 W (gq W) W W)<|sd W (B1 W (gq W) W W)<|bs h fun _ hv2 h=>A9 W W A3 (BE _ _ _ hv2) (.inl W) (C0 (.fn _ _ _) W W (bs h fun _ hv3 h=>A9 W (rD<|E6 (AS G1<|E6 (Bi G_hit<|rD G1) G1) G1) A3 (Ed _ _ _ hv3) (.inr W) (sv W<|A1<|B2 ?_)))))
 cases h
 exact A6 (.inr W) (B6 (B3 W) C2) (.refl _)
def S7 [Lp](p1:WorldScene)(p2:Int)(p3:Int)(p4:Int):Option Bool:=
  (N7 p1 p2 p4).bind fun v1=>((cond v1 (N7 p1 p3 p4) (some default))).bind fun v2=>((cond (v1&&v2) (C1 p1.before.Agents p2) (some default))).bind fun v3=>((cond (v1&&v2) (Do p1.m v3.Route p4) (some default))).bind fun v4=>((cond (v1&&v2) (C1 p1.before.Agents p3) (some default))).bind fun v5=>((cond (v1&&v2) (Do p1.m v5.Route p4) (some default))).bind fun v6=>some ((v1&&v2)&& (v4 !=v6))
theorem Oa(p1 p2 p3 p4 r)(h:S7 p1 p2 p3 p4=some r):PCall prog 82 [(.bp (Qf p1) 0),(i64 p2),(i64 p3),(i64 p4)] (bo r):=by
 refine C4 (fk func82 ntmps82 m0 (by with_unfolding_all rfl)) (nl W) ?_
 unfold S7 at h
 refine B4 (s0:=⟨T [(0,(.d _)),(1,(.d _)),(2,(.d _)),(3,(.d _))],G []⟩) (F2 W W) ?_
 refine B0<|sv W<|A1<|A5<|E7 W<|sv W<|sv W<|sv W<|bs h fun v1 hv1 h=>A9 W W A3 (Bv _ _ _ _ hv1) (.inl W) (sv W<|gt W (fun _=>W)<|gt W (fun _=>W)<|gt W (fun _=>W)<|bs h fun v2 hv2 h=> ?_)
 refine N6 v1 (bo v2) (M3 W) (fun w4=>⟨_,[(.d (.bp (Qf p1) 0)),(di p3),(di p4)],_,_,(by simp only [A2 w4];rfl),W,A3,Bv _ _ _ _<|B9 w4 hv2,(.inl W)⟩) ?_
 refine sa W W W<|sv W<|gt W (fun _=>W) ?_
 refine gt W (fun w6=>(by simp only [A2 w6];rfl)) ?_
 refine gt W (fun w7=>(by simp only [A2 w7];rfl)) ?_
 refine gt W (fun w8=>(by simp only [A2 w8];rfl)) ?_
 refine gt W (fun _=>W) ?_
 refine gt W (fun w10=>(by simp only [A2 w10];rfl)) ?_
 refine gt W (fun w11=>(by simp only [A2 w11];rfl)) ?_
 refine gt W (fun w12=>(by simp only [A2 w12];rfl)) ?_
 refine gt W (fun w13=>(by simp only [A2 w13];rfl)) ?_
 refine gt W (fun _=>W)<|bs h fun v3 hv3 h=>gt W (fun w15=>(C5 (A2 w15) (A2 w15) (B9 w15 hv3) W)) ?_
 refine gt W (fun w16=>(by simp only [A2 w16];rfl)) ?_
 refine gt W (fun w17=>(C9 (A2 w17) (B9 w17 hv3) W))<|gt W (fun _=>W)<|bs h fun v4 hv4 h=> ?_
 refine N6 _ (i64 v4) (M3 W) (fun w19=>⟨_,[(.d (.agg (P7 p1.m))),(dl A4 v3.Route),(di p4)],_,_,(by simp only [A2 w19];rfl),W,A3,Sm _ _ _ _<|B9 w19 hv4,(.inl W)⟩) ?_
 refine gt W (fun _=>W) ?_
 refine gt W (fun w21=>(by simp only [A2 w21];rfl)) ?_
 refine gt W (fun w22=>(by simp only [A2 w22];rfl)) ?_
 refine gt W (fun w23=>(by simp only [A2 w23];rfl)) ?_
 refine gt W (fun _=>W) ?_
 refine gt W (fun w25=>(by simp only [A2 w25];rfl)) ?_
 refine gt W (fun w26=>(by simp only [A2 w26];rfl)) ?_
 refine gt W (fun w27=>(by simp only [A2 w27];rfl)) ?_
 refine gt W (fun w28=>(by simp only [A2 w28];rfl)) ?_
 refine gt W (fun _=>W)<|bs h fun v5 hv5 h=>gt W (fun w30=>(C5 (A2 w30) (A2 w30) (B9 w30 hv5) W)) ?_
 refine gt W (fun w31=>(by simp only [A2 w31];rfl)) ?_
 refine gt W (fun w32=>(C9 (A2 w32) (B9 w32 hv5) W))<|gt W (fun _=>W)<|bs h fun v6 hv6 h=> ?_
 refine N6 _ (i64 v6) (M3 W) (fun w34=>⟨_,[(.d (.agg (P7 p1.m))),(dl A4 v5.Route),(di p4)],_,_,(by simp only [A2 w34];rfl),W,A3,Sm _ _ _ _<|B9 w34 hv6,(.inl W)⟩) ?_
 refine gt W (fun w35=>(M7 (A2 w35) (A2 w35) W))<|sa W W W<|sv W<|A1<|B2 ?_
 cases h
 exact A6 (.inr W) (B6 (B3 W) C2) (.refl _)
def Lb [Lp](p1:Map)(v5:WorldScene)(a1:(Int×Int))(x2:Int):Option (Stp Int (Sum Unit (State×Int))):=
  cond (decide (x2< (p1.Zones.length:Int))) ((S7 v5 a1.1 a1.2 x2).bind fun v10=>cond v10 (some (.out (.inr ((State.mk 0 [] []),12)))) (some (.go (D3 (x2+1))))) (some (.out (.inl ())))
def Lc [Lp](p1:Map)(p2:(List Agent))(v5:WorldScene)(x1:Unit)(a1:(Int×Int)):Option (Stp Unit (Sum Unit (State×Int))):=
  (C1 p2 a1.1).bind fun v7=>(C1 p2 a1.2).bind fun v8=>(Cj p1 v7 v8).bind fun v9=>cond v9 (some (.out (.inr ((State.mk 0 [] []),12)))) (thenS (loop (Lb p1 v5 a1) 0) (fun _=>some (.go ())) (fun r=>some (.out (.inr r))))
def EM:Option Unit:=
  some ()
def Ru [Lp](p1:Map)(p2:(List Agent)):Option (State×Int):=
  (Ij (State.mk 0 p2 [])).bind fun v1=>(Dm p1 v1).bind fun v2=>cond (v2 !=0) (some ((State.mk 0 [] []),v2)) ((K8 p2).bind fun v3=>cond v3 (some ((State.mk 0 [] []),10)) ((Ij v1).bind fun v4=>(At (WorldScene.mk p1 v1 v4 [] [])).bind fun v5=>(EM).bind fun y1=>thenS ((FY v5.before).bind fun v6=>loopL (Lc p1 p2 v5) (fun (x1:Unit)=> .inl ()) v6 ()) (fun _=>some (v5.after,0)) (fun r=>some r)))
theorem PZ(p1 p2 r)(h:Ru p1 p2=some r):PCall prog 27 [(.agg (P7 p1)),(.list (List.map D0 p2))] (.tup [(.agg (Bc r.1)),(i64 r.2)]):=by
 refine C4 (fk func27 ntmps27 (fun r=>if r==8 then [1008001]else if r==9 then [1]else []) (by with_unfolding_all rfl)) (nl W) ?_
 unfold Ru at h
 refine B4 (s0:=⟨T [(0,(.d _)),(1,(.d _))],G []⟩) (F2 W W) ?_
 refine lr<|fun u1 _=>sm W<|sm W<|sn W W<|sm W<|A1<|B0<|sl W (gq W) W (sv W<|bs h fun v1 hv1 h=>A9 W W (.cons (.agg (ca W<|ca W<|.cons ⟨DLe.nil,W⟩ .nil)) .nil) (AY _ _ hv1) (.inl W) (sm W<|U0 W G_hit (J5 v1) W (A1<|A5<|B0<|sd W (B1 W (gq W) W W)<|sd W (B1 W G_hit W W)<|bs h fun v2 hv2 h=>A9 W W A3 (Sl _ _ _ hv2) (.inl W) (sv W<|A1<|B0<|sv W<|sv W<|A1<|cc W h (fun c1 h=> ?_)<|fun c1 h=> ?_))))
 refine B0<|sv W<|sv W<|U0 W (gq W) [(di 0),(.d .nilS),(.d .nilS)] W (U0 W (gq W) [(di v2)] W (A1<|B2 ?_))
 cases h
 exact A6 (.inr W) (Na (K2 W (gq W) (nl W) W) (Yi W G_hit W) C2 C2) (.tup (.cons (.agg (ca W<|.cons ⟨DLe.nil,W⟩ (.cons ⟨DLe.nil,W⟩ .nil))) A3))
 refine A8<|A5<|B0<|sl W (gq W) W (bs h fun _ hv3 h=>A9 W W A3 (Gb _ _ hv3) (.inl W) (A1<|cc W h (fun c2 h=> ?_)<|fun c2 h=> ?_))
 refine B0<|sv W<|U0 W (gq W) [(di 0),(.d .nilS),(.d .nilS)] W (U0 W (gq W) [(di 10)] W (A1<|B2 ?_))
 cases h
 exact A6 (.inr W) (Na (K2 W (gq W) (nl W) W) (Yi W G_hit W) C2 C2) (.tup (.cons (.agg (ca W<|.cons ⟨DLe.nil,W⟩ (.cons ⟨DLe.nil,W⟩ .nil))) A3))
 refine A8<|A5<|Nr W fun u8 _=>sd W (B1 W (gq W) W W)<|sd W (B1 W G_hit W W)<|sd W (B1 W G_hit W W)<|bs h fun _ hv4 h=>A9 W W A3 (AY _ _ hv4) (.inl W) (sv W<|sm W<|sn W W<|U0 W G_hit [(.ptr (30,u8) 0)] W (A1<|B0<|sp W (Q8 W G_hit W)<|bs h fun v5 hv5 h=>FS (v:= .d (.tup [])) (us:= [(30,u8)]) (MI (Vy _ _ hv5) [(30,u8)] [(30,u8)] _ (((30,u8),some<|.box 135 (W4 v5))::_) W Nt (Y6 (oJ (F5 W<|F5 W G_hit) W) Ub) (Kz (F5 W<|F5 W G_hit) Jc) ⟨⟨_,(F5 W<|F5 W G_hit), .box (.cons (.of W) (.cons (.of W) (.cons (.of W) (.cons (.of W) (.cons (.of W) (.cons (.of W) (.cons (.of W) (.cons (.of W) (.cons (.of W) (.cons (.of W) (.cons (.of W) (.cons (DLe.d DLe.nil) (.cons (DLe.d DLe.nil) .nil)))))))))))))⟩,trivial⟩ (fun _ h=>h) nd1 W W W) (A1<|A5<|B0<|sp W (Q8 W (gq W) W)<|bs h fun _ hy1 h=>CK (fk func81 ntmps81 m0 (by with_unfolding_all rfl)) (fun (g1:Nat)=> [(2,(.ptr (2,u1) 0)),(3,(.ptr (3,u1) 0)),(4,(.ptr (4,u1) 0)),(5,(.ptr (5,u1) 0)),(8,(.ptr (8,u8) 0)),(34,(.fn (.func 174) [] [(.ptr (1,g1) 0)]))]) (fun (g1:Nat)=> [((2,u1),some<|.box 33 (L4 p1)),((3,u1),some<|.box 22 [(dl D0 p2)]),((4,u1),some<|.box 25 [(di 0),(.d .nilS),(.d .nilS)]),((5,u1),some<|.box 36 [(di 0)]),((8,u8),some<|.box 133 [(.ptr (30,u8) 0)]),((30,u8),some<|.box 135 (W4 v5)),((1,g1),some<|.box 133 [(.ptr (30,u8) 0)])]) W (nl W) ?_ ?_)))
 unfold EM at hy1
 refine B4 (s0:=⟨T [(0,(.ptr _ _))],G [((30,u8),some<|.box 135 _),((2,u1),some<|.box 33 _),((3,u1),some<|.box 22 _),((4,u1),some<|.box 25 _),((5,u1),some<|.box 36 _),((8,u8),some<|.box 133 _)]⟩) (F2 W W) ?_
 refine lr<|fun u11 _=>sm W<|sv W<|A1<|B0<|C0 (.fn _ _ _) W W (C0 (.fn _ _ _) W W (A1<|B2 ?_))
 cases hy1
 exact PW (.inr W) (SF<|B3 W) u11 (Z7 W) (sg W<|sg W<|sg W<|sg W<|sg W<|sg W<|B5 G_hit (.of W) trivial)
 intro g1
 intro u13 hu13
 refine A1<|js h fun z1 hz1 h=>D9 (fun s=> ∃(y2:Unit) (g2:Unit),z1= .inl y2∧Sb ⟨T [(4,(.ptr (4,u1) 0)),(5,(.ptr (5,u1) 0)),(8,(.ptr (8,u8) 0))],G [((4,u1),some<|.box 25 [(di 0),(.d .nilS),(.d .nilS)]),((5,u1),some<|.box 36 [(di 0)]),((8,u8),some<|.box 133 [(.ptr (30,u8) 0)]),((30,u8),some<|.box 135 (W4 v5))]⟩ s) ?_ ?_
 refine A7<|bs hz1 fun v6 hv6 hz1=>B4 (s0:=⟨T [(2,(.ptr _ _)),(3,(.ptr _ _)),(4,(.ptr _ _)),(5,(.ptr _ _)),(8,(.ptr _ _)),(34,(.fn _ _ _))],G [((2,u1),some<|.box 33 _),((3,u1),some<|.box 22 _),((4,u1),some<|.box 25 _),((5,u1),some<|.box 36 _),((8,u8),some<|.box 133 _),((30,u8),some<|.box 135 _),((1,g1),some<|.box 133 _)]⟩) (F2 W W) ?_
 refine SM (.fn (.func 174) [] [(.ptr (1,g1) 0)]) (Vz (1,g1) (30,u8) v5.before) KI v6 (Lc p1 p2 v5) (fun (x1:Unit)=>(.inl ():Sum Unit (State×Int))) (fun (x1:Unit) (g3:Unit)=> [((2,u1),some<|.box 33 (L4 p1)),((3,u1),some<|.box 22 [(dl D0 p2)]),((4,u1),some<|.box 25 [(di 0),(.d .nilS),(.d .nilS)]),((5,u1),some<|.box 36 [(di 0)]),((8,u8),some<|.box 133 [(.ptr (30,u8) 0)]),((1,g1),some<|.box 133 [(.ptr (30,u8) 0)]),((30,u8),some<|.box 135 (W4 v5))]) () () _ W (KJ hv6 _ _) (fun x1 g3 _ _=>⟨F5 W<|gq W,_,_,_,_,_,_,_,_,_,_,F5 W<|gq W⟩) (fun _=>W) hz1 (F2 W W) nofun ?_ ?_
 intro u15 hu15 hku15
 refine ⟨fun x1 g3=>(F5 W<|F5 W<|F5 W<|F5 W<|F5 W<|F5 W<|F5 W W),?_⟩
 intro r1 x1 g3 a1 z2 hrr1 hz2 ez2
 unfold Lc at hz2
 show De _ _ _ _ _ _ ⟨T [(36,(di a1.2)),(35,(di a1.1)),(2,(.ptr (2,u1) 0)),(3,(.ptr (3,u1) 0)),(4,(.ptr (4,u1) 0)),(5,(.ptr (5,u1) 0)),(8,(.ptr (8,u8) 0)),(34,(.fn (.func 174) [] [(.ptr (1,g1) 0)]))],G [((1000000,u15),some (.obj (T [(2,(.ptr (2,u1) 0)),(3,(.ptr (3,u1) 0)),(4,(.ptr (4,u1) 0)),(5,(.ptr (5,u1) 0)),(8,(.ptr (8,u8) 0)),(34,(.fn (.func 174) [] [(.ptr (1,g1) 0)]))]) r1)),((2,u1),some (.box 33 (L4 p1))),((3,u1),some (.box 22 [(dl D0 p2)])),((4,u1),some (.box 25 [(di 0),(.d .nilS),(.d .nilS)])),((5,u1),some (.box 36 [(di 0)])),((8,u8),some (.box 133 [(.ptr (30,u8) 0)])),((1,g1),some (.box 133 [(.ptr (30,u8) 0)])),((30,u8),some (.box 135 (W4 v5)))]⟩
 refine B0<|sv W<|A1<|B7<|sv W<|A1<|U4<|VR G_hit ?_
 refine A7<|A5<|A5<|E7 W<|sd W (B1 W (gq W) W W)<|sl W (gq W) W (sv W<|bs hz2 fun _ hv7 hz2=>sd W (C5 W W hv7 W)<|sd W (D4 W hv7 W W)<|sl W (gq W) W (sv W<|bs hz2 fun _ hv8 hz2=>sd W (C5 W W hv8 W)<|sd W (D4 W hv8 W W)<|bs hz2 fun _ hv9 hz2=>A9 W W A3 (EL _ _ _ _ hv9) (.inl W) (A1<|cc W hz2 (fun c3 hz2=> ?_)<|fun c3 hz2=> ?_)))
 refine B0<|sv W<|U0 W (gq W) [(di 0),(.d .nilS),(.d .nilS)] W (U0 W (gq W) [(di 12)] W (A1<|B2 ?_))
 cases hz2
 obtain rfl:=ez2 _ rfl
 refine XS (gq W) nofun (F4 ?_)
 rw [wE]at h
 cases h
 exact A6 (.inr W) (Na (K2 W (gq W) (nl W) W) (Yi W (gq W) W) C2 C2) (.tup (.cons (.agg (ca W<|.cons ⟨DLe.nil,W⟩ (.cons ⟨DLe.nil,W⟩ .nil))) A3))
 refine A8<|B0<|sq W<|sl W (gq W) W (sd W (D7 W)<|sv W<|A1<|js hz2 fun z3 hz3 hz2=>D9 (fun s=> ∃(y3:Unit) (g4:Unit),z3= .inl y3∧Sb ⟨T [],G [((2,u1),some<|.box 33 (L4 p1)),((3,u1),some<|.box 22 [(dl D0 p2)]),((4,u1),some<|.box 25 [(di 0),(.d .nilS),(.d .nilS)]),((5,u1),some<|.box 36 [(di 0)]),((8,u8),some<|.box 133 [(.ptr (30,u8) 0)]),((1,g1),some<|.box 133 [(.ptr (30,u8) 0)]),((1000000,u15),some<|.obj (T [(2,(.ptr (2,u1) 0)),(3,(.ptr (3,u1) 0)),(4,(.ptr (4,u1) 0)),(5,(.ptr (5,u1) 0)),(8,(.ptr (8,u8) 0)),(34,(.fn (.func 174) [] [(.ptr (1,g1) 0)]))]) {r1 with state:= .busy}),((30,u8),some<|.box 135 (W4 v5))]⟩ s) ?_ ?_)
 refine A7<|E4 (Lb p1 v5 a1) (fun (x2:Int) (g5:Unit)=>⟨T [(4,(.ptr (4,u1) 0)),(5,(.ptr (5,u1) 0)),(8,(.ptr (8,u8) 0)),(9,(di a1.1)),(10,(di a1.2)),(50,(di (p1.Zones.length:Int))),(51,(di x2))],G [((4,u1),some<|.box 25 [(di 0),(.d .nilS),(.d .nilS)]),((5,u1),some<|.box 36 [(di 0)]),((8,u8),some<|.box 133 [(.ptr (30,u8) 0)]),((2,u1),some<|.box 33 (L4 p1)),((3,u1),some<|.box 22 [(dl D0 p2)]),((1,g1),some<|.box 133 [(.ptr (30,u8) 0)]),((1000000,u15),some<|.obj (T [(2,(.ptr (2,u1) 0)),(3,(.ptr (3,u1) 0)),(4,(.ptr (4,u1) 0)),(5,(.ptr (5,u1) 0)),(8,(.ptr (8,u8) 0)),(34,(.fn (.func 174) [] [(.ptr (1,g1) 0)]))]) {r1 with state:= .busy}),((30,u8),some<|.box 135 (W4 v5))]⟩) 0 () _ hz3 (F2 W W) ?_
 intro x2 g5 z4 hz4 ez4
 unfold Lb at hz4
 refine B0<|sv W<|A1<|A5<|cc W hz4 (fun c4 hz4=> ?_)<|fun c4 hz4=> ?_
 refine A8<|A5<|A7<|B0<|sv W<|sv W<|A1<|B0<|sp W (Q8 W (gq W) W)<|sv W<|sv W<|sv W<|bs hz4 fun _ hv10 hz4=>A9 W (E6 (Bi (gq W)<|rD<|rD<|rD<|rD<|rD<|rD<|rD<|rD<|rD<|rD<|rD<|rD<|rD G1)<|rD<|rD<|rD G1) A3 (Oa _ _ _ _ _ hv10) (.inr W) (A1<|cc W hz4 (fun c5 hz4=> ?_)<|fun c5 hz4=> ?_)
 refine B0<|sv W<|U0 W G_hit [(di 0),(.d .nilS),(.d .nilS)] W (U0 W (gq W) [(di 12)] W (A1<|B2 ?_))
 cases hz4
 obtain rfl:=ez4 _ rfl
 refine ⟨nofun,F4 ?_⟩
 rw [wE]at hz2
 cases hz2
 obtain rfl:=ez2 _ rfl
 refine XS (gq W) nofun (F4 ?_)
 rw [wE]at h
 cases h
 exact A6 (.inr W) (Na (K2 W (gq W) (nl W) W) (Yi W (gq W) W) C2 C2) (.tup (.cons (.agg (ca W<|.cons ⟨DLe.nil,W⟩ (.cons ⟨DLe.nil,W⟩ .nil))) A3))
 refine A8<|E3<|B7<|sv W<|sv W<|A1<|E2 ?_
 cases hz4
 exact ⟨W,(),(F2 W W)⟩
 refine C8 W ?_
 cases hz4
 obtain rfl:=ez4 _ rfl
 refine ⟨nofun,C6 W<|U4 ?_⟩
 exact ⟨_,(),W,(F2 W W)⟩
 rintro _ ⟨y3,g4,rfl,q1⟩
 rw [wD]at hz2
 refine E3<|E2 ?_
 cases hz2
 exact jW q1 (gq W) () (B5 G_hit (.of W)<|sg W<|sg W<|sg W<|sg W<|sg W<|sg W trivial)
 rintro x1 g3 _ rfl qx1
 refine E3<|U4 ?_
 exact ⟨_,(),W,(Sb.after qx1<|F2 W W)⟩
 rintro _ ⟨y2,g2,rfl,q2⟩
 rw [wD]at h
 refine B4 q2<|B0<|sp W (Q8 W (gq W) W)<|sq W<|sp W W<|sd W (B1 W (gq W) W W)<|U0 W G_hit (J5 v5.after) W (U0 W (gq W) [(di 0)] W (A1<|B2 ?_))
 cases h
 exact A6 (.inr W) (Na (K2 W (gq W) (nl W) W) (Yi W G_hit W) C2 C2) (.refl _)
def Qv (p1:Int):Option Int:=
  (cond (decide (p1≥4294967296)) (some ((p1.fdiv (2^ (min (32:Int).toNat (IntKind.bits .u64)))),32)) (some (p1,0))).bind fun y1=>(cond (decide (y1.1≥65536)) (some ((y1.1.fdiv (2^ (min (16:Int).toNat (IntKind.bits .u64)))),(D3 (y1.2+16)))) (some (y1.1,y1.2))).bind fun y2=>cond (decide (y2.1≥256)) ((kJ (ByteArray.mk #[0,1,2,2,3,3,3,3,4,4,4,4,4,4,4,4,5,5,5,5,5,5,5,5,5,5,5,5,5,5,5,5,6,6,6,6,6,6,6,6,6,6,6,6,6,6,6,6,6,6,6,6,6,6,6,6,6,6,6,6,6,6,6,6,7,7,7,7,7,7,7,7,7,7,7,7,7,7,7,7,7,7,7,7,7,7,7,7,7,7,7,7,7,7,7,7,7,7,7,7,7,7,7,7,7,7,7,7,7,7,7,7,7,7,7,7,7,7,7,7,7,7,7,7,7,7,7,7,8,8,8,8,8,8,8,8,8,8,8,8,8,8,8,8,8,8,8,8,8,8,8,8,8,8,8,8,8,8,8,8,8,8,8,8,8,8,8,8,8,8,8,8,8,8,8,8,8,8,8,8,8,8,8,8,8,8,8,8,8,8,8,8,8,8,8,8,8,8,8,8,8,8,8,8,8,8,8,8,8,8,8,8,8,8,8,8,8,8,8,8,8,8,8,8,8,8,8,8,8,8,8,8,8,8,8,8,8,8,8,8,8,8,8,8,8,8,8,8,8,8,8,8,8,8,8,8]) (IntKind.wrap .u8 (y2.1.fdiv (2^ (min (8:Int).toNat (IntKind.bits .u64)))))).bind fun v1=>some (D3 ((D3 (y2.2+8))+ (D3 v1)))) ((kJ (ByteArray.mk #[0,1,2,2,3,3,3,3,4,4,4,4,4,4,4,4,5,5,5,5,5,5,5,5,5,5,5,5,5,5,5,5,6,6,6,6,6,6,6,6,6,6,6,6,6,6,6,6,6,6,6,6,6,6,6,6,6,6,6,6,6,6,6,6,7,7,7,7,7,7,7,7,7,7,7,7,7,7,7,7,7,7,7,7,7,7,7,7,7,7,7,7,7,7,7,7,7,7,7,7,7,7,7,7,7,7,7,7,7,7,7,7,7,7,7,7,7,7,7,7,7,7,7,7,7,7,7,7,8,8,8,8,8,8,8,8,8,8,8,8,8,8,8,8,8,8,8,8,8,8,8,8,8,8,8,8,8,8,8,8,8,8,8,8,8,8,8,8,8,8,8,8,8,8,8,8,8,8,8,8,8,8,8,8,8,8,8,8,8,8,8,8,8,8,8,8,8,8,8,8,8,8,8,8,8,8,8,8,8,8,8,8,8,8,8,8,8,8,8,8,8,8,8,8,8,8,8,8,8,8,8,8,8,8,8,8,8,8,8,8,8,8,8,8,8,8,8,8,8,8,8,8,8,8,8,8]) (IntKind.wrap .u8 y2.1)).bind fun v2=>some (D3 (y2.2+ (D3 v2))))
theorem CN(p1 r)(h:Qv p1=some r):PCall prog 281 [(.v (.int .u64 p1))] (i64 r):=by
 refine C4 (fk func281 ntmps281 m0 (by with_unfolding_all rfl)) (nl W) ?_
 unfold Qv at h
 refine B4 (s0:=⟨T [(0,(.d _))],G []⟩) (F2 W W) ?_
 refine B0<|sv W<|A1<|A5<|B0<|sv W<|sv W<|A1<|bs h fun y1 hy1 h=>D9 (fun s=> ∃g1:Unit,Sb ⟨T [(0,(.d (.v (.int .u64 y1.1)))),(2,(di y1.2))],G []⟩ s) ?_ ?_
 refine cc W hy1 (fun c1 hy1=> ?_)<|fun c1 hy1=> ?_
 refine B0<|sv W<|sv W<|sv W<|A1<|B7<|sv W<|A1 ?_
 cases hy1
 exact U4 ⟨(),(F2 W W)⟩
 refine A8 ?_
 cases hy1
 exact U4 ⟨(),(F2 W W)⟩
 rintro _ ⟨g1,q1⟩
 refine B4 q1<|A5<|B0<|sv W<|sv W<|A1<|bs h fun y2 hy2 h=>D9 (fun s=> ∃g2:Unit,Sb ⟨T [(0,(.d (.v (.int .u64 y2.1)))),(2,(di y2.2))],G []⟩ s) ?_ ?_
 refine cc W hy2 (fun c2 hy2=> ?_)<|fun c2 hy2=> ?_
 refine B0<|sv W<|sv W<|sv W<|A1<|B7<|sv W<|sv W<|sv W<|A1 ?_
 cases hy2
 exact U4 ⟨(),(F2 W W)⟩
 refine A8 ?_
 cases hy2
 exact U4 ⟨(),(F2 W W)⟩
 rintro _ ⟨g2,q2⟩
 refine B4 q2<|A5<|B0<|sv W<|sv W<|A1<|cc W h (fun c3 h=> ?_)<|fun c3 h=> ?_
 refine B0<|sv W<|sv W<|sv W<|A1<|B7<|sv W<|sv W<|sv W<|A1<|B0<|sv W<|sv W<|sv W<|bs h fun _ hv1 h=>sd W (fV W W hv1)<|sv W<|sv W<|sv W<|A1<|B2 ?_
 cases h
 exact A6 (.inr W) (B6 (B3 W) C2) (.refl _)
 refine A8<|B0<|sv W<|sv W<|sv W<|bs h fun _ hv2 h=>sd W (fV W W hv2)<|sv W<|sv W<|sv W<|A1<|B2 ?_
 cases h
 exact A6 (.inr W) (B6 (B3 W) C2) (.refl _)
def Js (p1:Int):Option Int:=
  (Qv p1).bind fun v1=>some v1
theorem Ux(p1 r)(h:Js p1=some r):PCall prog 267 [(.v (.int .u64 p1))] (i64 r):=by
 refine C4 (fk func267 ntmps267 m0 (by with_unfolding_all rfl)) (nl W) ?_
 unfold Js at h
 refine B4 (s0:=⟨T [(0,(.d _))],G []⟩) (F2 W W) ?_
 refine B0<|sv W<|A1<|A5<|Tm W<|A8<|B0<|sv W<|bs h fun _ hv1 h=>A9 W W A3 (CN _ _ hv1) (.inl W) (sv W<|A1<|B2 ?_)
 cases h
 exact A6 (.inr W) (B6 (B3 W) C2) (.refl _)
def Kk (p1:Int)(p2:Int):Option Bool:=
  (W9 p1).bind fun v1=>((cond v1 (W9 p2) (some default))).bind fun v2=>some ((v1&& (!v2))||(decide (p1<p2)))
theorem EN(p1 p2 r)(h:Kk p1 p2=some r):PCall prog 277 [(i64 p1),(i64 p2)] (bo r):=by
 refine C4 (fk func277 ntmps277 m0 (by with_unfolding_all rfl)) (nl W) ?_
 unfold Kk at h
 refine B4 (s0:=⟨T [(0,(.d _)),(1,(.d _))],G []⟩) (F2 W W) ?_
 refine B0<|sv W<|A1<|B0<|sv W<|bs h fun v1 hv1 h=>A9 W W A3 (Im _ _ hv1) (.inl W) (sv W<|gt W (fun _=>W)<|bs h fun v2 hv2 h=> ?_)
 refine N6 v1 (bo v2) (M3 W) (fun w2=>⟨_,[(di p2)],_,_,(by simp only [A2 w2];rfl),W,A3,Im _ _<|B9 w2 hv2,(.inl W)⟩) ?_
 refine M8 _ (.d (bo (!v2))) W (M3 W) (fun w3=>(by simp only [A2 w3];rfl)) ?_
 refine sa W W W<|sv W<|gf W (fun _=>W)<|gf W (fun _=>W)<|gf W (fun w6=>(M7 (A2 w6) (A2 w6) W))<|sd W (O2 W W<|fun hc=>A2<|J4 hc)<|sv W<|A1<|B2 ?_
 cases h
 exact A6 (.inr W) (B6 (B3 W) C2) (.refl _)
def J6 (p2:Int)(x2:(Int× (List Int))):Option (Stp (Int× (List Int)) (List Int)):=
  ((cond (decide (x2.1>p2)) (C1 x2.2 x2.1) (some default))).bind fun v1=>((cond (decide (x2.1>p2)) (C1 x2.2 (D3 (x2.1 - 1))) (some default))).bind fun v2=>((cond (decide (x2.1>p2)) (Kk v1 v2) (some default))).bind fun v3=>cond ((decide (x2.1>p2))&&v3) ((C1 x2.2 (D3 (x2.1 - 1))).bind fun v4=>(C1 x2.2 x2.1).bind fun v5=>(C1 x2.2 x2.1).bind fun v6=>(C1 (Lx x2.2 x2.1 v4) (D3 (x2.1 - 1))).bind fun v7=>some (.go ((D3 (x2.1 - 1)),(Lx (Lx x2.2 x2.1 v4) (D3 (x2.1 - 1)) v5)))) (some (.out x2.2))
def G6 [Lp](p2:Int)(p3:Int)(x1:(Int× (List Int))):Option (Stp (Int× (List Int)) (List Int)):=
  cond (decide (x1.1<p3)) ((loop (J6 p2) (x1.1,x1.2)).bind fun y1=>some (.go ((D3 (x1.1+1)),y1))) (some (.out (x1.2)))
def J3 [Lp](p1:(List Int))(p2:Int)(p3:Int):Option (List Int):=
  loop (G6 p2 p3) ((D3 (p2+1)),p1)
theorem Kl(p1 p2 p3 r)(h:J3 p1 p2 p3=some r):MCall prog 271 [(.sl (900000,0)),(di p2),(di p3)] [(.arr 2 1 (List.map A4 p1))] (.d (.tup [])) [some (.arr 2 1 (List.map A4 r))] []:=by
 refine Vt (fk func271 ntmps271 m0 (by with_unfolding_all rfl)) W (nl W) ?_
 unfold J3 at h
 refine B4 (s0:=⟨T [(0,(.sl _)),(1,(.d _)),(2,(.d _))],G [((900000,0),some _)]⟩) (F2 W W) ?_
 refine B0<|sv W<|sv W<|sv W<|A1<|A7<|E4 (G6 p2 p3) (fun (x1:(Int× (List Int))) (g1:Unit)=>⟨T [(0,(.sl (900000,0))),(1,(di p2)),(2,(di p3)),(6,(di x1.1))],G [((900000,0),some<|.arr 2 1 (List.map A4 x1.2))]⟩) ((D3 (p2+1)),p1) () _ h (F2 W W) ?_
 intro x1 g1 z1 hz1 ez1
 unfold G6 at hz1
 refine A5<|B0<|sv W<|sv W<|sv W<|A1<|cc W hz1 (fun c1 hz1=> ?_)<|fun c1 hz1=> ?_
 refine A8<|A5<|A7<|B0<|sv W<|sv W<|A1<|bs hz1 fun y1 hy1 hz1=>D9 (fun s=> ∃g2:Unit,Sb ⟨T [(0,(.sl (900000,0))),(1,(di p2)),(2,(di p3)),(6,(di x1.1))],G [((900000,0),some<|.arr 2 1 (List.map A4 y1))]⟩ s) ?_ ?_
 refine A7<|E4 (J6 p2) (fun (x2:(Int× (List Int))) (g3:Unit)=>⟨T [(0,(.sl (900000,0))),(1,(di p2)),(2,(di p3)),(6,(di x1.1)),(7,(di x2.1))],G [((900000,0),some<|.arr 2 1 (List.map A4 x2.2))]⟩) (x1.1,x1.2) () _ hy1 (F2 W W) ?_
 intro x2 g3 z2 hz2 ez2
 unfold J6 at hz2
 refine A5<|A5<|E7 W<|sv W<|sv W<|sv W<|sv W<|M8 _ (.sl _) W (M3 W) (fun _=>W) (gt W (fun _=>W)<|bs hz2 fun v1 hv1 hz2=>M8 _ (.aptr _ _ _ _) W (M3 W) (fun w3=>(Kg (A2 w3) (A2 w3) G_hit (B9 w3 hv1))) (gt W (fun w4=>(Ps (A2 w4) G_hit (B9 w4 hv1) W))<|M8 _ (.sl _) W (M3 W) (fun _=>W) (gt W (fun _=>W)<|gt W (vb W W W)<|bs hz2 fun v2 hv2 hz2=>M8 _ (.aptr _ _ _ _) W (M3 W) (fun w8=>(Kg (A2 w8) (A2 w8) G_hit (B9 w8 hv2))) (gt W (fun w9=>(Ps (A2 w9) G_hit (B9 w9 hv2) W))<|bs hz2 fun v3 hv3 hz2=> ?_))))
 refine N6 _ (bo v3) (M3 W) (fun w10=>⟨_,[(di v1),(di v2)],_,_,(by simp only [A2 w10];rfl),W,A3,EN _ _ _<|B9 w10 hv3,(.inl W)⟩) ?_
 refine sa W W W<|A1<|cc W hz2 (fun c2 hz2=> ?_)<|fun c2 hz2=> ?_
 refine A8<|A5<|A7<|E7 W<|ss W<|sv W<|ss W<|sv W<|sv W<|ss W<|sv W<|sv W<|bs hz2 fun v4 hv4 hz2=>C0 (.aptr _ _ _ _) W (Kg W W G_hit hv4) (sd W (Ps W G_hit hv4 W)<|ss W<|sv W<|bs hz2 fun v5 hv5 hz2=>C0 (.aptr _ _ _ _) W (Kg W W G_hit hv5) (sd W (Ps W G_hit hv5 W)<|bs hz2 fun _ hv6 hz2=>C0 (.aptr _ _ _ _) W (Kg W W G_hit hv6) (Qd A4 _ _ _ (x2.1) _ v4 [(i64 v4)] W W W G_hit hv6 (nl W) W (bs hz2 fun _ hv7 hz2=>C0 (.aptr _ _ _ _) W (Kg W W G_hit hv7) (Qd A4 _ _ _ ((D3 (x2.1 - 1))) _ v5 [(i64 v5)] W W W G_hit hv7 (nl W) W (A1<|E3<|B7<|sv W<|sv W<|sv W<|A1<|E2 ?_))))))
 cases hz2
 exact ⟨W,(),(F2 W W)⟩
 refine C8 W ?_
 cases hz2
 obtain rfl:=ez2 _ rfl
 refine ⟨nofun,C6 W<|U4 ?_⟩
 exact ⟨(),(F2 W W)⟩
 rintro _ ⟨g2,q1⟩
 refine E3<|B4 q1<|B7<|sv W<|sv W<|sv W<|A1<|E2 ?_
 cases hz1
 exact ⟨W,(),(F2 W W)⟩
 refine C8 W ?_
 cases hz1
 obtain rfl:=ez1 _ rfl
 refine ⟨nofun,C6 W<|E2 ?_⟩
 exact CE (.inl W) [] CF (.refl _) ⟨⟨G_hit,Fx⟩,trivial⟩
def N0 [Lp](p1:(List Int))(x1:(Int×Int×Int×Bool×Bool)):Option (Stp (Int×Int×Int×Bool×Bool) (List Int)):=
  cond (decide ((D3 (x1.2.1 - x1.1))≤12)) ((J3 p1 x1.1 x1.2.1).bind fun v1=>some (.out (v1))) (cond (x1.2.2.1==0) (none) ((cond (!x1.2.2.2.1) (none) (some ())).bind fun _=>none))
def O3 [Lp](p1:(List Int))(p2:Int)(p3:Int)(p4:Int):Option (List Int):=
  loop (N0 p1) (p2,p3,p4,true,true)
theorem Ob(p1 p2 p3 p4 r)(h:O3 p1 p2 p3 p4=some r):MCall prog 266 [(.sl (900000,0)),(di p2),(di p3),(di p4)] [(.arr 2 1 (List.map A4 p1))] (.d (.tup [])) [some (.arr 2 1 (List.map A4 r))] []:=by
 refine Vt (fk func266 ntmps266 (fun r=>if r==4 then [1004003]else []) (by with_unfolding_all rfl)) W (nl W) ?_
 unfold O3 at h
 refine B4 (s0:=⟨T [(0,(.sl _)),(1,(.d _)),(2,(.d _)),(3,(.d _))],G [((900000,0),some _)]⟩) (F2 W W) ?_
 refine B0<|sv W<|A1<|B0<|sv W<|A1<|A7<|E4 (N0 p1) (fun (x1:(Int×Int×Int×Bool×Bool)) (g1:Unit)=>⟨T [(0,(.sl (900000,0))),(1,(di x1.1)),(2,(di x1.2.1)),(3,(di x1.2.2.1)),(8,(.d (bo x1.2.2.2.1))),(9,(.d (bo x1.2.2.2.2)))],G [((900000,0),some<|.arr 2 1 (List.map A4 p1))]⟩) (p2,p3,p4,true,true) () _ h (F2 W W) ?_
 intro x1 g1 z1 hz1 ez1
 unfold N0 at hz1
 refine A7<|B0<|sv W<|sv W<|sv W<|sv W<|A1<|A5<|B0<|sv W<|sv W<|A1<|cc W hz1 (fun c1 hz1=> ?_)<|fun c1 hz1=> ?_
 refine B0<|ss W<|sv W<|sv W<|bs hz1 fun v1 hv1 hz1=>FS (v:= .d (.tup [])) (us:= [(900000,0)]) (MI (Kl _ _ _ _ hv1) [(900000,0)] [(900000,0)] _ (((900000,0),some<|.arr 2 1 (List.map A4 v1))::_) W Nt (Y6 EC<|Y6 CD<|Y6 CD Ub) (Kz G_hit Jc) ⟨⟨_,G_hit, .of W⟩,trivial⟩ (fun _ h=>h) nd1 W W W) (A1<|B2 ?_)
 cases hz1
 obtain rfl:=ez1 _ rfl
 refine ⟨nofun,F4 ?_⟩
 exact CE (.inr W) [] CF (.refl _) ⟨⟨G_hit,Fx⟩,trivial⟩
 refine A8<|A5<|B0<|sv W<|sv W<|A1<|cc W hz1 (fun c2 hz1=> ?_)<|fun c2 hz1=> ?_
 refine B0<|ss W<|sv W<|sv W ?_
 cases hz1
 refine A8<|A5<|B0<|sv W<|C0 (.d (bo (!x1.2.2.2.1))) W W (A1<|bs hz1 fun _ hy1 hz1=>D9 (fun s=> ∃g2:Unit,Sb ⟨T [(0,(.sl (900000,0))),(1,(di x1.1)),(2,(di x1.2.1)),(3,(di x1.2.2.1)),(8,(.d (bo x1.2.2.2.1))),(9,(.d (bo x1.2.2.2.2))),(10,(di<|D3 (x1.2.1 - x1.1)))],G [((900000,0),some<|.arr 2 1 (List.map A4 p1))]⟩ s) ?_ ?_)
 refine cc W hy1 (fun c3 hy1=> ?_)<|fun c3 hy1=> ?_
 refine B0<|ss W<|sv W<|sv W ?_
 cases hy1
 refine A8 ?_
 cases hy1
 exact U4 ⟨(),(F2 W W)⟩
 rintro _ ⟨g2,q1⟩
 refine B4 q1<|B0<|ss W<|sv W<|sv W ?_
 cases hz1
def O7 [Lp](p1:(List Int)):Option (List Int):=
  (Js (IntKind.wrap .u64 (p1.length:Int))).bind fun v1=>(O3 p1 0 (p1.length:Int) v1).bind fun v2=>some v2
theorem Qw(p1 r)(h:O7 p1=some r):MCall prog 252 [(.sl (900000,0))] [(.arr 2 1 (List.map A4 p1))] (.d (.tup [])) [some (.arr 2 1 (List.map A4 r))] []:=by
 refine Vt (fk func252 ntmps252 (fun r=>if r==1 then [1001005]else []) (by with_unfolding_all rfl)) W (nl W) ?_
 unfold O7 at h
 refine B4 (s0:=⟨T [(0,(.sl _))],G [((900000,0),some _)]⟩) (F2 W W) ?_
 refine B0<|ss W<|sd W (VS (f:=A4) W G_hit)<|sv W<|A1<|B7<|ss W<|sv W<|sv W<|sv W<|bs h fun _ hv1 h=>A9 W W A3 (Ux _ _ hv1) (.inl W) (bs h fun v2 hv2 h=>FS (v:= .d (.tup [])) (us:= [(900000,0)]) (MI (Ob _ _ _ _ _ hv2) [(900000,0)] [(900000,0)] _ (((900000,0),some<|.arr 2 1 (List.map A4 v2))::_) W Nt (Y6 EC<|Y6 CD<|Y6 CD<|Y6 CD Ub) (Kz G_hit Jc) ⟨⟨_,G_hit, .of W⟩,trivial⟩ (fun _ h=>h) nd1 W W W) (A1<|E2 ?_))
 obtain rfl:=(lD h)
 exact CE (.inl W) [] CF (.refl _) ⟨⟨G_hit,Fx⟩,trivial⟩
section
open Go.RowKit Go.Lib
def rE:Go.Shelf.Ren:=⟨fun n=>if n=43 then 253 else 0,fun t=>if t=22 then 48 else if t=23 then 2 else t,fun x=>x⟩
theorem cmp_lay:SlLaysE.n43 prog rE where
  mixed:=by kernel_rfl
  f43:=⟨Tryz.f253.name,by decide,by kernel_rfl⟩
  t0:=Tryz.underlying0
  a0:=Tryz.isAgg0
  z0:=Tryz.sizeOf0
  v0:=Tryz.zeroValue0
  t3:=Tryz.underlying3
  a3:=Tryz.isAgg3
  z3:=Tryz.sizeOf3
  v3:=Tryz.zeroValue3
  t4:=Tryz.underlying4
  a4:=Tryz.isAgg4
  z4:=Tryz.sizeOf4
  v4:=Tryz.zeroValue4
  t22:=Tryz.underlying48
  a22:=Tryz.isAgg48
  z22:=Tryz.sizeOf48
  v22:=Tryz.zeroValue48
  a23:=Tryz.isAgg2
  z23:=Tryz.sizeOf2
theorem aA (g cap:Nat)(d:Array Int)(w:World)(hH:Go.Sort.Holds (Value.int .i64) w g 0 d)(hsz:d.size≤9223372036854775807)(hcap:d.size≤cap):
    Calls prog 253 #[.slice (some ⟨g,0,none⟩) d.size cap] w fun e w'=>e= .returned (.slice (some ⟨g,0,none⟩) (Go.Lib.compactUpTo d d.size).length cap)∧∃q,w'=Go.Sort.putRow (Value.int .i64) (Go.Sort.ahead w q) g 0 (Go.Lib.compactUpTo d d.size++List.replicate (d.size - (Go.Lib.compactUpTo d d.size).length) 0).toArray:=
  AnyE.slices_Compact cmp_lay (Value.int .i64) (fun _=>rfl) (.intD _ _ _) (.intD _ _ _) 0 Tryz.zeroValue2 g 0 cap d w hH hsz hcap
theorem kK (d:Array Int):(Go.Lib.compactUpTo d d.size).length≤d.size:=by
  unfold Go.Lib.compactUpTo
  rw [lS]
  refine wL (List.length_filter_le _ _) ?_
  rw [List.length_range];exact wH _
theorem NQ (xs:List Int): ∀m,m≤xs.length→Go.Lib.compactUpTo xs.toArray m=Er (xs.take m)
  |0,_=>rfl
  |m+1,h=>by
   rw [Go.Lib.compactUpTo_succ,NQ xs m (by omega),List.take_add_one,lH (by omega),Option.toList_some,HH]
   congr 1
   have hm:m<xs.length:=by omega
   have e1:xs.toArray[m]! =xs[m]:=by rw [getElem!_pos xs.toArray m (by simpa using hm)];simp
   rw [Go.Lib.keeps,e1]
   cases m with
   |zero=>simp
   |succ k=>
    have e2:xs.toArray[k]! =xs[k]:=by rw [getElem!_pos xs.toArray k (by rw [List.size_toArray];omega)];simp
    have e3:(xs.take (k+1)).getLast? =some xs[k]:=by rw [List.take_add_one,lH (by omega),Option.toList_some,List.getLast?_append];simp
    rw [Nat.add_sub_cancel,e2,e3]
    by_cases e:xs[k+1]=xs[k]
    ·simp [e]
    ·rw [bQ (by simp [e]),bR (fun q=>e (lD q).symm)]
theorem qD (xs r:List Int)(hr:EF xs=some r):MCall prog 253 [.sl (900000,0)] [.arr 2 1 (List.map A4 xs)] (.sl (800000,0)) [none] [some (.arr 2 1 (List.map A4 r))]:=by
  obtain ⟨hx,rfl⟩:=PV hr
  clear hr
  refine ⟨W,fun vs w=> ?_,fun w I ρ vs H hlen hrep=> ?_⟩
  ·have hn': ¬Tryz.f253.name= "runtime.NumGoroutine" :=by decide
   have hb: ∃c,Tryz.f253.body=some c:=⟨_,rfl⟩
   obtain ⟨c,hb⟩:=hb
   simp [callFunc,func253,hb,hn']
  have hnx:0<xs.length:=List.length_pos_iff.2 hx
  obtain ⟨a,rfl⟩: ∃a,vs= [a]:=by
    match vs,hlen with
    | [a],_=>exact ⟨a,rfl⟩
  have r0:=hrep 0 _ rfl
  simp only [List.getD_cons_zero]at r0
  have hb0:G (Xl 0 [Blk.arr 2 1 (List.map A4 xs)]) (Ad 0)=some (.arr 2 1 (List.map A4 xs)):=rfl
  obtain ⟨x0,cx,p1,p2,p3,p4⟩:=H.blk _ _ hb0
  have e0:a=x0:=by
    cases r0 with
    |sl _ _ h=>exact lD (h.symm.trans p1)
  subst e0
  obtain ⟨hxl,hx'|⟨g,c,cur,rfl,_,hg,hnc,hcm,hcs,hxc⟩⟩:=p2
  ·rw [lS]at hx';omega
  rw [lS]at hxl hnc hxc
  have hval: ∀i (hi:i<xs.length),cur[i]? =some (.int .i64 xs[i]):=by
    intro i hi
    obtain ⟨_,g2⟩:=p4 i 0 (.v (.int .i64 xs[i])) (by simp [Sa,hi,A4])
    have:cx.getD (i*1+0) undef= .int .i64 xs[i]:=by generalize cx.getD (i*1+0) undef=y at g2;cases g2;rfl
    rw [← hxc,List.getD,bA,bQ (by omega),Nat.mul_one,Nat.add_zero,Array.getElem?_toList]at this
    rw [Array.getElem?_eq_getElem (by omega)]at this ⊢
    rw [Option.getD_some]at this
    rw [this]
  have hH:Go.Sort.Holds (Value.int .i64) w g 0 xs.toArray:=by
    intro j hj
    rw [List.size_toArray]at hj
    have h2:=hval j hj
    refine ⟨?_,by simp [World.frozen?,hg]⟩
    simp [World.cell?,hg,h2,hj]
  have locx:O9 ρ (Ad 0) (.arr 2 1 (List.map A4 xs))=some g:=by simp [O9,p1,Value.ownBlock]
  have hca:=aA g c xs.toArray w hH (by rw [List.size_toArray];unfold maxLen at hcm;omega) (by rw [List.size_toArray];exact hnc)
  have hcl:=kK xs.toArray
  rw [List.size_toArray]at hca hcl
  rw [lS]
  refine hca.mono ?_
  rintro e w' ⟨rfl,q,hw'⟩
  have hheap: ∀k,w'.heap[k]? =if k=g then some (.cells (Go.Sort.putCells (Value.int .i64) 0 (Go.Lib.compactUpTo xs.toArray xs.length++List.replicate (xs.length - (Go.Lib.compactUpTo xs.toArray xs.length).length) 0).toArray cur) 2 (0,0))else w.heap[k]?:=by
    intro k
    rw [hw']
    show (w.heap.modify g _)[k]? =_
    rw [Array.getElem?_modify]
    by_cases e:g=k
    ·subst e;rw [bQ rfl,bQ rfl,hg];rfl
    ·rw [bR e,bR (Ne.symm e)]
  have hos:w'.os=w.os∧w'.tape=w.tape∧w'.output=w.output∧w'.heap.size=w.heap.size:=by rw [hw'];exact ⟨rfl,rfl,rfl,by simp⟩
  clear hw' hca hH
  generalize hC:Go.Lib.compactUpTo xs.toArray xs.length=C at hcl hheap ⊢
  have hCc:Er xs=C:=by rw [← hC,NQ xs _ (wH _),List.take_length]
  rw [hCc]
  obtain ⟨Z,hZ⟩: ∃Z:Array Int,Z=(C++List.replicate (xs.length - C.length) 0).toArray:=⟨_,rfl⟩
  rw [← hZ]at hheap
  have hZs:Z.size=xs.length:=by rw [hZ];simp;omega
  have hZg: ∀i (hi:i<C.length),Z[i]! =C[i]:=by
    intro i hi
    have hlt:i<Z.size:=by omega
    rw [getElem!_pos Z i hlt]
    subst hZ
    rw [List.getElem_toArray,List.getElem_append_left hi]
  clear hZ hC hCc
  obtain ⟨u0,hu0⟩:=H.fresh
  have hk0:ρ (7,u0)=none:=hu0 7 u0 (wH _)
  have hgI: ¬I g:=H.notI _ _ g hb0 locx
  have hgo:own ρ (G (Xl 0 [Blk.arr 2 1 (List.map A4 xs)])) g:=⟨_,_,hb0,locx⟩
  have hother: ∀k,k≠g→w'.heap[k]? =w.heap[k]?:=fun k hk=>by rw [hheap,bR hk]
  have hI': ∀b,I b→w'.heap[b]? =w.heap[b]?:=fun b hb=>hother b (fun e=>hgI (e▸hb))
  have H0:HeapOK w' I ρ (fun _=>none):=⟨fun k b hb=>(by cases hb),fun k k' b b' g h1=>(by cases h1),fun k b g h1=>(by cases h1),fun k b g h1=>(by cases h1),fun b hb=>by rw [hos.2.2.2];exact H.ilt b hb,⟨u0,hu0⟩,H.rone⟩
  have hloc: ∀k,O9 (Bg ρ (7,u0) (some (Value.slice (some ⟨g,0,none⟩) C.length c))) (7,u0) (.arr 2 1 (List.map A4 C))=some k→k=g:=by
    intro k hk
    have:some g=some k:=by simpa [O9,H7,Value.ownBlock] using hk
    exact (lD this).symm
  have hown: ∀g,¬own ρ (fun _=>none) g:=fun g ⟨k,b,h,_⟩=>by cases h
  have hsz:(Go.Sort.putCells (Value.int .i64) 0 Z cur).size=c:=by unfold Go.Sort.putCells;rw [Array.size_mapIdx,hcs,Nat.mul_one]
  have Hn:=RC H0 (7,u0) (Value.slice (some ⟨g,0,none⟩) C.length c) (.arr 2 1 (List.map A4 C)) hk0 rfl (fun k hk=>by
    rw [hloc k hk]
    exact ⟨hown g,hgI,by rw [hos.2.2.2];exact H.lt _ _ g hb0 locx⟩)
    ⟨_,C.map (Value.int .i64),H7 _ _ _,⟨by simp, .inr ⟨g,c,_,by rw [lS],wI _,by rw [hheap,bQ rfl],by rw [lS];omega,hcm,by rw [hsz,Nat.mul_one],by
      rw [lS,Nat.mul_one]
      apply List.ext_getElem
      ·have h3:(Go.Sort.putCells (Value.int .i64) 0 Z cur).toList.length=c:=hsz
       rw [lV,h3,lS];omega
      ·intro i h1 h2
       rw [lS]at h2
       rw [List.getElem_take,Array.getElem_toList,List.getElem_map]
       unfold Go.Sort.putCells
       rw [Array.getElem_mapIdx,bQ ⟨wI _,by omega⟩,Nat.sub_zero,hZg i h2]⟩⟩,by
      intro q hq
      obtain ⟨z,_,rfl⟩:=List.mem_map.1 hq
      rfl,by
      intro r j d' hd'
      unfold Sa at hd'
      rw [lK]at hd'
      cases hr:C[r]? with
      |none=>rw [hr]at hd';cases hd'
      |some z=>
       rw [hr]at hd'
       match j,hd' with
       |0,hd'=>
        cases hd'
        refine ⟨W,?_⟩
        rw [Nat.mul_one,Nat.add_zero,List.getD,lK,hr]
        exact .v _
       |j+1,hd'=>simp [A4]at hd'⟩
  refine ⟨_, .sl (7,u0),I,_,_,W, .sl _ _ (H7 _ _ _),Hn,⟨hos.1,hos.2.1,hos.2.2.1,by rw [hos.2.2.2];exact wH _,fun b hb hn'=>hother b<|fun e=>hn' (e▸hgo),fun _ hb=>hb,fun _ hb _=> .inl hb,?_,OY hk0⟩,fun _=>(7,u0),W,?_,?_,?_,?_⟩
  ·rintro k ⟨k',b',h1,h2⟩ hl
   by_cases ek:k'=(7,u0)
   ·subst ek
    rw [H7]at h1
    cases h1
    rw [hloc k h2];exact hgo
   ·rw [M0 _ _ _ _ ek]at h1;cases h1
  ·intro j b hb
   match j,hb with
   |0,hb=>cases hb
   |j+1,hb=>simp at hb
  ·intro j b hb
   match j,hb with
   |0,hb=>cases hb;exact H7 _ _ _
   |j+1,hb=>simp at hb
  ·intro j _ i _ e;simp only [Ad,Prod.mk.injEq]at e;omega
  ·intro j j' h1 h2 _
   simp only [lL,lN]at h1 h2
   omega
theorem fY (A:Option Addr)(w:World):Calls prog 253 #[.slice A 0 0] w fun e w'=>e= .returned (.slice A 0 0)∧∃q,w'=w.drewN q:=by
  have mixed:=cmp_lay.mixed
  have v0:=Tryz.zeroValue2
  go_enter func253,ntmps253
  go_wp2
  go_ret
  exact ⟨W,0,W⟩
theorem kL:PCall prog 253 [.nilS] .nilS:=by
  refine ⟨fun vs w=> ?_,fun w I vs hI hlen hrep=> ?_⟩
  ·have hn': ¬Tryz.f253.name= "runtime.NumGoroutine" :=by decide
   have hb: ∃c,Tryz.f253.body=some c:=⟨_,rfl⟩
   obtain ⟨c,hb⟩:=hb
   simp [callFunc,func253,hb,hn']
  obtain ⟨a,rfl⟩: ∃a,vs= [a]:=by
    match vs,hlen with
    | [a],_=>exact ⟨a,rfl⟩
  have r0:=hrep 0 _ rfl
  simp only [List.getD_cons_zero]at r0
  cases r0 with
  |nilS A=>
   refine (fY A w).mono ?_
   rintro e w' ⟨rfl,q,rfl⟩
   exact ⟨_,I,W, .nilS A,W,W,W,wH _,fun _ _=>W,fun _ hb=>hb,fun _ hb _=>hb,hI⟩
end
def W5 (p1:Int)(x2:Int):Option (Stp Int Unit):=
  ((cond (decide (x2>p1)) ((none:Option Unit)) (some default))).bind fun v1=>cond ((decide (x2>p1))&&false) (none) (some (.out ()))
def M2 [Lp](p1:Int)(p2:Int)(x1:Int):Option (Stp Int Unit):=
  cond (decide (x1<p2)) ((loop (W5 p1) x1).bind fun _=>some (.go (D3 (x1+1)))) (some (.out (())))
def L9 [Lp](p1:Int)(p2:Int):Option Unit:=
  loop (M2 p1 p2) (D3 (p1+1))
theorem Km(p1 p2 r)(h:L9 p1 p2=some r):PCall prog 271 [.nilS,(i64 p1),(i64 p2)] (.tup []):=by
 refine C4 (fk func271 ntmps271 m0 (by with_unfolding_all rfl)) (nl W) ?_
 unfold L9 at h
 refine B4 (s0:=⟨T [(0,(.d _)),(1,(.d _)),(2,(.d _))],G []⟩) (F2 W W) ?_
 refine B0<|sv W<|sv W<|sv W<|A1<|A7<|E4 (M2 p1 p2) (fun (x1:Int) (g1:Unit)=>⟨T [(0,(.d .nilS)),(1,(di p1)),(2,(di p2)),(6,(di x1))],G []⟩) (D3 (p1+1)) () _ h (F2 W W) ?_
 intro x1 g1 z1 hz1 ez1
 unfold M2 at hz1
 refine A5<|B0<|sv W<|sv W<|sv W<|A1<|cc W hz1 (fun c1 hz1=> ?_)<|fun c1 hz1=> ?_
 refine A8<|A5<|A7<|B0<|sv W<|sv W<|A1<|bs hz1 fun _ hy1 hz1=>D9 (fun s=> ∃g2:Unit,Sb ⟨T [(0,(.d .nilS)),(1,(di p1)),(2,(di p2)),(6,(di x1))],G []⟩ s) ?_ ?_
 refine A7<|E4 (W5 p1) (fun (x2:Int) (g3:Unit)=>⟨T [(0,(.d .nilS)),(1,(di p1)),(2,(di p2)),(6,(di x1)),(7,(di x2))],G []⟩) x1 () _ hy1 (F2 W W) ?_
 intro x2 g3 z2 hz2 ez2
 unfold W5 at hz2
 refine A5<|A5<|E7 W<|sv W<|sv W<|sv W<|sv W<|gt W (fun _=>W)<|gt W (fun _=>W)<|bs hz2 fun _ hv1 hz2=>M8 _ (.d (.tup [])) W (M3 W) (fun w3=>nomatch B9 w3 hv1) (M8 _ (di 0) W (M3 W) (fun w4=>nomatch B9 w4 hv1) (M8 _ (.d (.tup [])) W (M3 W) (fun w5=>nomatch B9 w5 hv1) (M8 _ (di 0) W (M3 W) (fun w6=>nomatch B9 w6 hv1) (M8 _ (di 0) W (M3 W) (fun w7=>nomatch B9 w7 hv1) (M8 _ (.d (.tup [])) W (M3 W) (fun w8=>nomatch B9 w8 hv1) (M8 _ (di 0) W (M3 W) (fun w9=>nomatch B9 w9 hv1) (N6 _ (bo false) (M3 W) (fun w10=>nomatch B9 w10 hv1) (sa W W W<|A1<|cc W hz2 (fun c2 hz2=> ?_)<|fun c2 hz2=> ?_))))))))
 refine A8<|A5<|A7<|E7 W<|sv W<|sv W<|sv W<|sv W<|sv W<|sv W<|sv W<|sv W ?_
 cases hz2
 refine C8 W ?_
 cases hz2
 obtain rfl:=ez2 _ rfl
 refine ⟨nofun,C6 W<|U4 ?_⟩
 exact ⟨(),(F2 W W)⟩
 rintro _ ⟨g2,q1⟩
 refine E3<|B4 q1<|B7<|sv W<|sv W<|sv W<|A1<|E2 ?_
 cases hz1
 exact ⟨W,(),(F2 W W)⟩
 refine C8 W ?_
 cases hz1
 obtain rfl:=ez1 _ rfl
 refine ⟨nofun,C6 W<|E2 ?_⟩
 exact A6 (.inl W) W (.refl _)
def N1 [Lp](x1:(Int×Int×Int×Bool×Bool)):Option (Stp (Int×Int×Int×Bool×Bool) Unit):=
  cond (decide ((D3 (x1.2.1 - x1.1))≤12)) ((L9 x1.1 x1.2.1).bind fun v1=>some (.out (()))) (cond (x1.2.2.1==0) (none) ((cond (!x1.2.2.2.1) (none) (some ())).bind fun _=>none))
def O4 [Lp](p1:Int)(p2:Int)(p3:Int):Option Unit:=
  loop (N1) (p1,p2,p3,true,true)
theorem Oc(p1 p2 p3 r)(h:O4 p1 p2 p3=some r):PCall prog 266 [.nilS,(i64 p1),(i64 p2),(i64 p3)] (.tup []):=by
 refine C4 (fk func266 ntmps266 m0 (by with_unfolding_all rfl)) (nl W) ?_
 unfold O4 at h
 refine B4 (s0:=⟨T [(0,(.d _)),(1,(.d _)),(2,(.d _)),(3,(.d _))],G []⟩) (F2 W W) ?_
 refine B0<|sv W<|A1<|B0<|sv W<|A1<|A7<|E4 (N1) (fun (x1:(Int×Int×Int×Bool×Bool)) (g1:Unit)=>⟨T [(0,(.d .nilS)),(1,(di x1.1)),(2,(di x1.2.1)),(3,(di x1.2.2.1)),(8,(.d (bo x1.2.2.2.1))),(9,(.d (bo x1.2.2.2.2)))],G []⟩) (p1,p2,p3,true,true) () _ h (F2 W W) ?_
 intro x1 g1 z1 hz1 ez1
 unfold N1 at hz1
 refine A7<|B0<|sv W<|sv W<|sv W<|sv W<|A1<|A5<|B0<|sv W<|sv W<|A1<|cc W hz1 (fun c1 hz1=> ?_)<|fun c1 hz1=> ?_
 refine B0<|sv W<|sv W<|sv W<|bs hz1 fun _ hv1 hz1=>A9 W W A3 (Km _ _ _ hv1) (.inl W) (A1<|B2 ?_)
 cases hz1
 obtain rfl:=ez1 _ rfl
 refine ⟨nofun,F4 ?_⟩
 exact A6 (.inr W) W (.refl _)
 refine A8<|A5<|B0<|sv W<|sv W<|A1<|cc W hz1 (fun c2 hz1=> ?_)<|fun c2 hz1=> ?_
 refine B0<|sv W<|sv W<|sv W ?_
 cases hz1
 refine A8<|A5<|B0<|sv W<|C0 (.d (bo (!x1.2.2.2.1))) W W (A1<|bs hz1 fun _ hy1 hz1=>D9 (fun s=> ∃g2:Unit,Sb ⟨T [(0,(.d .nilS)),(1,(di x1.1)),(2,(di x1.2.1)),(3,(di x1.2.2.1)),(8,(.d (bo x1.2.2.2.1))),(9,(.d (bo x1.2.2.2.2))),(10,(di<|D3 (x1.2.1 - x1.1)))],G []⟩ s) ?_ ?_)
 refine cc W hy1 (fun c3 hy1=> ?_)<|fun c3 hy1=> ?_
 refine B0<|sv W<|sv W<|sv W ?_
 cases hy1
 refine A8 ?_
 cases hy1
 exact U4 ⟨(),(F2 W W)⟩
 rintro _ ⟨g2,q1⟩
 refine B4 q1<|B0<|sv W<|sv W<|sv W ?_
 cases hz1
def O8 [Lp]:Option Unit:=
  (Js (IntKind.wrap .u64 0)).bind fun v1=>(O4 0 0 v1).bind fun v2=>some ()
theorem Qx(r)(h:O8=some r):PCall prog 252 [.nilS] (.tup []):=by
 refine C4 (fk func252 ntmps252 m0 (by with_unfolding_all rfl)) (nl W) ?_
 unfold O8 at h
 refine B4 (s0:=⟨T [(0,(.d _))],G []⟩) (F2 W W) ?_
 refine B0<|sv W<|sv W<|sv W<|A1<|B7<|sv W<|sv W<|sv W<|sv W<|bs h fun _ hv1 h=>A9 W W A3 (Ux _ _ hv1) (.inl W) (bs h fun _ hv2 h=>A9 W W A3 (Oc _ _ _ _ hv2) (.inl W) (A1<|E2 ?_))
 cases h
 exact A6 (.inl W) W (.refl _)
def Al [Lp](p1:Map)(p2:Int)(p3:Int)(v1:Zone)(x2:((List Int)×Int)):Option (Stp ((List Int)×Int) (List Int)):=
  cond (decide (x2.2< (v1.Parts.length:Int))) ((C1 v1.Parts x2.2).bind fun v2=>((cond (v2.Lane_==p2) (C1 p1.Signals (D3 (v1.Signal_ - 1))) (some default))).bind fun v3=>((cond (v2.Lane_==p2) (Fk v3 p2 p3) (some default))).bind fun v4=>cond ((v2.Lane_==p2)&& (!v4)) ((X6 x2.1 [v2.From]).bind fun v5=>some (.go (v5,(D3 (x2.2+1))))) (some (.go (x2.1,(D3 (x2.2+1)))))) (some (.out x2.1))
def Am [Lp](p1:Map)(p2:Int)(p3:Int)(x1:((List Int)×Int)):Option (Stp ((List Int)×Int) (List Int)):=
  cond (decide (x1.2< (p1.Zones.length:Int))) ((C1 p1.Zones x1.2).bind fun v1=>cond (v1.Signal_==0) (some (.go (x1.1,(D3 (x1.2+1))))) ((loop (Al p1 p2 p3 v1) (x1.1,0)).bind fun y2=>some (.go (y2,(D3 (x1.2+1)))))) (some (.out x1.1))
def Nd [Lp](p1:Map)(p2:Int)(p3:Int):Option (List Int):=
  (loop (Am p1 p2 p3) ([],0)).bind fun y1=>cond (List.isEmpty y1) ((O8).bind fun v8=>some []) ((O7 y1).bind fun v6=>(EF v6).bind fun v7=>some v7)
theorem QA(p1 p2 p3 r)(h:Nd p1 p2 p3=some r):PCall prog 223 [(.agg (P7 p1)),(i64 p2),(i64 p3)] (.list (List.map A4 r)):=by
 refine C4 (fk func223 ntmps223 (fun r=>if r==10 then [1003]else if r==13 then [1013001]else if r==14 then [1014001]else []) (by with_unfolding_all rfl)) (nl W) ?_
 unfold Nd at h
 refine B4 (s0:=⟨T [(0,(.d _)),(1,(.d _)),(2,(.d _))],G []⟩) (F2 W W) ?_
 refine lr<|fun u1 _=>sm W<|sv W<|A1<|B0<|sv W<|A1<|A5<|B0<|sq W<|sl W G_hit W<|sd W (D7 W)<|sv W<|A1<|bs h fun y1 hy1 h=>D9 (fun s=> ∃g1:Nat,Sb ⟨T [(7,(oS y1 (50,g1)))],G [((50,g1),oB 2 1 A4 y1)]⟩ s) ?_ ?_
 refine A7<|E4 (Am p1 p2 p3) (fun (x1:((List Int)×Int)) (g2:Nat)=>⟨T [(1,(di p2)),(2,(di p3)),(3,(.ptr (3,u1) 0)),(7,(oS x1.1 (50,g2))),(13,(dl Gs p1.Zones)),(14,(di (p1.Zones.length:Int))),(15,(di x1.2))],G [((3,u1),some<|.box 33 (L4 p1)),((50,g2),oB 2 1 A4 x1.1)]⟩) ([],0) 0 _ hy1 (E0 (Z7 W)<|B5 G_hit (.of W)<|S5 trivial) ?_
 intro x1 g2 z1 hz1 ez1
 unfold Am at hz1
 refine B0<|sv W<|A1<|A5<|cc W hz1 (fun c1 hz1=> ?_)<|fun c1 hz1=> ?_
 refine A8<|A5<|A7<|lr<|fun u5 _=>bs hz1 fun v1 hv1 hz1=>sd W (C5 W W hv1 W)<|sd W (D4 W hv1 W W)<|sm W<|U0 W G_hit [(dl Bf v1.Parts),(di v1.Signal_)] W (A1<|A5<|B0<|sq W<|sl W G_hit W<|sv W<|A1<|cc W hz1 (fun c2 hz1=> ?_)<|fun c2 hz1=> ?_)
 refine Pa W<|B7<|sv W<|sv W<|A1<|E2 ?_
 cases hz1
 exact ⟨W,g2,(E0 (Z7 W)<|sg W<|B8 (gq W) trivial)⟩
 refine A8<|B0<|sq W<|sl W G_hit W<|sd W (D7 W)<|sv W<|A1<|bs hz1 fun y2 hy2 hz1=>D9 (fun s=> ∃g3:Nat,Sb ⟨T [(1,(di p2)),(2,(di p3)),(3,(.ptr (3,u1) 0)),(7,(oS y2 (50,g3))),(13,(dl Gs p1.Zones)),(14,(di (p1.Zones.length:Int))),(15,(di x1.2))],G [((3,u1),some<|.box 33 (L4 p1)),((50,g3),oB 2 1 A4 y2)]⟩ s) ?_ ?_
 refine A7<|E4 (Al p1 p2 p3 v1) (fun (x2:((List Int)×Int)) (g4:Nat)=>⟨T [(1,(di p2)),(2,(di p3)),(3,(.ptr (3,u1) 0)),(7,(oS x2.1 (50,g4))),(9,(.ptr (9,u5) 0)),(13,(dl Gs p1.Zones)),(14,(di (p1.Zones.length:Int))),(15,(di x1.2)),(23,(dl Bf v1.Parts)),(24,(di (v1.Parts.length:Int))),(25,(di x2.2))],G [((3,u1),some<|.box 33 (L4 p1)),((9,u5),some<|.box 117 [(dl Bf v1.Parts),(di v1.Signal_)]),((50,g4),oB 2 1 A4 x2.1)]⟩) (x1.1,0) g2 _ hy2 (E0 (Z7 W)<|sg W<|B5 G_hit (.of W)<|B8 (gq W) trivial) ?_
 intro x2 g4 z2 hz2 ez2
 unfold Al at hz2
 refine B0<|sv W<|A1<|A5<|cc W hz2 (fun c3 hz2=> ?_)<|fun c3 hz2=> ?_
 refine A8<|A5<|A7<|B0<|bs hz2 fun v2 hv2 hz2=>sd W (C5 W W hv2 W)<|sd W (D4 W hv2 W W)<|sm W<|U0 W G_hit (Tn v2) W (A1<|B0<|sq W<|sl W G_hit W<|sv W<|sv W<|sv W<|gp W (M3 W) (fun _=>W) (gt W (vl W (gq W) W)<|gp W (M3 W) (fun _=>W) (gt W (vl W (gq W) W)<|gt W (vb W W W)<|bs hz2 fun v3 hv3 hz2=>gt W (fun w6=>(C5 (A2 w6) (A2 w6) (B9 w6 hv3) W))<|gt W (fun w7=>(D4 (A2 w7) (B9 w7 hv3) W W))<|gt W (fun _=>W)<|gt W (fun _=>W)<|bs hz2 fun v4 hv4 hz2=> ?_)))
 refine N6 _ (bo v4) (M3 W) (fun w10=>⟨_,[(.d (.agg [(i64 v3.Offset),(.list (List.map Bb v3.Phases))])),(di p2),(di p3)],_,_,(by simp only [A2 w10];rfl),W,A3,Yz _ _ _ _<|B9 w10 hv4,(.inl W)⟩) ?_
 refine M8 _ (.d (bo (!v4))) W (M3 W) (fun w11=>(by simp only [A2 w11];rfl)) ?_
 refine sa W W W<|A1<|cc W hz2 (fun c4 hz2=> ?_)<|fun c4 hz2=> ?_
 refine Br fun u12 _=>C0 (oS x2.1 (50,g4)) W W (sq W<|sl W G_hit W<|C0 (dl A4 [v2.From]) W W (bs hz2 fun _ hv5 hz2=>Q3 A4 (50,g4) x2.1 v2.From [] _ (K7<|fun _=>W) W (gq W) hv5 (ss W<|A1<|E3<|B7<|sv W<|sv W<|A1<|E2 ?_)))
 cases hz2
 exact ⟨W,u12,(E0 ⟨.of W, .of W, .of W,(.of (V1<|V4 hv5).symm), .of W, .of W, .of W, .of W, .of W, .of W, .of W,trivial⟩<|sg W<|sg W<|N8 G_hit trivial)⟩
 refine A8<|E3<|B7<|sv W<|sv W<|A1<|E2 ?_
 cases hz2
 exact ⟨W,g4,(E0 (Z7 W)<|sg W<|sg W<|B8 (gq W) trivial)⟩
 refine C8 W ?_
 cases hz2
 obtain rfl:=ez2 _ rfl
 refine ⟨nofun,C6 W<|U4 ?_⟩
 exact ⟨g4,(E0 (Z7 W)<|B5 G_hit (.of W)<|B8 (gq W) trivial)⟩
 rintro _ ⟨g3,q1⟩
 refine E3<|B4 q1<|B7<|sv W<|sv W<|A1<|E2 ?_
 cases hz1
 exact ⟨W,g3,(E0 (Z7 W)<|B5 G_hit (.of W)<|B8 (gq W) trivial)⟩
 refine C8 W ?_
 cases hz1
 obtain rfl:=ez1 _ rfl
 refine ⟨nofun,C6 W<|U4 ?_⟩
 exact ⟨g2,(E0 ⟨.of W,trivial⟩<|B8 (gq W) trivial)⟩
 rintro _ ⟨g1,q2⟩
 refine B4 q2<|A5 ?_
 rcases NO h with ⟨e1,h⟩|⟨e1,h⟩
 refine B4 (s0:=⟨T [(7,(.d .nilS))],G []⟩) (E0 ⟨.of (fW e1),trivial⟩ trivial) ?_
 refine B7<|sv W<|bs h fun _ hv8 h=>FS (v:= .d (.tup [])) (us:= []) (kF [] _ W W A3 (Qx _ hv8) W W) (A1<|B0<|sv W<|FS (v:= .d .nilS) (us:= []) (kF [] _ W W A3 kL W W) (sv W<|A1<|B2 ?_))
 cases h
 exact A6 (.inr W) (B6 (B3 W) C2) DLe.nil
 refine B4 (s0:=⟨T [(7,(.sl (50,g1)))],G [((50,g1),some<|.arr 2 1 (List.map A4 y1))]⟩) (E0 ⟨.of (V1 e1),trivial⟩<|B5 (Ii G_hit e1) (.of W) trivial) ?_
 refine B7<|ss W<|bs h fun v6 hv6 h=>FS (v:= .d (.tup [])) (us:= [(50,g1)]) (MI (Qw _ _ hv6) [(50,g1)] [(50,g1)] _ (((50,g1),some<|.arr 2 1 (List.map A4 v6))::_) W Nt (Y6 EC Ub) (Kz G_hit Jc) ⟨⟨_,G_hit, .of W⟩,trivial⟩ (fun _ h=>h) nd1 W W W) (A1<|lr<|fun u18 _=>ss W<|bs h fun v7 hv7 h=>FS (v:= .sl (10140010,u18)) (us:= [(50,g1),(10140010,u18)]) (MI (qD _ _ hv7) [(50,g1)] [(50,g1)] _ (((10140010,u18),some<|.arr 2 1 (List.map A4 v7))::((50,g1),none)::_) W Nt (Y6 EC Ub) (Kz G_hit Jc) ⟨⟨_,G_hit, .of W⟩,trivial⟩ (fun _ h=>h) nd1 W W W) (ss W<|A1<|B2 ?_))
 cases h
 exact A6 (.inr W) (B6 (B3 W)<|HE G_hit) (.refl _)
def Ew [Lp](p1:Map)(p2:Int)(p3:Int):Option (List Int):=
  ((cond (!(decide (p3<0))) (Ma p1 p2) (some default))).bind fun v1=>cond ((decide (p3<0))||(!v1)) (some []) ((Nd p1 p2 p3).bind fun v2=>some v2)
theorem QB(p1 p2 p3 r)(h:Ew p1 p2 p3=some r):PCall prog 180 [(.agg (P7 p1)),(i64 p2),(i64 p3)] (.list (List.map A4 r)):=by
 refine C4 (fk func180 ntmps180 m0 (by with_unfolding_all rfl)) (nl W) ?_
 unfold Ew at h
 refine B4 (s0:=⟨T [(0,(.d _)),(1,(.d _)),(2,(.d _))],G []⟩) (F2 W W) ?_
 refine B0<|sm W<|sv W<|A1<|A5<|B0<|sv W<|sv W<|sv W<|gf W (fun _=>(B1 W G_hit W W))<|gf W (fun _=>W)<|bs h fun v1 hv1 h=> ?_
 refine N6 _ (bo v1) (K6 W) (fun w3=>⟨_,[(.d (.agg (P7 p1))),(di p2)],_,_,(by simp only [A2 w3];rfl),W,A3,Yy _ _ _<|B9 w3 hv1,(.inl W)⟩) ?_
 refine M8 _ (.d (bo (!v1))) W (K6 W) (fun w4=>(by simp only [A2 w4];rfl)) ?_
 refine sd W (O2 W W<|fun hc=>A2<|J4 hc)<|A1<|cc W h (fun c1 h=> ?_)<|fun c1 h=> ?_
 refine B0<|sv W<|A1<|B2 ?_
 cases h
 exact A6 (.inr W) (B6 (B3 W) C2) DLe.nil
 refine A8<|B0<|sd W (B1 W G_hit W W)<|sv W<|sv W<|bs h fun _ hv2 h=>A9 W W A3 (QA _ _ _ _ hv2) (.inl W) (sv W<|A1<|B2 ?_)
 cases h
 exact A6 (.inr W) (B6 (B3 W) C2) (.refl _)
def Z3 (p1:Int)(p2:Agent)(p3:Int):Option Int:=
  some (Mp true 0 (Mp false (D3 (p2.V+p1)) p3))
theorem Rf(p1 p2 p3 r)(h:Z3 p1 p2 p3=some r):PCall prog 179 [(i64 p1),(.bp (D0 p2) 0),(.bp [(i64 p3)] 0)] (i64 r):=by
 refine C4 (fk func179 ntmps179 m0 (by with_unfolding_all rfl)) (nl W) ?_
 unfold Z3 at h
 refine B4 (s0:=⟨T [(0,(.d _)),(1,(.d _)),(2,(.d _))],G []⟩) (F2 W W) ?_
 refine B0<|sv W<|A1<|B0<|sv W<|sv W<|sv W<|sv W<|sv W<|sv W<|sv W<|sv W<|A1<|B2 ?_
 cases h
 exact A6 (.inr W) (B6 (B3 W) C2) (.refl _)
def Iq (p1:Int)(p2:Int):Option Int:=
  cond ((decide (p1<1))||(decide (p2<1))) (some 0) ((PP .i64 (D3 ((Mp false p1 1000000) - 1)) (Mp false p2 1000000)).bind fun v1=>some (D3 ((D3 (v1* (Mp false p1 1000000))) - (D3 ((Mp false p2 1000000)* (D3 ((D3 (v1* (D3 (v1+1)))).tdiv 2)))))))
theorem Mb(p1 p2 r)(h:Iq p1 p2=some r):PCall prog 41 [(i64 p1),(i64 p2)] (i64 r):=by
 refine C4 (fk func41 ntmps41 m0 (by with_unfolding_all rfl)) (nl W) ?_
 unfold Iq at h
 refine B4 (s0:=⟨T [(0,(.d _)),(1,(.d _))],G []⟩) (F2 W W) ?_
 refine B0<|sv W<|A1<|A5<|B0<|sv W<|sv W<|sv W<|gf W (fun _=>W)<|gf W (vb W W W)<|sd W (O2 W W<|fun hc=>A2<|J4 hc)<|A1<|cc W h (fun c1 h=> ?_)<|fun c1 h=> ?_
 refine B0<|sv W<|A1<|B2 ?_
 cases h
 exact A6 (.inr W) (B6 (B3 W) C2) (.refl _)
 refine A8<|B0<|sv W<|sv W<|sv W<|sv W<|sv W<|sv W<|A1<|B0<|sv W<|sv W<|sv W<|bs h fun _ hv1 h=>sd W (fB W W hv1)<|sv W<|A1<|B0<|sv W<|sv W<|sv W<|sv W<|sv W<|sv W<|sv W<|sv W<|sv W<|sv W<|sv W<|sv W<|A1<|B2 ?_
 cases h
 exact A6 (.inr W) (B6 (B3 W) C2) (.refl _)
def Em (p1:Int)(p2:Int)(p3:Int)(p4:Int)(p5:Int):Option Bool:=
  ((cond (decide (p1>p2)) (Iq p3 p4) (some default))).bind fun v1=>((cond ((decide (p1>p2))&& (decide ((D3 (p2+v1))<p1))) (Iq p5 p4) (some default))).bind fun v2=>some (((decide (p1>p2))&& (decide ((D3 (p2+v1))<p1)))&& (decide ((D3 ((D3 (p2+p5))+v2))≥p1)))
theorem Ug(p1 p2 p3 p4 p5 r)(h:Em p1 p2 p3 p4 p5=some r):PCall prog 225 [(i64 p1),(.bp [(i64 p2)] 0),(.bp [(i64 p3)] 0),(.bp [(i64 p4)] 0),(.bp [(i64 p5)] 0)] (bo r):=by
 refine C4 (fk func225 ntmps225 m0 (by with_unfolding_all rfl)) (nl W) ?_
 unfold Em at h
 refine B4 (s0:=⟨T [(0,(.d _)),(1,(.d _)),(2,(.d _)),(3,(.d _)),(4,(.d _))],G []⟩) (F2 W W) ?_
 refine B0<|sv W<|A1<|A5<|E7 W<|sv W<|sv W<|sv W<|sv W<|gt W (fun _=>W)<|gt W (fun _=>W)<|gt W (fun _=>W)<|bs h fun v1 hv1 h=> ?_
 refine N6 _ (i64 v1) (M3 W) (fun w4=>⟨_,[(di p3),(di p4)],_,_,(by simp only [A2 w4];rfl),W,A3,Mb _ _ _<|B9 w4 hv1,(.inl W)⟩) ?_
 refine gt W (fun w5=>(M7 (A2 w5) (A2 w5) W))<|gt W (fun _=>W)<|gt W (fun w7=>(M7 (A2 w7) (A2 w7) W))<|sa W W W<|sv W<|gt W (fun _=>W)<|gt W (fun _=>W)<|gt W (fun w10=>(M7 (A2 w10) (A2 w10) W))<|gt W (fun _=>W)<|gt W (fun _=>W)<|bs h fun v2 hv2 h=> ?_
 refine N6 _ (i64 v2) (M3 W) (fun w13=>⟨_,[(di p5),(di p4)],_,_,(by simp only [A2 w13];rfl),W,A3,Mb _ _ _<|B9 w13 hv2,(.inl W)⟩) ?_
 refine gt W (fun w14=>(M7 (A2 w14) (A2 w14) W))<|gt W (fun _=>W)<|gt W (fun w16=>(M7 (A2 w16) (A2 w16) W))<|sa W W W<|sv W<|A1<|B2 ?_
 cases h
 exact A6 (.inr W) (B6 (B3 W) C2) (.refl _)
def L3 (p1:(List Int))(p2:Int)(p3:Int)(p4:Int)(p5:Int)(x1:Int):Option (Stp Int (Sum Unit Int)):=
  cond (decide (x1< (p1.length:Int))) ((C1 p1 x1).bind fun v1=>(Em v1 p2 p3 p4 p5).bind fun v2=>cond v2 (some (.out (.inr x1))) (some (.go (D3 (x1+1))))) (some (.out (.inl ())))
def I3 [Lp](p1:(List Int))(p2:Int)(p3:Int)(p4:Int)(p5:Int):Option Int:=
  thenS (loop (L3 p1 p2 p3 p4 p5) 0) (fun _=>some (-1)) (fun r=>some r)
theorem Eo(p1 p2 p3 p4 p5 r)(h:I3 p1 p2 p3 p4 p5=some r):PCall prog 254 [(.list (List.map A4 p1)),(.fn (.func 225) [] [(.bp [(i64 p2)] 0),(.bp [(i64 p3)] 0),(.bp [(i64 p4)] 0),(.bp [(i64 p5)] 0)])] (i64 r):=by
 refine C4 (fk func254 ntmps254 m0 (by with_unfolding_all rfl)) (nl W) ?_
 unfold I3 at h
 refine B4 (s0:=⟨T [(0,(.d _)),(1,(.d _))],G []⟩) (F2 W W) ?_
 refine B0<|sv W<|A1<|A5<|B0<|sv W<|sd W (D7 W)<|sv W<|A1<|js h fun z1 hz1 h=>D9 (fun s=> ∃(y1:Unit) (g1:Unit),z1= .inl y1∧Sb ⟨T [],G []⟩ s) ?_ ?_
 refine A7<|E4 (L3 p1 p2 p3 p4 p5) (fun (x1:Int) (g2:Unit)=>⟨T [(0,(dl A4 p1)),(1,(.d (.fn (.func 225) [] [(.bp [(i64 p2)] 0),(.bp [(i64 p3)] 0),(.bp [(i64 p4)] 0),(.bp [(i64 p5)] 0)]))),(7,(di (p1.length:Int))),(8,(di x1))],G []⟩) 0 () _ hz1 (F2 W W) ?_
 intro x1 g2 z2 hz2 ez2
 unfold L3 at hz2
 refine B0<|sv W<|A1<|A5<|cc W hz2 (fun c1 hz2=> ?_)<|fun c1 hz2=> ?_
 refine A8<|A5<|A7<|B0<|sv W<|sv W<|A1<|B0<|sv W<|sv W<|sv W<|bs hz2 fun _ hv1 hz2=>sd W (C5 W W hv1 W)<|sd W (C9 W hv1 W)<|bs hz2 fun _ hv2 hz2=>A9 W W A3 (Ug _ _ _ _ _ _ hv2) (.inl W) (A1<|cc W hz2 (fun c2 hz2=> ?_)<|fun c2 hz2=> ?_)
 refine B0<|sv W<|sv W<|A1<|B2 ?_
 cases hz2
 obtain rfl:=ez2 _ rfl
 refine ⟨nofun,F4 ?_⟩
 rw [wE]at h
 cases h
 exact A6 (.inr W) (B6 (B3 W) C2) (.refl _)
 refine A8<|E3<|B7<|sv W<|sv W<|A1<|E2 ?_
 cases hz2
 exact ⟨W,(),(F2 W W)⟩
 refine C8 W ?_
 cases hz2
 obtain rfl:=ez2 _ rfl
 refine ⟨nofun,C6 W<|U4 ?_⟩
 exact ⟨_,(),W,(F2 W W)⟩
 rintro _ ⟨y1,g1,rfl,q1⟩
 rw [wD]at h
 refine B4 q1<|B0<|sv W<|A1<|B2 ?_
 cases h
 exact A6 (.inr W) (B6 (B3 W) C2) (.refl _)
end
end Go.Abs.World
