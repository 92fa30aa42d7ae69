/-
  The functions, part 2.
-/
import Derived.Test.YtgjdiioennhoeaaGreatFns1
set_option maxRecDepth 20000
set_option maxHeartbeats 4000000
set_option linter.unusedVariables false
namespace Go.Abs.World
open Go Go.Abs Go.Proofs
attribute [local irreducible] Y7 B5v AWL
noncomputable def A1j (p1:Int)(p2:Int):Option Int:=
  (X0 p1).bind fun v1=>(X0 p2).bind fun v2=>cond v1 (cond v2 (some 0) (some (-1))) (cond v2 (some 1) (cond (decide (p1<p2)) (some (-1)) (cond (decide (p1>p2)) (some 1) (some 0))))
theorem B05 (p1:Int)(p2:Int)(r:Int)(h:A1j p1 p2=some r):PCall Tryz.prog 229 [(i64 p1),(i64 p2)] (i64 r):=by
 refine B7 (fk Tryz.func229 Tryz.ntmps229 m0 (by with_unfolding_all rfl)) (nl rfl) ?_
 unfold A1j at h
 refine B5 (s0:=⟨T [(0,(.d _)),(1,(.d _))],G []⟩) (sbr rfl rfl) ?_
 refine lr (fun u1 hu1=>sv rfl (A1 (lr (fun u2 hu2=>sv rfl (bs h fun v1 hv1 h=>B0 rfl rfl A2 (A4y _ _ hv1) (.inl rfl) (sv rfl (A1 (lr (fun u3 hu3=>sv rfl (bs h fun v2 hv2 h=>B0 rfl rfl A2 (A4y _ _ hv2) (.inl rfl) (sv rfl (A1 (A6 (lr (fun u4 hu4=>sv rfl (A1 (cc rfl h (fun c1 h=> ?_) (fun c1 h=> ?_))))))))))))))))))
 refine A6 (lr (fun u5 hu5=>sv rfl (A1 (cc rfl h (fun c2 h=> ?_) (fun c2 h=> ?_)))))
 refine lr (fun u6 hu6=>sv rfl (A1 (B3 ?_)))
 cases h
 exact A7 (.inr rfl) (B6 (B4 rfl) E0) (.refl _)
 refine A9 (lr (fun u7 hu7=>sv rfl (A1 (B3 ?_))))
 cases h
 exact A7 (.inr rfl) (B6 (B4 rfl) E0) (.refl _)
 refine A9 (A6 (lr (fun u8 hu8=>sv rfl (A1 (cc rfl h (fun c3 h=> ?_) (fun c3 h=> ?_))))))
 refine lr (fun u9 hu9=>sv rfl (A1 (B3 ?_)))
 cases h
 exact A7 (.inr rfl) (B6 (B4 rfl) E0) (.refl _)
 refine A9 (A6 (lr (fun u10 hu10=>sv rfl (sv rfl (sv rfl (A1 (cc rfl h (fun c4 h=> ?_) (fun c4 h=> ?_))))))))
 refine lr (fun u11 hu11=>sv rfl (A1 (B3 ?_)))
 cases h
 exact A7 (.inr rfl) (B6 (B4 rfl) E0) (.refl _)
 refine A9 (A6 (lr (fun u12 hu12=>sv rfl (sv rfl (sv rfl (A1 (cc rfl h (fun c5 h=> ?_) (fun c5 h=> ?_))))))))
 refine lr (fun u13 hu13=>sv rfl (A1 (B3 ?_)))
 cases h
 exact A7 (.inr rfl) (B6 (B4 rfl) E0) (.refl _)
 refine A9 (lr (fun u14 hu14=>sv rfl (A1 (B3 ?_))))
 cases h
 exact A7 (.inr rfl) (B6 (B4 rfl) E0) (.refl _)
noncomputable def A6n (p1:Pass)(p2:Pass):Option Int:=
  (A1j p1.From p2.From).bind fun v1=>(W9 p1.Zone_ p2.Zone_).bind fun v2=>(A5z [v1,v2]).bind fun v3=>some v3
theorem B95 (p1:Pass)(p2:Pass)(r:Int)(h:A6n p1 p2=some r):PCall Tryz.prog 264 [(.agg (A3a p1)),(.agg (A3a p2))] (i64 r):=by
 refine B7 (fk Tryz.func264 Tryz.ntmps264 (fun r=>if r==1 then [1010]else []) (by with_unfolding_all rfl)) (nl rfl) ?_
 unfold A6n at h
 refine B5 (s0:=⟨T [(0,(.d _)),(1,(.d _))],G []⟩) (sbr rfl rfl) ?_
 refine lr (fun u1 hu1=>sn rfl rfl (sn rfl rfl (sv rfl (A1 (A6 (I0 rfl fun u2 hu2=>sp rfl rfl (sl rfl (gq rfl) rfl (sp rfl rfl (sl rfl G_hit rfl (bs h fun v1 hv1 h=>B0 rfl rfl A2 (B05 _ _ _ hv1) (.inl rfl) (sp rfl rfl (sl rfl (gq rfl) rfl (sp rfl rfl (sl rfl G_hit rfl (bs h fun v2 hv2 h=>B0 rfl rfl A2 (A4x _ _ _ hv2) (.inl rfl) (C1 (dl A4 [v1,v2]) rfl rfl (bs h fun v3 hv3 h=>B0 rfl rfl A2 (B3v _ _ hv3) (.inl rfl) (sv rfl (A1 (B3 ?_))))))))))))))))))))
 cases h
 exact A7 (.inr rfl) (B6 (B4 rfl) E0) (.refl _)
noncomputable def F7 (p2:Int)(x2:(Int× (List Pass))):Option (Stp (Int× (List Pass)) (List Pass)):=
  ((cond (decide (x2.1>p2)) (D4 x2.2 x2.1) (some default))).bind fun v1=>((cond (decide (x2.1>p2)) (D4 x2.2 (w64 (x2.1 - 1))) (some default))).bind fun v2=>((cond (decide (x2.1>p2)) (A6n v1 v2) (some default))).bind fun v3=>cond ((decide (x2.1>p2))&& (decide (v3<0))) ((D4 x2.2 (w64 (x2.1 - 1))).bind fun v4=>(D4 x2.2 x2.1).bind fun v5=>(D4 x2.2 x2.1).bind fun v6=>(D4 (B79 x2.2 x2.1 v4) (w64 (x2.1 - 1))).bind fun v7=>some (.go ((w64 (x2.1 - 1)),(B79 (B79 x2.2 x2.1 v4) (w64 (x2.1 - 1)) v5)))) (some (.out x2.2))
noncomputable def F8 (p2:Int)(p3:Int)(x1:(Int× (List Pass))):Option (Stp (Int× (List Pass)) (List Pass)):=
  cond (decide (x1.1<p3)) ((loop (F7 p2) (x1.1,x1.2)).bind fun y1=>some (.go ((w64 (x1.1+1)),y1))) (some (.out (x1.2)))
noncomputable def E8 (p1:(List Pass))(p2:Int)(p3:Int):Option (List Pass):=
  loop (F8 p2 p3) ((w64 (p2+1)),p1)
theorem U0 (p1:(List Pass))(p2:Int)(p3:Int)(r:(List Pass))(h:E8 p1 p2 p3=some r):MCall Tryz.prog 282 [(.sl (900000,0)),(di p2),(di p3),(.d (.fn (.func 264) [] []))] [(.arr 229 4 (List.map A3a p1))] (.d (.tup [])) [some (.arr 229 4 (List.map A3a r))] []:=by
 refine B6s (fk Tryz.func282 Tryz.ntmps282 m0 (by with_unfolding_all rfl)) rfl (nl rfl) ?_
 unfold E8 at h
 refine B5 (s0:=⟨T [(0,(.sl _)),(1,(.d _)),(2,(.d _)),(3,(.d _))],G [((900000,0),some _)]⟩) (sbr rfl rfl) ?_
 refine lr (fun u1 hu1=>sv rfl (sv rfl (sv rfl (A1 (A8 (F1 (F8 p2 p3) (fun (x1:(Int× (List Pass))) (g1:Unit)=>⟨T [(0,(.sl (900000,0))),(1,(di p2)),(2,(di p3)),(3,(.d (.fn (.func 264) [] []))),(8,(di x1.1))],G [((900000,0),some (.arr 229 4 (List.map A3a x1.2)))]⟩) ((w64 (p2+1)),p1) () _ h (sbr rfl rfl) ?_))))))
 intro x1 g1 z1 hz1 ez1
 unfold F8 at hz1
 refine A6 (lr (fun u2 hu2=>sv rfl (sv rfl (sv rfl (A1 (cc rfl hz1 (fun c1 hz1=> ?_) (fun c1 hz1=> ?_)))))))
 refine A9 (A6 (A8 (lr (fun u3 hu3=>sv rfl (sv rfl (A1 (bs hz1 fun y1 hy1 hz1=>D7 (fun s=> ∃g2:Unit,Sb ⟨T [(0,(.sl (900000,0))),(1,(di p2)),(2,(di p3)),(3,(.d (.fn (.func 264) [] []))),(8,(di x1.1))],G [((900000,0),some (.arr 229 4 (List.map A3a y1)))]⟩ s) ?_ ?_)))))))
 refine A8 (F1 (F7 p2) (fun (x2:(Int× (List Pass))) (g3:Unit)=>⟨T [(0,(.sl (900000,0))),(1,(di p2)),(2,(di p3)),(3,(.d (.fn (.func 264) [] []))),(8,(di x1.1)),(9,(di x2.1))],G [((900000,0),some (.arr 229 4 (List.map A3a x2.2)))]⟩) (x1.1,x1.2) () _ hy1 (sbr rfl rfl) ?_)
 intro x2 g3 z2 hz2 ez2
 unfold F7 at hz2
 refine A6 (A6 (I0 rfl fun u4 hu4=>sv rfl (sv rfl (sv rfl (sv rfl (gt rfl (fun _=>rfl) (A01 _ (.sl _) rfl (A0d rfl) (fun _=>rfl) (gt rfl (fun _=>rfl) (bs hz2 fun v1 hv1 hz2=>A01 _ (.aptr _ _ _ _) rfl (A0d rfl) (fun w4=>(B03 (A3 w4) (A3 w4) G_hit (C0 w4 hv1))) (gt rfl (fun w5=>(B5r (A3 w5) G_hit (C0 w5 hv1) rfl rfl)) (A01 _ (.sl _) rfl (A0d rfl) (fun _=>rfl) (gt rfl (fun _=>rfl) (gt rfl (vb rfl rfl rfl) (bs hz2 fun v2 hv2 hz2=>A01 _ (.aptr _ _ _ _) rfl (A0d rfl) (fun w9=>(B03 (A3 w9) (A3 w9) G_hit (C0 w9 hv2))) (gt rfl (fun w10=>(B5r (A3 w10) G_hit (C0 w10 hv2) rfl rfl)) (bs hz2 fun v3 hv3 hz2=> ?_))))))))))))))))
 refine S4 _ (i64 v3) (A0d rfl) (fun w11=>⟨_,[(.d (.agg (A3a v1))),(.d (.agg (A3a v2)))],_,_,(by simp only [A3 w11];rfl),rfl,A2,B95 _ _ _ (C0 w11 hv3),(.inl rfl)⟩) ?_
 refine gt rfl (vb rfl rfl rfl) (sa rfl rfl rfl (A1 (cc rfl hz2 (fun c2 hz2=> ?_) (fun c2 hz2=> ?_))))
 refine A9 (A6 (A8 (I0 rfl fun u5 hu5=>ss rfl (sv rfl (ss rfl (sv rfl (sv rfl (ss rfl (sv rfl (sv rfl (bs hz2 fun v4 hv4 hz2=>C1 (.aptr _ _ _ _) rfl (B03 rfl rfl G_hit hv4) (sd rfl (B5r rfl G_hit hv4 rfl rfl) (ss rfl (sv rfl (bs hz2 fun v5 hv5 hz2=>C1 (.aptr _ _ _ _) rfl (B03 rfl rfl G_hit hv5) (sd rfl (B5r rfl G_hit hv5 rfl rfl) (bs hz2 fun v6 hv6 hz2=>C1 (.aptr _ _ _ _) rfl (B03 rfl rfl G_hit hv6) (B5q A3a _ _ _ (x2.1) _ v4 (A3a v4) rfl rfl rfl G_hit hv6 (nl rfl) rfl (bs hz2 fun v7 hv7 hz2=>C1 (.aptr _ _ _ _) rfl (B03 rfl rfl G_hit hv7) (B5q A3a _ _ _ ((w64 (x2.1 - 1))) _ v5 (A3a v5) rfl rfl rfl G_hit hv7 (nl rfl) rfl (A1 (G3 (C8 fun u6 hu6=>sv rfl (sv rfl (sv rfl (A1 (G4 ?_)))))))))))))))))))))))))))
 cases hz2
 exact ⟨rfl,(),(sbr rfl rfl)⟩
 refine C2 rfl ?_
 cases hz2
 obtain rfl:=ez2 _ rfl
 refine ⟨nofun,B9 rfl (l_j ?_)⟩
 exact ⟨(),(sbr rfl rfl)⟩
 rintro _ ⟨g2,q1⟩
 refine G3 (B5 q1 (C8 fun u7 hu7=>sv rfl (sv rfl (sv rfl (A1 (G4 ?_))))))
 cases hz1
 exact ⟨rfl,(),(sbr rfl rfl)⟩
 refine C2 rfl ?_
 cases hz1
 obtain rfl:=ez1 _ rfl
 refine ⟨nofun,B9 rfl (G4 ?_)⟩
 exact C1j (.inl rfl) [] C1k (.refl _) ⟨⟨G_hit,A3t⟩,trivial⟩
noncomputable def I3 (p2:Int)(x3:(Int×Int)):Option (Stp (Int×Int) Int):=
  cond (decide (x3.2≤p2)) (none) (some (.out x3.1))
noncomputable def I4 (p2:Int)(v2:(List Pass))(x2:Int):Option (Stp Int (List Pass)):=
  cond (decide (x2<p2)) ((loop (I3 p2) (0,(w64 (2*x2)))).bind fun y2=>cond (decide ((w64 (y2+x2))<p2)) (none) (some (.go (w64 (x2*2))))) (some (.out (v2)))
noncomputable def I5 (p2:Int)(x1:(Int×Int× (List Pass))):Option (Stp (Int×Int× (List Pass)) (Int× (List Pass))):=
  cond (decide (x1.2.1≤p2)) ((E8 x1.2.2 x1.1 x1.2.1).bind fun v1=>some (.go (x1.2.1,(w64 (x1.2.1+20)),v1))) (some (.out (x1.1,x1.2.2)))
noncomputable def K1 (p1:(List Pass))(p2:Int):Option (List Pass):=
  (loop (I5 p2) (0,20,p1)).bind fun y1=>(E8 y1.2 y1.1 p2).bind fun v2=>loop (I4 p2 v2) 20
theorem A3g (p1:(List Pass))(p2:Int)(r:(List Pass))(h:K1 p1 p2=some r):MCall Tryz.prog 270 [(.sl (900000,0)),(di p2),(.d (.fn (.func 264) [] []))] [(.arr 229 4 (List.map A3a p1))] (.d (.tup [])) [some (.arr 229 4 (List.map A3a r))] []:=by
 refine B6s (fk Tryz.func270 Tryz.ntmps270 (fun r=>if r==3 then [1003004]else if r==6 then [1006004]else []) (by with_unfolding_all rfl)) rfl (nl rfl) ?_
 unfold K1 at h
 refine B5 (s0:=⟨T [(0,(.sl _)),(1,(.d _)),(2,(.d _))],G [((900000,0),some _)]⟩) (sbr rfl rfl) ?_
 refine lr (fun u1 hu1=>sv rfl (A1 (lr (fun u2 hu2=>sv rfl (sv rfl (sv rfl (A1 (A6 (bs h fun y1 hy1 h=>D7 (fun s=> ∃g1:Unit,Sb ⟨T [(0,(.sl (900000,0))),(1,(di p2)),(2,(.d (.fn (.func 264) [] []))),(6,(di 20)),(7,(di y1.1))],G [((900000,0),some (.arr 229 4 (List.map A3a y1.2)))]⟩ s) ?_ ?_)))))))))
 refine A8 (F1 (I5 p2) (fun (x1:(Int×Int× (List Pass))) (g2:Unit)=>⟨T [(0,(.sl (900000,0))),(1,(di p2)),(2,(.d (.fn (.func 264) [] []))),(6,(di 20)),(7,(di x1.1)),(8,(di x1.2.1))],G [((900000,0),some (.arr 229 4 (List.map A3a x1.2.2)))]⟩) (0,20,p1) () _ hy1 (sbr rfl rfl) ?_)
 intro x1 g2 z1 hz1 ez1
 unfold I5 at hz1
 refine A6 (lr (fun u3 hu3=>sv rfl (sv rfl (sv rfl (A1 (cc rfl hz1 (fun c1 hz1=> ?_) (fun c1 hz1=> ?_)))))))
 refine A9 (A8 (lr (fun u4 hu4=>ss rfl (sv rfl (sv rfl (sv rfl (bs hz1 fun v1 hv1 hz1=>D1v (v:= .d (.tup [])) (us:= [(900000,0)]) (D4s (U0 _ _ _ _ hv1) [(900000,0)] [(900000,0)] _ (((900000,0),some (.arr 229 4 (List.map A3a v1)))::_) rfl B0s (A1p C6i (A1p C9k (A1p C9k (A1p C9k B7r)))) (A7t G_hit A7s) ⟨⟨_,G_hit, .of rfl⟩,trivial⟩ (fun _ h=>h) nd1 rfl rfl rfl) (A1 (lr (fun u5 hu5=>sv rfl (sv rfl (A1 (C8 fun u6 hu6=>sv rfl (sv rfl (sv rfl (sv rfl (A1 (G3 (G4 ?_)))))))))))))))))))
 cases hz1
 exact ⟨rfl,(),(sbr rfl rfl)⟩
 refine C2 rfl ?_
 cases hz1
 obtain rfl:=ez1 _ rfl
 refine ⟨nofun,B9 rfl (l_j ?_)⟩
 exact ⟨(),(sbr rfl rfl)⟩
 rintro _ ⟨g1,q1⟩
 refine B5 q1 (lr (fun u7 hu7=>ss rfl (sv rfl (sv rfl (sv rfl (bs h fun v2 hv2 h=>D1v (v:= .d (.tup [])) (us:= [(900000,0)]) (D4s (U0 _ _ _ _ hv2) [(900000,0)] [(900000,0)] _ (((900000,0),some (.arr 229 4 (List.map A3a v2)))::_) rfl B0s (A1p C6i (A1p C9k (A1p C9k (A1p C9k B7r)))) (A7t G_hit A7s) ⟨⟨_,G_hit, .of rfl⟩,trivial⟩ (fun _ h=>h) nd1 rfl rfl rfl) (A1 (A8 (F1 (I4 p2 v2) (fun (x2:Int) (g3:Unit)=>⟨T [(0,(.sl (900000,0))),(1,(di p2)),(2,(.d (.fn (.func 264) [] []))),(6,(di x2))],G [((900000,0),some (.arr 229 4 (List.map A3a v2)))]⟩) 20 () _ h (sbr rfl rfl) ?_)))))))))
 intro x2 g3 z2 hz2 ez2
 unfold I4 at hz2
 refine A6 (lr (fun u8 hu8=>sv rfl (sv rfl (sv rfl (A1 (cc rfl hz2 (fun c2 hz2=> ?_) (fun c2 hz2=> ?_)))))))
 refine A9 (A8 (lr (fun u9 hu9=>sv rfl (sv rfl (sv rfl (sv rfl (A1 (A6 (bs hz2 fun y2 hy2 hz2=>D7 (fun s=> ∃g4:Unit,Sb ⟨T [(0,(.sl (900000,0))),(1,(di p2)),(2,(.d (.fn (.func 264) [] []))),(6,(di x2)),(7,(di y2))],G [((900000,0),some (.arr 229 4 (List.map A3a v2)))]⟩ s) ?_ ?_)))))))))
 refine A8 (F1 (I3 p2) (fun (x3:(Int×Int)) (g5:Unit)=>⟨T [(0,(.sl (900000,0))),(1,(di p2)),(2,(.d (.fn (.func 264) [] []))),(6,(di x2)),(7,(di x3.1)),(8,(di x3.2))],G [((900000,0),some (.arr 229 4 (List.map A3a v2)))]⟩) (0,(w64 (2*x2))) () _ hy2 (sbr rfl rfl) ?_)
 intro x3 g5 z3 hz3 ez3
 unfold I3 at hz3
 refine A6 (lr (fun u10 hu10=>sv rfl (sv rfl (sv rfl (A1 (cc rfl hz3 (fun c3 hz3=> ?_) (fun c3 hz3=> ?_)))))))
 refine A9 (A8 (lr (fun u11 hu11=>ss rfl (sv rfl (sv rfl (sv rfl (sv rfl (sv rfl (sv rfl ?_)))))))))
 cases hz3
 refine C2 rfl ?_
 cases hz3
 obtain rfl:=ez3 _ rfl
 refine ⟨nofun,B9 rfl (l_j ?_)⟩
 exact ⟨(),(sbr rfl rfl)⟩
 rintro _ ⟨g4,q2⟩
 refine B5 q2 (A6 (lr (fun u12 hu12=>sv rfl (sv rfl (sv rfl (sv rfl (A1 (lr (fun u13 hu13=>sv rfl (sv rfl (sv rfl (A1 (cc rfl hz2 (fun c4 hz2=> ?_) (fun c4 hz2=> ?_))))))))))))))
 refine C8 fun u14 hu14=>ss rfl (sv rfl (sv rfl (sv rfl (sv rfl ?_))))
 cases hz2
 refine A9 (C8 fun u15 hu15=>sv rfl (sv rfl (sv rfl (A1 (G3 (G4 ?_))))))
 cases hz2
 exact ⟨rfl,(),(sbr rfl rfl)⟩
 refine C2 rfl ?_
 cases hz2
 obtain rfl:=ez2 _ rfl
 refine ⟨nofun,B9 rfl (G4 ?_)⟩
 exact C1j (.inl rfl) [] C1k (.refl _) ⟨⟨G_hit,A3t⟩,trivial⟩
noncomputable def G7 (p1:(List Pass)):Option (List Pass):=
  (K1 p1 (p1.length:Int)).bind fun v1=>some v1
theorem A1r (p1:(List Pass))(r:(List Pass))(h:G7 p1=some r):MCall Tryz.prog 263 [(.sl (900000,0)),(.d (.fn (.func 264) [] []))] [(.arr 229 4 (List.map A3a p1))] (.d (.tup [])) [some (.arr 229 4 (List.map A3a r))] []:=by
 refine B6s (fk Tryz.func263 Tryz.ntmps263 (fun r=>if r==0 then [1000004]else []) (by with_unfolding_all rfl)) rfl (nl rfl) ?_
 unfold G7 at h
 refine B5 (s0:=⟨T [(0,(.sl _)),(1,(.d _))],G [((900000,0),some _)]⟩) (sbr rfl rfl) ?_
 refine C8 fun u1 hu1=>ss rfl (ss rfl (sd rfl (D7e (f:=A3a) rfl G_hit) (sv rfl (bs h fun v1 hv1 h=>D1v (v:= .d (.tup [])) (us:= [(900000,0)]) (D4s (A3g _ _ _ hv1) [(900000,0)] [(900000,0)] _ (((900000,0),some (.arr 229 4 (List.map A3a v1)))::_) rfl B0s (A1p C6i (A1p C9k (A1p C9k B7r))) (A7t G_hit A7s) ⟨⟨_,G_hit, .of rfl⟩,trivial⟩ (fun _ h=>h) nd1 rfl rfl rfl) (A1 (G4 ?_))))))
 obtain rfl:=(Option.some.inj h)
 exact C1j (.inl rfl) [] C1k (.refl _) ⟨⟨G_hit,A3t⟩,trivial⟩
noncomputable def F9 (p1:Int)(x2:Int):Option (Stp Int Unit):=
  ((cond (decide (x2>p1)) ((none:Option Unit)) (some default))).bind fun v1=>cond ((decide (x2>p1))&&false) (none) (some (.out ()))
noncomputable def G0 (p1:Int)(p2:Int)(x1:Int):Option (Stp Int Unit):=
  cond (decide (x1<p2)) ((loop (F9 p1) x1).bind fun _=>some (.go (w64 (x1+1)))) (some (.out (())))
noncomputable def E9 (p1:Int)(p2:Int):Option Unit:=
  loop (G0 p1 p2) (w64 (p1+1))
theorem U1 (p1:Int)(p2:Int)(r:Unit)(h:E9 p1 p2=some r):PCall Tryz.prog 282 [.nilS,(i64 p1),(i64 p2),(.fn (.func 264) [] [])] (.tup []):=by
 refine B7 (fk Tryz.func282 Tryz.ntmps282 m0 (by with_unfolding_all rfl)) (nl rfl) ?_
 unfold E9 at h
 refine B5 (s0:=⟨T [(0,(.d _)),(1,(.d _)),(2,(.d _)),(3,(.d _))],G []⟩) (sbr rfl rfl) ?_
 refine lr (fun u1 hu1=>sv rfl (sv rfl (sv rfl (A1 (A8 (F1 (G0 p1 p2) (fun (x1:Int) (g1:Unit)=>⟨T [(0,(.d .nilS)),(1,(di p1)),(2,(di p2)),(3,(.d (.fn (.func 264) [] []))),(8,(di x1))],G []⟩) (w64 (p1+1)) () _ h (sbr rfl rfl) ?_))))))
 intro x1 g1 z1 hz1 ez1
 unfold G0 at hz1
 refine A6 (lr (fun u2 hu2=>sv rfl (sv rfl (sv rfl (A1 (cc rfl hz1 (fun c1 hz1=> ?_) (fun c1 hz1=> ?_)))))))
 refine A9 (A6 (A8 (lr (fun u3 hu3=>sv rfl (sv rfl (A1 (bs hz1 fun y1 hy1 hz1=>D7 (fun s=> ∃g2:Unit,Sb ⟨T [(0,(.d .nilS)),(1,(di p1)),(2,(di p2)),(3,(.d (.fn (.func 264) [] []))),(8,(di x1))],G []⟩ s) ?_ ?_)))))))
 refine A8 (F1 (F9 p1) (fun (x2:Int) (g3:Unit)=>⟨T [(0,(.d .nilS)),(1,(di p1)),(2,(di p2)),(3,(.d (.fn (.func 264) [] []))),(8,(di x1)),(9,(di x2))],G []⟩) x1 () _ hy1 (sbr rfl rfl) ?_)
 intro x2 g3 z2 hz2 ez2
 unfold F9 at hz2
 refine A6 (A6 (I0 rfl fun u4 hu4=>sv rfl (sv rfl (sv rfl (sv rfl (gt rfl (fun _=>rfl) (gt rfl (fun _=>rfl) (gt rfl (fun _=>rfl) (bs hz2 fun v1 hv1 hz2=>A01 _ (.d (.tup [])) rfl (A0d rfl) (fun w4=>nomatch C0 w4 hv1) (A01 _ (.d (.tup [])) rfl (A0d rfl) (fun w5=>nomatch C0 w5 hv1) (A01 _ (.d (.tup [])) rfl (A0d rfl) (fun w6=>nomatch C0 w6 hv1) (A01 _ (di 0) rfl (A0d rfl) (fun w7=>nomatch C0 w7 hv1) (A01 _ (di 0) rfl (A0d rfl) (fun w8=>nomatch C0 w8 hv1) (A01 _ (.d (.tup [])) rfl (A0d rfl) (fun w9=>nomatch C0 w9 hv1) (A01 _ (.d (.tup [])) rfl (A0d rfl) (fun w10=>nomatch C0 w10 hv1) (S4 _ (i64 0) (A0d rfl) (fun w11=>nomatch C0 w11 hv1) (A01 _ (.d (bo false)) rfl (A0d rfl) (fun w12=>nomatch C0 w12 hv1) (sa rfl rfl rfl (A1 (cc rfl hz2 (fun c2 hz2=> ?_) (fun c2 hz2=> ?_)))))))))))))))))))))
 refine A9 (A6 (A8 (I0 rfl fun u5 hu5=>sv rfl (sv rfl (sv rfl (sv rfl (sv rfl (sv rfl (sv rfl (sv rfl ?_))))))))))
 cases hz2
 refine C2 rfl ?_
 cases hz2
 obtain rfl:=ez2 _ rfl
 refine ⟨nofun,B9 rfl (l_j ?_)⟩
 exact ⟨(),(sbr rfl rfl)⟩
 rintro _ ⟨g2,q1⟩
 refine G3 (B5 q1 (C8 fun u6 hu6=>sv rfl (sv rfl (sv rfl (A1 (G4 ?_))))))
 cases hz1
 exact ⟨rfl,(),(sbr rfl rfl)⟩
 refine C2 rfl ?_
 cases hz1
 obtain rfl:=ez1 _ rfl
 refine ⟨nofun,B9 rfl (G4 ?_)⟩
 exact A7 (.inl rfl) rfl (.refl _)
noncomputable def I6 (p1:Int)(x3:(Int×Int)):Option (Stp (Int×Int) Int):=
  cond (decide (x3.2≤p1)) (none) (some (.out x3.1))
noncomputable def I7 (p1:Int)(x2:Int):Option (Stp Int Unit):=
  cond (decide (x2<p1)) ((loop (I6 p1) (0,(w64 (2*x2)))).bind fun y2=>cond (decide ((w64 (y2+x2))<p1)) (none) (some (.go (w64 (x2*2))))) (some (.out (())))
noncomputable def I8 (p1:Int)(x1:(Int×Int)):Option (Stp (Int×Int) Int):=
  cond (decide (x1.2≤p1)) ((E9 x1.1 x1.2).bind fun v1=>some (.go (x1.2,(w64 (x1.2+20))))) (some (.out x1.1))
noncomputable def K2 (p1:Int):Option Unit:=
  (loop (I8 p1) (0,20)).bind fun y1=>(E9 y1 p1).bind fun v2=>loop (I7 p1) 20
theorem A3h (p1:Int)(r:Unit)(h:K2 p1=some r):PCall Tryz.prog 270 [.nilS,(i64 p1),(.fn (.func 264) [] [])] (.tup []):=by
 refine B7 (fk Tryz.func270 Tryz.ntmps270 m0 (by with_unfolding_all rfl)) (nl rfl) ?_
 unfold K2 at h
 refine B5 (s0:=⟨T [(0,(.d _)),(1,(.d _)),(2,(.d _))],G []⟩) (sbr rfl rfl) ?_
 refine lr (fun u1 hu1=>sv rfl (A1 (lr (fun u2 hu2=>sv rfl (sv rfl (sv rfl (A1 (A6 (bs h fun y1 hy1 h=>D7 (fun s=> ∃g1:Unit,Sb ⟨T [(0,(.d .nilS)),(1,(di p1)),(2,(.d (.fn (.func 264) [] []))),(6,(di 20)),(7,(di y1))],G []⟩ s) ?_ ?_)))))))))
 refine A8 (F1 (I8 p1) (fun (x1:(Int×Int)) (g2:Unit)=>⟨T [(0,(.d .nilS)),(1,(di p1)),(2,(.d (.fn (.func 264) [] []))),(6,(di 20)),(7,(di x1.1)),(8,(di x1.2))],G []⟩) (0,20) () _ hy1 (sbr rfl rfl) ?_)
 intro x1 g2 z1 hz1 ez1
 unfold I8 at hz1
 refine A6 (lr (fun u3 hu3=>sv rfl (sv rfl (sv rfl (A1 (cc rfl hz1 (fun c1 hz1=> ?_) (fun c1 hz1=> ?_)))))))
 refine A9 (A8 (lr (fun u4 hu4=>sv rfl (sv rfl (sv rfl (sv rfl (bs hz1 fun v1 hv1 hz1=>B0 rfl rfl A2 (U1 _ _ _ hv1) (.inl rfl) (A1 (lr (fun u5 hu5=>sv rfl (sv rfl (A1 (C8 fun u6 hu6=>sv rfl (sv rfl (sv rfl (sv rfl (A1 (G3 (G4 ?_)))))))))))))))))))
 cases hz1
 exact ⟨rfl,(),(sbr rfl rfl)⟩
 refine C2 rfl ?_
 cases hz1
 obtain rfl:=ez1 _ rfl
 refine ⟨nofun,B9 rfl (l_j ?_)⟩
 exact ⟨(),(sbr rfl rfl)⟩
 rintro _ ⟨g1,q1⟩
 refine B5 q1 (lr (fun u7 hu7=>sv rfl (sv rfl (sv rfl (sv rfl (bs h fun v2 hv2 h=>B0 rfl rfl A2 (U1 _ _ _ hv2) (.inl rfl) (A1 (A8 (F1 (I7 p1) (fun (x2:Int) (g3:Unit)=>⟨T [(0,(.d .nilS)),(1,(di p1)),(2,(.d (.fn (.func 264) [] []))),(6,(di x2))],G []⟩) 20 () _ h (sbr rfl rfl) ?_)))))))))
 intro x2 g3 z2 hz2 ez2
 unfold I7 at hz2
 refine A6 (lr (fun u8 hu8=>sv rfl (sv rfl (sv rfl (A1 (cc rfl hz2 (fun c2 hz2=> ?_) (fun c2 hz2=> ?_)))))))
 refine A9 (A8 (lr (fun u9 hu9=>sv rfl (sv rfl (sv rfl (sv rfl (A1 (A6 (bs hz2 fun y2 hy2 hz2=>D7 (fun s=> ∃g4:Unit,Sb ⟨T [(0,(.d .nilS)),(1,(di p1)),(2,(.d (.fn (.func 264) [] []))),(6,(di x2)),(7,(di y2))],G []⟩ s) ?_ ?_)))))))))
 refine A8 (F1 (I6 p1) (fun (x3:(Int×Int)) (g5:Unit)=>⟨T [(0,(.d .nilS)),(1,(di p1)),(2,(.d (.fn (.func 264) [] []))),(6,(di x2)),(7,(di x3.1)),(8,(di x3.2))],G []⟩) (0,(w64 (2*x2))) () _ hy2 (sbr rfl rfl) ?_)
 intro x3 g5 z3 hz3 ez3
 unfold I6 at hz3
 refine A6 (lr (fun u10 hu10=>sv rfl (sv rfl (sv rfl (A1 (cc rfl hz3 (fun c3 hz3=> ?_) (fun c3 hz3=> ?_)))))))
 refine A9 (A8 (lr (fun u11 hu11=>sv rfl (sv rfl (sv rfl (sv rfl (sv rfl (sv rfl (sv rfl ?_)))))))))
 cases hz3
 refine C2 rfl ?_
 cases hz3
 obtain rfl:=ez3 _ rfl
 refine ⟨nofun,B9 rfl (l_j ?_)⟩
 exact ⟨(),(sbr rfl rfl)⟩
 rintro _ ⟨g4,q2⟩
 refine B5 q2 (A6 (lr (fun u12 hu12=>sv rfl (sv rfl (sv rfl (sv rfl (A1 (lr (fun u13 hu13=>sv rfl (sv rfl (sv rfl (A1 (cc rfl hz2 (fun c4 hz2=> ?_) (fun c4 hz2=> ?_))))))))))))))
 refine C8 fun u14 hu14=>sv rfl (sv rfl (sv rfl (sv rfl (sv rfl ?_))))
 cases hz2
 refine A9 (C8 fun u15 hu15=>sv rfl (sv rfl (sv rfl (A1 (G3 (G4 ?_))))))
 cases hz2
 exact ⟨rfl,(),(sbr rfl rfl)⟩
 refine C2 rfl ?_
 cases hz2
 obtain rfl:=ez2 _ rfl
 refine ⟨nofun,B9 rfl (G4 ?_)⟩
 exact A7 (.inl rfl) rfl (.refl _)
noncomputable def G8:Option Unit:=
  (K2 0).bind fun v1=>some ()
theorem A1s (r:Unit)(h:G8=some r):PCall Tryz.prog 263 [.nilS,(.fn (.func 264) [] [])] (.tup []):=by
 refine B7 (fk Tryz.func263 Tryz.ntmps263 m0 (by with_unfolding_all rfl)) (nl rfl) ?_
 unfold G8 at h
 refine B5 (s0:=⟨T [(0,(.d _)),(1,(.d _))],G []⟩) (sbr rfl rfl) ?_
 refine C8 fun u1 hu1=>sv rfl (sv rfl (sv rfl (sv rfl (bs h fun v1 hv1 h=>B0 rfl rfl A2 (A3h _ _ hv1) (.inl rfl) (A1 (G4 ?_))))))
 cases h
 exact A7 (.inl rfl) rfl (.refl _)
noncomputable def A59 (v1:RoadsWay)(x1:((List Pass)×Int))(v2:Int)(x2:((List Pass)×Int))(v3:Zone)(x3:((List Pass)×Int)):Option (Stp ((List Pass)×Int) (List Pass)):=
  cond (decide (x3.2< (v3.Parts.length:Int))) ((D4 v3.Parts x3.2).bind fun v4=>cond (v4.Lane_==v2) ((D4 v1.starts x1.2).bind fun v5=>(D4 v1.starts x1.2).bind fun v6=>(A7p x3.1 [(Pass.mk x2.2 x3.2 (w64 (v5+v4.From)) (w64 (v6+v4.To)))]).bind fun v7=>some (.go (v7,(w64 (x3.2+1))))) (some (.go (x3.1,(w64 (x3.2+1)))))) (some (.out x3.1))
noncomputable def A5a (p1:Map)(v1:RoadsWay)(x1:((List Pass)×Int))(v2:Int)(x2:((List Pass)×Int)):Option (Stp ((List Pass)×Int) (List Pass)):=
  cond (decide (x2.2< (p1.Zones.length:Int))) ((D4 p1.Zones x2.2).bind fun v3=>(loop (A59 v1 x1 v2 x2 v3) (x2.1,0)).bind fun y3=>some (.go (y3,(w64 (x2.2+1))))) (some (.out x2.1))
noncomputable def A5b (p1:Map)(v1:RoadsWay)(x1:((List Pass)×Int)):Option (Stp ((List Pass)×Int) (List Pass)):=
  cond (decide (x1.2< (v1.lanes.length:Int))) ((D4 v1.lanes x1.2).bind fun v2=>(loop (A5a p1 v1 x1 v2) (x1.1,0)).bind fun y2=>some (.go (y2,(w64 (x1.2+1))))) (some (.out x1.1))
noncomputable def A9a (p1:Map)(p2:(List Int)):Option (List Pass):=
  (A1b p1 p2).bind fun v1=>(loop (A5b p1 v1) ([],0)).bind fun y1=>cond (List.isEmpty y1) ((G8).bind fun v9=>some []) ((G7 y1).bind fun v8=>some v8)
theorem C1x (p1:Map)(p2:(List Int))(r:(List Pass))(h:A9a p1 p2=some r):PCall Tryz.prog 246 [(.agg (A3b p1)),(.list (List.map A4 p2))] (.list (List.map A3a r)):=by
 refine B7 (fk Tryz.func246 Tryz.ntmps246 (fun r=>if r==13 then [1020]else if r==17 then [1017001]else []) (by with_unfolding_all rfl)) (nl rfl) ?_
 unfold A9a at h
 refine B5 (s0:=⟨T [(0,(.d _)),(1,(.d _))],G []⟩) (sbr rfl rfl) ?_
 refine lr (fun u1 hu1=>sn rfl rfl (sv rfl (A1 (lr (fun u2 hu2=>sd rfl (B2 rfl G_hit rfl rfl) (sv rfl (bs h fun v1 hv1 h=>B0 rfl rfl A2 (A7y _ _ _ hv1) (.inl rfl) (sn rfl rfl (sst rfl G_hit (B0v v1) rfl (A1 (lr (fun u3 hu3=>sv rfl (A1 (A6 (lr (fun u4 hu4=>sp rfl rfl (sl rfl G_hit rfl (sd rfl (E7 rfl) (sv rfl (A1 (bs h fun y1 hy1 h=>D7 (fun s=> ∃g1:Nat,Sb ⟨T [(6,(oS y1 (65,g1)))],G [((65,g1),oB 229 4 A3a y1)]⟩ s) ?_ ?_)))))))))))))))))))))
 refine A8 (F1 (A5b p1 v1) (fun (x1:((List Pass)×Int)) (g2:Nat)=>⟨T [(2,(.ptr (2,u1) 0)),(5,(.ptr (5,u2) 0)),(6,(oS x1.1 (65,g2))),(17,(dl A4 v1.lanes)),(18,(di (v1.lanes.length:Int))),(19,(di x1.2))],G [((2,u1),some (.box 33 (A09 p1))),((5,u2),some (.box 260 (B0v v1))),((65,g2),oB 229 4 A3a x1.1)]⟩) ([],0) 0 _ hy1 (H9 ⟨.of rfl, .of rfl, .of rfl, .of rfl, .of rfl, .of rfl,trivial⟩ (sg rfl (B1 G_hit (.of rfl) (A04 trivial)))) ?_)
 intro x1 g2 z1 hz1 ez1
 unfold A5b at hz1
 refine lr (fun u5 hu5=>sv rfl (A1 (A6 (cc rfl hz1 (fun c1 hz1=> ?_) (fun c1 hz1=> ?_)))))
 refine A9 (A6 (A8 (lr (fun u6 hu6=>sv rfl (bs hz1 fun v2 hv2 hz1=>sd rfl (E2 rfl rfl hv2 rfl) (sd rfl (D9 rfl hv2 rfl) (sv rfl (sv rfl (A1 (lr (fun u7 hu7=>sp rfl rfl (sl rfl G_hit rfl (sd rfl (E7 rfl) (sv rfl (A1 (bs hz1 fun y2 hy2 hz1=>D7 (fun s=> ∃g3:Nat,Sb ⟨T [(2,(.ptr (2,u1) 0)),(5,(.ptr (5,u2) 0)),(6,(oS y2 (65,g3))),(17,(dl A4 v1.lanes)),(18,(di (v1.lanes.length:Int))),(19,(di x1.2))],G [((2,u1),some (.box 33 (A09 p1))),((5,u2),some (.box 260 (B0v v1))),((65,g3),oB 229 4 A3a y2)]⟩ s) ?_ ?_))))))))))))))))
 refine A8 (F1 (A5a p1 v1 x1 v2) (fun (x2:((List Pass)×Int)) (g4:Nat)=>⟨T [(2,(.ptr (2,u1) 0)),(5,(.ptr (5,u2) 0)),(6,(oS x2.1 (65,g4))),(7,(di x1.2)),(8,(di v2)),(17,(dl A4 v1.lanes)),(18,(di (v1.lanes.length:Int))),(19,(di x1.2)),(25,(dl A8i p1.Zones)),(26,(di (p1.Zones.length:Int))),(27,(di x2.2))],G [((2,u1),some (.box 33 (A09 p1))),((5,u2),some (.box 260 (B0v v1))),((65,g4),oB 229 4 A3a x2.1)]⟩) (x1.1,0) g2 _ hy2 (H9 ⟨.of rfl, .of rfl, .of rfl, .of rfl, .of rfl, .of rfl, .of rfl, .of rfl, .of rfl, .of rfl, .of rfl,trivial⟩ (B1 G_hit (.of rfl) (sg rfl (B8 (gq rfl) trivial)))) ?_)
 intro x2 g4 z2 hz2 ez2
 unfold A5a at hz2
 refine lr (fun u8 hu8=>sv rfl (A1 (A6 (cc rfl hz2 (fun c2 hz2=> ?_) (fun c2 hz2=> ?_)))))
 refine A9 (A6 (A8 (lr (fun u9 hu9=>sv rfl (bs hz2 fun v3 hv3 hz2=>sd rfl (E2 rfl rfl hv3 rfl) (sd rfl (C3 rfl hv3 rfl rfl) (sn rfl rfl (sv rfl (sst rfl G_hit [(dl A53 v3.Parts),(di v3.Signal_)] rfl (A1 (lr (fun u10 hu10=>sp rfl rfl (sl rfl G_hit rfl (sd rfl (E7 rfl) (sv rfl (A1 (bs hz2 fun y3 hy3 hz2=>D7 (fun s=> ∃g5:Nat,Sb ⟨T [(2,(.ptr (2,u1) 0)),(5,(.ptr (5,u2) 0)),(6,(oS y3 (65,g5))),(7,(di x1.2)),(8,(di v2)),(17,(dl A4 v1.lanes)),(18,(di (v1.lanes.length:Int))),(19,(di x1.2)),(25,(dl A8i p1.Zones)),(26,(di (p1.Zones.length:Int))),(27,(di x2.2))],G [((2,u1),some (.box 33 (A09 p1))),((5,u2),some (.box 260 (B0v v1))),((65,g5),oB 229 4 A3a y3)]⟩ s) ?_ ?_)))))))))))))))))
 refine A8 (F1 (A59 v1 x1 v2 x2 v3) (fun (x3:((List Pass)×Int)) (g6:Nat)=>⟨T [(2,(.ptr (2,u1) 0)),(5,(.ptr (5,u2) 0)),(6,(oS x3.1 (65,g6))),(7,(di x1.2)),(8,(di v2)),(9,(di x2.2)),(17,(dl A4 v1.lanes)),(18,(di (v1.lanes.length:Int))),(19,(di x1.2)),(25,(dl A8i p1.Zones)),(26,(di (p1.Zones.length:Int))),(27,(di x2.2)),(33,(dl A53 v3.Parts)),(34,(di (v3.Parts.length:Int))),(35,(di x3.2))],G [((2,u1),some (.box 33 (A09 p1))),((5,u2),some (.box 260 (B0v v1))),((65,g6),oB 229 4 A3a x3.1)]⟩) (x2.1,0) g4 _ hy3 (H9 ⟨.of rfl, .of rfl, .of rfl, .of rfl, .of rfl, .of rfl, .of rfl, .of rfl, .of rfl, .of rfl, .of rfl, .of rfl, .of rfl, .of rfl, .of rfl,trivial⟩ (sg rfl (sg rfl (B8 (gq rfl) trivial)))) ?_)
 intro x3 g6 z3 hz3 ez3
 unfold A59 at hz3
 refine lr (fun u11 hu11=>sv rfl (A1 (A6 (cc rfl hz3 (fun c3 hz3=> ?_) (fun c3 hz3=> ?_)))))
 refine A9 (A6 (A8 (lr (fun u12 hu12=>sv rfl (bs hz3 fun v4 hv4 hz3=>sd rfl (E2 rfl rfl hv4 rfl) (sd rfl (C3 rfl hv4 rfl rfl) (sn rfl rfl (sv rfl (sst rfl G_hit (C04 v4) rfl (A1 (lr (fun u13 hu13=>sp rfl rfl (sl rfl G_hit rfl (sv rfl (sv rfl (A1 (cc rfl hz3 (fun c4 hz3=> ?_) (fun c4 hz3=> ?_))))))))))))))))))
 refine I0 rfl fun u14 hu14=>C1 (oS x3.1 (65,g6)) rfl rfl (sv rfl (sv rfl (sp rfl rfl (sl rfl (gq rfl) rfl (sv rfl (bs hz3 fun v5 hv5 hz3=>sd rfl (E2 rfl rfl hv5 rfl) (sd rfl (D9 rfl hv5 rfl) (sp rfl rfl (sl rfl G_hit rfl (sv rfl (sp rfl rfl (sl rfl (gq rfl) rfl (sv rfl (bs hz3 fun v6 hv6 hz3=>sd rfl (E2 rfl rfl hv6 rfl) (sd rfl (D9 rfl hv6 rfl) (sp rfl rfl (sl rfl G_hit rfl (sv rfl (sv rfl (C1 (dl A3a [(Pass.mk x2.2 x3.2 (w64 (v5+v4.From)) (w64 (v6+v4.To)))]) rfl rfl (bs hz3 fun v7 hv7 hz3=>Z3 A3a (65,g6) x3.1 (Pass.mk x2.2 x3.2 (w64 (v5+v4.From)) (w64 (v6+v4.To))) [] _ (O0 (fun _=>rfl)) rfl (gq rfl) hv7 (ss rfl (A1 (G3 (C8 fun u15 hu15=>sv rfl (sv rfl (A1 (G4 ?_))))))))))))))))))))))))))))
 cases hz3
 exact ⟨rfl,u14,(H9 ⟨.of rfl, .of rfl,(.of (A3p (A21 hv7)).symm), .of rfl, .of rfl, .of rfl, .of rfl, .of rfl, .of rfl, .of rfl, .of rfl, .of rfl, .of rfl, .of rfl, .of rfl,trivial⟩ (sg rfl (sg rfl (U5 G_hit trivial))))⟩
 refine A9 (G3 (C8 fun u16 hu16=>sv rfl (sv rfl (A1 (G4 ?_)))))
 cases hz3
 exact ⟨rfl,g6,(H9 ⟨.of rfl, .of rfl, .of rfl, .of rfl, .of rfl, .of rfl, .of rfl, .of rfl, .of rfl, .of rfl, .of rfl, .of rfl, .of rfl, .of rfl, .of rfl,trivial⟩ (sg rfl (sg rfl (B8 (gq rfl) trivial))))⟩
 refine C2 rfl ?_
 cases hz3
 obtain rfl:=ez3 _ rfl
 refine ⟨nofun,B9 rfl (l_j ?_)⟩
 exact ⟨g6,(H9 ⟨.of rfl, .of rfl, .of rfl, .of rfl, .of rfl, .of rfl, .of rfl, .of rfl, .of rfl, .of rfl, .of rfl,trivial⟩ (B1 G_hit (.of rfl) (sg rfl (B8 (gq rfl) trivial))))⟩
 rintro _ ⟨g5,q1⟩
 refine G3 (B5 q1 (C8 fun u17 hu17=>sv rfl (sv rfl (A1 (G4 ?_)))))
 cases hz2
 exact ⟨rfl,g5,(H9 ⟨.of rfl, .of rfl, .of rfl, .of rfl, .of rfl, .of rfl, .of rfl, .of rfl, .of rfl, .of rfl, .of rfl,trivial⟩ (B1 G_hit (.of rfl) (sg rfl (B8 (gq rfl) trivial))))⟩
 refine C2 rfl ?_
 cases hz2
 obtain rfl:=ez2 _ rfl
 refine ⟨nofun,B9 rfl (l_j ?_)⟩
 exact ⟨g4,(H9 ⟨.of rfl, .of rfl, .of rfl, .of rfl, .of rfl, .of rfl,trivial⟩ (B1 G_hit (.of rfl) (sg rfl (B8 (gq rfl) trivial))))⟩
 rintro _ ⟨g3,q2⟩
 refine G3 (B5 q2 (C8 fun u18 hu18=>sv rfl (sv rfl (A1 (G4 ?_)))))
 cases hz1
 exact ⟨rfl,g3,(H9 ⟨.of rfl, .of rfl, .of rfl, .of rfl, .of rfl, .of rfl,trivial⟩ (B1 G_hit (.of rfl) (sg rfl (B8 (gq rfl) trivial))))⟩
 refine C2 rfl ?_
 cases hz1
 obtain rfl:=ez1 _ rfl
 refine ⟨nofun,B9 rfl (l_j ?_)⟩
 exact ⟨g2,(H9 ⟨.of rfl,trivial⟩ (B8 (gq rfl) trivial))⟩
 rintro _ ⟨g1,q3⟩
 refine B5 q3 (A6 ?_)
 rcases C6m h with ⟨e1,h⟩|⟨e1,h⟩
 refine B5 (s0:=⟨T [(6,(.d .nilS))],G []⟩) (H9 ⟨.of (D7l e1),trivial⟩ trivial) ?_
 refine C8 fun u22 hu22=>sv rfl (bs h fun v9 hv9 h=>D1v (v:= .d (.tup [])) (us:= []) (E1v [] _ rfl rfl A2 (A1s _ hv9) rfl rfl) (A1 (lr (fun u23 hu23=>sv rfl (sv rfl (A1 (B3 ?_)))))))
 cases h
 exact A7 (.inr rfl) (B6 (B4 rfl) E0) DLe.nil
 refine B5 (s0:=⟨T [(6,(.sl (65,g1)))],G [((65,g1),some (.arr 229 4 (List.map A3a y1)))]⟩) (H9 ⟨.of (A3p e1),trivial⟩ (B1 (B8y G_hit e1) (.of rfl) trivial)) ?_
 refine C8 fun u20 hu20=>ss rfl (bs h fun v8 hv8 h=>D1v (v:= .d (.tup [])) (us:= [(65,g1)]) (D4s (A1r _ _ hv8) [(65,g1)] [(65,g1)] _ (((65,g1),some (.arr 229 4 (List.map A3a v8)))::_) rfl B0s (A1p C6i (A1p C9k B7r)) (A7t G_hit A7s) ⟨⟨_,G_hit, .of rfl⟩,trivial⟩ (fun _ h=>h) nd1 rfl rfl rfl) (A1 (lr (fun u21 hu21=>ss rfl (ss rfl (A1 (B3 ?_)))))))
 cases h
 exact A7 (.inr rfl) (B6 (B4 rfl) (C7x G_hit)) (.refl _)
noncomputable def A1t (p1:Pass)(p2:Int)(p3:WorldSpan):Option Bool:=
  some (((p1.Zone_==p2)&& (decide (p1.From≤p3.to)))&& (decide (p3.from_≤p1.To)))
theorem B4m (p1:Pass)(p2:Int)(p3:WorldSpan)(r:Bool)(h:A1t p1 p2 p3=some r):PCall Tryz.prog 247 [(.agg (A3a p1)),(.bp [(i64 p2)] 0),(.bp [(i64 p3.from_),(i64 p3.to)] 0)] (bo r):=by
 refine B7 (fk Tryz.func247 Tryz.ntmps247 m0 (by with_unfolding_all rfl)) (nl rfl) ?_
 unfold A1t at h
 refine B5 (s0:=⟨T [(0,(.d _)),(1,(.d _)),(2,(.d _))],G []⟩) (sbr rfl rfl) ?_
 refine lr (fun u1 hu1=>sn rfl rfl (sv rfl (A1 (lr (fun u2 hu2=>sp rfl rfl (sl rfl G_hit rfl (sv rfl (sv rfl (sv rfl (gp rfl (A0d rfl) (fun _=>rfl) (gt rfl (vl rfl G_hit rfl) (gt rfl (fun _=>rfl) ?_))))))))))))
 refine gt rfl (fun w4=>(by simp only [A3 w4];rfl)) ?_
 refine gt rfl (fun w5=>(S3 (A3 w5) (A3 w5) rfl)) (sa rfl rfl rfl (sv rfl (gt rfl (fun _=>rfl) ?_)))
 refine gt rfl (fun w7=>(by simp only [A3 w7];rfl)) ?_
 refine gp rfl (A0d rfl) (fun _=>rfl) (gt rfl (vl rfl G_hit rfl) (gt rfl (fun w10=>(S3 (A3 w10) (A3 w10) rfl)) (sa rfl rfl rfl (sv rfl (A1 (B3 ?_))))))
 cases h
 exact A7 (.inr rfl) (B6 (B4 rfl) E0) (.refl _)
noncomputable def H4 (p1:(List Pass))(p2:Int)(p3:WorldSpan)(x1:Int):Option (Stp Int (Sum Unit Int)):=
  cond (decide (x1< (p1.length:Int))) ((D4 p1 x1).bind fun v1=>(A1t v1 p2 p3).bind fun v2=>cond v2 (some (.out (.inr x1))) (some (.go (w64 (x1+1))))) (some (.out (.inl ())))
noncomputable def J0 (p1:(List Pass))(p2:Int)(p3:WorldSpan):Option Int:=
  thenS (loop (H4 p1 p2 p3) 0) (fun _=>some (-1)) (fun r=>some r)
theorem A2u (p1:(List Pass))(p2:Int)(p3:WorldSpan)(r:Int)(h:J0 p1 p2 p3=some r):PCall Tryz.prog 262 [(.list (List.map A3a p1)),(.fn (.func 247) [] [(.bp [(i64 p2)] 0),(.bp [(i64 p3.from_),(i64 p3.to)] 0)])] (i64 r):=by
 refine B7 (fk Tryz.func262 Tryz.ntmps262 m0 (by with_unfolding_all rfl)) (nl rfl) ?_
 unfold J0 at h
 refine B5 (s0:=⟨T [(0,(.d _)),(1,(.d _))],G []⟩) (sbr rfl rfl) ?_
 refine lr (fun u1 hu1=>sv rfl (A1 (A6 (lr (fun u2 hu2=>sv rfl (sd rfl (E7 rfl) (sv rfl (A1 (js h fun z1 hz1 h=>D7 (fun s=> ∃(y1:Unit) (g1:Unit),z1= .inl y1∧Sb ⟨T [],G []⟩ s) ?_ ?_)))))))))
 refine A8 (F1 (H4 p1 p2 p3) (fun (x1:Int) (g2:Unit)=>⟨T [(0,(dl A3a p1)),(1,(.d (.fn (.func 247) [] [(.bp [(i64 p2)] 0),(.bp [(i64 p3.from_),(i64 p3.to)] 0)]))),(7,(di (p1.length:Int))),(8,(di x1))],G []⟩) 0 () _ hz1 (sbr rfl rfl) ?_)
 intro x1 g2 z2 hz2 ez2
 unfold H4 at hz2
 refine lr (fun u3 hu3=>sv rfl (A1 (A6 (cc rfl hz2 (fun c1 hz2=> ?_) (fun c1 hz2=> ?_)))))
 refine A9 (A6 (A8 (lr (fun u4 hu4=>sv rfl (sv rfl (A1 (lr (fun u5 hu5=>sv rfl (sv rfl (sv rfl (bs hz2 fun v1 hv1 hz2=>sd rfl (E2 rfl rfl hv1 rfl) (sd rfl (C3 rfl hv1 rfl rfl) (bs hz2 fun v2 hv2 hz2=>B0 rfl rfl A2 (B4m _ _ _ _ hv2) (.inl rfl) (A1 (cc rfl hz2 (fun c2 hz2=> ?_) (fun c2 hz2=> ?_))))))))))))))))
 refine lr (fun u6 hu6=>sv rfl (sv rfl (A1 (B3 ?_))))
 cases hz2
 obtain rfl:=ez2 _ rfl
 refine ⟨nofun,E1 ?_⟩
 rw [Sum.elim_inr]at h
 cases h
 exact A7 (.inr rfl) (B6 (B4 rfl) E0) (.refl _)
 refine A9 (G3 (C8 fun u7 hu7=>sv rfl (sv rfl (A1 (G4 ?_)))))
 cases hz2
 exact ⟨rfl,(),(sbr rfl rfl)⟩
 refine C2 rfl ?_
 cases hz2
 obtain rfl:=ez2 _ rfl
 refine ⟨nofun,B9 rfl (l_j ?_)⟩
 exact ⟨_,(),rfl,(sbr rfl rfl)⟩
 rintro _ ⟨y1,g1,rfl,q1⟩
 rw [Sum.elim_inl]at h
 refine B5 q1 (lr (fun u8 hu8=>sv rfl (A1 (B3 ?_))))
 cases h
 exact A7 (.inr rfl) (B6 (B4 rfl) E0) (.refl _)
noncomputable def H5 (p1:(List Pass))(p2:Int)(p3:WorldSpan):Option Bool:=
  (J0 p1 p2 p3).bind fun v1=>some (decide (v1≥0))
theorem A1z (p1:(List Pass))(p2:Int)(p3:WorldSpan)(r:Bool)(h:H5 p1 p2 p3=some r):PCall Tryz.prog 245 [(.list (List.map A3a p1)),(.fn (.func 247) [] [(.bp [(i64 p2)] 0),(.bp [(i64 p3.from_),(i64 p3.to)] 0)])] (bo r):=by
 refine B7 (fk Tryz.func245 Tryz.ntmps245 m0 (by with_unfolding_all rfl)) (nl rfl) ?_
 unfold H5 at h
 refine B5 (s0:=⟨T [(0,(.d _)),(1,(.d _))],G []⟩) (sbr rfl rfl) ?_
 refine lr (fun u1 hu1=>sv rfl (A1 (lr (fun u2 hu2=>sv rfl (sv rfl (bs h fun v1 hv1 h=>B0 rfl rfl A2 (A2u _ _ _ _ hv1) (.inl rfl) (sv rfl (sv rfl (A1 (B3 ?_))))))))))
 cases h
 exact A7 (.inr rfl) (B6 (B4 rfl) E0) (.refl _)
noncomputable def A7z (p1:Map)(p2:Agent)(p3:Agent)(p4:Int):Option Bool:=
  (A8q p2).bind fun v1=>((cond (!(!v1)) (A8q p3) (some default))).bind fun v2=>cond ((!v1)||(!v2)) (some false) ((A3e p2).bind fun v3=>(A9a p1 p2.Route).bind fun v4=>(H5 v4 p4 (WorldSpan.mk v3.from_ p3.S)).bind fun v5=>some v5)
theorem C06 (p1:Map)(p2:Agent)(p3:Agent)(p4:Int)(r:Bool)(h:A7z p1 p2 p3 p4=some r):PCall Tryz.prog 218 [(.agg (A3b p1)),(.agg (D8 p2)),(.agg (D8 p3)),(i64 p4)] (bo r):=by
 refine B7 (fk Tryz.func218 Tryz.ntmps218 m0 (by with_unfolding_all rfl)) (nl rfl) ?_
 unfold A7z at h
 refine B5 (s0:=⟨T [(0,(.d _)),(1,(.d _)),(2,(.d _)),(3,(.d _))],G []⟩) (sbr rfl rfl) ?_
 refine lr (fun u1 hu1=>sn rfl rfl (sn rfl rfl (sn rfl rfl (sn rfl rfl (sv rfl (A1 (A6 (lr (fun u2 hu2=>sd rfl (B2 rfl (gq rfl) rfl rfl) (bs h fun v1 hv1 h=>B0 rfl rfl A2 (B3w _ _ hv1) (.inl rfl) (C1 (.d (bo (!v1))) rfl rfl (sv rfl (gf rfl (fun w1=>(B2 rfl (gq rfl) rfl rfl)) (bs h fun v2 hv2 h=> ?_))))))))))))))
 refine S4 _ (bo v2) (T8 rfl) (fun w2=>⟨_,[(.d (.agg (D8 p3)))],_,_,(by simp only [A3 w2];rfl),rfl,A2,B3w _ _ (C0 w2 hv2),(.inl rfl)⟩) ?_
 refine A01 _ (.d (bo (!v2))) rfl (T8 rfl) (fun w3=>(by simp only [A3 w3];rfl)) ?_
 refine sd rfl (A0s rfl rfl (fun hc=>A3 (K9 hc))) (A1 (cc rfl h (fun c1 h=> ?_) (fun c1 h=> ?_)))
 refine lr (fun u3 hu3=>sv rfl (A1 (B3 ?_)))
 cases h
 exact A7 (.inr rfl) (B6 (B4 rfl) E0) (.refl _)
 refine A9 (A6 (I0 rfl fun u4 hu4=>sd rfl (B2 rfl (gq rfl) rfl rfl) (bs h fun v3 hv3 h=>B0 rfl rfl A2 (A5x _ _ hv3) (.inl rfl) (sv rfl (sp rfl rfl (sl rfl (gq rfl) rfl (sv rfl (sn rfl rfl (sst rfl G_hit [(di v3.from_),(di p3.S)] rfl (A1 (lr (fun u5 hu5=>sd rfl (B2 rfl (gq rfl) rfl rfl) (sp rfl rfl (sl rfl (gq rfl) rfl (bs h fun v4 hv4 h=>B0 rfl rfl A2 (C1x _ _ _ hv4) (.inl rfl) (C1 (.fn _ _ _) rfl rfl (bs h fun v5 hv5 h=>B0 rfl (rD (D3 (C2s F2 (D3 (A38 (gq rfl) (rD F2)) (D3 (A38 G_hit (rD (rD F2))) F2))) F2)) A2 (A1z _ _ _ _ hv5) (.inr rfl) (sv rfl (A1 (B3 ?_))))))))))))))))))))
 cases h
 exact A7 (.inr rfl) (B6 (B4 rfl) E0) (.refl _)
noncomputable def R4 (p1:WorldScene)(p2:Int)(p3:Int):Option Bool:=
  (A2t p1.before p2).bind fun v1=>((cond v1 (D4 p1.before.Agents p2) (some default))).bind fun v2=>((cond v1 (D4 p1.after.Agents p2) (some default))).bind fun v3=>((cond v1 (A7z p1.m v2 v3 p3) (some default))).bind fun v4=>some (v1&&v4)
theorem A0u (p1:WorldScene)(p2:Int)(p3:Int)(r:Bool)(h:R4 p1 p2 p3=some r):PCall Tryz.prog 171 [(.bp (B0u p1) 0),(i64 p2),(i64 p3)] (bo r):=by
 refine B7 (fk Tryz.func171 Tryz.ntmps171 m0 (by with_unfolding_all rfl)) (nl rfl) ?_
 unfold R4 at h
 refine B5 (s0:=⟨T [(0,(.d _)),(1,(.d _)),(2,(.d _))],G []⟩) (sbr rfl rfl) ?_
 refine lr (fun u1 hu1=>sv rfl (A1 (A6 (I0 rfl fun u2 hu2=>sv rfl (sv rfl (sv rfl (sv rfl (sv rfl (bs h fun v1 hv1 h=>B0 rfl rfl A2 (A90 _ _ _ hv1) (.inl rfl) (sv rfl (gt rfl (fun _=>rfl) ?_)))))))))))
 refine gt rfl (fun w2=>(by simp only [A3 w2];rfl)) ?_
 refine gt rfl (fun w3=>(by simp only [A3 w3];rfl)) ?_
 refine gt rfl (fun w4=>(by simp only [A3 w4];rfl)) ?_
 refine gt rfl (fun _=>rfl) ?_
 refine gt rfl (fun w6=>(by simp only [A3 w6];rfl)) ?_
 refine gt rfl (fun w7=>(by simp only [A3 w7];rfl)) ?_
 refine gt rfl (fun w8=>(by simp only [A3 w8];rfl)) ?_
 refine gt rfl (fun w9=>(by simp only [A3 w9];rfl)) ?_
 refine gt rfl (fun _=>rfl) (bs h fun v2 hv2 h=>gt rfl (fun w11=>(E2 (A3 w11) (A3 w11) (C0 w11 hv2) rfl)) (gt rfl (fun w12=>(C3 (A3 w12) (C0 w12 hv2) rfl rfl)) (gt rfl (fun _=>rfl) ?_)))
 refine gt rfl (fun w14=>(by simp only [A3 w14];rfl)) ?_
 refine gt rfl (fun w15=>(by simp only [A3 w15];rfl)) ?_
 refine gt rfl (fun w16=>(by simp only [A3 w16];rfl)) ?_
 refine gt rfl (fun w17=>(by simp only [A3 w17];rfl)) ?_
 refine gt rfl (fun _=>rfl) (bs h fun v3 hv3 h=>gt rfl (fun w19=>(E2 (A3 w19) (A3 w19) (C0 w19 hv3) rfl)) (gt rfl (fun w20=>(C3 (A3 w20) (C0 w20 hv3) rfl rfl)) (gt rfl (fun _=>rfl) (bs h fun v4 hv4 h=> ?_))))
 refine S4 v1 (bo v4) (A0d rfl) (fun w22=>⟨_,[(.d (.agg (A3b p1.m))),(.d (.agg (D8 v2))),(.d (.agg (D8 v3))),(di p3)],_,_,(by simp only [A3 w22];rfl),rfl,A2,C06 _ _ _ _ _ (C0 w22 hv4),(.inl rfl)⟩) ?_
 refine sa rfl rfl rfl (sv rfl (A1 (B3 ?_)))
 cases h
 exact A7 (.inr rfl) (B6 (B4 rfl) E0) (.refl _)
noncomputable def F6 (p1:(List Stay))(p2:Stay)(x1:(Int×Int)):Option (Stp (Int×Int) Int):=
  cond (decide (x1.1<x1.2)) ((D4 p1 (w64 ((IntKind.wrap .u64 (w64 (x1.1+x1.2))).fdiv (2^ (min (1:Int).toNat (IntKind.bits .u64)))))).bind fun v1=>(A3x v1 p2).bind fun v2=>cond (decide (v2<0)) (some (.go ((w64 ((w64 ((IntKind.wrap .u64 (w64 (x1.1+x1.2))).fdiv (2^ (min (1:Int).toNat (IntKind.bits .u64)))))+1)),x1.2))) (some (.go (x1.1,(w64 ((IntKind.wrap .u64 (w64 (x1.1+x1.2))).fdiv (2^ (min (1:Int).toNat (IntKind.bits .u64))))))))) (some (.out x1.1))
noncomputable def D0 (p1:(List Stay))(p2:Stay):Option (Int×Bool):=
  (loop (F6 p1 p2) (0,(p1.length:Int))).bind fun y1=>((cond (decide (y1< (p1.length:Int))) (D4 p1 y1) (some default))).bind fun v3=>((cond (decide (y1< (p1.length:Int))) (A3x v3 p2) (some default))).bind fun v4=>some (y1,((decide (y1< (p1.length:Int)))&& (v4==0)))
theorem M3 (p1:(List Stay))(p2:Stay)(r:(Int×Bool))(h:D0 p1 p2=some r):PCall Tryz.prog 172 [(.list (List.map N1 p1)),(.agg (N1 p2)),(.fn (.func 73) [] [])] (.tup [(i64 r.1),(bo r.2)]):=by
 refine B7 (fk Tryz.func172 Tryz.ntmps172 m0 (by with_unfolding_all rfl)) (nl rfl) ?_
 unfold D0 at h
 refine B5 (s0:=⟨T [(0,(.d _)),(1,(.d _)),(2,(.d _))],G []⟩) (sbr rfl rfl) ?_
 refine lr (fun u1 hu1=>sn rfl rfl (sv rfl (sv rfl (A1 (lr (fun u2 hu2=>sv rfl (sd rfl (E7 rfl) (sv rfl (A1 (lr (fun u3 hu3=>sv rfl (sv rfl (sv rfl (A1 (A6 (bs h fun y1 hy1 h=>D7 (fun s=> ∃g1:Unit,Sb ⟨T [(0,(dl N1 p1)),(2,(.d (.fn (.func 73) [] []))),(4,(.ptr (4,u1) 0)),(8,(di (p1.length:Int))),(9,(di y1))],G [((4,u1),some (.box 127 (C05 p2)))]⟩ s) ?_ ?_))))))))))))))))
 refine A8 (F1 (F6 p1 p2) (fun (x1:(Int×Int)) (g2:Unit)=>⟨T [(0,(dl N1 p1)),(2,(.d (.fn (.func 73) [] []))),(4,(.ptr (4,u1) 0)),(8,(di (p1.length:Int))),(9,(di x1.1)),(10,(di x1.2))],G [((4,u1),some (.box 127 (C05 p2)))]⟩) (0,(p1.length:Int)) () _ hy1 (sbr rfl rfl) ?_)
 intro x1 g2 z1 hz1 ez1
 unfold F6 at hz1
 refine A6 (lr (fun u4 hu4=>sv rfl (sv rfl (sv rfl (A1 (cc rfl hz1 (fun c1 hz1=> ?_) (fun c1 hz1=> ?_)))))))
 refine A9 (A8 (lr (fun u5 hu5=>sv rfl (sv rfl (sv rfl (sv rfl (sv rfl (sv rfl (sv rfl (A1 (A6 (I0 rfl fun u6 hu6=>sv rfl (sv rfl (sv rfl (bs hz1 fun v1 hv1 hz1=>sd rfl (E2 rfl rfl hv1 rfl) (sd rfl (C3 rfl hv1 rfl rfl) (sd rfl (B2 rfl G_hit rfl rfl) (bs hz1 fun v2 hv2 hz1=>B0 rfl rfl A2 (B2f _ _ _ hv2) (.inl rfl) (sv rfl (A1 (cc rfl hz1 (fun c2 hz1=> ?_) (fun c2 hz1=> ?_))))))))))))))))))))))
 refine C8 fun u7 hu7=>sv rfl (sv rfl (sv rfl (A1 (G3 (G4 ?_)))))
 cases hz1
 exact ⟨rfl,(),(sbr rfl rfl)⟩
 refine C8 fun u8 hu8=>sv rfl (sv rfl (A1 (G3 (G4 ?_))))
 cases hz1
 exact ⟨rfl,(),(sbr rfl rfl)⟩
 refine C2 rfl ?_
 cases hz1
 obtain rfl:=ez1 _ rfl
 refine ⟨nofun,B9 rfl (l_j ?_)⟩
 exact ⟨(),(sbr rfl rfl)⟩
 rintro _ ⟨g1,q1⟩
 refine B5 q1 (A6 (I0 rfl fun u9 hu9=>sv rfl (sv rfl (sv rfl (sv rfl (sv rfl (gt rfl (fun _=>rfl) (gt rfl (fun _=>rfl) (gt rfl (fun _=>rfl) (bs h fun v3 hv3 h=>gt rfl (fun w4=>(E2 (A3 w4) (A3 w4) (C0 w4 hv3) rfl)) (gt rfl (fun w5=>(C3 (A3 w5) (C0 w5 hv3) rfl rfl)) (gt rfl (fun w6=>(B2 rfl G_hit rfl rfl)) (bs h fun v4 hv4 h=> ?_)))))))))))))
 refine S4 _ (i64 v4) (A0d rfl) (fun w7=>⟨_,[(.d (.agg (N1 v3))),(.d (.agg (N1 p2)))],_,_,(by simp only [A3 w7];rfl),rfl,A2,B2f _ _ _ (C0 w7 hv4),(.inl rfl)⟩) ?_
 refine gt rfl (vb rfl rfl rfl) (sa rfl rfl rfl (sv rfl (sv rfl (A1 (B3 ?_)))))
 cases h
 exact A7 (.inr rfl) (B5w (B4 rfl) (B4 rfl) E0 E0) (.refl _)
noncomputable def A6o (p1:Part)(p2:Int):Option Bool:=
  some (p1.Lane_==p2)
theorem B96 (p1:Part)(p2:Int)(r:Bool)(h:A6o p1 p2=some r):PCall Tryz.prog 265 [(.agg (A53 p1)),(.bp [(i64 p2)] 0)] (bo r):=by
 refine B7 (fk Tryz.func265 Tryz.ntmps265 m0 (by with_unfolding_all rfl)) (nl rfl) ?_
 unfold A6o at h
 refine B5 (s0:=⟨T [(0,(.d _)),(1,(.d _))],G []⟩) (sbr rfl rfl) ?_
 refine lr (fun u1 hu1=>sn rfl rfl (sv rfl (A1 (lr (fun u2 hu2=>sp rfl rfl (sl rfl G_hit rfl (sv rfl (sv rfl (sv rfl (A1 (B3 ?_)))))))))))
 cases h
 exact A7 (.inr rfl) (B6 (B4 rfl) E0) (.refl _)
noncomputable def J4 (p1:(List Part))(p2:Int)(x1:Int):Option (Stp Int (Sum Unit Int)):=
  cond (decide (x1< (p1.length:Int))) ((D4 p1 x1).bind fun v1=>(A6o v1 p2).bind fun v2=>cond v2 (some (.out (.inr x1))) (some (.go (w64 (x1+1))))) (some (.out (.inl ())))
noncomputable def K6 (p1:(List Part))(p2:Int):Option Int:=
  thenS (loop (J4 p1 p2) 0) (fun _=>some (-1)) (fun r=>some r)
theorem A40 (p1:(List Part))(p2:Int)(r:Int)(h:K6 p1 p2=some r):PCall Tryz.prog 220 [(.list (List.map A53 p1)),(.fn (.func 265) [] [(.bp [(i64 p2)] 0)])] (i64 r):=by
 refine B7 (fk Tryz.func220 Tryz.ntmps220 m0 (by with_unfolding_all rfl)) (nl rfl) ?_
 unfold K6 at h
 refine B5 (s0:=⟨T [(0,(.d _)),(1,(.d _))],G []⟩) (sbr rfl rfl) ?_
 refine lr (fun u1 hu1=>sv rfl (A1 (A6 (lr (fun u2 hu2=>sv rfl (sd rfl (E7 rfl) (sv rfl (A1 (js h fun z1 hz1 h=>D7 (fun s=> ∃(y1:Unit) (g1:Unit),z1= .inl y1∧Sb ⟨T [],G []⟩ s) ?_ ?_)))))))))
 refine A8 (F1 (J4 p1 p2) (fun (x1:Int) (g2:Unit)=>⟨T [(0,(dl A53 p1)),(1,(.d (.fn (.func 265) [] [(.bp [(i64 p2)] 0)]))),(7,(di (p1.length:Int))),(8,(di x1))],G []⟩) 0 () _ hz1 (sbr rfl rfl) ?_)
 intro x1 g2 z2 hz2 ez2
 unfold J4 at hz2
 refine lr (fun u3 hu3=>sv rfl (A1 (A6 (cc rfl hz2 (fun c1 hz2=> ?_) (fun c1 hz2=> ?_)))))
 refine A9 (A6 (A8 (lr (fun u4 hu4=>sv rfl (sv rfl (A1 (lr (fun u5 hu5=>sv rfl (sv rfl (sv rfl (bs hz2 fun v1 hv1 hz2=>sd rfl (E2 rfl rfl hv1 rfl) (sd rfl (C3 rfl hv1 rfl rfl) (bs hz2 fun v2 hv2 hz2=>B0 rfl rfl A2 (B96 _ _ _ hv2) (.inl rfl) (A1 (cc rfl hz2 (fun c2 hz2=> ?_) (fun c2 hz2=> ?_))))))))))))))))
 refine lr (fun u6 hu6=>sv rfl (sv rfl (A1 (B3 ?_))))
 cases hz2
 obtain rfl:=ez2 _ rfl
 refine ⟨nofun,E1 ?_⟩
 rw [Sum.elim_inr]at h
 cases h
 exact A7 (.inr rfl) (B6 (B4 rfl) E0) (.refl _)
 refine A9 (G3 (C8 fun u7 hu7=>sv rfl (sv rfl (A1 (G4 ?_)))))
 cases hz2
 exact ⟨rfl,(),(sbr rfl rfl)⟩
 refine C2 rfl ?_
 cases hz2
 obtain rfl:=ez2 _ rfl
 refine ⟨nofun,B9 rfl (l_j ?_)⟩
 exact ⟨_,(),rfl,(sbr rfl rfl)⟩
 rintro _ ⟨y1,g1,rfl,q1⟩
 rw [Sum.elim_inl]at h
 refine B5 q1 (lr (fun u8 hu8=>sv rfl (A1 (B3 ?_))))
 cases h
 exact A7 (.inr rfl) (B6 (B4 rfl) E0) (.refl _)
noncomputable def B3f (p1:Zone)(p2:Int):Option (Part×Bool):=
  (K6 p1.Parts p2).bind fun v1=>cond (decide (v1<0)) (some ((Part.mk 0 0 0 0),false)) ((D4 p1.Parts v1).bind fun v2=>some (v2,true))
theorem C4x (p1:Zone)(p2:Int)(r:(Part×Bool))(h:B3f p1 p2=some r):PCall Tryz.prog 251 [(.agg [(.list (List.map A53 p1.Parts)),(i64 p1.Signal_)]),(i64 p2)] (.tup [(.agg (A53 r.1)),(bo r.2)]):=by
 refine B7 (fk Tryz.func251 Tryz.ntmps251 m0 (by with_unfolding_all rfl)) (nl rfl) ?_
 unfold B3f at h
 refine B5 (s0:=⟨T [(0,(.d _)),(1,(.d _))],G []⟩) (sbr rfl rfl) ?_
 refine lr (fun u1 hu1=>sn rfl rfl (sn rfl rfl (sn rfl rfl (sv rfl (A1 (lr (fun u2 hu2=>sp rfl rfl (sl rfl (gq rfl) rfl (C1 (.fn _ _ _) rfl rfl (bs h fun v1 hv1 h=>B0 rfl (rD (D3 (C2s F2 (D3 (A38 (gq rfl) (rD F2)) F2)) F2)) A2 (A40 _ _ _ hv1) (.inr rfl) (sv rfl (A1 (A6 (lr (fun u3 hu3=>sv rfl (sv rfl (A1 (cc rfl h (fun c1 h=> ?_) (fun c1 h=> ?_)))))))))))))))))))
 refine lr (fun u4 hu4=>sv rfl (sst rfl G_hit (zs 4) rfl (sv rfl (A1 (B3 ?_)))))
 cases h
 exact A7 (.inr rfl) (B5w (K0 rfl G_hit (nl rfl) rfl) (B4 rfl) E0 E0) (.refl _)
 refine A9 (lr (fun u5 hu5=>sp rfl rfl (sl rfl (gq rfl) rfl (sv rfl (bs h fun v2 hv2 h=>sd rfl (E2 rfl rfl hv2 rfl) (sd rfl (C3 rfl hv2 rfl rfl) (sst rfl G_hit (C04 v2) rfl (sv rfl (A1 (B3 ?_))))))))))
 cases h
 exact A7 (.inr rfl) (B5w (K0 rfl G_hit (nl rfl) rfl) (B4 rfl) E0 E0) (.refl _)
noncomputable def A3i (p1:Int)(p2:Map)(p3:Int):Option Bool:=
  (D4 p2.Zones p3).bind fun v1=>(B3f v1 p1).bind fun v2=>some v2.2
theorem B61 (p1:Int)(p2:Map)(p3:Int)(r:Bool)(h:A3i p1 p2 p3=some r):PCall Tryz.prog 250 [(i64 p1),(.bp (A3b p2) 0),(.bp [(i64 p3)] 0)] (bo r):=by
 refine B7 (fk Tryz.func250 Tryz.ntmps250 m0 (by with_unfolding_all rfl)) (nl rfl) ?_
 unfold A3i at h
 refine B5 (s0:=⟨T [(0,(.d _)),(1,(.d _)),(2,(.d _))],G []⟩) (sbr rfl rfl) ?_
 refine lr (fun u1 hu1=>sv rfl (A1 (lr (fun u2 hu2=>sv rfl (sv rfl (sv rfl (bs h fun v1 hv1 h=>sd rfl (E2 rfl rfl hv1 rfl) (sd rfl (C3 rfl hv1 rfl rfl) (sv rfl (bs h fun v2 hv2 h=>B0 rfl rfl A2 (C4x _ _ _ hv2) (.inl rfl) (sv rfl (sv rfl (sv rfl (sn rfl rfl (sst rfl G_hit (C04 v2.1) rfl (sv rfl (A1 (lr (fun u3 hu3=>sv rfl (sv rfl (A1 (B3 ?_))))))))))))))))))))))
 cases h
 exact A7 (.inr rfl) (B6 (B4 rfl) E0) (.refl _)
noncomputable def J5 (p1:(List Int))(p2:Map)(p3:Int)(x1:Int):Option (Stp Int (Sum Unit Int)):=
  cond (decide (x1< (p1.length:Int))) ((D4 p1 x1).bind fun v1=>(A3i v1 p2 p3).bind fun v2=>cond v2 (some (.out (.inr x1))) (some (.go (w64 (x1+1))))) (some (.out (.inl ())))
noncomputable def K7 (p1:(List Int))(p2:Map)(p3:Int):Option Int:=
  thenS (loop (J5 p1 p2 p3) 0) (fun _=>some (-1)) (fun r=>some r)
theorem A41 (p1:(List Int))(p2:Map)(p3:Int)(r:Int)(h:K7 p1 p2 p3=some r):PCall Tryz.prog 249 [(.list (List.map A4 p1)),(.fn (.func 250) [] [(.bp (A3b p2) 0),(.bp [(i64 p3)] 0)])] (i64 r):=by
 refine B7 (fk Tryz.func249 Tryz.ntmps249 m0 (by with_unfolding_all rfl)) (nl rfl) ?_
 unfold K7 at h
 refine B5 (s0:=⟨T [(0,(.d _)),(1,(.d _))],G []⟩) (sbr rfl rfl) ?_
 refine lr (fun u1 hu1=>sv rfl (A1 (A6 (lr (fun u2 hu2=>sv rfl (sd rfl (E7 rfl) (sv rfl (A1 (js h fun z1 hz1 h=>D7 (fun s=> ∃(y1:Unit) (g1:Unit),z1= .inl y1∧Sb ⟨T [],G []⟩ s) ?_ ?_)))))))))
 refine A8 (F1 (J5 p1 p2 p3) (fun (x1:Int) (g2:Unit)=>⟨T [(0,(dl A4 p1)),(1,(.d (.fn (.func 250) [] [(.bp (A3b p2) 0),(.bp [(i64 p3)] 0)]))),(7,(di (p1.length:Int))),(8,(di x1))],G []⟩) 0 () _ hz1 (sbr rfl rfl) ?_)
 intro x1 g2 z2 hz2 ez2
 unfold J5 at hz2
 refine lr (fun u3 hu3=>sv rfl (A1 (A6 (cc rfl hz2 (fun c1 hz2=> ?_) (fun c1 hz2=> ?_)))))
 refine A9 (A6 (A8 (lr (fun u4 hu4=>sv rfl (sv rfl (A1 (lr (fun u5 hu5=>sv rfl (sv rfl (sv rfl (bs hz2 fun v1 hv1 hz2=>sd rfl (E2 rfl rfl hv1 rfl) (sd rfl (D9 rfl hv1 rfl) (bs hz2 fun v2 hv2 hz2=>B0 rfl rfl A2 (B61 _ _ _ _ hv2) (.inl rfl) (A1 (cc rfl hz2 (fun c2 hz2=> ?_) (fun c2 hz2=> ?_))))))))))))))))
 refine lr (fun u6 hu6=>sv rfl (sv rfl (A1 (B3 ?_))))
 cases hz2
 obtain rfl:=ez2 _ rfl
 refine ⟨nofun,E1 ?_⟩
 rw [Sum.elim_inr]at h
 cases h
 exact A7 (.inr rfl) (B6 (B4 rfl) E0) (.refl _)
 refine A9 (G3 (C8 fun u7 hu7=>sv rfl (sv rfl (A1 (G4 ?_)))))
 cases hz2
 exact ⟨rfl,(),(sbr rfl rfl)⟩
 refine C2 rfl ?_
 cases hz2
 obtain rfl:=ez2 _ rfl
 refine ⟨nofun,B9 rfl (l_j ?_)⟩
 exact ⟨_,(),rfl,(sbr rfl rfl)⟩
 rintro _ ⟨y1,g1,rfl,q1⟩
 rw [Sum.elim_inl]at h
 refine B5 q1 (lr (fun u8 hu8=>sv rfl (A1 (B3 ?_))))
 cases h
 exact A7 (.inr rfl) (B6 (B4 rfl) E0) (.refl _)
noncomputable def B12 (p1:Map)(p2:(List Int))(p3:Int):Option Int:=
  (A1b p1 p2).bind fun v1=>cond ((decide (p3<0))||(decide (p3≥(p1.Zones.length:Int)))) (some (-1)) ((K7 v1.lanes p1 p3).bind fun v2=>some v2)
theorem C2x (p1:Map)(p2:(List Int))(p3:Int)(r:Int)(h:B12 p1 p2 p3=some r):PCall Tryz.prog 222 [(.agg (A3b p1)),(.list (List.map A4 p2)),(i64 p3)] (i64 r):=by
 refine B7 (fk Tryz.func222 Tryz.ntmps222 m0 (by with_unfolding_all rfl)) (nl rfl) ?_
 unfold B12 at h
 refine B5 (s0:=⟨T [(0,(.d _)),(1,(.d _)),(2,(.d _))],G []⟩) (sbr rfl rfl) ?_
 refine lr (fun u1 hu1=>sn rfl rfl (sn rfl rfl (sv rfl (A1 (lr (fun u2 hu2=>sd rfl (B2 rfl (gq rfl) rfl rfl) (sv rfl (bs h fun v1 hv1 h=>B0 rfl rfl A2 (A7y _ _ _ hv1) (.inl rfl) (sn rfl rfl (sst rfl G_hit (B0v v1) rfl (A1 (A6 (lr (fun u3 hu3=>sl rfl (gq rfl) rfl (sv rfl (sv rfl (gf rfl (fun w1=>(Z4 rfl (gq rfl) rfl)) (gp rfl (T8 rfl) (fun _=>rfl) (gf rfl (vl rfl (gq rfl) rfl) (gf rfl (fun w4=>(E7 (A3 w4))) (gf rfl (fun w5=>(S3 (A3 w5) (A3 w5) rfl)) (sd rfl (A0s rfl rfl (fun hc=>A3 (K9 hc))) (A1 (cc rfl h (fun c1 h=> ?_) (fun c1 h=> ?_)))))))))))))))))))))))))
 refine lr (fun u4 hu4=>sv rfl (A1 (B3 ?_)))
 cases h
 exact A7 (.inr rfl) (B6 (B4 rfl) E0) (.refl _)
 refine A9 (lr (fun u5 hu5=>sp rfl rfl (sl rfl G_hit rfl (C1 (.fn _ _ _) rfl rfl (bs h fun v2 hv2 h=>B0 rfl (rD (D3 (C2s F2 (D3 (A38 (gq rfl) (rD (rD (rD (rD (rD F2)))))) (D3 (A38 (gq rfl) (rD F2)) F2))) F2)) A2 (A41 _ _ _ _ hv2) (.inr rfl) (sv rfl (A1 (B3 ?_))))))))
 cases h
 exact A7 (.inr rfl) (B6 (B4 rfl) E0) (.refl _)
noncomputable def A6z (p1:Map)(p2:(List Int))(p3:Int):Option Int:=
  (B12 p1 p2 p3).bind fun v1=>cond (decide (v1≥0)) ((D4 p2 v1).bind fun v2=>some v2) (some (-1))
theorem B2h (p1:Map)(p2:(List Int))(p3:Int)(r:Int)(h:A6z p1 p2 p3=some r):PCall Tryz.prog 175 [(.agg (A3b p1)),(.list (List.map A4 p2)),(i64 p3)] (i64 r):=by
 refine B7 (fk Tryz.func175 Tryz.ntmps175 m0 (by with_unfolding_all rfl)) (nl rfl) ?_
 unfold A6z at h
 refine B5 (s0:=⟨T [(0,(.d _)),(1,(.d _)),(2,(.d _))],G []⟩) (sbr rfl rfl) ?_
 refine lr (fun u1 hu1=>sn rfl rfl (sv rfl (A1 (A6 (lr (fun u2 hu2=>sd rfl (B2 rfl G_hit rfl rfl) (sv rfl (sv rfl (bs h fun v1 hv1 h=>B0 rfl rfl A2 (C2x _ _ _ _ hv1) (.inl rfl) (sv rfl (A1 (lr (fun u3 hu3=>sv rfl (sv rfl (A1 (cc rfl h (fun c1 h=> ?_) (fun c1 h=> ?_)))))))))))))))))
 refine lr (fun u4 hu4=>sv rfl (sv rfl (bs h fun v2 hv2 h=>sd rfl (E2 rfl rfl hv2 rfl) (sd rfl (D9 rfl hv2 rfl) (sv rfl (A1 (B3 ?_)))))))
 cases h
 exact A7 (.inr rfl) (B6 (B4 rfl) E0) (.refl _)
 refine A9 (lr (fun u5 hu5=>sv rfl (A1 (B3 ?_))))
 cases h
 exact A7 (.inr rfl) (B6 (B4 rfl) E0) (.refl _)
noncomputable def B08 (p1:Map)(p2:Int):Option Bool:=
  ((cond ((decide (p2≥0))&& (decide (p2< (p1.Lanes.length:Int)))) (A3v p1) (some default))).bind fun v1=>some (((decide (p2≥0))&& (decide (p2< (p1.Lanes.length:Int))))&& (v1==0))
theorem B6v (p1:Map)(p2:Int)(r:Bool)(h:B08 p1 p2=some r):PCall Tryz.prog 206 [(.agg (A3b p1)),(i64 p2)] (bo r):=by
 refine B7 (fk Tryz.func206 Tryz.ntmps206 m0 (by with_unfolding_all rfl)) (nl rfl) ?_
 unfold B08 at h
 refine B5 (s0:=⟨T [(0,(.d _)),(1,(.d _))],G []⟩) (sbr rfl rfl) ?_
 refine lr (fun u1 hu1=>sn rfl rfl (sv rfl (A1 (lr (fun u2 hu2=>sv rfl (sv rfl (sv rfl (gt rfl (fun _=>rfl) (gp rfl (A0d rfl) (fun _=>rfl) (gt rfl (vl rfl G_hit rfl) (gt rfl (fun w4=>(E7 (A3 w4))) (gt rfl (fun w5=>(S3 (A3 w5) (A3 w5) rfl)) (sa rfl rfl rfl (sv rfl (gt rfl (fun w6=>(B2 rfl G_hit rfl rfl)) (bs h fun v1 hv1 h=> ?_))))))))))))))))
 refine S4 _ (i64 v1) (A0d rfl) (fun w7=>⟨_,[(.d (.agg (A3b p1)))],_,_,(by simp only [A3 w7];rfl),rfl,A2,B2e _ _ (C0 w7 hv1),(.inl rfl)⟩) ?_
 refine gt rfl (vb rfl rfl rfl) (sa rfl rfl rfl (sv rfl (A1 (B3 ?_))))
 cases h
 exact A7 (.inr rfl) (B6 (B4 rfl) E0) (.refl _)
noncomputable def X1 (p1:Signal)(p2:Int)(x2:(Int×Int)):Option (Stp (Int×Int) (Sum Unit Bool)):=
  cond (decide (x2.2< (p1.Phases.length:Int))) ((D4 p1.Phases x2.2).bind fun v5=>cond (decide (x2.1≥v5.Ticks)) (some (.go ((w64 (x2.1 - v5.Ticks)),(w64 (x2.2+1))))) ((M2 v5.Green p2).bind fun v6=>some (.out (.inr v6)))) (some (.out (.inl ())))
noncomputable def Z1 (p1:Signal)(x1:(Int×Int)):Option (Stp (Int×Int) Int):=
  cond (decide (x1.2< (p1.Phases.length:Int))) ((D4 p1.Phases x1.2).bind fun v1=>some (.go ((w64 (x1.1+v1.Ticks)),(w64 (x1.2+1))))) (some (.out x1.1))
noncomputable def A5c (p1:Signal)(p2:Int)(p3:Int):Option Bool:=
  (loop (Z1 p1) (0,0)).bind fun y1=>(C7a p1.Offset y1).bind fun v2=>(C7a p3 y1).bind fun v3=>(C7a (w64 (v2+v3)) y1).bind fun v4=>thenS (loop (X1 p1 p2) (v4,0)) (fun _=>some false) (fun r=>some r)
theorem B6d (p1:Signal)(p2:Int)(p3:Int)(r:Bool)(h:A5c p1 p2 p3=some r):PCall Tryz.prog 248 [(.agg [(i64 p1.Offset),(.list (List.map A39 p1.Phases))]),(i64 p2),(i64 p3)] (bo r):=by
 refine B7 (fk Tryz.func248 Tryz.ntmps248 m0 (by with_unfolding_all rfl)) (nl rfl) ?_
 unfold A5c at h
 refine B5 (s0:=⟨T [(0,(.d _)),(1,(.d _)),(2,(.d _))],G []⟩) (sbr rfl rfl) ?_
 refine lr (fun u1 hu1=>sn rfl rfl (sv rfl (A1 (D8p (lr (fun u2 hu2=>sv rfl (A1 (A6 (lr (fun u3 hu3=>sp rfl rfl (sl rfl G_hit rfl (sd rfl (E7 rfl) (sv rfl (A1 (bs h fun y1 hy1 h=>D7 (fun s=> ∃g1:Unit,Sb ⟨T [(1,(di p2)),(2,(di p3)),(3,(.ptr (3,u1) 0)),(7,(di y1))],G [((3,u1),some (.box 120 [(di p1.Offset),(dl A39 p1.Phases)]))]⟩ s) ?_ ?_)))))))))))))))
 refine A8 (F1 (Z1 p1) (fun (x1:(Int×Int)) (g2:Unit)=>⟨T [(1,(di p2)),(2,(di p3)),(3,(.ptr (3,u1) 0)),(7,(di x1.1)),(14,(dl A39 p1.Phases)),(15,(di (p1.Phases.length:Int))),(16,(di x1.2))],G [((3,u1),some (.box 120 [(di p1.Offset),(dl A39 p1.Phases)]))]⟩) (0,0) () _ hy1 (sbr rfl rfl) ?_)
 intro x1 g2 z1 hz1 ez1
 unfold Z1 at hz1
 refine lr (fun u4 hu4=>sv rfl (A1 (A6 (cc rfl hz1 (fun c1 hz1=> ?_) (fun c1 hz1=> ?_)))))
 refine A9 (A6 (A8 (lr (fun u5 hu5=>bs hz1 fun v1 hv1 hz1=>sd rfl (E2 rfl rfl hv1 rfl) (sd rfl (C3 rfl hv1 rfl rfl) (sn rfl rfl (sst rfl G_hit [(di v1.Ticks),(dl A4 v1.Green)] rfl (A1 (C8 fun u6 hu6=>sv rfl (sp rfl rfl (sl rfl G_hit rfl (sv rfl (sv rfl (A1 (G3 (C8 fun u7 hu7=>sv rfl (sv rfl (A1 (G4 ?_)))))))))))))))))))
 cases hz1
 exact ⟨rfl,(),(sbr rfl rfl)⟩
 refine C2 rfl ?_
 cases hz1
 obtain rfl:=ez1 _ rfl
 refine ⟨nofun,B9 rfl (l_j ?_)⟩
 exact ⟨(),(sbr rfl rfl)⟩
 rintro _ ⟨g1,q1⟩
 refine B5 q1 (A6 (I0 rfl fun u8 hu8=>sp rfl rfl (sl rfl G_hit rfl (sv rfl (bs h fun v2 hv2 h=>sd rfl (C7y rfl rfl hv2) (sv rfl (sv rfl (bs h fun v3 hv3 h=>sd rfl (C7y rfl rfl hv3) (sv rfl (sv rfl (bs h fun v4 hv4 h=>sd rfl (C7y rfl rfl hv4) (sv rfl (A1 (A6 (A9 (A6 (lr (fun u9 hu9=>sp rfl rfl (sl rfl G_hit rfl (sd rfl (E7 rfl) (sv rfl (A1 (js h fun z2 hz2 h=>D7 (fun s=> ∃(y2:Unit) (g3:Unit),z2= .inl y2∧Sb ⟨T [],G []⟩ s) ?_ ?_)))))))))))))))))))))))
 refine A8 (F1 (X1 p1 p2) (fun (x2:(Int×Int)) (g4:Unit)=>⟨T [(1,(di p2)),(10,(di x2.1)),(36,(dl A39 p1.Phases)),(37,(di (p1.Phases.length:Int))),(38,(di x2.2))],G []⟩) (v4,0) () _ hz2 (sbr rfl rfl) ?_)
 intro x2 g4 z3 hz3 ez3
 unfold X1 at hz3
 refine lr (fun u10 hu10=>sv rfl (A1 (A6 (cc rfl hz3 (fun c2 hz3=> ?_) (fun c2 hz3=> ?_)))))
 refine A9 (A6 (A8 (lr (fun u11 hu11=>bs hz3 fun v5 hv5 hz3=>sd rfl (E2 rfl rfl hv5 rfl) (sd rfl (C3 rfl hv5 rfl rfl) (sn rfl rfl (sst rfl G_hit [(di v5.Ticks),(dl A4 v5.Green)] rfl (A1 (A6 (lr (fun u12 hu12=>sv rfl (sp rfl rfl (sl rfl G_hit rfl (sv rfl (A1 (cc rfl hz3 (fun c3 hz3=> ?_) (fun c3 hz3=> ?_)))))))))))))))))
 refine lr (fun u13 hu13=>sv rfl (sp rfl rfl (sl rfl G_hit rfl (sv rfl (sv rfl (A1 (B7n rfl (C8 fun u14 hu14=>sv rfl (sv rfl (A1 (G4 ?_)))))))))))
 cases hz3
 exact ⟨rfl,(),(sbr rfl rfl)⟩
 refine A9 (lr (fun u15 hu15=>sp rfl rfl (sl rfl G_hit rfl (sv rfl (bs hz3 fun v6 hv6 hz3=>B0 rfl rfl A2 (A22 _ _ _ hv6) (.inl rfl) (sv rfl (A1 (B3 ?_))))))))
 cases hz3
 obtain rfl:=ez3 _ rfl
 refine ⟨nofun,E1 ?_⟩
 rw [Sum.elim_inr]at h
 cases h
 exact A7 (.inr rfl) (B6 (B4 rfl) E0) (.refl _)
 refine C2 rfl ?_
 cases hz3
 obtain rfl:=ez3 _ rfl
 refine ⟨nofun,B9 rfl (l_j ?_)⟩
 exact ⟨_,(),rfl,(sbr rfl rfl)⟩
 rintro _ ⟨y2,g3,rfl,q2⟩
 rw [Sum.elim_inl]at h
 refine B5 q2 (lr (fun u16 hu16=>sv rfl (A1 (B3 ?_))))
 cases h
 exact A7 (.inr rfl) (B6 (B4 rfl) E0) (.refl _)
noncomputable def B13 (p1:Map)(p2:Int)(p3:Int)(p4:Int):Option Bool:=
  ((cond (((decide (p4≥0))&& (decide (p2≥0)))&& (decide (p2< (p1.Signals.length:Int)))) (B08 p1 p3) (some default))).bind fun v1=>((cond ((((decide (p4≥0))&& (decide (p2≥0)))&& (decide (p2< (p1.Signals.length:Int))))&&v1) (D4 p1.Signals p2) (some default))).bind fun v2=>((cond ((((decide (p4≥0))&& (decide (p2≥0)))&& (decide (p2< (p1.Signals.length:Int))))&&v1) (A5c v2 p3 p4) (some default))).bind fun v3=>some (((((decide (p4≥0))&& (decide (p2≥0)))&& (decide (p2< (p1.Signals.length:Int))))&&v1)&&v3)
theorem C2y (p1:Map)(p2:Int)(p3:Int)(p4:Int)(r:Bool)(h:B13 p1 p2 p3 p4=some r):PCall Tryz.prog 219 [(.agg (A3b p1)),(i64 p2),(i64 p3),(i64 p4)] (bo r):=by
 refine B7 (fk Tryz.func219 Tryz.ntmps219 m0 (by with_unfolding_all rfl)) (nl rfl) ?_
 unfold B13 at h
 refine B5 (s0:=⟨T [(0,(.d _)),(1,(.d _)),(2,(.d _)),(3,(.d _))],G []⟩) (sbr rfl rfl) ?_
 refine lr (fun u1 hu1=>sn rfl rfl (sv rfl (A1 (lr (fun u2 hu2=>sv rfl (sv rfl (sv rfl (gt rfl (fun _=>rfl) (gt rfl (vb rfl rfl rfl) (sa rfl rfl rfl (sv rfl (gt rfl (fun _=>rfl) (gp rfl (A0d rfl) (fun _=>rfl) (gt rfl (vl rfl G_hit rfl) (gt rfl (fun w6=>(E7 (A3 w6))) (gt rfl (fun w7=>(S3 (A3 w7) (A3 w7) rfl)) (sa rfl rfl rfl (sv rfl (gt rfl (fun w8=>(B2 rfl G_hit rfl rfl)) (gt rfl (fun _=>rfl) (bs h fun v1 hv1 h=> ?_)))))))))))))))))))))
 refine S4 _ (bo v1) (A0d rfl) (fun w10=>⟨_,[(.d (.agg (A3b p1))),(di p3)],_,_,(by simp only [A3 w10];rfl),rfl,A2,B6v _ _ _ (C0 w10 hv1),(.inl rfl)⟩) ?_
 refine sa rfl rfl rfl (sv rfl (gp rfl (A0d rfl) (fun _=>rfl) (gt rfl (vl rfl G_hit rfl) (gt rfl (fun _=>rfl) (bs h fun v2 hv2 h=>gt rfl (fun w14=>(E2 (A3 w14) (A3 w14) (C0 w14 hv2) rfl)) (gt rfl (fun w15=>(C3 (A3 w15) (C0 w15 hv2) rfl rfl)) (gt rfl (fun _=>rfl) (gt rfl (fun _=>rfl) (bs h fun v3 hv3 h=> ?_)))))))))
 refine S4 _ (bo v3) (A0d rfl) (fun w18=>⟨_,[(.d (.agg [(i64 v2.Offset),(.list (List.map A39 v2.Phases))])),(di p3),(di p4)],_,_,(by simp only [A3 w18];rfl),rfl,A2,B6d _ _ _ _ (C0 w18 hv3),(.inl rfl)⟩) ?_
 refine sa rfl rfl rfl (sv rfl (A1 (B3 ?_)))
 cases h
 exact A7 (.inr rfl) (B6 (B4 rfl) E0) (.refl _)
noncomputable def A6p (p1:Part)(p2:Int):Option Bool:=
  some (p1.Lane_==p2)
theorem B97 (p1:Part)(p2:Int)(r:Bool)(h:A6p p1 p2=some r):PCall Tryz.prog 221 [(.agg (A53 p1)),(.bp [(i64 p2)] 0)] (bo r):=by
 refine B7 (fk Tryz.func221 Tryz.ntmps221 m0 (by with_unfolding_all rfl)) (nl rfl) ?_
 unfold A6p at h
 refine B5 (s0:=⟨T [(0,(.d _)),(1,(.d _))],G []⟩) (sbr rfl rfl) ?_
 refine lr (fun u1 hu1=>sn rfl rfl (sv rfl (A1 (lr (fun u2 hu2=>sp rfl rfl (sl rfl G_hit rfl (sv rfl (sv rfl (sv rfl (A1 (B3 ?_)))))))))))
 cases h
 exact A7 (.inr rfl) (B6 (B4 rfl) E0) (.refl _)
noncomputable def J6 (p1:(List Part))(p2:Int)(x1:Int):Option (Stp Int (Sum Unit Int)):=
  cond (decide (x1< (p1.length:Int))) ((D4 p1 x1).bind fun v1=>(A6p v1 p2).bind fun v2=>cond v2 (some (.out (.inr x1))) (some (.go (w64 (x1+1))))) (some (.out (.inl ())))
noncomputable def K8 (p1:(List Part))(p2:Int):Option Int:=
  thenS (loop (J6 p1 p2) 0) (fun _=>some (-1)) (fun r=>some r)
theorem A42 (p1:(List Part))(p2:Int)(r:Int)(h:K8 p1 p2=some r):PCall Tryz.prog 220 [(.list (List.map A53 p1)),(.fn (.func 221) [] [(.bp [(i64 p2)] 0)])] (i64 r):=by
 refine B7 (fk Tryz.func220 Tryz.ntmps220 m0 (by with_unfolding_all rfl)) (nl rfl) ?_
 unfold K8 at h
 refine B5 (s0:=⟨T [(0,(.d _)),(1,(.d _))],G []⟩) (sbr rfl rfl) ?_
 refine lr (fun u1 hu1=>sv rfl (A1 (A6 (lr (fun u2 hu2=>sv rfl (sd rfl (E7 rfl) (sv rfl (A1 (js h fun z1 hz1 h=>D7 (fun s=> ∃(y1:Unit) (g1:Unit),z1= .inl y1∧Sb ⟨T [],G []⟩ s) ?_ ?_)))))))))
 refine A8 (F1 (J6 p1 p2) (fun (x1:Int) (g2:Unit)=>⟨T [(0,(dl A53 p1)),(1,(.d (.fn (.func 221) [] [(.bp [(i64 p2)] 0)]))),(7,(di (p1.length:Int))),(8,(di x1))],G []⟩) 0 () _ hz1 (sbr rfl rfl) ?_)
 intro x1 g2 z2 hz2 ez2
 unfold J6 at hz2
 refine lr (fun u3 hu3=>sv rfl (A1 (A6 (cc rfl hz2 (fun c1 hz2=> ?_) (fun c1 hz2=> ?_)))))
 refine A9 (A6 (A8 (lr (fun u4 hu4=>sv rfl (sv rfl (A1 (lr (fun u5 hu5=>sv rfl (sv rfl (sv rfl (bs hz2 fun v1 hv1 hz2=>sd rfl (E2 rfl rfl hv1 rfl) (sd rfl (C3 rfl hv1 rfl rfl) (bs hz2 fun v2 hv2 hz2=>B0 rfl rfl A2 (B97 _ _ _ hv2) (.inl rfl) (A1 (cc rfl hz2 (fun c2 hz2=> ?_) (fun c2 hz2=> ?_))))))))))))))))
 refine lr (fun u6 hu6=>sv rfl (sv rfl (A1 (B3 ?_))))
 cases hz2
 obtain rfl:=ez2 _ rfl
 refine ⟨nofun,E1 ?_⟩
 rw [Sum.elim_inr]at h
 cases h
 exact A7 (.inr rfl) (B6 (B4 rfl) E0) (.refl _)
 refine A9 (G3 (C8 fun u7 hu7=>sv rfl (sv rfl (A1 (G4 ?_)))))
 cases hz2
 exact ⟨rfl,(),(sbr rfl rfl)⟩
 refine C2 rfl ?_
 cases hz2
 obtain rfl:=ez2 _ rfl
 refine ⟨nofun,B9 rfl (l_j ?_)⟩
 exact ⟨_,(),rfl,(sbr rfl rfl)⟩
 rintro _ ⟨y1,g1,rfl,q1⟩
 rw [Sum.elim_inl]at h
 refine B5 q1 (lr (fun u8 hu8=>sv rfl (A1 (B3 ?_))))
 cases h
 exact A7 (.inr rfl) (B6 (B4 rfl) E0) (.refl _)
noncomputable def B0i (p1:Map)(p2:Agent)(p3:Int)(p4:Int):Option Int:=
  (A6z p1 p2.Route p3).bind fun v1=>cond (decide (v1<0)) (some 0) ((D4 p1.Zones p3).bind fun v2=>((cond (decide (v2.Signal_>0)) (B13 p1 (w64 (v2.Signal_ - 1)) v1 p4) (some default))).bind fun v3=>cond ((decide (v2.Signal_>0))&&v3) (some 2) (cond (decide (v2.Signal_>0)) (some 0) ((K8 v2.Parts v1).bind fun v4=>(D4 v2.Parts v4).bind fun v5=>some v5.Rank)))
theorem B80 (p1:Map)(p2:Agent)(p3:Int)(p4:Int)(r:Int)(h:B0i p1 p2 p3 p4=some r):PCall Tryz.prog 173 [(.agg (A3b p1)),(.agg (D8 p2)),(i64 p3),(i64 p4)] (i64 r):=by
 refine B7 (fk Tryz.func173 Tryz.ntmps173 m0 (by with_unfolding_all rfl)) (nl rfl) ?_
 unfold B0i at h
 refine B5 (s0:=⟨T [(0,(.d _)),(1,(.d _)),(2,(.d _)),(3,(.d _))],G []⟩) (sbr rfl rfl) ?_
 refine lr (fun u1 hu1=>sn rfl rfl (sn rfl rfl (sv rfl (A1 (lr (fun u2 hu2=>sd rfl (B2 rfl (gq rfl) rfl rfl) (sp rfl rfl (sl rfl G_hit rfl (sv rfl (bs h fun v1 hv1 h=>B0 rfl rfl A2 (B2h _ _ _ _ hv1) (.inl rfl) (sn rfl rfl (sst rfl G_hit [(di v1)] rfl (A1 (A6 (lr (fun u3 hu3=>sl rfl G_hit rfl (sv rfl (A1 (cc rfl h (fun c1 h=> ?_) (fun c1 h=> ?_))))))))))))))))))))
 refine lr (fun u4 hu4=>sv rfl (A1 (B3 ?_)))
 cases h
 exact A7 (.inr rfl) (B6 (B4 rfl) E0) (.refl _)
 refine A9 (lr (fun u5 hu5=>sp rfl rfl (sl rfl (gq rfl) rfl (sv rfl (bs h fun v2 hv2 h=>sd rfl (E2 rfl rfl hv2 rfl) (sd rfl (C3 rfl hv2 rfl rfl) (sn rfl rfl (sst rfl G_hit [(dl A53 v2.Parts),(di v2.Signal_)] rfl (A1 (A6 (A8 (lr (fun u6 hu6=>sp rfl rfl (sl rfl G_hit rfl (sv rfl (sv rfl (gt rfl (fun w1=>(B2 rfl (gq rfl) rfl rfl)) (gp rfl (A0d rfl) (fun _=>rfl) (gt rfl (vl rfl G_hit rfl) (gt rfl (vb rfl rfl rfl) (gt rfl (fun w5=>(Z4 rfl (gq rfl) rfl)) (gt rfl (fun _=>rfl) (bs h fun v3 hv3 h=> ?_)))))))))))))))))))))))
 refine S4 _ (bo v3) (A0d rfl) (fun w7=>⟨_,[(.d (.agg (A3b p1))),(di (w64 (v2.Signal_ - 1))),(di v1),(di p4)],_,_,(by simp only [A3 w7];rfl),rfl,A2,C2y _ _ _ _ _ (C0 w7 hv3),(.inl rfl)⟩) ?_
 refine sa rfl rfl rfl (sv rfl (A1 (cc rfl h (fun c2 h=> ?_) (fun c2 h=> ?_))))
 refine lr (fun u7 hu7=>sv rfl (A1 (B3 ?_)))
 cases h
 exact A7 (.inr rfl) (B6 (B4 rfl) E0) (.refl _)
 refine lr (fun u8 hu8=>sp rfl rfl (sl rfl G_hit rfl (sv rfl (sv rfl (A1 (cc rfl h (fun c3 h=> ?_) (fun c3 h=> ?_)))))))
 refine lr (fun u9 hu9=>sv rfl (A1 (B3 ?_)))
 cases h
 exact A7 (.inr rfl) (B6 (B4 rfl) E0) (.refl _)
 refine A9 (G3 (A6 (I0 rfl fun u10 hu10=>sp rfl rfl (sl rfl G_hit rfl (sp rfl rfl (sl rfl G_hit rfl (C1 (.fn _ _ _) rfl rfl (bs h fun v4 hv4 h=>B0 rfl (rD (D3 (C2s F2 (D3 (A38 (gq rfl) (rD F2)) F2)) F2)) A2 (A42 _ _ _ hv4) (.inr rfl) (bs h fun v5 hv5 h=>sd rfl (E2 rfl rfl hv5 rfl) (sv rfl (sd rfl (D9 rfl hv5 rfl) (sv rfl (A1 (B3 ?_))))))))))))))
 cases h
 exact A7 (.inr rfl) (B6 (B4 rfl) E0) (.refl _)
noncomputable def A06 (p1:WorldScene)(x1:(Int× (List Stay)))(v1:Agent)(x2:(Int× (List Stay))):Option (Stp (Int× (List Stay)) (List Stay)):=
  cond (decide (x2.1< (p1.m.Zones.length:Int))) ((R4 (WorldScene.mk p1.m p1.before (State.mk p1.after.Tick p1.after.Agents x2.2) p1.acts p1.crashes) x1.1 x2.1).bind fun v2=>cond (!v2) (some (.go ((w64 (x2.1+1)),x2.2))) ((D0 p1.before.In (Stay.mk x1.1 x2.1 p1.before.Tick 0)).bind fun v3=>(cond v3.2 ((D4 p1.before.In v3.1).bind fun v4=>some v4) ((B0i p1.m v1 x2.1 p1.before.Tick).bind fun v5=>some (Stay.mk x1.1 x2.1 p1.before.Tick v5))).bind fun y2=>(A7p x2.2 [y2]).bind fun v6=>some (.go ((w64 (x2.1+1)),v6)))) (some (.out x2.2))
noncomputable def A07 (p1:WorldScene)(x1:(Int× (List Stay))):Option (Stp (Int× (List Stay)) WorldScene):=
  cond (decide (x1.1< (p1.before.Agents.length:Int))) ((D4 p1.before.Agents x1.1).bind fun v1=>(loop (A06 p1 x1 v1) (0,x1.2)).bind fun y1=>some (.go ((w64 (x1.1+1)),y1))) (some (.out ((WorldScene.mk p1.m p1.before (State.mk p1.after.Tick p1.after.Agents x1.2) p1.acts p1.crashes))))
noncomputable def A1u (p1:WorldScene):Option WorldScene:=
  loop (A07 p1) (0,[])
theorem B4n (p1:WorldScene)(r:WorldScene)(h:A1u p1=some r):MCall Tryz.prog 80 [(.ptr (900000,0) 0)] [(.box 135 (X7 p1))] (.d (.tup [])) [some (.box 135 (X7 r))] []:=by
 refine B6s (fk Tryz.func80 Tryz.ntmps80 (fun r=>if r==13 then [1007]else []) (by with_unfolding_all rfl)) rfl (nl rfl) ?_
 unfold A1u at h
 refine B5 (s0:=⟨T [(0,(.ptr _ _))],G [((900000,0),some (.box 135 _))]⟩) (sbr rfl rfl) ?_
 refine lr (fun u1 hu1=>sp rfl rfl (sp rfl rfl (sp rfl rfl (sp rfl rfl (sst rfl G_hit ((X7 p1).set 10 (.d .nilS)) rfl (A1 (lr (fun u2 hu2=>sp rfl rfl (sp rfl rfl (sp rfl rfl (sp rfl rfl (sl rfl G_hit rfl (sd rfl (E7 rfl) (sv rfl (A1 (A8 (F1 (A07 p1) (fun (x1:(Int× (List Stay))) (g1:Nat)=>⟨T [(0,(.ptr (900000,0) 0)),(16,(dl D8 p1.before.Agents)),(17,(di (p1.before.Agents.length:Int))),(18,(di x1.1))],G [((900000,0),some (.box 135 ((X7 p1).set 10 (oS x1.2 (85,g1))))),((85,g1),oB 127 4 N1 x1.2)]⟩) (0,[]) 0 _ h (H9 ⟨.of rfl, .of rfl, .of rfl, .of rfl,trivial⟩ (B1 G_hit (.of rfl) (A04 trivial))) ?_)))))))))))))))))
 intro x1 g1 z1 hz1 ez1
 unfold A07 at hz1
 refine lr (fun u3 hu3=>sv rfl (A1 (A6 (cc rfl hz1 (fun c1 hz1=> ?_) (fun c1 hz1=> ?_)))))
 refine A9 (A6 (A8 (lr (fun u4 hu4=>sv rfl (bs hz1 fun v1 hv1 hz1=>sd rfl (E2 rfl rfl hv1 rfl) (sd rfl (C3 rfl hv1 rfl rfl) (sn rfl rfl (sv rfl (sst rfl G_hit (V4 v1) rfl (A1 (lr (fun u5 hu5=>sp rfl rfl (sp rfl rfl (sp rfl rfl (sp rfl rfl (sl rfl (gq rfl) rfl (sd rfl (E7 rfl) (sv rfl (A1 (bs hz1 fun y1 hy1 hz1=>D7 (fun s=> ∃g2:Nat,Sb ⟨T [(0,(.ptr (900000,0) 0)),(16,(dl D8 p1.before.Agents)),(17,(di (p1.before.Agents.length:Int))),(18,(di x1.1))],G [((900000,0),some (.box 135 ((X7 p1).set 10 (oS y1 (85,g2))))),((85,g2),oB 127 4 N1 y1)]⟩ s) ?_ ?_))))))))))))))))))))
 refine A8 (F1 (A06 p1 x1 v1) (fun (x2:(Int× (List Stay))) (g3:Nat)=>⟨T [(0,(.ptr (900000,0) 0)),(2,(di x1.1)),(3,(.ptr (3,u4) 0)),(16,(dl D8 p1.before.Agents)),(17,(di (p1.before.Agents.length:Int))),(18,(di x1.1)),(28,(di (p1.m.Zones.length:Int))),(29,(di x2.1))],G [((900000,0),some (.box 135 ((X7 p1).set 10 (oS x2.2 (85,g3))))),((3,u4),some (.box 45 (V4 v1))),((85,g3),oB 127 4 N1 x2.2)]⟩) (0,x1.2) g1 _ hy1 (H9 ⟨.of rfl, .of rfl, .of rfl, .of rfl, .of rfl, .of rfl, .of rfl, .of rfl,trivial⟩ (sg rfl (B1 G_hit (.of rfl) (B8 (gq rfl) trivial)))) ?_)
 intro x2 g3 z2 hz2 ez2
 unfold A06 at hz2
 refine lr (fun u6 hu6=>sv rfl (A1 (A6 (cc rfl hz2 (fun c2 hz2=> ?_) (fun c2 hz2=> ?_)))))
 refine A9 (A6 (A8 (lr (fun u7 hu7=>sv rfl (sv rfl (A1 (A6 (lr (fun u8 hu8=>sp rfl rfl (sv rfl (sv rfl (bs hz2 fun v2 hv2 hz2=>B0 rfl (D3 (A38 G_hit (rD (rD (rD (rD (rD (rD (rD (rD (rD (rD (D3 (A2r (gq rfl)) (rD (rD F2)))))))))))))) (rD (rD F2))) (.cons (DLe.bp (ca rfl (ca rfl (ca rfl (ca rfl (ca rfl (ca rfl (ca rfl (ca rfl (ca rfl (ca rfl (.cons ⟨A2q,rfl⟩ (cz rfl))))))))))))) (.cons (.refl _) A2)) (A0u _ _ _ _ hv2) (.inr rfl) (C1 (.d (bo (!v2))) rfl rfl (A1 (cc rfl hz2 (fun c3 hz2=> ?_) (fun c3 hz2=> ?_))))))))))))))))
 refine B7n rfl (C8 fun u9 hu9=>sv rfl (sv rfl (A1 (G4 ?_))))
 cases hz2
 exact ⟨rfl,g3,(H9 ⟨.of rfl, .of rfl, .of rfl, .of rfl, .of rfl, .of rfl, .of rfl, .of rfl,trivial⟩ (B1 G_hit (.of rfl) (sg rfl (B8 (gq rfl) trivial))))⟩
 refine A9 (lr (fun u10 hu10=>sv rfl (sv rfl (sp rfl rfl (sp rfl rfl (sp rfl rfl (sp rfl rfl (sl rfl G_hit rfl (sv rfl (sn rfl rfl (sst rfl G_hit [(di x1.1),(di x2.1),(di p1.before.Tick),(di 0)] rfl (A1 (A6 (A6 (I0 rfl fun u11 hu11=>sp rfl rfl (sp rfl rfl (sp rfl rfl (sp rfl rfl (sl rfl (gq rfl) rfl (sd rfl (B2 rfl G_hit rfl rfl) (bs hz2 fun v3 hv3 hz2=>B0 rfl rfl A2 (M3 _ _ _ hv3) (.inl rfl) (sv rfl (sv rfl (sv rfl (sv rfl (sv rfl (A1 (lr (fun u12 hu12=>sv rfl (A1 (bs hz2 fun y2 hy2 hz2=>D7 (fun s=> ∃g4:Unit,Sb ⟨T [(0,(.ptr (900000,0) 0)),(2,(di x1.1)),(3,(.ptr (3,u4) 0)),(5,(.ptr (5,u10) 0)),(16,(dl D8 p1.before.Agents)),(17,(di (p1.before.Agents.length:Int))),(18,(di x1.1)),(28,(di (p1.m.Zones.length:Int))),(29,(di x2.1))],G [((900000,0),some (.box 135 ((X7 p1).set 10 (oS x2.2 (85,g3))))),((3,u4),some (.box 45 (V4 v1))),((5,u10),some (.box 127 (C05 y2))),((85,g3),oB 127 4 N1 x2.2)]⟩ s) ?_ ?_)))))))))))))))))))))))))))))))
 refine cc rfl hy2 (fun c4 hy2=> ?_) (fun c4 hy2=> ?_)
 refine C8 fun u13 hu13=>sp rfl rfl (sp rfl rfl (sp rfl rfl (sp rfl rfl (sl rfl (gq rfl) rfl (sv rfl (bs hy2 fun v4 hv4 hy2=>sd rfl (E2 rfl rfl hv4 rfl) (sd rfl (C3 rfl hv4 rfl rfl) (sst rfl G_hit (C05 v4) rfl (A1 ?_)))))))))
 obtain rfl:=(Option.some.inj hy2)
 exact l_j ⟨(),(H9 ⟨.of rfl, .of rfl, .of rfl, .of rfl, .of rfl, .of rfl, .of rfl, .of rfl, .of rfl,trivial⟩ (sg rfl (sg rfl (B1 G_hit (.of rfl) (B8 (gq rfl) trivial)))))⟩
 refine I0 rfl fun u14 hu14=>sp rfl rfl (sp rfl rfl (sp rfl rfl (sd rfl (B2 rfl (gq rfl) rfl rfl) (sd rfl (B2 rfl (gq rfl) rfl rfl) (sv rfl (sp rfl rfl (sp rfl rfl (sp rfl rfl (sp rfl rfl (sl rfl (gq rfl) rfl (bs hy2 fun v5 hv5 hy2=>B0 rfl rfl A2 (B80 _ _ _ _ _ hv5) (.inl rfl) (sp rfl rfl (sst rfl G_hit [(di x1.1),(di x2.1),(di p1.before.Tick),(di v5)] rfl (A1 ?_))))))))))))))
 cases hy2
 exact l_j ⟨(),(H9 ⟨.of rfl, .of rfl, .of rfl, .of rfl, .of rfl, .of rfl, .of rfl, .of rfl, .of rfl,trivial⟩ (sg rfl (sg rfl (B1 G_hit (.of rfl) (B8 (gq rfl) trivial)))))⟩
 rintro _ ⟨g4,q1⟩
 refine B5 q1 (I0 rfl fun u15 hu15=>sp rfl rfl (sp rfl rfl (sp rfl rfl (sp rfl rfl (sp rfl rfl (C1 (oS x2.2 (85,g3)) rfl (Z4 rfl G_hit rfl) (sd rfl (B2 rfl (gq rfl) rfl rfl) (C1 (dl N1 [y2]) rfl rfl (bs hz2 fun v6 hv6 hz2=>Z3 N1 (85,g3) x2.2 y2 [] _ (O0 (fun _=>rfl)) rfl (gq rfl) hv6 (sp rfl rfl (sp rfl rfl (sp rfl rfl (sst rfl (gq rfl) ((X7 p1).set 10 (.sl (85,u15))) rfl (A1 (G3 (C8 fun u16 hu16=>sv rfl (sv rfl (A1 (G4 ?_)))))))))))))))))))
 cases hz2
 exact ⟨rfl,u15,(H9 ⟨.of rfl, .of rfl, .of rfl, .of rfl, .of rfl, .of rfl, .of rfl, .of rfl,trivial⟩ (B1 G_hit (.box (cv (cv (cv (cv (cv (cv (cv (cv (cv (cv (.cons (.of (A3p (A21 hv6)).symm) cw)))))))))))) (sg rfl (U5 (gq rfl) trivial))))⟩
 refine C2 rfl ?_
 cases hz2
 obtain rfl:=ez2 _ rfl
 refine ⟨nofun,B9 rfl (l_j ?_)⟩
 exact ⟨g3,(H9 ⟨.of rfl, .of rfl, .of rfl, .of rfl,trivial⟩ (B1 G_hit (.of rfl) (B8 (gq rfl) trivial)))⟩
 rintro _ ⟨g2,q2⟩
 refine G3 (B5 q2 (C8 fun u17 hu17=>sv rfl (sv rfl (A1 (G4 ?_)))))
 cases hz1
 exact ⟨rfl,g2,(H9 ⟨.of rfl, .of rfl, .of rfl, .of rfl,trivial⟩ (B1 G_hit (.of rfl) (B8 (gq rfl) trivial)))⟩
 refine C2 rfl ?_
 cases hz1
 obtain rfl:=ez1 _ rfl
 refine ⟨nofun,B9 rfl (G4 ?_)⟩
 exact C1j (.inl rfl) [(85,g1)] C1k (.refl _) ⟨⟨_,_,_,G_hit,(D37 rfl A3t),(rD (rD (rD (rD (rD (rD (rD (rD (rD (rD (D3 (A2r (D36 (.head _) (gq rfl))) (rD (rD F2))))))))))))),(.cons (.refl _) (.cons (.refl _) (.cons (.refl _) (.cons (.refl _) (.cons (.refl _) (.cons (.refl _) (.cons (.refl _) (.cons (.refl _) (.cons (.refl _) (.cons (.refl _) (.cons A2q (.cons (.refl _) A2)))))))))))),rfl⟩,trivial⟩
noncomputable def B9t (s:State)(i:Nat):Nat→Nat→Option (List (Int×Int))
  |0,_=>some []
  |k+1,j=>(A2t s i).bind fun a=>(A2t s j).bind fun b=>(B9t s i k (j+1)).bind fun l=>some (cond (a&&b) (((i:Int),(j:Int))::l) l)
noncomputable def C1y (s:State)(n:Nat):Nat→Nat→Option (List (Int×Int))
  |0,_=>some []
  |k+1,i=>(B9t s i (n - (i+1)) (i+1)).bind fun a=>(C1y s n k (i+1)).bind fun b=>some (a++b)
noncomputable def C3o (s:State):Option (List (Int×Int)):=if s.Agents.length≤1000000 then C1y s s.Agents.length s.Agents.length 0 else none
abbrev C89 (a:Int×Int):List D:= [i64 a.1,i64 a.2]
def B6w (kb ks:Key)(s:State)(h:K3):Prop:=h kb=some (.box 133 [.ptr ks 0])∧∃c0 c1 c2 c3 c4 c8 c9 c10 c11 c12,h ks=some (.box 135 [c0,c1,c2,c3,c4, .d (i64 s.Tick), .d (.list (List.map D8 s.Agents)), .d (.list (List.map N1 s.In)),c8,c9,c10,c11,c12])
theorem C3p {s:State}{L:List (Int×Int)}(h:C3o s=some L)(kb ks:Key):E13 Tryz.prog (.fn (.func 174) [] [.ptr kb 0]) (B6w kb ks s) (L.map C89):=by
  unfold C3o at h
  split at h
  case isFalse=>cases h
  rename_i hlen
  refine ⟨174,[],[.ptr kb 0],rfl,?_⟩
  intro k h0 Inv Stop hi0 hcan hy
  refine C4e (fk Tryz.func174 Tryz.ntmps174 (fun r=>if r==6 then [18]else []) (by with_unfolding_all rfl)) (by simp) (D8o ?_)
  obtain ⟨g0,S0,i0,c0⟩:=hcan 0 h0 hi0
  have hLm:(L.map C89).length=L.length:=List.length_map ..
  rw [hLm]
  refine B5 (s0:=⟨T [(0, .yld k),(1, .ptr kb 0)],g0⟩) ⟨fun i=> ?_,S0.h⟩ ?_
  ·match i with
   |0=>exact .refl _
   |1=>exact .refl _
   |n+2=>exact .any _
  have c0':=c0
  obtain ⟨e1,a0,a1,a2,a3,a4,a8,a9,a10,a11,a12,e2⟩:=c0'
  refine A6 ?_
  refine B6a fun u hu=> ?_
  refine F4 (.ptr ks 0) rfl (Z4 rfl e1 rfl) ?_
  refine F4 (.ptr ks 0) rfl rfl ?_
  refine F4 (.ptr ks 5) rfl rfl ?_
  refine F4 (.ptr ks 6) rfl rfl ?_
  refine F4 (.d (.list (List.map D8 s.Agents))) rfl (Z4 rfl e2 rfl) ?_
  refine F4 (.d (i64 s.Agents.length)) rfl (E7 (f:=D8) rfl) ?_
  refine F4 (.d (i64 0)) rfl rfl ?_
  refine A37 ?_
  refine A8 ?_
  refine D3k (α:=Nat×Nat×K3) (fun x=>⟨T [(0, .yld k),(1, .ptr kb 0),(10, .d (i64 s.Agents.length)),(11, .d (i64 (x.1:Int)))],x.2.2⟩) (fun x=>s.Agents.length - x.1)
    (fun x=>Inv x.2.1 x.2.2∧B6w kb ks s x.2.2∧x.1≤s.Agents.length∧x.2.1≤L.length∧C1y s s.Agents.length (s.Agents.length - x.1) x.1=some (L.drop x.2.1)) (0,0,g0) ⟨i0,c0,Nat.zero_le _,Nat.zero_le _,h⟩ (B9r ⟨rfl,rfl,rfl,rfl,trivial⟩ fun _ _ h=>h) ?_
  rintro ⟨i,pos,hh⟩ ⟨hinv,hrq,hi,hpos,hgo⟩
  dsimp only at hinv hrq hi hpos hgo ⊢
  refine A6 ?_
  refine B6a fun u hu=> ?_
  refine F4 (.d (bo (decide ((i:Int)< (s.Agents.length:Int))))) rfl rfl ?_
  refine A37 ?_
  refine A6 ?_
  refine D2t (decide ((i:Int)< (s.Agents.length:Int))) rfl (fun hlt=> ?_) (fun hlt=> ?_)
  ·refine A9 ?_
   have hlt:i<s.Agents.length:=by simpa using hlt
   have hw1: ∀n:Nat,n≤1000000→IntKind.i64.wrap ((n:Int)+1)=((n+1:Nat):Int):=fun n hn=>(Go.IntWalk.i64_in _ (by omega)).trans (by omega)
   obtain ⟨m,hm⟩: ∃m,s.Agents.length - i=m+1:=⟨s.Agents.length - i - 1,by omega⟩
   rw [hm,C1y]at hgo
   obtain ⟨l1,hl1,hgo⟩:=bind_some hgo
   obtain ⟨l2,hl2,hgo⟩:=bind_some hgo
   have hgo:l1++l2=L.drop pos:=Option.some.inj hgo
   refine A6 ?_
   refine A8 ?_
   refine A6 ?_
   refine B6a fun u hu=> ?_
   refine F4 (.d (i64 i)) rfl rfl ?_
   refine F4 (.d (i64 i)) rfl rfl ?_
   refine A37 ?_
   refine A6 ?_
   refine B6a fun u hu=> ?_
   refine F4 (.d (i64 i)) rfl rfl ?_
   refine F4 (.d (i64 ((i+1:Nat):Int))) rfl (by rw [← hw1 i (by omega)];rfl) ?_
   refine F4 (.d (i64 ((i+1:Nat):Int))) rfl rfl ?_
   refine A37 ?_
   refine A8 ?_
   refine D3k (α:=Nat×Nat×K3) (fun x=>⟨T [(0, .yld k),(1, .ptr kb 0),(3, .d (i64 (i:Int))),(4, .d (i64 (x.1:Int))),(10, .d (i64 s.Agents.length)),(11, .d (i64 (i:Int)))],x.2.2⟩) (fun x=>s.Agents.length - x.1)
     (fun x=>Inv x.2.1 x.2.2∧B6w kb ks s x.2.2∧x.1≤s.Agents.length∧x.2.1≤L.length∧∃l,B9t s i (s.Agents.length - x.1) x.1=some l∧l++l2=L.drop x.2.1) (i+1,pos,hh) ⟨hinv,hrq,hlt,hpos,l1,hl1,hgo⟩ (B9r ⟨rfl,rfl,rfl,rfl,rfl,rfl,trivial⟩ fun _ _ h=>h) ?_
   rintro ⟨j,pos,hh⟩ ⟨hinv,hrq,hj,hpos,l,hl,hgo⟩
   dsimp only at hinv hrq hj hpos hl hgo ⊢
   have hrq':=hrq
   obtain ⟨e1,a0,a1,a2,a3,a4,a8,a9,a10,a11,a12,e2⟩:=hrq'
   refine A6 ?_
   refine A6 ?_
   refine B6a fun u hu=> ?_
   refine F4 (.d (i64 j)) rfl rfl ?_
   refine F4 (.ptr ks 0) rfl (Z4 rfl e1 rfl) ?_
   refine F4 (.ptr ks 0) rfl rfl ?_
   refine F4 (.ptr ks 5) rfl rfl ?_
   refine F4 (.ptr ks 6) rfl rfl ?_
   refine F4 (.d (.list (List.map D8 s.Agents))) rfl (Z4 rfl e2 rfl) ?_
   refine F4 (.d (i64 s.Agents.length)) rfl (E7 (f:=D8) rfl) ?_
   refine F4 (.d (bo (decide ((j:Int)< (s.Agents.length:Int))))) rfl rfl ?_
   refine A37 ?_
   refine D2t (decide ((j:Int)< (s.Agents.length:Int))) rfl (fun hjl=> ?_) (fun hjl=> ?_)
   ·refine A9 ?_
    have hjl:j<s.Agents.length:=by simpa using hjl
    obtain ⟨m',hm'⟩: ∃m',s.Agents.length - j=m'+1:=⟨s.Agents.length - j - 1,by omega⟩
    rw [hm',B9t]at hl
    obtain ⟨a,ha,hl⟩:=bind_some hl
    obtain ⟨b,hb,hl⟩:=bind_some hl
    obtain ⟨l',hl',hl⟩:=bind_some hl
    have hl:cond (a&&b) (((i:Int),(j:Int))::l') l'=l:=Option.some.inj hl
    have hm1:s.Agents.length - (j+1)=m':=by omega
    -- what a round leaves
    have hend: ∀(p':Nat) (h':K3),Inv p' h'→B6w kb ks s h'→p'≤L.length→l'++l2=L.drop p'→∃y:Nat×Nat×K3,(Inv y.2.1 y.2.2∧B6w kb ks s y.2.2∧y.1≤s.Agents.length∧y.2.1≤L.length∧∃l,B9t s i (s.Agents.length - y.1) y.1=some l∧l++l2=L.drop y.2.1)∧s.Agents.length - y.1<s.Agents.length - j∧y=(j+1,p',h'):=fun p' h' q1 q2 q3 q4=>⟨(j+1,p',h'),⟨q1,q2,hjl,q3,l',by dsimp only;rw [hm1];exact hl',q4⟩,by dsimp only;omega,rfl⟩
    refine A6 ?_
    refine A8 ?_
    refine A6 ?_
    refine B6a fun u hu=> ?_
    refine F4 (.ptr ks 0) rfl (Z4 rfl e1 rfl) ?_
    refine F4 (.ptr ks 0) rfl rfl ?_
    refine F4 (.ptr ks 5) rfl rfl ?_
    refine F4 (.d (.agg [i64 s.Tick, .list (List.map D8 s.Agents), .list (List.map N1 s.In)])) rfl (B2 rfl e2 rfl rfl) ?_
    refine F4 (.d (i64 i)) rfl rfl ?_
    refine B8w rfl rfl (A90 s i _ ha) (.inl rfl) ?_
    refine F4 (.d (bo a)) rfl rfl ?_
    cases a with
    |false=>
     iterate 6 (refine D3i rfl rfl ?_)
     refine F4 (.d (bo false)) rfl rfl ?_
     refine F4 (.d (bo false)) rfl rfl ?_
     iterate 5 (refine D3i rfl rfl ?_)
     refine F4 (.d (bo false)) rfl rfl ?_
     refine A37 ?_
     refine B4t rfl (A9 (G3 ?_))
     refine B6a fun u hu=> ?_
     refine F4 (.d (i64 j)) rfl rfl ?_
     refine F4 (.d (i64 ((j+1:Nat):Int))) rfl (by rw [← hw1 j (by omega)];rfl) ?_
     refine F4 (.d (i64 ((j+1:Nat):Int))) rfl rfl ?_
     refine A37 ?_
     obtain ⟨y,y1,y2,rfl⟩:=hend pos hh hinv hrq hpos (by rw [← hgo,← hl];rfl)
     exact G4 ⟨_,y1,y2,B9r ⟨rfl,rfl,rfl,rfl,rfl,rfl,trivial⟩ fun _ _ h=>h⟩
    |true=>
     refine C03 rfl ?_
     refine F4 (.ptr ks 0) rfl (Z4 rfl e1 rfl) ?_
     refine C03 rfl ?_
     refine F4 (.ptr ks 0) rfl rfl ?_
     refine C03 rfl ?_
     refine F4 (.ptr ks 5) rfl rfl ?_
     refine C03 rfl ?_
     refine F4 (.d (.agg [i64 s.Tick, .list (List.map D8 s.Agents), .list (List.map N1 s.In)])) rfl (B2 rfl e2 rfl rfl) ?_
     refine C03 rfl ?_
     refine F4 (.d (i64 j)) rfl rfl ?_
     refine C03 rfl ?_
     refine B8w rfl rfl (A90 s j _ hb) (.inl rfl) ?_
     refine F4 (.d (bo b)) rfl rfl ?_
     refine F4 (.d (bo b)) rfl rfl ?_
     cases b with
     |false=>
      iterate 5 (refine D3i rfl rfl ?_)
      refine F4 (.d (bo false)) rfl rfl ?_
      refine A37 ?_
      refine B4t rfl (A9 (G3 ?_))
      refine B6a fun u hu=> ?_
      refine F4 (.d (i64 j)) rfl rfl ?_
      refine F4 (.d (i64 ((j+1:Nat):Int))) rfl (by rw [← hw1 j (by omega)];rfl) ?_
      refine F4 (.d (i64 ((j+1:Nat):Int))) rfl rfl ?_
      refine A37 ?_
      obtain ⟨y,y1,y2,rfl⟩:=hend pos hh hinv hrq hpos (by rw [← hgo,← hl];rfl)
      exact G4 ⟨_,y1,y2,B9r ⟨rfl,rfl,rfl,rfl,rfl,rfl,trivial⟩ fun _ _ h=>h⟩
     |true=>
      have hcons:((i:Int),(j:Int))::(l'++l2)=L.drop pos:=by rw [← hgo,← hl];rfl
      have hLi:(L.map C89)[pos]? =some (C89 ((i:Int),(j:Int))):=by
        have:=congrArg (fun z=>z[0]?) hcons
        rw [List.getElem?_map]
        simp at this
        rw [← this];rfl
      have hLd:L.drop (pos+1)=l'++l2:=by
        have:=congrArg (fun z=>z.drop 1) hcons
        simpa using this.symm
      have hplt:pos+1≤L.length:=by
        have:=congrArg List.length hcons
        simp at this
        omega
      refine C03 rfl ?_
      refine F4 (.yld k) rfl rfl ?_
      refine C03 rfl ?_
      refine F4 (.d (i64 i)) rfl rfl ?_
      refine C03 rfl ?_
      refine F4 (.d (i64 j)) rfl rfl ?_
      refine C03 rfl ?_
      refine D3j k ((C89 ((i:Int),(j:Int))).map .d) rfl rfl ?_
      refine (hy pos hh _ hLi hinv).mono ?_
      rintro v' h' (⟨rfl,hin⟩|⟨rfl,hst⟩)
      ·obtain ⟨h1,S1,i1,q1⟩:=hcan _ _ hin
       refine ⟨h1,S1,fun u4 hu4=> ?_⟩
       refine C03 rfl ?_
       refine F4 (.d (bo false)) rfl rfl ?_
       refine F4 (.d (bo false)) rfl rfl ?_
       refine A37 ?_
       refine B4t rfl (A9 (G3 ?_))
       refine B6a fun u hu=> ?_
       refine F4 (.d (i64 j)) rfl rfl ?_
       refine F4 (.d (i64 ((j+1:Nat):Int))) rfl (by rw [← hw1 j (by omega)];rfl) ?_
       refine F4 (.d (i64 ((j+1:Nat):Int))) rfl rfl ?_
       refine A37 ?_
       obtain ⟨y,y1,y2,rfl⟩:=hend (pos+1) h1 i1 q1 hplt hLd.symm
       exact G4 ⟨_,y1,y2,B9r ⟨rfl,rfl,rfl,rfl,rfl,rfl,trivial⟩ fun _ _ h=>h⟩
      ·refine ⟨h',Sb.refl _,fun u4 hu4=> ?_⟩
       refine C03 rfl ?_
       refine F4 (.d (bo true)) rfl rfl ?_
       refine F4 (.d (bo true)) rfl rfl ?_
       refine A37 ?_
       refine B8x rfl ?_
       refine B3 (E1 (E1 ?_))
       exact ⟨Or.inr rfl,AV.tup [],rfl,Or.inr hst⟩
   ·refine C2 rfl ?_
    have hjn:j=s.Agents.length:=by
      have: ¬((j:Int)< (s.Agents.length:Int)):=by simpa using hjl
      omega
    subst hjn
    rw [Nat.sub_self,B9t]at hl
    cases hl
    refine B9 (r':= [.b 1, .c _]) rfl (G3 ?_)
    refine B6a fun u hu=> ?_
    refine F4 (.d (i64 ((i+1:Nat):Int))) rfl (by rw [← hw1 i (by omega)];rfl) ?_
    refine F4 (.d (i64 ((i+1:Nat):Int))) rfl rfl ?_
    refine A37 ?_
    refine G4 ⟨(i+1,pos,hh),⟨hinv,hrq,hlt,hpos,?_⟩,by dsimp only;omega,B9r ⟨rfl,rfl,rfl,rfl,trivial⟩ fun _ _ h=>h⟩
    dsimp only
    rw [show s.Agents.length - (i+1)=m by omega,hl2]
    exact congrArg some hgo
  ·refine C2 rfl ?_
   have hin:i=s.Agents.length:=by
     have: ¬((i:Int)< (s.Agents.length:Int)):=by simpa using hlt
     omega
   subst hin
   rw [Nat.sub_self,C1y]at hgo
   have h1:L.drop pos= []:=(Option.some.inj hgo).symm
   have h2:=List.drop_eq_nil_iff.1 h1
   have h3:pos=L.length:=by omega
   subst h3
   refine B9 (r':= []) rfl (G4 ?_)
   exact ⟨.inl rfl,AV.tup [],rfl, .inl hinv⟩
noncomputable def A0o (p1:WorldSpan)(p2:Int):Option WorldSpan:=
  some (WorldSpan.mk (w64 (p1.from_ - p2)) (w64 (p1.to - p2)))
theorem A4z (p1:WorldSpan)(p2:Int)(r:WorldSpan)(h:A0o p1 p2=some r):PCall Tryz.prog 141 [(.agg [(i64 p1.from_),(i64 p1.to)]),(i64 p2)] (.agg [(i64 r.from_),(i64 r.to)]):=by
 refine B7 (fk Tryz.func141 Tryz.ntmps141 m0 (by with_unfolding_all rfl)) (nl rfl) ?_
 unfold A0o at h
 refine B5 (s0:=⟨T [(0,(.d _)),(1,(.d _))],G []⟩) (sbr rfl rfl) ?_
 refine lr (fun u1 hu1=>sn rfl rfl (sn rfl rfl (A1 (lr (fun u2 hu2=>sp rfl rfl (sl rfl (gq rfl) rfl (sv rfl (sv rfl (sp rfl rfl (sl rfl (gq rfl) rfl (sv rfl (sv rfl (sv rfl (sst rfl G_hit [(di (w64 (p1.from_ - p2))),(di (w64 (p1.to - p2)))] rfl (A1 (B3 ?_))))))))))))))))
 cases h
 exact A7 (.inr rfl) (B6 (K0 rfl G_hit (nl rfl) rfl) E0) (.refl _)
noncomputable def A2h (p1:Map)(p2:Int):Option Int:=
  (B08 p1 p2).bind fun v1=>cond (!v1) (some 0) ((A3d p1 p2).bind fun v2=>some v2)
theorem B14 (p1:Map)(p2:Int)(r:Int)(h:A2h p1 p2=some r):PCall Tryz.prog 143 [(.agg (A3b p1)),(i64 p2)] (i64 r):=by
 refine B7 (fk Tryz.func143 Tryz.ntmps143 m0 (by with_unfolding_all rfl)) (nl rfl) ?_
 unfold A2h at h
 refine B5 (s0:=⟨T [(0,(.d _)),(1,(.d _))],G []⟩) (sbr rfl rfl) ?_
 refine lr (fun u1 hu1=>sn rfl rfl (sv rfl (A1 (A6 (lr (fun u2 hu2=>sd rfl (B2 rfl G_hit rfl rfl) (sv rfl (bs h fun v1 hv1 h=>B0 rfl rfl A2 (B6v _ _ _ hv1) (.inl rfl) (C1 (.d (bo (!v1))) rfl rfl (A1 (cc rfl h (fun c1 h=> ?_) (fun c1 h=> ?_))))))))))))
 refine lr (fun u3 hu3=>sv rfl (A1 (B3 ?_)))
 cases h
 exact A7 (.inr rfl) (B6 (B4 rfl) E0) (.refl _)
 refine A9 (lr (fun u4 hu4=>sd rfl (B2 rfl G_hit rfl rfl) (sv rfl (bs h fun v2 hv2 h=>B0 rfl rfl A2 (B07 _ _ _ hv2) (.inl rfl) (sv rfl (A1 (B3 ?_)))))))
 cases h
 exact A7 (.inr rfl) (B6 (B4 rfl) E0) (.refl _)
noncomputable def A4i (p1:WorldSpan)(p2:WorldSpan):Option WorldSpan:=
  some (WorldSpan.mk (mm2 true p1.from_ p2.from_) (mm2 false p1.to p2.to))
theorem B3g (p1:WorldSpan)(p2:WorldSpan)(r:WorldSpan)(h:A4i p1 p2=some r):PCall Tryz.prog 142 [(.agg [(i64 p1.from_),(i64 p1.to)]),(.agg [(i64 p2.from_),(i64 p2.to)])] (.agg [(i64 r.from_),(i64 r.to)]):=by
 refine B7 (fk Tryz.func142 Tryz.ntmps142 m0 (by with_unfolding_all rfl)) (nl rfl) ?_
 unfold A4i at h
 refine B5 (s0:=⟨T [(0,(.d _)),(1,(.d _))],G []⟩) (sbr rfl rfl) ?_
 refine lr (fun u1 hu1=>sn rfl rfl (sn rfl rfl (sn rfl rfl (A1 (lr (fun u2 hu2=>sp rfl rfl (sl rfl (gq rfl) rfl (sp rfl rfl (sl rfl (gq rfl) rfl (sv rfl (sp rfl rfl (sl rfl (gq rfl) rfl (sp rfl rfl (sl rfl (gq rfl) rfl (sv rfl (sv rfl (sst rfl G_hit [(di (mm2 true p1.from_ p2.from_)),(di (mm2 false p1.to p2.to))] rfl (A1 (B3 ?_)))))))))))))))))))
 cases h
 exact A7 (.inr rfl) (B6 (K0 rfl G_hit (nl rfl) rfl) E0) (.refl _)
noncomputable def A27 (p1:WorldSpan):Option Bool:=
  some (decide (p1.from_>p1.to))
theorem B15 (p1:WorldSpan)(r:Bool)(h:A27 p1=some r):PCall Tryz.prog 144 [(.agg [(i64 p1.from_),(i64 p1.to)])] (bo r):=by
 refine B7 (fk Tryz.func144 Tryz.ntmps144 m0 (by with_unfolding_all rfl)) (nl rfl) ?_
 unfold A27 at h
 refine B5 (s0:=⟨T [(0,(.d _))],G []⟩) (sbr rfl rfl) ?_
 refine lr (fun u1 hu1=>sn rfl rfl (sv rfl (A1 (lr (fun u2 hu2=>sp rfl rfl (sl rfl G_hit rfl (sp rfl rfl (sl rfl G_hit rfl (sv rfl (sv rfl (A1 (B3 ?_))))))))))))
 cases h
 exact A7 (.inr rfl) (B6 (B4 rfl) E0) (.refl _)
noncomputable def A80 (p1:Map)(p2:Agent)(v2:(List Int))(x1:((List Span)×Int)):Option (Stp ((List Span)×Int) (List Span)):=
  cond (decide (x1.2< (v2.length:Int))) ((D4 v2 x1.2).bind fun v3=>(D4 p2.Route x1.2).bind fun v4=>(A3e p2).bind fun v5=>(A0o v5 v3).bind fun v6=>(A2h p1 v4).bind fun v7=>(A4i v6 (WorldSpan.mk 0 v7)).bind fun v8=>(A27 v8).bind fun v9=>cond (!v9) ((A7p x1.1 [(Span.mk v4 v8.from_ v8.to)]).bind fun v10=>some (.go (v10,(w64 (x1.2+1))))) (some (.go (x1.1,(w64 (x1.2+1)))))) (some (.out x1.1))
noncomputable def B0j (p1:Map)(p2:Agent):Option (List Span):=
  (A8q p2).bind fun v1=>cond (!v1) (some []) ((A2e p1 p2.Route).bind fun v2=>(loop (A80 p1 p2 v2) ([],0)).bind fun y1=>some y1)
theorem B81 (p1:Map)(p2:Agent)(r:(List Span))(h:B0j p1 p2=some r):PCall Tryz.prog 67 [(.agg (A3b p1)),(.agg (D8 p2))] (.list (List.map B22 r)):=by
 refine B7 (fk Tryz.func67 Tryz.ntmps67 (fun r=>if r==10 then [1007]else []) (by with_unfolding_all rfl)) (nl rfl) ?_
 unfold B0j at h
 refine B5 (s0:=⟨T [(0,(.d _)),(1,(.d _))],G []⟩) (sbr rfl rfl) ?_
 refine lr (fun u1 hu1=>sn rfl rfl (sn rfl rfl (sv rfl (A1 (A6 (lr (fun u2 hu2=>sd rfl (B2 rfl G_hit rfl rfl) (bs h fun v1 hv1 h=>B0 rfl rfl A2 (B3w _ _ hv1) (.inl rfl) (C1 (.d (bo (!v1))) rfl rfl (A1 (cc rfl h (fun c1 h=> ?_) (fun c1 h=> ?_))))))))))))
 refine lr (fun u3 hu3=>sv rfl (A1 (B3 ?_)))
 cases h
 exact A7 (.inr rfl) (B6 (B4 rfl) E0) DLe.nil
 refine A9 (lr (fun u4 hu4=>sv rfl (A1 (A6 (lr (fun u5 hu5=>sd rfl (B2 rfl (gq rfl) rfl rfl) (sp rfl rfl (sl rfl G_hit rfl (bs h fun v2 hv2 h=>B0 rfl rfl A2 (B10 _ _ _ hv2) (.inl rfl) (sd rfl (E7 rfl) (sv rfl (A1 (bs h fun y1 hy1 h=>D7 (fun s=> ∃g1:Nat,Sb ⟨T [(5,(oS y1 (48,g1)))],G [((48,g1),oB 93 3 B22 y1)]⟩ s) ?_ ?_)))))))))))))
 refine A8 (F1 (A80 p1 p2 v2) (fun (x1:((List Span)×Int)) (g2:Nat)=>⟨T [(2,(.ptr (2,u1) 0)),(3,(.ptr (3,u1) 0)),(5,(oS x1.1 (48,g2))),(16,(dl A4 v2)),(17,(di (v2.length:Int))),(18,(di x1.2))],G [((2,u1),some (.box 33 (A09 p1))),((3,u1),some (.box 45 (V4 p2))),((48,g2),oB 93 3 B22 x1.1)]⟩) ([],0) 0 _ hy1 (H9 ⟨.of rfl, .of rfl, .of rfl, .of rfl, .of rfl, .of rfl,trivial⟩ (sg rfl (B1 G_hit (.of rfl) (A04 trivial)))) ?_)
 intro x1 g2 z1 hz1 ez1
 unfold A80 at hz1
 refine lr (fun u6 hu6=>sv rfl (A1 (A6 (cc rfl hz1 (fun c2 hz1=> ?_) (fun c2 hz1=> ?_)))))
 refine A9 (A6 (A8 (lr (fun u7 hu7=>sv rfl (bs hz1 fun v3 hv3 hz1=>sd rfl (E2 rfl rfl hv3 rfl) (sd rfl (D9 rfl hv3 rfl) (sv rfl (sv rfl (A1 (lr (fun u8 hu8=>sp rfl rfl (sl rfl (gq rfl) rfl (sv rfl (bs hz1 fun v4 hv4 hz1=>sd rfl (E2 rfl rfl hv4 rfl) (sd rfl (D9 rfl hv4 rfl) (sv rfl (A1 (A6 (I0 rfl fun u9 hu9=>sd rfl (B2 rfl (gq rfl) rfl rfl) (bs hz1 fun v5 hv5 hz1=>B0 rfl rfl A2 (A5x _ _ hv5) (.inl rfl) (sv rfl (bs hz1 fun v6 hv6 hz1=>B0 rfl rfl A2 (A4z _ _ _ hv6) (.inl rfl) (sd rfl (B2 rfl G_hit rfl rfl) (sv rfl (bs hz1 fun v7 hv7 hz1=>B0 rfl rfl A2 (B14 _ _ _ hv7) (.inl rfl) (sv rfl (bs hz1 fun v8 hv8 hz1=>B0 rfl rfl A2 (B3g _ _ _ hv8) (.inl rfl) (sn rfl rfl (sst rfl G_hit [(di v8.from_),(di v8.to)] rfl (A1 (lr (fun u10 hu10=>sd rfl (B2 rfl G_hit rfl rfl) (bs hz1 fun v9 hv9 hz1=>B0 rfl rfl A2 (B15 _ _ hv9) (.inl rfl) (C1 (.d (bo (!v9))) rfl rfl (A1 (cc rfl hz1 (fun c3 hz1=> ?_) (fun c3 hz1=> ?_)))))))))))))))))))))))))))))))))))))
 refine C8 fun u11 hu11=>C1 (oS x1.1 (48,g2)) rfl rfl (sv rfl (sp rfl rfl (sl rfl G_hit rfl (sp rfl rfl (sl rfl G_hit rfl (sv rfl (C1 (dl B22 [(Span.mk v4 v8.from_ v8.to)]) rfl rfl (bs hz1 fun v10 hv10 hz1=>Z3 B22 (48,g2) x1.1 (Span.mk v4 v8.from_ v8.to) [] _ (O0 (fun _=>rfl)) rfl (gq rfl) hv10 (ss rfl (A1 (G3 (C8 fun u12 hu12=>sv rfl (sv rfl (A1 (G4 ?_)))))))))))))))
 cases hz1
 exact ⟨rfl,u11,(H9 ⟨.of rfl, .of rfl,(.of (A3p (A21 hv10)).symm), .of rfl, .of rfl, .of rfl,trivial⟩ (sg rfl (sg rfl (U5 G_hit trivial))))⟩
 refine A9 (G3 (C8 fun u13 hu13=>sv rfl (sv rfl (A1 (G4 ?_)))))
 cases hz1
 exact ⟨rfl,g2,(H9 ⟨.of rfl, .of rfl, .of rfl, .of rfl, .of rfl, .of rfl,trivial⟩ (sg rfl (sg rfl (B8 (gq rfl) trivial))))⟩
 refine C2 rfl ?_
 cases hz1
 obtain rfl:=ez1 _ rfl
 refine ⟨nofun,B9 rfl (l_j ?_)⟩
 exact ⟨g2,(H9 ⟨.of rfl,trivial⟩ (B8 (gq rfl) trivial))⟩
 rintro _ ⟨g1,q1⟩
 refine B5 q1 (lr (fun u14 hu14=>C1 (oS y1 (48,g1)) rfl rfl (C1 (oS y1 (48,g1)) rfl rfl (A1 (B3 ?_)))))
 cases h
 exact A7 (.inr rfl) (B6 (B4 rfl) (A2r G_hit)) A2q
noncomputable def A15 (p1:Span)(p2:Span):Option Bool:=
  ((cond (p2.Lane_==p1.Lane_) (A4i (WorldSpan.mk p2.From p2.To) (WorldSpan.mk p1.From p1.To)) (some default))).bind fun v1=>((cond (p2.Lane_==p1.Lane_) (A27 v1) (some default))).bind fun v2=>some ((p2.Lane_==p1.Lane_)&& (!v2))
theorem B3x (p1:Span)(p2:Span)(r:Bool)(h:A15 p1 p2=some r):PCall Tryz.prog 147 [(.agg (B22 p1)),(.bp (B22 p2) 0)] (bo r):=by
 refine B7 (fk Tryz.func147 Tryz.ntmps147 m0 (by with_unfolding_all rfl)) (nl rfl) ?_
 unfold A15 at h
 refine B5 (s0:=⟨T [(0,(.d _)),(1,(.d _))],G []⟩) (sbr rfl rfl) ?_
 refine lr (fun u1 hu1=>sn rfl rfl (sv rfl (A1 (lr (fun u2 hu2=>sv rfl (sv rfl (sp rfl rfl (sl rfl G_hit rfl (sv rfl (sv rfl (gt rfl (fun _=>rfl) ?_)))))))))))
 refine gt rfl (fun w2=>(by simp only [A3 w2];rfl)) ?_
 refine gt rfl (fun _=>rfl) ?_
 refine gt rfl (fun w4=>(by simp only [A3 w4];rfl)) ?_
 refine gt rfl (fun w5=>(by simp only [A3 w5];rfl)) ?_
 refine gp rfl (A0d rfl) (fun _=>rfl) (gt rfl (vl rfl G_hit rfl) (gp rfl (A0d rfl) (fun _=>rfl) (gt rfl (vl rfl G_hit rfl) ?_)))
 refine gt rfl (fun w10=>(by simp only [A3 w10];rfl)) ?_
 refine bs h fun v1 hv1 h=> ?_
 refine S4 _ (.agg [(i64 v1.from_),(i64 v1.to)]) (A0d rfl) (fun w11=>⟨_,[(.d (.agg [(i64 p2.From),(i64 p2.To)])),(.d (.agg [(i64 p1.From),(i64 p1.To)]))],_,_,(by simp only [A3 w11];rfl),rfl,A2,B3g _ _ _ (C0 w11 hv1),(.inl rfl)⟩) ?_
 refine bs h fun v2 hv2 h=> ?_
 refine S4 _ (bo v2) (A0d rfl) (fun w12=>⟨_,[(.d (.agg [(i64 v1.from_),(i64 v1.to)]))],_,_,(by simp only [A3 w12];rfl),rfl,A2,B15 _ _ (C0 w12 hv2),(.inl rfl)⟩) ?_
 refine A01 _ (.d (bo (!v2))) rfl (A0d rfl) (fun w13=>(by simp only [A3 w13];rfl)) ?_
 refine sa rfl rfl rfl (sv rfl (A1 (B3 ?_)))
 cases h
 exact A7 (.inr rfl) (B6 (B4 rfl) E0) (.refl _)
noncomputable def G5 (p1:(List Span))(p2:Span)(x1:Int):Option (Stp Int (Sum Unit Int)):=
  cond (decide (x1< (p1.length:Int))) ((D4 p1 x1).bind fun v1=>(A15 v1 p2).bind fun v2=>cond v2 (some (.out (.inr x1))) (some (.go (w64 (x1+1))))) (some (.out (.inl ())))
noncomputable def H8 (p1:(List Span))(p2:Span):Option Int:=
  thenS (loop (G5 p1 p2) 0) (fun _=>some (-1)) (fun r=>some r)
theorem A23 (p1:(List Span))(p2:Span)(r:Int)(h:H8 p1 p2=some r):PCall Tryz.prog 208 [(.list (List.map B22 p1)),(.fn (.func 147) [] [(.bp (B22 p2) 0)])] (i64 r):=by
 refine B7 (fk Tryz.func208 Tryz.ntmps208 m0 (by with_unfolding_all rfl)) (nl rfl) ?_
 unfold H8 at h
 refine B5 (s0:=⟨T [(0,(.d _)),(1,(.d _))],G []⟩) (sbr rfl rfl) ?_
 refine lr (fun u1 hu1=>sv rfl (A1 (A6 (lr (fun u2 hu2=>sv rfl (sd rfl (E7 rfl) (sv rfl (A1 (js h fun z1 hz1 h=>D7 (fun s=> ∃(y1:Unit) (g1:Unit),z1= .inl y1∧Sb ⟨T [],G []⟩ s) ?_ ?_)))))))))
 refine A8 (F1 (G5 p1 p2) (fun (x1:Int) (g2:Unit)=>⟨T [(0,(dl B22 p1)),(1,(.d (.fn (.func 147) [] [(.bp (B22 p2) 0)]))),(7,(di (p1.length:Int))),(8,(di x1))],G []⟩) 0 () _ hz1 (sbr rfl rfl) ?_)
 intro x1 g2 z2 hz2 ez2
 unfold G5 at hz2
 refine lr (fun u3 hu3=>sv rfl (A1 (A6 (cc rfl hz2 (fun c1 hz2=> ?_) (fun c1 hz2=> ?_)))))
 refine A9 (A6 (A8 (lr (fun u4 hu4=>sv rfl (sv rfl (A1 (lr (fun u5 hu5=>sv rfl (sv rfl (sv rfl (bs hz2 fun v1 hv1 hz2=>sd rfl (E2 rfl rfl hv1 rfl) (sd rfl (C3 rfl hv1 rfl rfl) (bs hz2 fun v2 hv2 hz2=>B0 rfl rfl A2 (B3x _ _ _ hv2) (.inl rfl) (A1 (cc rfl hz2 (fun c2 hz2=> ?_) (fun c2 hz2=> ?_))))))))))))))))
 refine lr (fun u6 hu6=>sv rfl (sv rfl (A1 (B3 ?_))))
 cases hz2
 obtain rfl:=ez2 _ rfl
 refine ⟨nofun,E1 ?_⟩
 rw [Sum.elim_inr]at h
 cases h
 exact A7 (.inr rfl) (B6 (B4 rfl) E0) (.refl _)
 refine A9 (G3 (C8 fun u7 hu7=>sv rfl (sv rfl (A1 (G4 ?_)))))
 cases hz2
 exact ⟨rfl,(),(sbr rfl rfl)⟩
 refine C2 rfl ?_
 cases hz2
 obtain rfl:=ez2 _ rfl
 refine ⟨nofun,B9 rfl (l_j ?_)⟩
 exact ⟨_,(),rfl,(sbr rfl rfl)⟩
 rintro _ ⟨y1,g1,rfl,q1⟩
 rw [Sum.elim_inl]at h
 refine B5 q1 (lr (fun u8 hu8=>sv rfl (A1 (B3 ?_))))
 cases h
 exact A7 (.inr rfl) (B6 (B4 rfl) E0) (.refl _)
noncomputable def G6 (p1:(List Span))(p2:Span):Option Bool:=
  (H8 p1 p2).bind fun v1=>some (decide (v1≥0))
theorem A1k (p1:(List Span))(p2:Span)(r:Bool)(h:G6 p1 p2=some r):PCall Tryz.prog 145 [(.list (List.map B22 p1)),(.fn (.func 147) [] [(.bp (B22 p2) 0)])] (bo r):=by
 refine B7 (fk Tryz.func145 Tryz.ntmps145 m0 (by with_unfolding_all rfl)) (nl rfl) ?_
 unfold G6 at h
 refine B5 (s0:=⟨T [(0,(.d _)),(1,(.d _))],G []⟩) (sbr rfl rfl) ?_
 refine lr (fun u1 hu1=>sv rfl (A1 (lr (fun u2 hu2=>sv rfl (sv rfl (bs h fun v1 hv1 h=>B0 rfl rfl A2 (A23 _ _ _ hv1) (.inl rfl) (sv rfl (sv rfl (A1 (B3 ?_))))))))))
 cases h
 exact A7 (.inr rfl) (B6 (B4 rfl) E0) (.refl _)
noncomputable def A2i (p1:Span)(p2:(List Span)):Option Bool:=
  (G6 p2 p1).bind fun v1=>some v1
theorem B4x (p1:Span)(p2:(List Span))(r:Bool)(h:A2i p1 p2=some r):PCall Tryz.prog 146 [(.agg (B22 p1)),(.bp [(.list (List.map B22 p2))] 0)] (bo r):=by
 refine B7 (fk Tryz.func146 Tryz.ntmps146 m0 (by with_unfolding_all rfl)) (nl rfl) ?_
 unfold A2i at h
 refine B5 (s0:=⟨T [(0,(.d _)),(1,(.d _))],G []⟩) (sbr rfl rfl) ?_
 refine lr (fun u1 hu1=>sn rfl rfl (sv rfl (A1 (lr (fun u2 hu2=>sv rfl (C1 (.fn _ _ _) rfl rfl (bs h fun v1 hv1 h=>B0 rfl (rD (D3 (C2s F2 (D3 (A38 G_hit (rD (rD (rD F2)))) F2)) F2)) A2 (A1k _ _ _ hv1) (.inr rfl) (sv rfl (A1 (B3 ?_))))))))))
 cases h
 exact A7 (.inr rfl) (B6 (B4 rfl) E0) (.refl _)
noncomputable def H6 (p1:(List Span))(p2:(List Span))(x1:Int):Option (Stp Int (Sum Unit Int)):=
  cond (decide (x1< (p1.length:Int))) ((D4 p1 x1).bind fun v1=>(A2i v1 p2).bind fun v2=>cond v2 (some (.out (.inr x1))) (some (.go (w64 (x1+1))))) (some (.out (.inl ())))
noncomputable def J1 (p1:(List Span))(p2:(List Span)):Option Int:=
  thenS (loop (H6 p1 p2) 0) (fun _=>some (-1)) (fun r=>some r)
theorem A2v (p1:(List Span))(p2:(List Span))(r:Int)(h:J1 p1 p2=some r):PCall Tryz.prog 208 [(.list (List.map B22 p1)),(.fn (.func 146) [] [(.bp [(.list (List.map B22 p2))] 0)])] (i64 r):=by
 refine B7 (fk Tryz.func208 Tryz.ntmps208 m0 (by with_unfolding_all rfl)) (nl rfl) ?_
 unfold J1 at h
 refine B5 (s0:=⟨T [(0,(.d _)),(1,(.d _))],G []⟩) (sbr rfl rfl) ?_
 refine lr (fun u1 hu1=>sv rfl (A1 (A6 (lr (fun u2 hu2=>sv rfl (sd rfl (E7 rfl) (sv rfl (A1 (js h fun z1 hz1 h=>D7 (fun s=> ∃(y1:Unit) (g1:Unit),z1= .inl y1∧Sb ⟨T [],G []⟩ s) ?_ ?_)))))))))
 refine A8 (F1 (H6 p1 p2) (fun (x1:Int) (g2:Unit)=>⟨T [(0,(dl B22 p1)),(1,(.d (.fn (.func 146) [] [(.bp [(.list (List.map B22 p2))] 0)]))),(7,(di (p1.length:Int))),(8,(di x1))],G []⟩) 0 () _ hz1 (sbr rfl rfl) ?_)
 intro x1 g2 z2 hz2 ez2
 unfold H6 at hz2
 refine lr (fun u3 hu3=>sv rfl (A1 (A6 (cc rfl hz2 (fun c1 hz2=> ?_) (fun c1 hz2=> ?_)))))
 refine A9 (A6 (A8 (lr (fun u4 hu4=>sv rfl (sv rfl (A1 (lr (fun u5 hu5=>sv rfl (sv rfl (sv rfl (bs hz2 fun v1 hv1 hz2=>sd rfl (E2 rfl rfl hv1 rfl) (sd rfl (C3 rfl hv1 rfl rfl) (bs hz2 fun v2 hv2 hz2=>B0 rfl rfl A2 (B4x _ _ _ hv2) (.inl rfl) (A1 (cc rfl hz2 (fun c2 hz2=> ?_) (fun c2 hz2=> ?_))))))))))))))))
 refine lr (fun u6 hu6=>sv rfl (sv rfl (A1 (B3 ?_))))
 cases hz2
 obtain rfl:=ez2 _ rfl
 refine ⟨nofun,E1 ?_⟩
 rw [Sum.elim_inr]at h
 cases h
 exact A7 (.inr rfl) (B6 (B4 rfl) E0) (.refl _)
 refine A9 (G3 (C8 fun u7 hu7=>sv rfl (sv rfl (A1 (G4 ?_)))))
 cases hz2
 exact ⟨rfl,(),(sbr rfl rfl)⟩
 refine C2 rfl ?_
 cases hz2
 obtain rfl:=ez2 _ rfl
 refine ⟨nofun,B9 rfl (l_j ?_)⟩
 exact ⟨_,(),rfl,(sbr rfl rfl)⟩
 rintro _ ⟨y1,g1,rfl,q1⟩
 rw [Sum.elim_inl]at h
 refine B5 q1 (lr (fun u8 hu8=>sv rfl (A1 (B3 ?_))))
 cases h
 exact A7 (.inr rfl) (B6 (B4 rfl) E0) (.refl _)
noncomputable def H7 (p1:(List Span))(p2:(List Span)):Option Bool:=
  (J1 p1 p2).bind fun v1=>some (decide (v1≥0))
theorem A20 (p1:(List Span))(p2:(List Span))(r:Bool)(h:H7 p1 p2=some r):PCall Tryz.prog 145 [(.list (List.map B22 p1)),(.fn (.func 146) [] [(.bp [(.list (List.map B22 p2))] 0)])] (bo r):=by
 refine B7 (fk Tryz.func145 Tryz.ntmps145 m0 (by with_unfolding_all rfl)) (nl rfl) ?_
 unfold H7 at h
 refine B5 (s0:=⟨T [(0,(.d _)),(1,(.d _))],G []⟩) (sbr rfl rfl) ?_
 refine lr (fun u1 hu1=>sv rfl (A1 (lr (fun u2 hu2=>sv rfl (sv rfl (bs h fun v1 hv1 h=>B0 rfl rfl A2 (A2v _ _ _ hv1) (.inl rfl) (sv rfl (sv rfl (A1 (B3 ?_))))))))))
 cases h
 exact A7 (.inr rfl) (B6 (B4 rfl) E0) (.refl _)
noncomputable def A6q (p1:Map)(p2:Agent)(p3:Agent):Option Bool:=
  (B0j p1 p3).bind fun v1=>(B0j p1 p2).bind fun v2=>(H7 v2 v1).bind fun v3=>some v3
theorem B98 (p1:Map)(p2:Agent)(p3:Agent)(r:Bool)(h:A6q p1 p2 p3=some r):PCall Tryz.prog 68 [(.agg (A3b p1)),(.agg (D8 p2)),(.agg (D8 p3))] (bo r):=by
 refine B7 (fk Tryz.func68 Tryz.ntmps68 m0 (by with_unfolding_all rfl)) (nl rfl) ?_
 unfold A6q at h
 refine B5 (s0:=⟨T [(0,(.d _)),(1,(.d _)),(2,(.d _))],G []⟩) (sbr rfl rfl) ?_
 refine lr (fun u1 hu1=>sn rfl rfl (sn rfl rfl (sn rfl rfl (sv rfl (A1 (lr (fun u2 hu2=>sd rfl (B2 rfl (gq rfl) rfl rfl) (sd rfl (B2 rfl G_hit rfl rfl) (bs h fun v1 hv1 h=>B0 rfl rfl A2 (B81 _ _ _ hv1) (.inl rfl) (sn rfl rfl (sst rfl G_hit [(dl B22 v1)] rfl (A1 (lr (fun u3 hu3=>sd rfl (B2 rfl (gq rfl) rfl rfl) (sd rfl (B2 rfl (gq rfl) rfl rfl) (bs h fun v2 hv2 h=>B0 rfl rfl A2 (B81 _ _ _ hv2) (.inl rfl) (C1 (.fn _ _ _) rfl rfl (bs h fun v3 hv3 h=>B0 rfl (rD (D3 (C2s F2 (D3 (A38 G_hit (rD F2)) F2)) F2)) A2 (A20 _ _ _ hv3) (.inr rfl) (sv rfl (A1 (B3 ?_)))))))))))))))))))))
 cases h
 exact A7 (.inr rfl) (B6 (B4 rfl) E0) (.refl _)
noncomputable def A0a (p1:WorldScene)(p2:Int)(p3:Int)(p4:Int):Option Bool:=
  (R4 p1 p2 p4).bind fun v1=>((cond v1 (R4 p1 p3 p4) (some default))).bind fun v2=>((cond (v1&&v2) (D4 p1.before.Agents p2) (some default))).bind fun v3=>((cond (v1&&v2) (A6z p1.m v3.Route p4) (some default))).bind fun v4=>((cond (v1&&v2) (D4 p1.before.Agents p3) (some default))).bind fun v5=>((cond (v1&&v2) (A6z p1.m v5.Route p4) (some default))).bind fun v6=>some ((v1&&v2)&& (v4 !=v6))
theorem A8l (p1:WorldScene)(p2:Int)(p3:Int)(p4:Int)(r:Bool)(h:A0a p1 p2 p3 p4=some r):PCall Tryz.prog 82 [(.bp (B0u p1) 0),(i64 p2),(i64 p3),(i64 p4)] (bo r):=by
 refine B7 (fk Tryz.func82 Tryz.ntmps82 m0 (by with_unfolding_all rfl)) (nl rfl) ?_
 unfold A0a at h
 refine B5 (s0:=⟨T [(0,(.d _)),(1,(.d _)),(2,(.d _)),(3,(.d _))],G []⟩) (sbr rfl rfl) ?_
 refine lr (fun u1 hu1=>sv rfl (A1 (A6 (I0 rfl fun u2 hu2=>sv rfl (sv rfl (sv rfl (bs h fun v1 hv1 h=>B0 rfl rfl A2 (A0u _ _ _ _ hv1) (.inl rfl) (sv rfl (gt rfl (fun _=>rfl) (gt rfl (fun _=>rfl) (gt rfl (fun _=>rfl) (bs h fun v2 hv2 h=> ?_))))))))))))
 refine S4 v1 (bo v2) (A0d rfl) (fun w4=>⟨_,[(.d (.bp (B0u p1) 0)),(di p3),(di p4)],_,_,(by simp only [A3 w4];rfl),rfl,A2,A0u _ _ _ _ (C0 w4 hv2),(.inl rfl)⟩) ?_
 refine sa rfl rfl rfl (sv rfl (gt rfl (fun _=>rfl) ?_))
 refine gt rfl (fun w6=>(by simp only [A3 w6];rfl)) ?_
 refine gt rfl (fun w7=>(by simp only [A3 w7];rfl)) ?_
 refine gt rfl (fun w8=>(by simp only [A3 w8];rfl)) ?_
 refine gt rfl (fun _=>rfl) ?_
 refine gt rfl (fun w10=>(by simp only [A3 w10];rfl)) ?_
 refine gt rfl (fun w11=>(by simp only [A3 w11];rfl)) ?_
 refine gt rfl (fun w12=>(by simp only [A3 w12];rfl)) ?_
 refine gt rfl (fun w13=>(by simp only [A3 w13];rfl)) ?_
 refine gt rfl (fun _=>rfl) (bs h fun v3 hv3 h=>gt rfl (fun w15=>(E2 (A3 w15) (A3 w15) (C0 w15 hv3) rfl)) ?_)
 refine gt rfl (fun w16=>(by simp only [A3 w16];rfl)) ?_
 refine gt rfl (fun w17=>(D9 (A3 w17) (C0 w17 hv3) rfl)) (gt rfl (fun _=>rfl) (bs h fun v4 hv4 h=> ?_))
 refine S4 _ (i64 v4) (A0d rfl) (fun w19=>⟨_,[(.d (.agg (A3b p1.m))),(dl A4 v3.Route),(di p4)],_,_,(by simp only [A3 w19];rfl),rfl,A2,B2h _ _ _ _ (C0 w19 hv4),(.inl rfl)⟩) ?_
 refine gt rfl (fun _=>rfl) ?_
 refine gt rfl (fun w21=>(by simp only [A3 w21];rfl)) ?_
 refine gt rfl (fun w22=>(by simp only [A3 w22];rfl)) ?_
 refine gt rfl (fun w23=>(by simp only [A3 w23];rfl)) ?_
 refine gt rfl (fun _=>rfl) ?_
 refine gt rfl (fun w25=>(by simp only [A3 w25];rfl)) ?_
 refine gt rfl (fun w26=>(by simp only [A3 w26];rfl)) ?_
 refine gt rfl (fun w27=>(by simp only [A3 w27];rfl)) ?_
 refine gt rfl (fun w28=>(by simp only [A3 w28];rfl)) ?_
 refine gt rfl (fun _=>rfl) (bs h fun v5 hv5 h=>gt rfl (fun w30=>(E2 (A3 w30) (A3 w30) (C0 w30 hv5) rfl)) ?_)
 refine gt rfl (fun w31=>(by simp only [A3 w31];rfl)) ?_
 refine gt rfl (fun w32=>(D9 (A3 w32) (C0 w32 hv5) rfl)) (gt rfl (fun _=>rfl) (bs h fun v6 hv6 h=> ?_))
 refine S4 _ (i64 v6) (A0d rfl) (fun w34=>⟨_,[(.d (.agg (A3b p1.m))),(dl A4 v5.Route),(di p4)],_,_,(by simp only [A3 w34];rfl),rfl,A2,B2h _ _ _ _ (C0 w34 hv6),(.inl rfl)⟩) ?_
 refine gt rfl (fun w35=>(S3 (A3 w35) (A3 w35) rfl)) (sa rfl rfl rfl (sv rfl (A1 (B3 ?_))))
 cases h
 exact A7 (.inr rfl) (B6 (B4 rfl) E0) (.refl _)
noncomputable def A9b (p1:Map)(v5:WorldScene)(a1:(Int×Int))(x2:Int):Option (Stp Int (Sum Unit (State×Int))):=
  cond (decide (x2< (p1.Zones.length:Int))) ((A0a v5 a1.1 a1.2 x2).bind fun v10=>cond v10 (some (.out (.inr ((State.mk 0 [] []),12)))) (some (.go (w64 (x2+1))))) (some (.out (.inl ())))
noncomputable def A9c (p1:Map)(p2:(List Agent))(v5:WorldScene)(x1:Unit)(a1:(Int×Int)):Option (Stp Unit (Sum Unit (State×Int))):=
  (D4 p2 a1.1).bind fun v7=>(D4 p2 a1.2).bind fun v8=>(A6q p1 v7 v8).bind fun v9=>cond v9 (some (.out (.inr ((State.mk 0 [] []),12)))) (thenS (loop (A9b p1 v5 a1) 0) (fun _=>some (.go ())) (fun r=>some (.out (.inr r))))
noncomputable def B28:Option Unit:=
  some ()
noncomputable def B4y (p1:Map)(p2:(List Agent)):Option (State×Int):=
  (B0h (State.mk 0 p2 [])).bind fun v1=>(A3y p1 v1).bind fun v2=>cond (v2 !=0) (some ((State.mk 0 [] []),v2)) ((J3 p2).bind fun v3=>cond v3 (some ((State.mk 0 [] []),10)) ((B0h v1).bind fun v4=>(A1u (WorldScene.mk p1 v1 v4 [] [])).bind fun v5=>(B28).bind fun y1=>thenS ((C3o v5.before).bind fun v6=>loopL (A9c p1 p2 v5) (fun (x1:Unit)=> .inl ()) v6 ()) (fun _=>some (v5.after,0)) (fun r=>some r)))
theorem C6p (p1:Map)(p2:(List Agent))(r:(State×Int))(h:B4y p1 p2=some r):PCall Tryz.prog 27 [(.agg (A3b p1)),(.list (List.map D8 p2))] (.tup [(.agg (A30 r.1)),(i64 r.2)]):=by
 refine B7 (fk Tryz.func27 Tryz.ntmps27 (fun r=>if r==8 then [1008001]else if r==9 then [1]else []) (by with_unfolding_all rfl)) (nl rfl) ?_
 unfold B4y at h
 refine B5 (s0:=⟨T [(0,(.d _)),(1,(.d _))],G []⟩) (sbr rfl rfl) ?_
 refine lr (fun u1 hu1=>sn rfl rfl (sn rfl rfl (sn rfl rfl (sn rfl rfl (A1 (lr (fun u2 hu2=>sl rfl (gq rfl) rfl (sv rfl (bs h fun v1 hv1 h=>B0 rfl rfl (.cons (.agg (ca rfl (ca rfl (.cons ⟨DLe.nil,rfl⟩ .nil)))) .nil) (B7u _ _ hv1) (.inl rfl) (sn rfl rfl (sst rfl G_hit (N0 v1) rfl (A1 (A6 (lr (fun u3 hu3=>sd rfl (B2 rfl (gq rfl) rfl rfl) (sd rfl (B2 rfl G_hit rfl rfl) (bs h fun v2 hv2 h=>B0 rfl rfl A2 (B2g _ _ _ hv2) (.inl rfl) (sv rfl (A1 (lr (fun u4 hu4=>sv rfl (sv rfl (A1 (cc rfl h (fun c1 h=> ?_) (fun c1 h=> ?_)))))))))))))))))))))))))
 refine lr (fun u5 hu5=>sv rfl (sv rfl (sst rfl (gq rfl) [(di 0),(.d .nilS),(.d .nilS)] rfl (sst rfl (gq rfl) [(di v2)] rfl (A1 (B3 ?_))))))
 cases h
 exact A7 (.inr rfl) (B5w (K0 rfl (gq rfl) (nl rfl) rfl) (B7m rfl G_hit rfl) E0 E0) (.tup (.cons (.agg (ca rfl (.cons ⟨DLe.nil,rfl⟩ (.cons ⟨DLe.nil,rfl⟩ .nil)))) A2))
 refine A9 (A6 (lr (fun u6 hu6=>sl rfl (gq rfl) rfl (bs h fun v3 hv3 h=>B0 rfl rfl A2 (A31 _ _ hv3) (.inl rfl) (A1 (cc rfl h (fun c2 h=> ?_) (fun c2 h=> ?_)))))))
 refine lr (fun u7 hu7=>sv rfl (sst rfl (gq rfl) [(di 0),(.d .nilS),(.d .nilS)] rfl (sst rfl (gq rfl) [(di 10)] rfl (A1 (B3 ?_)))))
 cases h
 exact A7 (.inr rfl) (B5w (K0 rfl (gq rfl) (nl rfl) rfl) (B7m rfl G_hit rfl) E0 E0) (.tup (.cons (.agg (ca rfl (.cons ⟨DLe.nil,rfl⟩ (.cons ⟨DLe.nil,rfl⟩ .nil)))) A2))
 refine A9 (A6 (I0 rfl fun u8 hu8=>sd rfl (B2 rfl (gq rfl) rfl rfl) (sd rfl (B2 rfl G_hit rfl rfl) (sd rfl (B2 rfl G_hit rfl rfl) (bs h fun v4 hv4 h=>B0 rfl rfl A2 (B7u _ _ hv4) (.inl rfl) (sv rfl (sn rfl rfl (sn rfl rfl (sst rfl G_hit [(.ptr (30,u8) 0)] rfl (A1 (lr (fun u9 hu9=>sp rfl (Z4 rfl G_hit rfl) (bs h fun v5 hv5 h=>D1v (v:= .d (.tup [])) (us:= [(30,u8)]) (D4s (B4n _ _ hv5) [(30,u8)] [(30,u8)] _ (((30,u8),some (.box 135 (X7 v5)))::_) rfl B0s (A1p (E0w (A5 rfl (A5 rfl G_hit)) rfl) B7r) (A7t (A5 rfl (A5 rfl G_hit)) A7s) ⟨⟨_,(A5 rfl (A5 rfl G_hit)), .box (.cons (.of rfl) (.cons (.of rfl) (.cons (.of rfl) (.cons (.of rfl) (.cons (.of rfl) (.cons (.of rfl) (.cons (.of rfl) (.cons (.of rfl) (.cons (.of rfl) (.cons (.of rfl) (.cons (.of rfl) (.cons (DLe.d DLe.nil) (.cons (DLe.d DLe.nil) .nil)))))))))))))⟩,trivial⟩ (fun _ h=>h) nd1 rfl rfl rfl) (A1 (A6 (lr (fun u10 hu10=>sp rfl (Z4 rfl (gq rfl) rfl) (bs h fun y1 hy1 h=>C1r (fk Tryz.func81 Tryz.ntmps81 m0 (by with_unfolding_all rfl)) (fun (g1:Nat)=> [(2,(.ptr (2,u1) 0)),(3,(.ptr (3,u1) 0)),(4,(.ptr (4,u1) 0)),(5,(.ptr (5,u1) 0)),(8,(.ptr (8,u8) 0)),(34,(.fn (.func 174) [] [(.ptr (1,g1) 0)]))]) (fun (g1:Nat)=> [((2,u1),some (.box 33 (A09 p1))),((3,u1),some (.box 22 [(dl D8 p2)])),((4,u1),some (.box 25 [(di 0),(.d .nilS),(.d .nilS)])),((5,u1),some (.box 36 [(di 0)])),((8,u8),some (.box 133 [(.ptr (30,u8) 0)])),((30,u8),some (.box 135 (X7 v5))),((1,g1),some (.box 133 [(.ptr (30,u8) 0)]))]) rfl (nl rfl) ?_ ?_))))))))))))))))))
 unfold B28 at hy1
 refine B5 (s0:=⟨T [(0,(.ptr _ _))],G [((30,u8),some (.box 135 _)),((2,u1),some (.box 33 _)),((3,u1),some (.box 22 _)),((4,u1),some (.box 25 _)),((5,u1),some (.box 36 _)),((8,u8),some (.box 133 _))]⟩) (sbr rfl rfl) ?_
 refine lr (fun u11 hu11=>sn rfl rfl (sv rfl (A1 (lr (fun u12 hu12=>C1 (.fn _ _ _) rfl rfl (C1 (.fn _ _ _) rfl rfl (A1 (B3 ?_))))))))
 cases hy1
 exact C84 (.inr rfl) (D66 (B4 rfl)) u11 ⟨.of rfl, .of rfl, .of rfl, .of rfl, .of rfl, .of rfl,trivial⟩ (sg rfl (sg rfl (sg rfl (sg rfl (sg rfl (sg rfl (B1 G_hit (.of rfl) trivial)))))))
 intro g1
 intro u13 hu13
 refine A1 (js h fun z1 hz1 h=>D7 (fun s=> ∃(y2:Unit) (g2:Unit),z1= .inl y2∧Sb ⟨T [(4,(.ptr (4,u1) 0)),(5,(.ptr (5,u1) 0)),(8,(.ptr (8,u8) 0))],G [((4,u1),some (.box 25 [(di 0),(.d .nilS),(.d .nilS)])),((5,u1),some (.box 36 [(di 0)])),((8,u8),some (.box 133 [(.ptr (30,u8) 0)])),((30,u8),some (.box 135 (X7 v5)))]⟩ s) ?_ ?_)
 refine A8 (bs hz1 fun v6 hv6 hz1=>B5 (s0:=⟨T [(2,(.ptr _ _)),(3,(.ptr _ _)),(4,(.ptr _ _)),(5,(.ptr _ _)),(8,(.ptr _ _)),(34,(.fn _ _ _))],G [((2,u1),some (.box 33 _)),((3,u1),some (.box 22 _)),((4,u1),some (.box 25 _)),((5,u1),some (.box 36 _)),((8,u8),some (.box 133 _)),((30,u8),some (.box 135 _)),((1,g1),some (.box 133 _))]⟩) (sbr rfl rfl) ?_)
 refine C9r (.fn (.func 174) [] [(.ptr (1,g1) 0)]) (B6w (1,g1) (30,u8) v5.before) C89 v6 (A9c p1 p2 v5) (fun (x1:Unit)=>(.inl ():Sum Unit (State×Int))) (fun (x1:Unit) (g3:Unit)=> [((2,u1),some (.box 33 (A09 p1))),((3,u1),some (.box 22 [(dl D8 p2)])),((4,u1),some (.box 25 [(di 0),(.d .nilS),(.d .nilS)])),((5,u1),some (.box 36 [(di 0)])),((8,u8),some (.box 133 [(.ptr (30,u8) 0)])),((1,g1),some (.box 133 [(.ptr (30,u8) 0)])),((30,u8),some (.box 135 (X7 v5)))]) () () _ rfl (C3p hv6 _ _) (fun x1 g3 _ _=>⟨A5 rfl (gq rfl),_,_,_,_,_,_,_,_,_,_,A5 rfl (gq rfl)⟩) (fun _=>rfl) hz1 (sbr rfl rfl) nofun ?_ ?_
 intro u15 hu15 hku15
 refine ⟨fun x1 g3=>(A5 rfl (A5 rfl (A5 rfl (A5 rfl (A5 rfl (A5 rfl (A5 rfl rfl))))))),?_⟩
 intro r1 x1 g3 a1 z2 hrr1 hz2 ez2
 unfold A9c at hz2
 show AWL _ _ _ _ _ _ ⟨T [(36,(di a1.2)),(35,(di a1.1)),(2,(.ptr (2,u1) 0)),(3,(.ptr (3,u1) 0)),(4,(.ptr (4,u1) 0)),(5,(.ptr (5,u1) 0)),(8,(.ptr (8,u8) 0)),(34,(.fn (.func 174) [] [(.ptr (1,g1) 0)]))],G [((1000000,u15),some (.obj (T [(2,(.ptr (2,u1) 0)),(3,(.ptr (3,u1) 0)),(4,(.ptr (4,u1) 0)),(5,(.ptr (5,u1) 0)),(8,(.ptr (8,u8) 0)),(34,(.fn (.func 174) [] [(.ptr (1,g1) 0)]))]) r1)),((2,u1),some (.box 33 (A09 p1))),((3,u1),some (.box 22 [(dl D8 p2)])),((4,u1),some (.box 25 [(di 0),(.d .nilS),(.d .nilS)])),((5,u1),some (.box 36 [(di 0)])),((8,u8),some (.box 133 [(.ptr (30,u8) 0)])),((1,g1),some (.box 133 [(.ptr (30,u8) 0)])),((30,u8),some (.box 135 (X7 v5)))]⟩
 refine lr (fun u16 hu16=>sv rfl (A1 (C8 fun u17 hu17=>sv rfl (A1 (l_j (D2x G_hit ?_))))))
 refine A8 (A6 (A6 (I0 rfl fun u18 hu18=>sd rfl (B2 rfl (gq rfl) rfl rfl) (sl rfl (gq rfl) rfl (sv rfl (bs hz2 fun v7 hv7 hz2=>sd rfl (E2 rfl rfl hv7 rfl) (sd rfl (C3 rfl hv7 rfl rfl) (sl rfl (gq rfl) rfl (sv rfl (bs hz2 fun v8 hv8 hz2=>sd rfl (E2 rfl rfl hv8 rfl) (sd rfl (C3 rfl hv8 rfl rfl) (bs hz2 fun v9 hv9 hz2=>B0 rfl rfl A2 (B98 _ _ _ _ hv9) (.inl rfl) (A1 (cc rfl hz2 (fun c3 hz2=> ?_) (fun c3 hz2=> ?_)))))))))))))))
 refine lr (fun u19 hu19=>sv rfl (sst rfl (gq rfl) [(di 0),(.d .nilS),(.d .nilS)] rfl (sst rfl (gq rfl) [(di 12)] rfl (A1 (B3 ?_)))))
 cases hz2
 obtain rfl:=ez2 _ rfl
 refine D2y (gq rfl) nofun (E1 ?_)
 rw [Sum.elim_inr]at h
 cases h
 exact A7 (.inr rfl) (B5w (K0 rfl (gq rfl) (nl rfl) rfl) (B7m rfl (gq rfl) rfl) E0 E0) (.tup (.cons (.agg (ca rfl (.cons ⟨DLe.nil,rfl⟩ (.cons ⟨DLe.nil,rfl⟩ .nil)))) A2))
 refine A9 (lr (fun u20 hu20=>sp rfl rfl (sl rfl (gq rfl) rfl (sd rfl (E7 rfl) (sv rfl (A1 (js hz2 fun z3 hz3 hz2=>D7 (fun s=> ∃(y3:Unit) (g4:Unit),z3= .inl y3∧Sb ⟨T [],G [((2,u1),some (.box 33 (A09 p1))),((3,u1),some (.box 22 [(dl D8 p2)])),((4,u1),some (.box 25 [(di 0),(.d .nilS),(.d .nilS)])),((5,u1),some (.box 36 [(di 0)])),((8,u8),some (.box 133 [(.ptr (30,u8) 0)])),((1,g1),some (.box 133 [(.ptr (30,u8) 0)])),((1000000,u15),some (.obj (T [(2,(.ptr (2,u1) 0)),(3,(.ptr (3,u1) 0)),(4,(.ptr (4,u1) 0)),(5,(.ptr (5,u1) 0)),(8,(.ptr (8,u8) 0)),(34,(.fn (.func 174) [] [(.ptr (1,g1) 0)]))]) {r1 with state:= .busy})),((30,u8),some (.box 135 (X7 v5)))]⟩ s) ?_ ?_)))))))
 refine A8 (F1 (A9b p1 v5 a1) (fun (x2:Int) (g5:Unit)=>⟨T [(4,(.ptr (4,u1) 0)),(5,(.ptr (5,u1) 0)),(8,(.ptr (8,u8) 0)),(9,(di a1.1)),(10,(di a1.2)),(50,(di (p1.Zones.length:Int))),(51,(di x2))],G [((4,u1),some (.box 25 [(di 0),(.d .nilS),(.d .nilS)])),((5,u1),some (.box 36 [(di 0)])),((8,u8),some (.box 133 [(.ptr (30,u8) 0)])),((2,u1),some (.box 33 (A09 p1))),((3,u1),some (.box 22 [(dl D8 p2)])),((1,g1),some (.box 133 [(.ptr (30,u8) 0)])),((1000000,u15),some (.obj (T [(2,(.ptr (2,u1) 0)),(3,(.ptr (3,u1) 0)),(4,(.ptr (4,u1) 0)),(5,(.ptr (5,u1) 0)),(8,(.ptr (8,u8) 0)),(34,(.fn (.func 174) [] [(.ptr (1,g1) 0)]))]) {r1 with state:= .busy})),((30,u8),some (.box 135 (X7 v5)))]⟩) 0 () _ hz3 (sbr rfl rfl) ?_)
 intro x2 g5 z4 hz4 ez4
 unfold A9b at hz4
 refine lr (fun u21 hu21=>sv rfl (A1 (A6 (cc rfl hz4 (fun c4 hz4=> ?_) (fun c4 hz4=> ?_)))))
 refine A9 (A6 (A8 (lr (fun u22 hu22=>sv rfl (sv rfl (A1 (lr (fun u23 hu23=>sp rfl (Z4 rfl (gq rfl) rfl) (sv rfl (sv rfl (sv rfl (bs hz4 fun v10 hv10 hz4=>B0 rfl (D3 (A38 (gq rfl) (rD (rD (rD (rD (rD (rD (rD (rD (rD (rD (rD (rD (rD F2)))))))))))))) (rD (rD (rD F2)))) A2 (A8l _ _ _ _ _ hv10) (.inr rfl) (A1 (cc rfl hz4 (fun c5 hz4=> ?_) (fun c5 hz4=> ?_)))))))))))))))
 refine lr (fun u24 hu24=>sv rfl (sst rfl G_hit [(di 0),(.d .nilS),(.d .nilS)] rfl (sst rfl (gq rfl) [(di 12)] rfl (A1 (B3 ?_)))))
 cases hz4
 obtain rfl:=ez4 _ rfl
 refine ⟨nofun,E1 ?_⟩
 rw [Sum.elim_inr]at hz2
 cases hz2
 obtain rfl:=ez2 _ rfl
 refine D2y (gq rfl) nofun (E1 ?_)
 rw [Sum.elim_inr]at h
 cases h
 exact A7 (.inr rfl) (B5w (K0 rfl (gq rfl) (nl rfl) rfl) (B7m rfl (gq rfl) rfl) E0 E0) (.tup (.cons (.agg (ca rfl (.cons ⟨DLe.nil,rfl⟩ (.cons ⟨DLe.nil,rfl⟩ .nil)))) A2))
 refine A9 (G3 (C8 fun u25 hu25=>sv rfl (sv rfl (A1 (G4 ?_)))))
 cases hz4
 exact ⟨rfl,(),(sbr rfl rfl)⟩
 refine C2 rfl ?_
 cases hz4
 obtain rfl:=ez4 _ rfl
 refine ⟨nofun,B9 rfl (l_j ?_)⟩
 exact ⟨_,(),rfl,(sbr rfl rfl)⟩
 rintro _ ⟨y3,g4,rfl,q1⟩
 rw [Sum.elim_inl]at hz2
 refine G3 (G4 ?_)
 cases hz2
 exact D8r q1 (gq rfl) () (B1 G_hit (.of rfl) (sg rfl (sg rfl (sg rfl (sg rfl (sg rfl (sg rfl trivial)))))))
 rintro x1 g3 _ rfl qx1
 refine G3 (l_j ?_)
 exact ⟨_,(),rfl,(Sb.after qx1 (sbr rfl rfl))⟩
 rintro _ ⟨y2,g2,rfl,q2⟩
 rw [Sum.elim_inl]at h
 refine B5 q2 (lr (fun u26 hu26=>sp rfl (Z4 rfl (gq rfl) rfl) (sp rfl rfl (sp rfl rfl (sd rfl (B2 rfl (gq rfl) rfl rfl) (sst rfl G_hit (N0 v5.after) rfl (sst rfl (gq rfl) [(di 0)] rfl (A1 (B3 ?_)))))))))
 cases h
 exact A7 (.inr rfl) (B5w (K0 rfl (gq rfl) (nl rfl) rfl) (B7m rfl G_hit rfl) E0 E0) (.refl _)
noncomputable def A5d (p1:Int):Option Int:=
  (cond (decide (p1≥4294967296)) (some ((p1.fdiv (2^ (min (32:Int).toNat (IntKind.bits .u64)))),32)) (some (p1,0))).bind fun y1=>(cond (decide (y1.1≥65536)) (some ((y1.1.fdiv (2^ (min (16:Int).toNat (IntKind.bits .u64)))),(w64 (y1.2+16)))) (some (y1.1,y1.2))).bind fun y2=>cond (decide (y2.1≥256)) ((D9y (ByteArray.mk #[0,1,2,2,3,3,3,3,4,4,4,4,4,4,4,4,5,5,5,5,5,5,5,5,5,5,5,5,5,5,5,5,6,6,6,6,6,6,6,6,6,6,6,6,6,6,6,6,6,6,6,6,6,6,6,6,6,6,6,6,6,6,6,6,7,7,7,7,7,7,7,7,7,7,7,7,7,7,7,7,7,7,7,7,7,7,7,7,7,7,7,7,7,7,7,7,7,7,7,7,7,7,7,7,7,7,7,7,7,7,7,7,7,7,7,7,7,7,7,7,7,7,7,7,7,7,7,7,8,8,8,8,8,8,8,8,8,8,8,8,8,8,8,8,8,8,8,8,8,8,8,8,8,8,8,8,8,8,8,8,8,8,8,8,8,8,8,8,8,8,8,8,8,8,8,8,8,8,8,8,8,8,8,8,8,8,8,8,8,8,8,8,8,8,8,8,8,8,8,8,8,8,8,8,8,8,8,8,8,8,8,8,8,8,8,8,8,8,8,8,8,8,8,8,8,8,8,8,8,8,8,8,8,8,8,8,8,8,8,8,8,8,8,8,8,8,8,8,8,8,8,8,8,8,8,8]) (IntKind.wrap .u8 (y2.1.fdiv (2^ (min (8:Int).toNat (IntKind.bits .u64)))))).bind fun v1=>some (w64 ((w64 (y2.2+8))+ (w64 v1)))) ((D9y (ByteArray.mk #[0,1,2,2,3,3,3,3,4,4,4,4,4,4,4,4,5,5,5,5,5,5,5,5,5,5,5,5,5,5,5,5,6,6,6,6,6,6,6,6,6,6,6,6,6,6,6,6,6,6,6,6,6,6,6,6,6,6,6,6,6,6,6,6,7,7,7,7,7,7,7,7,7,7,7,7,7,7,7,7,7,7,7,7,7,7,7,7,7,7,7,7,7,7,7,7,7,7,7,7,7,7,7,7,7,7,7,7,7,7,7,7,7,7,7,7,7,7,7,7,7,7,7,7,7,7,7,7,8,8,8,8,8,8,8,8,8,8,8,8,8,8,8,8,8,8,8,8,8,8,8,8,8,8,8,8,8,8,8,8,8,8,8,8,8,8,8,8,8,8,8,8,8,8,8,8,8,8,8,8,8,8,8,8,8,8,8,8,8,8,8,8,8,8,8,8,8,8,8,8,8,8,8,8,8,8,8,8,8,8,8,8,8,8,8,8,8,8,8,8,8,8,8,8,8,8,8,8,8,8,8,8,8,8,8,8,8,8,8,8,8,8,8,8,8,8,8,8,8,8,8,8,8,8,8,8]) (IntKind.wrap .u8 y2.1)).bind fun v2=>some (w64 (y2.2+ (w64 v2))))
theorem B82 (p1:Int)(r:Int)(h:A5d p1=some r):PCall Tryz.prog 281 [(.v (.int .u64 p1))] (i64 r):=by
 refine B7 (fk Tryz.func281 Tryz.ntmps281 m0 (by with_unfolding_all rfl)) (nl rfl) ?_
 unfold A5d at h
 refine B5 (s0:=⟨T [(0,(.d _))],G []⟩) (sbr rfl rfl) ?_
 refine lr (fun u1 hu1=>sv rfl (A1 (A6 (lr (fun u2 hu2=>sv rfl (sv rfl (A1 (bs h fun y1 hy1 h=>D7 (fun s=> ∃g1:Unit,Sb ⟨T [(0,(.d (.v (.int .u64 y1.1)))),(2,(di y1.2))],G []⟩ s) ?_ ?_))))))))
 refine cc rfl hy1 (fun c1 hy1=> ?_) (fun c1 hy1=> ?_)
 refine lr (fun u3 hu3=>sv rfl (sv rfl (sv rfl (A1 (C8 fun u4 hu4=>sv rfl (A1 ?_))))))
 cases hy1
 exact l_j ⟨(),(sbr rfl rfl)⟩
 refine A9 ?_
 cases hy1
 exact l_j ⟨(),(sbr rfl rfl)⟩
 rintro _ ⟨g1,q1⟩
 refine B5 q1 (A6 (lr (fun u5 hu5=>sv rfl (sv rfl (A1 (bs h fun y2 hy2 h=>D7 (fun s=> ∃g2:Unit,Sb ⟨T [(0,(.d (.v (.int .u64 y2.1)))),(2,(di y2.2))],G []⟩ s) ?_ ?_))))))
 refine cc rfl hy2 (fun c2 hy2=> ?_) (fun c2 hy2=> ?_)
 refine lr (fun u6 hu6=>sv rfl (sv rfl (sv rfl (A1 (C8 fun u7 hu7=>sv rfl (sv rfl (sv rfl (A1 ?_))))))))
 cases hy2
 exact l_j ⟨(),(sbr rfl rfl)⟩
 refine A9 ?_
 cases hy2
 exact l_j ⟨(),(sbr rfl rfl)⟩
 rintro _ ⟨g2,q2⟩
 refine B5 q2 (A6 (lr (fun u8 hu8=>sv rfl (sv rfl (A1 (cc rfl h (fun c3 h=> ?_) (fun c3 h=> ?_)))))))
 refine lr (fun u9 hu9=>sv rfl (sv rfl (sv rfl (A1 (C8 fun u10 hu10=>sv rfl (sv rfl (sv rfl (A1 (lr (fun u11 hu11=>sv rfl (sv rfl (sv rfl (bs h fun v1 hv1 h=>sd rfl (D7k rfl rfl hv1) (sv rfl (sv rfl (sv rfl (A1 (B3 ?_))))))))))))))))))
 cases h
 exact A7 (.inr rfl) (B6 (B4 rfl) E0) (.refl _)
 refine A9 (lr (fun u12 hu12=>sv rfl (sv rfl (sv rfl (bs h fun v2 hv2 h=>sd rfl (D7k rfl rfl hv2) (sv rfl (sv rfl (sv rfl (A1 (B3 ?_))))))))))
 cases h
 exact A7 (.inr rfl) (B6 (B4 rfl) E0) (.refl _)
noncomputable def A2j (p1:Int):Option Int:=
  (A5d p1).bind fun v1=>some v1
theorem B4i (p1:Int)(r:Int)(h:A2j p1=some r):PCall Tryz.prog 267 [(.v (.int .u64 p1))] (i64 r):=by
 refine B7 (fk Tryz.func267 Tryz.ntmps267 m0 (by with_unfolding_all rfl)) (nl rfl) ?_
 unfold A2j at h
 refine B5 (s0:=⟨T [(0,(.d _))],G []⟩) (sbr rfl rfl) ?_
 refine lr (fun u1 hu1=>sv rfl (A1 (A6 (B4t rfl (A9 (lr (fun u2 hu2=>sv rfl (bs h fun v1 hv1 h=>B0 rfl rfl A2 (B82 _ _ hv1) (.inl rfl) (sv rfl (A1 (B3 ?_)))))))))))
 cases h
 exact A7 (.inr rfl) (B6 (B4 rfl) E0) (.refl _)
noncomputable def A2w (p1:Int)(p2:Int):Option Bool:=
  (X0 p1).bind fun v1=>((cond v1 (X0 p2) (some default))).bind fun v2=>some ((v1&& (!v2))||(decide (p1<p2)))
theorem B99 (p1:Int)(p2:Int)(r:Bool)(h:A2w p1 p2=some r):PCall Tryz.prog 277 [(i64 p1),(i64 p2)] (bo r):=by
 refine B7 (fk Tryz.func277 Tryz.ntmps277 m0 (by with_unfolding_all rfl)) (nl rfl) ?_
 unfold A2w at h
 refine B5 (s0:=⟨T [(0,(.d _)),(1,(.d _))],G []⟩) (sbr rfl rfl) ?_
 refine lr (fun u1 hu1=>sv rfl (A1 (lr (fun u2 hu2=>sv rfl (bs h fun v1 hv1 h=>B0 rfl rfl A2 (A4y _ _ hv1) (.inl rfl) (sv rfl (gt rfl (fun _=>rfl) (bs h fun v2 hv2 h=> ?_))))))))
 refine S4 v1 (bo v2) (A0d rfl) (fun w2=>⟨_,[(di p2)],_,_,(by simp only [A3 w2];rfl),rfl,A2,A4y _ _ (C0 w2 hv2),(.inl rfl)⟩) ?_
 refine A01 _ (.d (bo (!v2))) rfl (A0d rfl) (fun w3=>(by simp only [A3 w3];rfl)) ?_
 refine sa rfl rfl rfl (sv rfl (gf rfl (fun _=>rfl) (gf rfl (fun _=>rfl) (gf rfl (fun w6=>(S3 (A3 w6) (A3 w6) rfl)) (sd rfl (A0s rfl rfl (fun hc=>A3 (K9 hc))) (sv rfl (A1 (B3 ?_))))))))
 cases h
 exact A7 (.inr rfl) (B6 (B4 rfl) E0) (.refl _)
noncomputable def C9 (p2:Int)(x2:(Int× (List Int))):Option (Stp (Int× (List Int)) (List Int)):=
  ((cond (decide (x2.1>p2)) (D4 x2.2 x2.1) (some default))).bind fun v1=>((cond (decide (x2.1>p2)) (D4 x2.2 (w64 (x2.1 - 1))) (some default))).bind fun v2=>((cond (decide (x2.1>p2)) (A2w v1 v2) (some default))).bind fun v3=>cond ((decide (x2.1>p2))&&v3) ((D4 x2.2 (w64 (x2.1 - 1))).bind fun v4=>(D4 x2.2 x2.1).bind fun v5=>(D4 x2.2 x2.1).bind fun v6=>(D4 (B79 x2.2 x2.1 v4) (w64 (x2.1 - 1))).bind fun v7=>some (.go ((w64 (x2.1 - 1)),(B79 (B79 x2.2 x2.1 v4) (w64 (x2.1 - 1)) v5)))) (some (.out x2.2))
noncomputable def D6 (p2:Int)(p3:Int)(x1:(Int× (List Int))):Option (Stp (Int× (List Int)) (List Int)):=
  cond (decide (x1.1<p3)) ((loop (C9 p2) (x1.1,x1.2)).bind fun y1=>some (.go ((w64 (x1.1+1)),y1))) (some (.out (x1.2)))
noncomputable def G1 (p1:(List Int))(p2:Int)(p3:Int):Option (List Int):=
  loop (D6 p2 p3) ((w64 (p2+1)),p1)
theorem A60 (p1:(List Int))(p2:Int)(p3:Int)(r:(List Int))(h:G1 p1 p2 p3=some r):MCall Tryz.prog 271 [(.sl (900000,0)),(di p2),(di p3)] [(.arr 2 1 (List.map A4 p1))] (.d (.tup [])) [some (.arr 2 1 (List.map A4 r))] []:=by
 refine B6s (fk Tryz.func271 Tryz.ntmps271 m0 (by with_unfolding_all rfl)) rfl (nl rfl) ?_
 unfold G1 at h
 refine B5 (s0:=⟨T [(0,(.sl _)),(1,(.d _)),(2,(.d _))],G [((900000,0),some _)]⟩) (sbr rfl rfl) ?_
 refine lr (fun u1 hu1=>sv rfl (sv rfl (sv rfl (A1 (A8 (F1 (D6 p2 p3) (fun (x1:(Int× (List Int))) (g1:Unit)=>⟨T [(0,(.sl (900000,0))),(1,(di p2)),(2,(di p3)),(6,(di x1.1))],G [((900000,0),some (.arr 2 1 (List.map A4 x1.2)))]⟩) ((w64 (p2+1)),p1) () _ h (sbr rfl rfl) ?_))))))
 intro x1 g1 z1 hz1 ez1
 unfold D6 at hz1
 refine A6 (lr (fun u2 hu2=>sv rfl (sv rfl (sv rfl (A1 (cc rfl hz1 (fun c1 hz1=> ?_) (fun c1 hz1=> ?_)))))))
 refine A9 (A6 (A8 (lr (fun u3 hu3=>sv rfl (sv rfl (A1 (bs hz1 fun y1 hy1 hz1=>D7 (fun s=> ∃g2:Unit,Sb ⟨T [(0,(.sl (900000,0))),(1,(di p2)),(2,(di p3)),(6,(di x1.1))],G [((900000,0),some (.arr 2 1 (List.map A4 y1)))]⟩ s) ?_ ?_)))))))
 refine A8 (F1 (C9 p2) (fun (x2:(Int× (List Int))) (g3:Unit)=>⟨T [(0,(.sl (900000,0))),(1,(di p2)),(2,(di p3)),(6,(di x1.1)),(7,(di x2.1))],G [((900000,0),some (.arr 2 1 (List.map A4 x2.2)))]⟩) (x1.1,x1.2) () _ hy1 (sbr rfl rfl) ?_)
 intro x2 g3 z2 hz2 ez2
 unfold C9 at hz2
 refine A6 (A6 (I0 rfl fun u4 hu4=>sv rfl (sv rfl (sv rfl (sv rfl (A01 _ (.sl _) rfl (A0d rfl) (fun _=>rfl) (gt rfl (fun _=>rfl) (bs hz2 fun v1 hv1 hz2=>A01 _ (.aptr _ _ _ _) rfl (A0d rfl) (fun w3=>(B03 (A3 w3) (A3 w3) G_hit (C0 w3 hv1))) (gt rfl (fun w4=>(C4k (A3 w4) G_hit (C0 w4 hv1) rfl)) (A01 _ (.sl _) rfl (A0d rfl) (fun _=>rfl) (gt rfl (fun _=>rfl) (gt rfl (vb rfl rfl rfl) (bs hz2 fun v2 hv2 hz2=>A01 _ (.aptr _ _ _ _) rfl (A0d rfl) (fun w8=>(B03 (A3 w8) (A3 w8) G_hit (C0 w8 hv2))) (gt rfl (fun w9=>(C4k (A3 w9) G_hit (C0 w9 hv2) rfl)) (bs hz2 fun v3 hv3 hz2=> ?_)))))))))))))))
 refine S4 _ (bo v3) (A0d rfl) (fun w10=>⟨_,[(di v1),(di v2)],_,_,(by simp only [A3 w10];rfl),rfl,A2,B99 _ _ _ (C0 w10 hv3),(.inl rfl)⟩) ?_
 refine sa rfl rfl rfl (A1 (cc rfl hz2 (fun c2 hz2=> ?_) (fun c2 hz2=> ?_)))
 refine A9 (A6 (A8 (I0 rfl fun u5 hu5=>ss rfl (sv rfl (ss rfl (sv rfl (sv rfl (ss rfl (sv rfl (sv rfl (bs hz2 fun v4 hv4 hz2=>C1 (.aptr _ _ _ _) rfl (B03 rfl rfl G_hit hv4) (sd rfl (C4k rfl G_hit hv4 rfl) (ss rfl (sv rfl (bs hz2 fun v5 hv5 hz2=>C1 (.aptr _ _ _ _) rfl (B03 rfl rfl G_hit hv5) (sd rfl (C4k rfl G_hit hv5 rfl) (bs hz2 fun v6 hv6 hz2=>C1 (.aptr _ _ _ _) rfl (B03 rfl rfl G_hit hv6) (B5q A4 _ _ _ (x2.1) _ v4 [(i64 v4)] rfl rfl rfl G_hit hv6 (nl rfl) rfl (bs hz2 fun v7 hv7 hz2=>C1 (.aptr _ _ _ _) rfl (B03 rfl rfl G_hit hv7) (B5q A4 _ _ _ ((w64 (x2.1 - 1))) _ v5 [(i64 v5)] rfl rfl rfl G_hit hv7 (nl rfl) rfl (A1 (G3 (C8 fun u6 hu6=>sv rfl (sv rfl (sv rfl (A1 (G4 ?_)))))))))))))))))))))))))))
 cases hz2
 exact ⟨rfl,(),(sbr rfl rfl)⟩
 refine C2 rfl ?_
 cases hz2
 obtain rfl:=ez2 _ rfl
 refine ⟨nofun,B9 rfl (l_j ?_)⟩
 exact ⟨(),(sbr rfl rfl)⟩
 rintro _ ⟨g2,q1⟩
 refine G3 (B5 q1 (C8 fun u7 hu7=>sv rfl (sv rfl (sv rfl (A1 (G4 ?_))))))
 cases hz1
 exact ⟨rfl,(),(sbr rfl rfl)⟩
 refine C2 rfl ?_
 cases hz1
 obtain rfl:=ez1 _ rfl
 refine ⟨nofun,B9 rfl (G4 ?_)⟩
 exact C1j (.inl rfl) [] C1k (.refl _) ⟨⟨G_hit,A3t⟩,trivial⟩
noncomputable def M0 (p1:(List Int))(x1:(Int×Int×Int×Bool×Bool)):Option (Stp (Int×Int×Int×Bool×Bool) (List Int)):=
  cond (decide ((w64 (x1.2.1 - x1.1))≤12)) ((G1 p1 x1.1 x1.2.1).bind fun v1=>some (.out (v1))) (cond (x1.2.2.1==0) (none) ((cond (!x1.2.2.2.1) (none) (some ())).bind fun _=>none))
noncomputable def O1 (p1:(List Int))(p2:Int)(p3:Int)(p4:Int):Option (List Int):=
  loop (M0 p1) (p2,p3,p4,true,true)
theorem A8j (p1:(List Int))(p2:Int)(p3:Int)(p4:Int)(r:(List Int))(h:O1 p1 p2 p3 p4=some r):MCall Tryz.prog 266 [(.sl (900000,0)),(di p2),(di p3),(di p4)] [(.arr 2 1 (List.map A4 p1))] (.d (.tup [])) [some (.arr 2 1 (List.map A4 r))] []:=by
 refine B6s (fk Tryz.func266 Tryz.ntmps266 (fun r=>if r==4 then [1004003]else []) (by with_unfolding_all rfl)) rfl (nl rfl) ?_
 unfold O1 at h
 refine B5 (s0:=⟨T [(0,(.sl _)),(1,(.d _)),(2,(.d _)),(3,(.d _))],G [((900000,0),some _)]⟩) (sbr rfl rfl) ?_
 refine lr (fun u1 hu1=>sv rfl (A1 (lr (fun u2 hu2=>sv rfl (A1 (A8 (F1 (M0 p1) (fun (x1:(Int×Int×Int×Bool×Bool)) (g1:Unit)=>⟨T [(0,(.sl (900000,0))),(1,(di x1.1)),(2,(di x1.2.1)),(3,(di x1.2.2.1)),(8,(.d (bo x1.2.2.2.1))),(9,(.d (bo x1.2.2.2.2)))],G [((900000,0),some (.arr 2 1 (List.map A4 p1)))]⟩) (p2,p3,p4,true,true) () _ h (sbr rfl rfl) ?_)))))))
 intro x1 g1 z1 hz1 ez1
 unfold M0 at hz1
 refine A8 (lr (fun u3 hu3=>sv rfl (sv rfl (sv rfl (sv rfl (A1 (A6 (lr (fun u4 hu4=>sv rfl (sv rfl (A1 (cc rfl hz1 (fun c1 hz1=> ?_) (fun c1 hz1=> ?_)))))))))))))
 refine lr (fun u5 hu5=>ss rfl (sv rfl (sv rfl (bs hz1 fun v1 hv1 hz1=>D1v (v:= .d (.tup [])) (us:= [(900000,0)]) (D4s (A60 _ _ _ _ hv1) [(900000,0)] [(900000,0)] _ (((900000,0),some (.arr 2 1 (List.map A4 v1)))::_) rfl B0s (A1p C6i (A1p C9k (A1p C9k B7r))) (A7t G_hit A7s) ⟨⟨_,G_hit, .of rfl⟩,trivial⟩ (fun _ h=>h) nd1 rfl rfl rfl) (A1 (B3 ?_))))))
 cases hz1
 obtain rfl:=ez1 _ rfl
 refine ⟨nofun,E1 ?_⟩
 exact C1j (.inr rfl) [] C1k (.refl _) ⟨⟨G_hit,A3t⟩,trivial⟩
 refine A9 (A6 (lr (fun u6 hu6=>sv rfl (sv rfl (A1 (cc rfl hz1 (fun c2 hz1=> ?_) (fun c2 hz1=> ?_)))))))
 refine lr (fun u7 hu7=>ss rfl (sv rfl (sv rfl ?_)))
 cases hz1
 refine A9 (A6 (lr (fun u8 hu8=>sv rfl (C1 (.d (bo (!x1.2.2.2.1))) rfl rfl (A1 (bs hz1 fun y1 hy1 hz1=>D7 (fun s=> ∃g2:Unit,Sb ⟨T [(0,(.sl (900000,0))),(1,(di x1.1)),(2,(di x1.2.1)),(3,(di x1.2.2.1)),(8,(.d (bo x1.2.2.2.1))),(9,(.d (bo x1.2.2.2.2))),(10,(di (w64 (x1.2.1 - x1.1))))],G [((900000,0),some (.arr 2 1 (List.map A4 p1)))]⟩ s) ?_ ?_))))))
 refine cc rfl hy1 (fun c3 hy1=> ?_) (fun c3 hy1=> ?_)
 refine lr (fun u9 hu9=>ss rfl (sv rfl (sv rfl ?_)))
 cases hy1
 refine A9 ?_
 cases hy1
 exact l_j ⟨(),(sbr rfl rfl)⟩
 rintro _ ⟨g2,q1⟩
 refine B5 q1 (lr (fun u10 hu10=>ss rfl (sv rfl (sv rfl ?_))))
 cases hz1
noncomputable def O8 (p1:(List Int)):Option (List Int):=
  (A2j (IntKind.wrap .u64 (p1.length:Int))).bind fun v1=>(O1 p1 0 (p1.length:Int) v1).bind fun v2=>some v2
theorem B09 (p1:(List Int))(r:(List Int))(h:O8 p1=some r):MCall Tryz.prog 252 [(.sl (900000,0))] [(.arr 2 1 (List.map A4 p1))] (.d (.tup [])) [some (.arr 2 1 (List.map A4 r))] []:=by
 refine B6s (fk Tryz.func252 Tryz.ntmps252 (fun r=>if r==1 then [1001005]else []) (by with_unfolding_all rfl)) rfl (nl rfl) ?_
 unfold O8 at h
 refine B5 (s0:=⟨T [(0,(.sl _))],G [((900000,0),some _)]⟩) (sbr rfl rfl) ?_
 refine lr (fun u1 hu1=>ss rfl (sd rfl (D7e (f:=A4) rfl G_hit) (sv rfl (A1 (C8 fun u2 hu2=>ss rfl (sv rfl (sv rfl (sv rfl (bs h fun v1 hv1 h=>B0 rfl rfl A2 (B4i _ _ hv1) (.inl rfl) (bs h fun v2 hv2 h=>D1v (v:= .d (.tup [])) (us:= [(900000,0)]) (D4s (A8j _ _ _ _ _ hv2) [(900000,0)] [(900000,0)] _ (((900000,0),some (.arr 2 1 (List.map A4 v2)))::_) rfl B0s (A1p C6i (A1p C9k (A1p C9k (A1p C9k B7r)))) (A7t G_hit A7s) ⟨⟨_,G_hit, .of rfl⟩,trivial⟩ (fun _ h=>h) nd1 rfl rfl rfl) (A1 (G4 ?_))))))))))))
 obtain rfl:=(Option.some.inj h)
 exact C1j (.inl rfl) [] C1k (.refl _) ⟨⟨G_hit,A3t⟩,trivial⟩
section
open Go.RowKit Go.Lib
noncomputable def cmpR:Go.Shelf.Ren:=⟨fun n=>if n=43 then 253 else 0,fun t=>if t=22 then 48 else if t=23 then 2 else t,fun x=>x⟩
theorem cmp_lay:SlLaysE.n43 Tryz.prog cmpR where
  mixed:=by kernel_rfl
  f43:=⟨Tryz.f253.name,by decide,by kernel_rfl⟩
  t0:=Tryz.underlying0
  a0:=Tryz.isAgg0
  z0:=Tryz.sizeOf0
  v0:=Tryz.zeroValue0
  t3:=Tryz.underlying3
  a3:=Tryz.isAgg3
  z3:=Tryz.sizeOf3
  v3:=Tryz.zeroValue3
  t4:=Tryz.underlying4
  a4:=Tryz.isAgg4
  z4:=Tryz.sizeOf4
  v4:=Tryz.zeroValue4
  t22:=Tryz.underlying48
  a22:=Tryz.isAgg48
  z22:=Tryz.sizeOf48
  v22:=Tryz.zeroValue48
  a23:=Tryz.isAgg2
  z23:=Tryz.sizeOf2
theorem D3n (g cap:Nat)(d:Array Int)(w:World)(hH:Go.Sort.Holds (Value.int .i64) w g 0 d)(hsz:d.size≤9223372036854775807)(hcap:d.size≤cap):
    Calls Tryz.prog 253 #[.slice (some ⟨g,0,none⟩) d.size cap] w fun e w'=>e= .returned (.slice (some ⟨g,0,none⟩) (Go.Lib.compactUpTo d d.size).length cap)∧∃q,w'=Go.Sort.putRow (Value.int .i64) (Go.Sort.ahead w q) g 0 (Go.Lib.compactUpTo d d.size++List.replicate (d.size - (Go.Lib.compactUpTo d d.size).length) 0).toArray:=
  AnyE.slices_Compact cmp_lay (Value.int .i64) (fun _=>rfl) (.intD _ _ _) (.intD _ _ _) 0 Tryz.zeroValue2 g 0 cap d w hH hsz hcap
theorem D95 (d:Array Int):(Go.Lib.compactUpTo d d.size).length≤d.size:=by
  unfold Go.Lib.compactUpTo
  rw [List.length_map]
  refine Nat.le_trans (List.length_filter_le _ _) ?_
  rw [List.length_range];exact Nat.le_refl _
theorem C6q (xs:List Int): ∀m,m≤xs.length→Go.Lib.compactUpTo xs.toArray m=A6c (xs.take m)
  |0,_=>rfl
  |m+1,h=>by
   rw [Go.Lib.compactUpTo_succ,C6q xs m (by omega),List.take_add_one,List.getElem?_eq_getElem (by omega),Option.toList_some,C1q]
   congr 1
   have hm:m<xs.length:=by omega
   have e1:xs.toArray[m]! =xs[m]:=by rw [getElem!_pos xs.toArray m (by simpa using hm)];simp
   rw [Go.Lib.keeps,e1]
   cases m with
   |zero=>simp
   |succ k=>
    have e2:xs.toArray[k]! =xs[k]:=by rw [getElem!_pos xs.toArray k (by rw [List.size_toArray];omega)];simp
    have e3:(xs.take (k+1)).getLast? =some xs[k]:=by rw [List.take_add_one,List.getElem?_eq_getElem (by omega),Option.toList_some,List.getLast?_append];simp
    rw [Nat.add_sub_cancel,e2,e3]
    by_cases e:xs[k+1]=xs[k]
    ·simp [e]
    ·rw [if_pos (by simp [e]),if_neg (fun q=>e (Option.some.inj q).symm)]
theorem E23 (xs r:List Int)(hr:B7s xs=some r):MCall Tryz.prog 253 [.sl (900000,0)] [.arr 2 1 (List.map A4 xs)] (.sl (800000,0)) [none] [some (.arr 2 1 (List.map A4 r))]:=by
  obtain ⟨hx,rfl⟩:=C6n hr
  clear hr
  refine ⟨rfl,fun vs w=> ?_,fun w I ρ vs H hlen hrep=> ?_⟩
  ·have hn': ¬Tryz.f253.name= "runtime.NumGoroutine" :=by decide
   have hb: ∃c,Tryz.f253.body=some c:=⟨_,rfl⟩
   obtain ⟨c,hb⟩:=hb
   simp [callFunc,Tryz.func253,hb,hn']
  have hnx:0<xs.length:=List.length_pos_iff.2 hx
  obtain ⟨a,rfl⟩: ∃a,vs= [a]:=by
    match vs,hlen with
    | [a],_=>exact ⟨a,rfl⟩
  have r0:=hrep 0 _ rfl
  simp only [List.getD_cons_zero]at r0
  have hb0:G (C5o 0 [Blk.arr 2 1 (List.map A4 xs)]) (A7r 0)=some (.arr 2 1 (List.map A4 xs)):=rfl
  obtain ⟨x0,cx,p1,p2,p3,p4⟩:=H.blk _ _ hb0
  have e0:a=x0:=by
    cases r0 with
    |sl _ _ h=>exact Option.some.inj (h.symm.trans p1)
  subst e0
  obtain ⟨hxl,hx'|⟨g,c,cur,rfl,_,hg,hnc,hcm,hcs,hxc⟩⟩:=p2
  ·rw [List.length_map]at hx';omega
  rw [List.length_map]at hxl hnc hxc
  have hval: ∀i (hi:i<xs.length),cur[i]? =some (.int .i64 xs[i]):=by
    intro i hi
    obtain ⟨_,g2⟩:=p4 i 0 (.v (.int .i64 xs[i])) (by simp [at2,hi,A4])
    have:cx.getD (i*1+0) undef= .int .i64 xs[i]:=by generalize cx.getD (i*1+0) undef=y at g2;cases g2;rfl
    rw [← hxc,List.getD,List.getElem?_take,if_pos (by omega),Nat.mul_one,Nat.add_zero,Array.getElem?_toList]at this
    rw [Array.getElem?_eq_getElem (by omega)]at this ⊢
    rw [Option.getD_some]at this
    rw [this]
  have hH:Go.Sort.Holds (Value.int .i64) w g 0 xs.toArray:=by
    intro j hj
    rw [List.size_toArray]at hj
    have h2:=hval j hj
    refine ⟨?_,by simp [World.frozen?,hg]⟩
    simp [World.cell?,hg,h2,hj]
  have locx:V9 ρ (A7r 0) (.arr 2 1 (List.map A4 xs))=some g:=by simp [V9,p1,Value.ownBlock]
  have hca:=D3n g c xs.toArray w hH (by rw [List.size_toArray];unfold maxLen at hcm;omega) (by rw [List.size_toArray];exact hnc)
  have hcl:=D95 xs.toArray
  rw [List.size_toArray]at hca hcl
  rw [List.length_map]
  refine hca.mono ?_
  rintro e w' ⟨rfl,q,hw'⟩
  have hheap: ∀k,w'.heap[k]? =if k=g then some (.cells (Go.Sort.putCells (Value.int .i64) 0 (Go.Lib.compactUpTo xs.toArray xs.length++List.replicate (xs.length - (Go.Lib.compactUpTo xs.toArray xs.length).length) 0).toArray cur) 2 (0,0))else w.heap[k]?:=by
    intro k
    rw [hw']
    show (w.heap.modify g _)[k]? =_
    rw [Array.getElem?_modify]
    by_cases e:g=k
    ·subst e;rw [if_pos rfl,if_pos rfl,hg];rfl
    ·rw [if_neg e,if_neg (Ne.symm e)]
  have hos:w'.os=w.os∧w'.tape=w.tape∧w'.output=w.output∧w'.heap.size=w.heap.size:=by rw [hw'];exact ⟨rfl,rfl,rfl,by simp⟩
  clear hw' hca hH
  generalize hC:Go.Lib.compactUpTo xs.toArray xs.length=C at hcl hheap ⊢
  have hCc:A6c xs=C:=by rw [← hC,C6q xs _ (Nat.le_refl _),List.take_length]
  rw [hCc]
  obtain ⟨Z,hZ⟩: ∃Z:Array Int,Z=(C++List.replicate (xs.length - C.length) 0).toArray:=⟨_,rfl⟩
  rw [← hZ]at hheap
  have hZs:Z.size=xs.length:=by rw [hZ];simp;omega
  have hZg: ∀i (hi:i<C.length),Z[i]! =C[i]:=by
    intro i hi
    have hlt:i<Z.size:=by omega
    rw [getElem!_pos Z i hlt]
    subst hZ
    rw [List.getElem_toArray,List.getElem_append_left hi]
  clear hZ hC hCc
  obtain ⟨u0,hu0⟩:=H.fresh
  have hk0:ρ (7,u0)=none:=hu0 7 u0 (Nat.le_refl _)
  have hgI: ¬I g:=H.notI _ _ g hb0 locx
  have hgo:own ρ (G (C5o 0 [Blk.arr 2 1 (List.map A4 xs)])) g:=⟨_,_,hb0,locx⟩
  have hother: ∀k,k≠g→w'.heap[k]? =w.heap[k]?:=fun k hk=>by rw [hheap,if_neg hk]
  have hI': ∀b,I b→w'.heap[b]? =w.heap[b]?:=fun b hb=>hother b (fun e=>hgI (e▸hb))
  have H0:HeapOK w' I ρ (fun _=>none):=⟨fun k b hb=>(by cases hb),fun k k' b b' g h1=>(by cases h1),fun k b g h1=>(by cases h1),fun k b g h1=>(by cases h1),fun b hb=>by rw [hos.2.2.2];exact H.ilt b hb,⟨u0,hu0⟩,H.rone⟩
  have hloc: ∀k,V9 (upd ρ (7,u0) (some (Value.slice (some ⟨g,0,none⟩) C.length c))) (7,u0) (.arr 2 1 (List.map A4 C))=some k→k=g:=by
    intro k hk
    have:some g=some k:=by simpa [V9,F3,Value.ownBlock] using hk
    exact (Option.some.inj this).symm
  have hown: ∀g,¬own ρ (fun _=>none) g:=fun g ⟨k,b,h,_⟩=>by cases h
  have hsz:(Go.Sort.putCells (Value.int .i64) 0 Z cur).size=c:=by unfold Go.Sort.putCells;rw [Array.size_mapIdx,hcs,Nat.mul_one]
  have Hn:=C8y H0 (7,u0) (Value.slice (some ⟨g,0,none⟩) C.length c) (.arr 2 1 (List.map A4 C)) hk0 rfl (fun k hk=>by
    rw [hloc k hk]
    exact ⟨hown g,hgI,by rw [hos.2.2.2];exact H.lt _ _ g hb0 locx⟩)
    ⟨_,C.map (Value.int .i64),F3 _ _ _,⟨by simp, .inr ⟨g,c,_,by rw [List.length_map],Nat.zero_le _,by rw [hheap,if_pos rfl],by rw [List.length_map];omega,hcm,by rw [hsz,Nat.mul_one],by
      rw [List.length_map,Nat.mul_one]
      apply List.ext_getElem
      ·have h3:(Go.Sort.putCells (Value.int .i64) 0 Z cur).toList.length=c:=hsz
       rw [List.length_take,h3,List.length_map];omega
      ·intro i h1 h2
       rw [List.length_map]at h2
       rw [List.getElem_take,Array.getElem_toList,List.getElem_map]
       unfold Go.Sort.putCells
       rw [Array.getElem_mapIdx,if_pos ⟨Nat.zero_le _,by omega⟩,Nat.sub_zero,hZg i h2]⟩⟩,by
      intro q hq
      obtain ⟨z,_,rfl⟩:=List.mem_map.1 hq
      rfl,by
      intro r j d' hd'
      unfold at2 at hd'
      rw [List.getElem?_map]at hd'
      cases hr:C[r]? with
      |none=>rw [hr]at hd';cases hd'
      |some z=>
       rw [hr]at hd'
       match j,hd' with
       |0,hd'=>
        cases hd'
        refine ⟨rfl,?_⟩
        rw [Nat.mul_one,Nat.add_zero,List.getD,List.getElem?_map,hr]
        exact .v _
       |j+1,hd'=>simp [A4]at hd'⟩
  refine ⟨_, .sl (7,u0),I,_,_,rfl, .sl _ _ (F3 _ _ _),Hn,⟨hos.1,hos.2.1,hos.2.2.1,by rw [hos.2.2.2];exact Nat.le_refl _,fun b hb hn'=>hother b (fun e=>hn' (e▸hgo)),fun _ hb=>hb,fun _ hb _=> .inl hb,?_,C8x hk0⟩,fun _=>(7,u0),rfl,?_,?_,?_,?_⟩
  ·rintro k ⟨k',b',h1,h2⟩ hl
   by_cases ek:k'=(7,u0)
   ·subst ek
    rw [F3]at h1
    cases h1
    rw [hloc k h2];exact hgo
   ·rw [N3 _ _ _ _ ek]at h1;cases h1
  ·intro j b hb
   match j,hb with
   |0,hb=>cases hb
   |j+1,hb=>simp at hb
  ·intro j b hb
   match j,hb with
   |0,hb=>cases hb;exact F3 _ _ _
   |j+1,hb=>simp at hb
  ·intro j _ i _ e;simp only [A7r,Prod.mk.injEq]at e;omega
  ·intro j j' h1 h2 _
   simp only [List.length_cons,List.length_nil]at h1 h2
   omega
theorem D6b (A:Option Addr)(w:World):Calls Tryz.prog 253 #[.slice A 0 0] w fun e w'=>e= .returned (.slice A 0 0)∧∃q,w'=w.drewN q:=by
  have mixed:=cmp_lay.mixed
  have v0:=Tryz.zeroValue2
  go_enter Tryz.func253,Tryz.ntmps253
  go_wp2
  go_ret
  exact ⟨rfl,0,rfl⟩
theorem D96:PCall Tryz.prog 253 [.nilS] .nilS:=by
  refine ⟨fun vs w=> ?_,fun w I vs hI hlen hrep=> ?_⟩
  ·have hn': ¬Tryz.f253.name= "runtime.NumGoroutine" :=by decide
   have hb: ∃c,Tryz.f253.body=some c:=⟨_,rfl⟩
   obtain ⟨c,hb⟩:=hb
   simp [callFunc,Tryz.func253,hb,hn']
  obtain ⟨a,rfl⟩: ∃a,vs= [a]:=by
    match vs,hlen with
    | [a],_=>exact ⟨a,rfl⟩
  have r0:=hrep 0 _ rfl
  simp only [List.getD_cons_zero]at r0
  cases r0 with
  |nilS A=>
   refine (D6b A w).mono ?_
   rintro e w' ⟨rfl,q,rfl⟩
   exact ⟨_,I,rfl, .nilS A,rfl,rfl,rfl,Nat.le_refl _,fun _ _=>rfl,fun _ hb=>hb,fun _ hb _=>hb,hI⟩
end
noncomputable def L3 (p1:Int)(x2:Int):Option (Stp Int Unit):=
  ((cond (decide (x2>p1)) ((none:Option Unit)) (some default))).bind fun v1=>cond ((decide (x2>p1))&&false) (none) (some (.out ()))
noncomputable def L4 (p1:Int)(p2:Int)(x1:Int):Option (Stp Int Unit):=
  cond (decide (x1<p2)) ((loop (L3 p1) x1).bind fun _=>some (.go (w64 (x1+1)))) (some (.out (())))
noncomputable def K4 (p1:Int)(p2:Int):Option Unit:=
  loop (L4 p1 p2) (w64 (p1+1))
theorem A61 (p1:Int)(p2:Int)(r:Unit)(h:K4 p1 p2=some r):PCall Tryz.prog 271 [.nilS,(i64 p1),(i64 p2)] (.tup []):=by
 refine B7 (fk Tryz.func271 Tryz.ntmps271 m0 (by with_unfolding_all rfl)) (nl rfl) ?_
 unfold K4 at h
 refine B5 (s0:=⟨T [(0,(.d _)),(1,(.d _)),(2,(.d _))],G []⟩) (sbr rfl rfl) ?_
 refine lr (fun u1 hu1=>sv rfl (sv rfl (sv rfl (A1 (A8 (F1 (L4 p1 p2) (fun (x1:Int) (g1:Unit)=>⟨T [(0,(.d .nilS)),(1,(di p1)),(2,(di p2)),(6,(di x1))],G []⟩) (w64 (p1+1)) () _ h (sbr rfl rfl) ?_))))))
 intro x1 g1 z1 hz1 ez1
 unfold L4 at hz1
 refine A6 (lr (fun u2 hu2=>sv rfl (sv rfl (sv rfl (A1 (cc rfl hz1 (fun c1 hz1=> ?_) (fun c1 hz1=> ?_)))))))
 refine A9 (A6 (A8 (lr (fun u3 hu3=>sv rfl (sv rfl (A1 (bs hz1 fun y1 hy1 hz1=>D7 (fun s=> ∃g2:Unit,Sb ⟨T [(0,(.d .nilS)),(1,(di p1)),(2,(di p2)),(6,(di x1))],G []⟩ s) ?_ ?_)))))))
 refine A8 (F1 (L3 p1) (fun (x2:Int) (g3:Unit)=>⟨T [(0,(.d .nilS)),(1,(di p1)),(2,(di p2)),(6,(di x1)),(7,(di x2))],G []⟩) x1 () _ hy1 (sbr rfl rfl) ?_)
 intro x2 g3 z2 hz2 ez2
 unfold L3 at hz2
 refine A6 (A6 (I0 rfl fun u4 hu4=>sv rfl (sv rfl (sv rfl (sv rfl (gt rfl (fun _=>rfl) (gt rfl (fun _=>rfl) (bs hz2 fun v1 hv1 hz2=>A01 _ (.d (.tup [])) rfl (A0d rfl) (fun w3=>nomatch C0 w3 hv1) (A01 _ (di 0) rfl (A0d rfl) (fun w4=>nomatch C0 w4 hv1) (A01 _ (.d (.tup [])) rfl (A0d rfl) (fun w5=>nomatch C0 w5 hv1) (A01 _ (di 0) rfl (A0d rfl) (fun w6=>nomatch C0 w6 hv1) (A01 _ (di 0) rfl (A0d rfl) (fun w7=>nomatch C0 w7 hv1) (A01 _ (.d (.tup [])) rfl (A0d rfl) (fun w8=>nomatch C0 w8 hv1) (A01 _ (di 0) rfl (A0d rfl) (fun w9=>nomatch C0 w9 hv1) (S4 _ (bo false) (A0d rfl) (fun w10=>nomatch C0 w10 hv1) (sa rfl rfl rfl (A1 (cc rfl hz2 (fun c2 hz2=> ?_) (fun c2 hz2=> ?_)))))))))))))))))))
 refine A9 (A6 (A8 (I0 rfl fun u5 hu5=>sv rfl (sv rfl (sv rfl (sv rfl (sv rfl (sv rfl (sv rfl (sv rfl ?_))))))))))
 cases hz2
 refine C2 rfl ?_
 cases hz2
 obtain rfl:=ez2 _ rfl
 refine ⟨nofun,B9 rfl (l_j ?_)⟩
 exact ⟨(),(sbr rfl rfl)⟩
 rintro _ ⟨g2,q1⟩
 refine G3 (B5 q1 (C8 fun u6 hu6=>sv rfl (sv rfl (sv rfl (A1 (G4 ?_))))))
 cases hz1
 exact ⟨rfl,(),(sbr rfl rfl)⟩
 refine C2 rfl ?_
 cases hz1
 obtain rfl:=ez1 _ rfl
 refine ⟨nofun,B9 rfl (G4 ?_)⟩
 exact A7 (.inl rfl) rfl (.refl _)
noncomputable def M1 (x1:(Int×Int×Int×Bool×Bool)):Option (Stp (Int×Int×Int×Bool×Bool) Unit):=
  cond (decide ((w64 (x1.2.1 - x1.1))≤12)) ((K4 x1.1 x1.2.1).bind fun v1=>some (.out (()))) (cond (x1.2.2.1==0) (none) ((cond (!x1.2.2.2.1) (none) (some ())).bind fun _=>none))
noncomputable def O2 (p1:Int)(p2:Int)(p3:Int):Option Unit:=
  loop (M1) (p1,p2,p3,true,true)
theorem A8k (p1:Int)(p2:Int)(p3:Int)(r:Unit)(h:O2 p1 p2 p3=some r):PCall Tryz.prog 266 [.nilS,(i64 p1),(i64 p2),(i64 p3)] (.tup []):=by
 refine B7 (fk Tryz.func266 Tryz.ntmps266 m0 (by with_unfolding_all rfl)) (nl rfl) ?_
 unfold O2 at h
 refine B5 (s0:=⟨T [(0,(.d _)),(1,(.d _)),(2,(.d _)),(3,(.d _))],G []⟩) (sbr rfl rfl) ?_
 refine lr (fun u1 hu1=>sv rfl (A1 (lr (fun u2 hu2=>sv rfl (A1 (A8 (F1 (M1) (fun (x1:(Int×Int×Int×Bool×Bool)) (g1:Unit)=>⟨T [(0,(.d .nilS)),(1,(di x1.1)),(2,(di x1.2.1)),(3,(di x1.2.2.1)),(8,(.d (bo x1.2.2.2.1))),(9,(.d (bo x1.2.2.2.2)))],G []⟩) (p1,p2,p3,true,true) () _ h (sbr rfl rfl) ?_)))))))
 intro x1 g1 z1 hz1 ez1
 unfold M1 at hz1
 refine A8 (lr (fun u3 hu3=>sv rfl (sv rfl (sv rfl (sv rfl (A1 (A6 (lr (fun u4 hu4=>sv rfl (sv rfl (A1 (cc rfl hz1 (fun c1 hz1=> ?_) (fun c1 hz1=> ?_)))))))))))))
 refine lr (fun u5 hu5=>sv rfl (sv rfl (sv rfl (bs hz1 fun v1 hv1 hz1=>B0 rfl rfl A2 (A61 _ _ _ hv1) (.inl rfl) (A1 (B3 ?_))))))
 cases hz1
 obtain rfl:=ez1 _ rfl
 refine ⟨nofun,E1 ?_⟩
 exact A7 (.inr rfl) rfl (.refl _)
 refine A9 (A6 (lr (fun u6 hu6=>sv rfl (sv rfl (A1 (cc rfl hz1 (fun c2 hz1=> ?_) (fun c2 hz1=> ?_)))))))
 refine lr (fun u7 hu7=>sv rfl (sv rfl (sv rfl ?_)))
 cases hz1
 refine A9 (A6 (lr (fun u8 hu8=>sv rfl (C1 (.d (bo (!x1.2.2.2.1))) rfl rfl (A1 (bs hz1 fun y1 hy1 hz1=>D7 (fun s=> ∃g2:Unit,Sb ⟨T [(0,(.d .nilS)),(1,(di x1.1)),(2,(di x1.2.1)),(3,(di x1.2.2.1)),(8,(.d (bo x1.2.2.2.1))),(9,(.d (bo x1.2.2.2.2))),(10,(di (w64 (x1.2.1 - x1.1))))],G []⟩ s) ?_ ?_))))))
 refine cc rfl hy1 (fun c3 hy1=> ?_) (fun c3 hy1=> ?_)
 refine lr (fun u9 hu9=>sv rfl (sv rfl (sv rfl ?_)))
 cases hy1
 refine A9 ?_
 cases hy1
 exact l_j ⟨(),(sbr rfl rfl)⟩
 rintro _ ⟨g2,q1⟩
 refine B5 q1 (lr (fun u10 hu10=>sv rfl (sv rfl (sv rfl ?_))))
 cases hz1
noncomputable def O9:Option Unit:=
  (A2j (IntKind.wrap .u64 0)).bind fun v1=>(O2 0 0 v1).bind fun v2=>some ()
theorem B0a (r:Unit)(h:O9=some r):PCall Tryz.prog 252 [.nilS] (.tup []):=by
 refine B7 (fk Tryz.func252 Tryz.ntmps252 m0 (by with_unfolding_all rfl)) (nl rfl) ?_
 unfold O9 at h
 refine B5 (s0:=⟨T [(0,(.d _))],G []⟩) (sbr rfl rfl) ?_
 refine lr (fun u1 hu1=>sv rfl (sv rfl (sv rfl (A1 (C8 fun u2 hu2=>sv rfl (sv rfl (sv rfl (sv rfl (bs h fun v1 hv1 h=>B0 rfl rfl A2 (B4i _ _ hv1) (.inl rfl) (bs h fun v2 hv2 h=>B0 rfl rfl A2 (A8k _ _ _ _ hv2) (.inl rfl) (A1 (G4 ?_))))))))))))
 cases h
 exact A7 (.inl rfl) rfl (.refl _)
end Go.Abs.World
