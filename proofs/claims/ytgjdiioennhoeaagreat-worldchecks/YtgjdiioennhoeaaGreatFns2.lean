/-
  The functions, part 2.
-/
import Derived.Test.YtgjdiioennhoeaaGreatFns1
set_option maxRecDepth 20000
set_option maxHeartbeats 4000000
set_option linter.unusedVariables false
namespace Go.Abs.World
open Go Go.Abs Go.Proofs
attribute [local irreducible] X8 B3m AWL
noncomputable def A12 (p1:Int)(p2:Int):Option Int:=
  (A08 p1).bind fun v1=>(A08 p2).bind fun v2=>cond v1 (cond v2 (some 0) (some (-1))) (cond v2 (some 1) (cond (decide (p1<p2)) (some (-1)) (cond (decide (p1>p2)) (some 1) (some 0))))
theorem A9f (p1:Int)(p2:Int)(r:Int)(h:A12 p1 p2=some r):PCall Tryz.prog 229 [(i64 p1),(i64 p2)] (i64 r):=by
 refine B8 (fk Tryz.func229 Tryz.ntmps229 m0 (by with_unfolding_all rfl)) (nl rfl) ?_
 unfold A12 at h
 refine B5 (s0:=⟨T [(0,(.d _)),(1,(.d _))],G []⟩) (sbr rfl rfl) ?_
 refine lr (fun u1 hu1=>sv rfl (A1 (lr (fun u2 hu2=>sv rfl (bs h fun v1 hv1 h=>B1 rfl rfl A2 (A4c _ _ hv1) (.inl rfl) (sv rfl (A1 (lr (fun u3 hu3=>sv rfl (bs h fun v2 hv2 h=>B1 rfl rfl A2 (A4c _ _ hv2) (.inl rfl) (sv rfl (A1 (A6 (lr (fun u4 hu4=>sv rfl (A1 (cc rfl h (fun c1 h=> ?_) (fun c1 h=> ?_))))))))))))))))))
 refine A6 (lr (fun u5 hu5=>sv rfl (A1 (cc rfl h (fun c2 h=> ?_) (fun c2 h=> ?_)))))
 refine lr (fun u6 hu6=>sv rfl (A1 (B3 ?_)))
 cases h
 exact A7 (.inr rfl) (B6 (B4 rfl) E1) (.refl _)
 refine A9 (lr (fun u7 hu7=>sv rfl (A1 (B3 ?_))))
 cases h
 exact A7 (.inr rfl) (B6 (B4 rfl) E1) (.refl _)
 refine A9 (A6 (lr (fun u8 hu8=>sv rfl (A1 (cc rfl h (fun c3 h=> ?_) (fun c3 h=> ?_))))))
 refine lr (fun u9 hu9=>sv rfl (A1 (B3 ?_)))
 cases h
 exact A7 (.inr rfl) (B6 (B4 rfl) E1) (.refl _)
 refine A9 (A6 (lr (fun u10 hu10=>sv rfl (sv rfl (sv rfl (A1 (cc rfl h (fun c4 h=> ?_) (fun c4 h=> ?_))))))))
 refine lr (fun u11 hu11=>sv rfl (A1 (B3 ?_)))
 cases h
 exact A7 (.inr rfl) (B6 (B4 rfl) E1) (.refl _)
 refine A9 (A6 (lr (fun u12 hu12=>sv rfl (sv rfl (sv rfl (A1 (cc rfl h (fun c5 h=> ?_) (fun c5 h=> ?_))))))))
 refine lr (fun u13 hu13=>sv rfl (A1 (B3 ?_)))
 cases h
 exact A7 (.inr rfl) (B6 (B4 rfl) E1) (.refl _)
 refine A9 (lr (fun u14 hu14=>sv rfl (A1 (B3 ?_))))
 cases h
 exact A7 (.inr rfl) (B6 (B4 rfl) E1) (.refl _)
noncomputable def A5z (p1:Pass)(p2:Pass):Option Int:=
  (A12 p1.From p2.From).bind fun v1=>(W0 p1.Zone_ p2.Zone_).bind fun v2=>(A5d [v1,v2]).bind fun v3=>some v3
theorem B7s (p1:Pass)(p2:Pass)(r:Int)(h:A5z p1 p2=some r):PCall Tryz.prog 264 [(.agg (A2t p1)),(.agg (A2t p2))] (i64 r):=by
 refine B8 (fk Tryz.func264 Tryz.ntmps264 (fun r=>if r==1 then [1010]else []) (by with_unfolding_all rfl)) (nl rfl) ?_
 unfold A5z at h
 refine B5 (s0:=⟨T [(0,(.d _)),(1,(.d _))],G []⟩) (sbr rfl rfl) ?_
 refine lr (fun u1 hu1=>sn rfl rfl (sn rfl rfl (sv rfl (A1 (A6 (I6 rfl fun u2 hu2=>sp rfl rfl (sl rfl (gq rfl) rfl (sp rfl rfl (sl rfl G_hit rfl (bs h fun v1 hv1 h=>B1 rfl rfl A2 (A9f _ _ _ hv1) (.inl rfl) (sp rfl rfl (sl rfl (gq rfl) rfl (sp rfl rfl (sl rfl G_hit rfl (bs h fun v2 hv2 h=>B1 rfl rfl A2 (A4b _ _ _ hv2) (.inl rfl) (B9 (dl A5 [v1,v2]) rfl rfl (bs h fun v3 hv3 h=>B1 rfl rfl A2 (B2z _ _ hv3) (.inl rfl) (sv rfl (A1 (B3 ?_))))))))))))))))))))
 cases h
 exact A7 (.inr rfl) (B6 (B4 rfl) E1) (.refl _)
noncomputable def E9 (p2:Int)(x2:(Int× (List Pass))):Option (Stp (Int× (List Pass)) (List Pass)):=
  ((cond (decide (x2.1>p2)) (D6 x2.2 x2.1) (some default))).bind fun v1=>((cond (decide (x2.1>p2)) (D6 x2.2 (w64 (x2.1 - 1))) (some default))).bind fun v2=>((cond (decide (x2.1>p2)) (A5z v1 v2) (some default))).bind fun v3=>cond ((decide (x2.1>p2))&& (decide (v3<0))) ((D6 x2.2 (w64 (x2.1 - 1))).bind fun v4=>(D6 x2.2 x2.1).bind fun v5=>(D6 x2.2 x2.1).bind fun v6=>(D6 (B8d x2.2 x2.1 v4) (w64 (x2.1 - 1))).bind fun v7=>some (.go ((w64 (x2.1 - 1)),(B8d (B8d x2.2 x2.1 v4) (w64 (x2.1 - 1)) v5)))) (some (.out x2.2))
noncomputable def F0 (p2:Int)(p3:Int)(x1:(Int× (List Pass))):Option (Stp (Int× (List Pass)) (List Pass)):=
  cond (decide (x1.1<p3)) ((loop (E9 p2) (x1.1,x1.2)).bind fun y1=>some (.go ((w64 (x1.1+1)),y1))) (some (.out (x1.2)))
noncomputable def D8 (p1:(List Pass))(p2:Int)(p3:Int):Option (List Pass):=
  loop (F0 p2 p3) ((w64 (p2+1)),p1)
theorem T4 (p1:(List Pass))(p2:Int)(p3:Int)(r:(List Pass))(h:D8 p1 p2 p3=some r):MCall Tryz.prog 282 [(.sl (900000,0)),(di p2),(di p3),(.d (.fn (.func 264) [] []))] [(.arr 229 4 (List.map A2t p1))] (.d (.tup [])) [some (.arr 229 4 (List.map A2t r))] []:=by
 refine B5q (fk Tryz.func282 Tryz.ntmps282 m0 (by with_unfolding_all rfl)) rfl (nl rfl) ?_
 unfold D8 at h
 refine B5 (s0:=⟨T [(0,(.sl _)),(1,(.d _)),(2,(.d _)),(3,(.d _))],G [((900000,0),some _)]⟩) (sbr rfl rfl) ?_
 refine lr (fun u1 hu1=>sv rfl (sv rfl (sv rfl (A1 (A8 (E7 (F0 p2 p3) (fun (x1:(Int× (List Pass))) (g1:Unit)=>⟨T [(0,(.sl (900000,0))),(1,(di p2)),(2,(di p3)),(3,(.d (.fn (.func 264) [] []))),(8,(di x1.1))],G [((900000,0),some (.arr 229 4 (List.map A2t x1.2)))]⟩) ((w64 (p2+1)),p1) () _ h (sbr rfl rfl) ?_))))))
 intro x1 g1 z1 hz1 ez1
 unfold F0 at hz1
 refine A6 (lr (fun u2 hu2=>sv rfl (sv rfl (sv rfl (A1 (cc rfl hz1 (fun c1 hz1=> ?_) (fun c1 hz1=> ?_)))))))
 refine A9 (A6 (A8 (lr (fun u3 hu3=>sv rfl (sv rfl (A1 (bs hz1 fun y1 hy1 hz1=>E0 (fun s=> ∃g2:Unit,Sb ⟨T [(0,(.sl (900000,0))),(1,(di p2)),(2,(di p3)),(3,(.d (.fn (.func 264) [] []))),(8,(di x1.1))],G [((900000,0),some (.arr 229 4 (List.map A2t y1)))]⟩ s) ?_ ?_)))))))
 refine A8 (E7 (E9 p2) (fun (x2:(Int× (List Pass))) (g3:Unit)=>⟨T [(0,(.sl (900000,0))),(1,(di p2)),(2,(di p3)),(3,(.d (.fn (.func 264) [] []))),(8,(di x1.1)),(9,(di x2.1))],G [((900000,0),some (.arr 229 4 (List.map A2t x2.2)))]⟩) (x1.1,x1.2) () _ hy1 (sbr rfl rfl) ?_)
 intro x2 g3 z2 hz2 ez2
 unfold E9 at hz2
 refine A6 (A6 (I6 rfl fun u4 hu4=>sv rfl (sv rfl (sv rfl (sv rfl (gt rfl (fun _=>rfl) (Z7 _ (.sl _) rfl (A19 rfl) (fun _=>rfl) (gt rfl (fun _=>rfl) (bs hz2 fun v1 hv1 hz2=>Z7 _ (.aptr _ _ _ _) rfl (A19 rfl) (fun w4=>(A9d (A3 w4) (A3 w4) G_hit (C7 w4 hv1))) (gt rfl (fun w5=>(B4q (A3 w5) G_hit (C7 w5 hv1) rfl rfl)) (Z7 _ (.sl _) rfl (A19 rfl) (fun _=>rfl) (gt rfl (fun _=>rfl) (gt rfl (vb rfl rfl rfl) (bs hz2 fun v2 hv2 hz2=>Z7 _ (.aptr _ _ _ _) rfl (A19 rfl) (fun w9=>(A9d (A3 w9) (A3 w9) G_hit (C7 w9 hv2))) (gt rfl (fun w10=>(B4q (A3 w10) G_hit (C7 w10 hv2) rfl rfl)) (bs hz2 fun v3 hv3 hz2=> ?_))))))))))))))))
 refine U8 _ (i64 v3) (A19 rfl) (fun w11=>⟨_,[(.d (.agg (A2t v1))),(.d (.agg (A2t v2)))],_,_,(by simp only [A3 w11];rfl),rfl,A2,B7s _ _ _ (C7 w11 hv3),(.inl rfl)⟩) ?_
 refine gt rfl (vb rfl rfl rfl) (sa rfl rfl rfl (A1 (cc rfl hz2 (fun c2 hz2=> ?_) (fun c2 hz2=> ?_))))
 refine A9 (A6 (A8 (I6 rfl fun u5 hu5=>ss rfl (sv rfl (ss rfl (sv rfl (sv rfl (ss rfl (sv rfl (sv rfl (bs hz2 fun v4 hv4 hz2=>B9 (.aptr _ _ _ _) rfl (A9d rfl rfl G_hit hv4) (sd rfl (B4q rfl G_hit hv4 rfl rfl) (ss rfl (sv rfl (bs hz2 fun v5 hv5 hz2=>B9 (.aptr _ _ _ _) rfl (A9d rfl rfl G_hit hv5) (sd rfl (B4q rfl G_hit hv5 rfl rfl) (bs hz2 fun v6 hv6 hz2=>B9 (.aptr _ _ _ _) rfl (A9d rfl rfl G_hit hv6) (B4p A2t _ _ _ (x2.1) _ v4 (A2t v4) rfl rfl rfl G_hit hv6 (nl rfl) rfl (bs hz2 fun v7 hv7 hz2=>B9 (.aptr _ _ _ _) rfl (A9d rfl rfl G_hit hv7) (B4p A2t _ _ _ ((w64 (x2.1 - 1))) _ v5 (A2t v5) rfl rfl rfl G_hit hv7 (nl rfl) rfl (A1 (F9 (D0 fun u6 hu6=>sv rfl (sv rfl (sv rfl (A1 (G3 ?_)))))))))))))))))))))))))))
 cases hz2
 exact ⟨rfl,(),(sbr rfl rfl)⟩
 refine C3 rfl ?_
 cases hz2
 obtain rfl:=ez2 _ rfl
 refine ⟨nofun,C0 rfl (l_j ?_)⟩
 exact ⟨(),(sbr rfl rfl)⟩
 rintro _ ⟨g2,q1⟩
 refine F9 (B5 q1 (D0 fun u7 hu7=>sv rfl (sv rfl (sv rfl (A1 (G3 ?_))))))
 cases hz1
 exact ⟨rfl,(),(sbr rfl rfl)⟩
 refine C3 rfl ?_
 cases hz1
 obtain rfl:=ez1 _ rfl
 refine ⟨nofun,C0 rfl (G3 ?_)⟩
 exact C01 (.inl rfl) [] C02 (.refl _) ⟨⟨G_hit,A3a⟩,trivial⟩
noncomputable def H6 (p2:Int)(x3:(Int×Int)):Option (Stp (Int×Int) Int):=
  cond (decide (x3.2≤p2)) (none) (some (.out x3.1))
noncomputable def H7 (p2:Int)(v2:(List Pass))(x2:Int):Option (Stp Int (List Pass)):=
  cond (decide (x2<p2)) ((loop (H6 p2) (0,(w64 (2*x2)))).bind fun y2=>cond (decide ((w64 (y2+x2))<p2)) (none) (some (.go (w64 (x2*2))))) (some (.out (v2)))
noncomputable def H8 (p2:Int)(x1:(Int×Int× (List Pass))):Option (Stp (Int×Int× (List Pass)) (Int× (List Pass))):=
  cond (decide (x1.2.1≤p2)) ((D8 x1.2.2 x1.1 x1.2.1).bind fun v1=>some (.go (x1.2.1,(w64 (x1.2.1+20)),v1))) (some (.out (x1.1,x1.2.2)))
noncomputable def J5 (p1:(List Pass))(p2:Int):Option (List Pass):=
  (loop (H8 p2) (0,20,p1)).bind fun y1=>(D8 y1.2 y1.1 p2).bind fun v2=>loop (H7 p2 v2) 20
theorem A2y (p1:(List Pass))(p2:Int)(r:(List Pass))(h:J5 p1 p2=some r):MCall Tryz.prog 270 [(.sl (900000,0)),(di p2),(.d (.fn (.func 264) [] []))] [(.arr 229 4 (List.map A2t p1))] (.d (.tup [])) [some (.arr 229 4 (List.map A2t r))] []:=by
 refine B5q (fk Tryz.func270 Tryz.ntmps270 (fun r=>if r==3 then [1003004]else if r==6 then [1006004]else []) (by with_unfolding_all rfl)) rfl (nl rfl) ?_
 unfold J5 at h
 refine B5 (s0:=⟨T [(0,(.sl _)),(1,(.d _)),(2,(.d _))],G [((900000,0),some _)]⟩) (sbr rfl rfl) ?_
 refine lr (fun u1 hu1=>sv rfl (A1 (lr (fun u2 hu2=>sv rfl (sv rfl (sv rfl (A1 (A6 (bs h fun y1 hy1 h=>E0 (fun s=> ∃g1:Unit,Sb ⟨T [(0,(.sl (900000,0))),(1,(di p2)),(2,(.d (.fn (.func 264) [] []))),(6,(di 20)),(7,(di y1.1))],G [((900000,0),some (.arr 229 4 (List.map A2t y1.2)))]⟩ s) ?_ ?_)))))))))
 refine A8 (E7 (H8 p2) (fun (x1:(Int×Int× (List Pass))) (g2:Unit)=>⟨T [(0,(.sl (900000,0))),(1,(di p2)),(2,(.d (.fn (.func 264) [] []))),(6,(di 20)),(7,(di x1.1)),(8,(di x1.2.1))],G [((900000,0),some (.arr 229 4 (List.map A2t x1.2.2)))]⟩) (0,20,p1) () _ hy1 (sbr rfl rfl) ?_)
 intro x1 g2 z1 hz1 ez1
 unfold H8 at hz1
 refine A6 (lr (fun u3 hu3=>sv rfl (sv rfl (sv rfl (A1 (cc rfl hz1 (fun c1 hz1=> ?_) (fun c1 hz1=> ?_)))))))
 refine A9 (A8 (lr (fun u4 hu4=>ss rfl (sv rfl (sv rfl (sv rfl (bs hz1 fun v1 hv1 hz1=>C9f (v:= .d (.tup [])) (us:= [(900000,0)]) (D21 (T4 _ _ _ _ hv1) [(900000,0)] [(900000,0)] _ (((900000,0),some (.arr 229 4 (List.map A2t v1)))::_) rfl A9z (A1a C4n (A1a C7g (A1a C7g (A1a C7g B6n)))) (A71 G_hit A70) ⟨⟨_,G_hit, .of rfl⟩,trivial⟩ (fun _ h=>h) nd1 rfl rfl rfl) (A1 (lr (fun u5 hu5=>sv rfl (sv rfl (A1 (D0 fun u6 hu6=>sv rfl (sv rfl (sv rfl (sv rfl (A1 (F9 (G3 ?_)))))))))))))))))))
 cases hz1
 exact ⟨rfl,(),(sbr rfl rfl)⟩
 refine C3 rfl ?_
 cases hz1
 obtain rfl:=ez1 _ rfl
 refine ⟨nofun,C0 rfl (l_j ?_)⟩
 exact ⟨(),(sbr rfl rfl)⟩
 rintro _ ⟨g1,q1⟩
 refine B5 q1 (lr (fun u7 hu7=>ss rfl (sv rfl (sv rfl (sv rfl (bs h fun v2 hv2 h=>C9f (v:= .d (.tup [])) (us:= [(900000,0)]) (D21 (T4 _ _ _ _ hv2) [(900000,0)] [(900000,0)] _ (((900000,0),some (.arr 229 4 (List.map A2t v2)))::_) rfl A9z (A1a C4n (A1a C7g (A1a C7g (A1a C7g B6n)))) (A71 G_hit A70) ⟨⟨_,G_hit, .of rfl⟩,trivial⟩ (fun _ h=>h) nd1 rfl rfl rfl) (A1 (A8 (E7 (H7 p2 v2) (fun (x2:Int) (g3:Unit)=>⟨T [(0,(.sl (900000,0))),(1,(di p2)),(2,(.d (.fn (.func 264) [] []))),(6,(di x2))],G [((900000,0),some (.arr 229 4 (List.map A2t v2)))]⟩) 20 () _ h (sbr rfl rfl) ?_)))))))))
 intro x2 g3 z2 hz2 ez2
 unfold H7 at hz2
 refine A6 (lr (fun u8 hu8=>sv rfl (sv rfl (sv rfl (A1 (cc rfl hz2 (fun c2 hz2=> ?_) (fun c2 hz2=> ?_)))))))
 refine A9 (A8 (lr (fun u9 hu9=>sv rfl (sv rfl (sv rfl (sv rfl (A1 (A6 (bs hz2 fun y2 hy2 hz2=>E0 (fun s=> ∃g4:Unit,Sb ⟨T [(0,(.sl (900000,0))),(1,(di p2)),(2,(.d (.fn (.func 264) [] []))),(6,(di x2)),(7,(di y2))],G [((900000,0),some (.arr 229 4 (List.map A2t v2)))]⟩ s) ?_ ?_)))))))))
 refine A8 (E7 (H6 p2) (fun (x3:(Int×Int)) (g5:Unit)=>⟨T [(0,(.sl (900000,0))),(1,(di p2)),(2,(.d (.fn (.func 264) [] []))),(6,(di x2)),(7,(di x3.1)),(8,(di x3.2))],G [((900000,0),some (.arr 229 4 (List.map A2t v2)))]⟩) (0,(w64 (2*x2))) () _ hy2 (sbr rfl rfl) ?_)
 intro x3 g5 z3 hz3 ez3
 unfold H6 at hz3
 refine A6 (lr (fun u10 hu10=>sv rfl (sv rfl (sv rfl (A1 (cc rfl hz3 (fun c3 hz3=> ?_) (fun c3 hz3=> ?_)))))))
 refine A9 (A8 (lr (fun u11 hu11=>ss rfl (sv rfl (sv rfl (sv rfl (sv rfl (sv rfl (sv rfl ?_)))))))))
 cases hz3
 refine C3 rfl ?_
 cases hz3
 obtain rfl:=ez3 _ rfl
 refine ⟨nofun,C0 rfl (l_j ?_)⟩
 exact ⟨(),(sbr rfl rfl)⟩
 rintro _ ⟨g4,q2⟩
 refine B5 q2 (A6 (lr (fun u12 hu12=>sv rfl (sv rfl (sv rfl (sv rfl (A1 (lr (fun u13 hu13=>sv rfl (sv rfl (sv rfl (A1 (cc rfl hz2 (fun c4 hz2=> ?_) (fun c4 hz2=> ?_))))))))))))))
 refine D0 fun u14 hu14=>ss rfl (sv rfl (sv rfl (sv rfl (sv rfl ?_))))
 cases hz2
 refine A9 (D0 fun u15 hu15=>sv rfl (sv rfl (sv rfl (A1 (F9 (G3 ?_))))))
 cases hz2
 exact ⟨rfl,(),(sbr rfl rfl)⟩
 refine C3 rfl ?_
 cases hz2
 obtain rfl:=ez2 _ rfl
 refine ⟨nofun,C0 rfl (G3 ?_)⟩
 exact C01 (.inl rfl) [] C02 (.refl _) ⟨⟨G_hit,A3a⟩,trivial⟩
noncomputable def G0 (p1:(List Pass)):Option (List Pass):=
  (J5 p1 (p1.length:Int)).bind fun v1=>some v1
theorem A1c (p1:(List Pass))(r:(List Pass))(h:G0 p1=some r):MCall Tryz.prog 263 [(.sl (900000,0)),(.d (.fn (.func 264) [] []))] [(.arr 229 4 (List.map A2t p1))] (.d (.tup [])) [some (.arr 229 4 (List.map A2t r))] []:=by
 refine B5q (fk Tryz.func263 Tryz.ntmps263 (fun r=>if r==0 then [1000004]else []) (by with_unfolding_all rfl)) rfl (nl rfl) ?_
 unfold G0 at h
 refine B5 (s0:=⟨T [(0,(.sl _)),(1,(.d _))],G [((900000,0),some _)]⟩) (sbr rfl rfl) ?_
 refine D0 fun u1 hu1=>ss rfl (ss rfl (sd rfl (D4k (f:=A2t) rfl G_hit) (sv rfl (bs h fun v1 hv1 h=>C9f (v:= .d (.tup [])) (us:= [(900000,0)]) (D21 (A2y _ _ _ hv1) [(900000,0)] [(900000,0)] _ (((900000,0),some (.arr 229 4 (List.map A2t v1)))::_) rfl A9z (A1a C4n (A1a C7g (A1a C7g B6n))) (A71 G_hit A70) ⟨⟨_,G_hit, .of rfl⟩,trivial⟩ (fun _ h=>h) nd1 rfl rfl rfl) (A1 (G3 ?_))))))
 obtain rfl:=(Option.some.inj h)
 exact C01 (.inl rfl) [] C02 (.refl _) ⟨⟨G_hit,A3a⟩,trivial⟩
noncomputable def F1 (p1:Int)(x2:Int):Option (Stp Int Unit):=
  ((cond (decide (x2>p1)) ((none:Option Unit)) (some default))).bind fun v1=>cond ((decide (x2>p1))&&false) (none) (some (.out ()))
noncomputable def F2 (p1:Int)(p2:Int)(x1:Int):Option (Stp Int Unit):=
  cond (decide (x1<p2)) ((loop (F1 p1) x1).bind fun _=>some (.go (w64 (x1+1)))) (some (.out (())))
noncomputable def D9 (p1:Int)(p2:Int):Option Unit:=
  loop (F2 p1 p2) (w64 (p1+1))
theorem T5 (p1:Int)(p2:Int)(r:Unit)(h:D9 p1 p2=some r):PCall Tryz.prog 282 [.nilS,(i64 p1),(i64 p2),(.fn (.func 264) [] [])] (.tup []):=by
 refine B8 (fk Tryz.func282 Tryz.ntmps282 m0 (by with_unfolding_all rfl)) (nl rfl) ?_
 unfold D9 at h
 refine B5 (s0:=⟨T [(0,(.d _)),(1,(.d _)),(2,(.d _)),(3,(.d _))],G []⟩) (sbr rfl rfl) ?_
 refine lr (fun u1 hu1=>sv rfl (sv rfl (sv rfl (A1 (A8 (E7 (F2 p1 p2) (fun (x1:Int) (g1:Unit)=>⟨T [(0,(.d .nilS)),(1,(di p1)),(2,(di p2)),(3,(.d (.fn (.func 264) [] []))),(8,(di x1))],G []⟩) (w64 (p1+1)) () _ h (sbr rfl rfl) ?_))))))
 intro x1 g1 z1 hz1 ez1
 unfold F2 at hz1
 refine A6 (lr (fun u2 hu2=>sv rfl (sv rfl (sv rfl (A1 (cc rfl hz1 (fun c1 hz1=> ?_) (fun c1 hz1=> ?_)))))))
 refine A9 (A6 (A8 (lr (fun u3 hu3=>sv rfl (sv rfl (A1 (bs hz1 fun y1 hy1 hz1=>E0 (fun s=> ∃g2:Unit,Sb ⟨T [(0,(.d .nilS)),(1,(di p1)),(2,(di p2)),(3,(.d (.fn (.func 264) [] []))),(8,(di x1))],G []⟩ s) ?_ ?_)))))))
 refine A8 (E7 (F1 p1) (fun (x2:Int) (g3:Unit)=>⟨T [(0,(.d .nilS)),(1,(di p1)),(2,(di p2)),(3,(.d (.fn (.func 264) [] []))),(8,(di x1)),(9,(di x2))],G []⟩) x1 () _ hy1 (sbr rfl rfl) ?_)
 intro x2 g3 z2 hz2 ez2
 unfold F1 at hz2
 refine A6 (A6 (I6 rfl fun u4 hu4=>sv rfl (sv rfl (sv rfl (sv rfl (gt rfl (fun _=>rfl) (gt rfl (fun _=>rfl) (gt rfl (fun _=>rfl) (bs hz2 fun v1 hv1 hz2=>Z7 _ (.d (.tup [])) rfl (A19 rfl) (fun w4=>nomatch C7 w4 hv1) (Z7 _ (.d (.tup [])) rfl (A19 rfl) (fun w5=>nomatch C7 w5 hv1) (Z7 _ (.d (.tup [])) rfl (A19 rfl) (fun w6=>nomatch C7 w6 hv1) (Z7 _ (di 0) rfl (A19 rfl) (fun w7=>nomatch C7 w7 hv1) (Z7 _ (di 0) rfl (A19 rfl) (fun w8=>nomatch C7 w8 hv1) (Z7 _ (.d (.tup [])) rfl (A19 rfl) (fun w9=>nomatch C7 w9 hv1) (Z7 _ (.d (.tup [])) rfl (A19 rfl) (fun w10=>nomatch C7 w10 hv1) (U8 _ (i64 0) (A19 rfl) (fun w11=>nomatch C7 w11 hv1) (Z7 _ (.d (bo false)) rfl (A19 rfl) (fun w12=>nomatch C7 w12 hv1) (sa rfl rfl rfl (A1 (cc rfl hz2 (fun c2 hz2=> ?_) (fun c2 hz2=> ?_)))))))))))))))))))))
 refine A9 (A6 (A8 (I6 rfl fun u5 hu5=>sv rfl (sv rfl (sv rfl (sv rfl (sv rfl (sv rfl (sv rfl (sv rfl ?_))))))))))
 cases hz2
 refine C3 rfl ?_
 cases hz2
 obtain rfl:=ez2 _ rfl
 refine ⟨nofun,C0 rfl (l_j ?_)⟩
 exact ⟨(),(sbr rfl rfl)⟩
 rintro _ ⟨g2,q1⟩
 refine F9 (B5 q1 (D0 fun u6 hu6=>sv rfl (sv rfl (sv rfl (A1 (G3 ?_))))))
 cases hz1
 exact ⟨rfl,(),(sbr rfl rfl)⟩
 refine C3 rfl ?_
 cases hz1
 obtain rfl:=ez1 _ rfl
 refine ⟨nofun,C0 rfl (G3 ?_)⟩
 exact A7 (.inl rfl) rfl (.refl _)
noncomputable def H9 (p1:Int)(x3:(Int×Int)):Option (Stp (Int×Int) Int):=
  cond (decide (x3.2≤p1)) (none) (some (.out x3.1))
noncomputable def I0 (p1:Int)(x2:Int):Option (Stp Int Unit):=
  cond (decide (x2<p1)) ((loop (H9 p1) (0,(w64 (2*x2)))).bind fun y2=>cond (decide ((w64 (y2+x2))<p1)) (none) (some (.go (w64 (x2*2))))) (some (.out (())))
noncomputable def I3 (p1:Int)(x1:(Int×Int)):Option (Stp (Int×Int) Int):=
  cond (decide (x1.2≤p1)) ((D9 x1.1 x1.2).bind fun v1=>some (.go (x1.2,(w64 (x1.2+20))))) (some (.out x1.1))
noncomputable def J6 (p1:Int):Option Unit:=
  (loop (I3 p1) (0,20)).bind fun y1=>(D9 y1 p1).bind fun v2=>loop (I0 p1) 20
theorem A2z (p1:Int)(r:Unit)(h:J6 p1=some r):PCall Tryz.prog 270 [.nilS,(i64 p1),(.fn (.func 264) [] [])] (.tup []):=by
 refine B8 (fk Tryz.func270 Tryz.ntmps270 m0 (by with_unfolding_all rfl)) (nl rfl) ?_
 unfold J6 at h
 refine B5 (s0:=⟨T [(0,(.d _)),(1,(.d _)),(2,(.d _))],G []⟩) (sbr rfl rfl) ?_
 refine lr (fun u1 hu1=>sv rfl (A1 (lr (fun u2 hu2=>sv rfl (sv rfl (sv rfl (A1 (A6 (bs h fun y1 hy1 h=>E0 (fun s=> ∃g1:Unit,Sb ⟨T [(0,(.d .nilS)),(1,(di p1)),(2,(.d (.fn (.func 264) [] []))),(6,(di 20)),(7,(di y1))],G []⟩ s) ?_ ?_)))))))))
 refine A8 (E7 (I3 p1) (fun (x1:(Int×Int)) (g2:Unit)=>⟨T [(0,(.d .nilS)),(1,(di p1)),(2,(.d (.fn (.func 264) [] []))),(6,(di 20)),(7,(di x1.1)),(8,(di x1.2))],G []⟩) (0,20) () _ hy1 (sbr rfl rfl) ?_)
 intro x1 g2 z1 hz1 ez1
 unfold I3 at hz1
 refine A6 (lr (fun u3 hu3=>sv rfl (sv rfl (sv rfl (A1 (cc rfl hz1 (fun c1 hz1=> ?_) (fun c1 hz1=> ?_)))))))
 refine A9 (A8 (lr (fun u4 hu4=>sv rfl (sv rfl (sv rfl (sv rfl (bs hz1 fun v1 hv1 hz1=>B1 rfl rfl A2 (T5 _ _ _ hv1) (.inl rfl) (A1 (lr (fun u5 hu5=>sv rfl (sv rfl (A1 (D0 fun u6 hu6=>sv rfl (sv rfl (sv rfl (sv rfl (A1 (F9 (G3 ?_)))))))))))))))))))
 cases hz1
 exact ⟨rfl,(),(sbr rfl rfl)⟩
 refine C3 rfl ?_
 cases hz1
 obtain rfl:=ez1 _ rfl
 refine ⟨nofun,C0 rfl (l_j ?_)⟩
 exact ⟨(),(sbr rfl rfl)⟩
 rintro _ ⟨g1,q1⟩
 refine B5 q1 (lr (fun u7 hu7=>sv rfl (sv rfl (sv rfl (sv rfl (bs h fun v2 hv2 h=>B1 rfl rfl A2 (T5 _ _ _ hv2) (.inl rfl) (A1 (A8 (E7 (I0 p1) (fun (x2:Int) (g3:Unit)=>⟨T [(0,(.d .nilS)),(1,(di p1)),(2,(.d (.fn (.func 264) [] []))),(6,(di x2))],G []⟩) 20 () _ h (sbr rfl rfl) ?_)))))))))
 intro x2 g3 z2 hz2 ez2
 unfold I0 at hz2
 refine A6 (lr (fun u8 hu8=>sv rfl (sv rfl (sv rfl (A1 (cc rfl hz2 (fun c2 hz2=> ?_) (fun c2 hz2=> ?_)))))))
 refine A9 (A8 (lr (fun u9 hu9=>sv rfl (sv rfl (sv rfl (sv rfl (A1 (A6 (bs hz2 fun y2 hy2 hz2=>E0 (fun s=> ∃g4:Unit,Sb ⟨T [(0,(.d .nilS)),(1,(di p1)),(2,(.d (.fn (.func 264) [] []))),(6,(di x2)),(7,(di y2))],G []⟩ s) ?_ ?_)))))))))
 refine A8 (E7 (H9 p1) (fun (x3:(Int×Int)) (g5:Unit)=>⟨T [(0,(.d .nilS)),(1,(di p1)),(2,(.d (.fn (.func 264) [] []))),(6,(di x2)),(7,(di x3.1)),(8,(di x3.2))],G []⟩) (0,(w64 (2*x2))) () _ hy2 (sbr rfl rfl) ?_)
 intro x3 g5 z3 hz3 ez3
 unfold H9 at hz3
 refine A6 (lr (fun u10 hu10=>sv rfl (sv rfl (sv rfl (A1 (cc rfl hz3 (fun c3 hz3=> ?_) (fun c3 hz3=> ?_)))))))
 refine A9 (A8 (lr (fun u11 hu11=>sv rfl (sv rfl (sv rfl (sv rfl (sv rfl (sv rfl (sv rfl ?_)))))))))
 cases hz3
 refine C3 rfl ?_
 cases hz3
 obtain rfl:=ez3 _ rfl
 refine ⟨nofun,C0 rfl (l_j ?_)⟩
 exact ⟨(),(sbr rfl rfl)⟩
 rintro _ ⟨g4,q2⟩
 refine B5 q2 (A6 (lr (fun u12 hu12=>sv rfl (sv rfl (sv rfl (sv rfl (A1 (lr (fun u13 hu13=>sv rfl (sv rfl (sv rfl (A1 (cc rfl hz2 (fun c4 hz2=> ?_) (fun c4 hz2=> ?_))))))))))))))
 refine D0 fun u14 hu14=>sv rfl (sv rfl (sv rfl (sv rfl (sv rfl ?_))))
 cases hz2
 refine A9 (D0 fun u15 hu15=>sv rfl (sv rfl (sv rfl (A1 (F9 (G3 ?_))))))
 cases hz2
 exact ⟨rfl,(),(sbr rfl rfl)⟩
 refine C3 rfl ?_
 cases hz2
 obtain rfl:=ez2 _ rfl
 refine ⟨nofun,C0 rfl (G3 ?_)⟩
 exact A7 (.inl rfl) rfl (.refl _)
noncomputable def G1:Option Unit:=
  (J6 0).bind fun v1=>some ()
theorem A1d (r:Unit)(h:G1=some r):PCall Tryz.prog 263 [.nilS,(.fn (.func 264) [] [])] (.tup []):=by
 refine B8 (fk Tryz.func263 Tryz.ntmps263 m0 (by with_unfolding_all rfl)) (nl rfl) ?_
 unfold G1 at h
 refine B5 (s0:=⟨T [(0,(.d _)),(1,(.d _))],G []⟩) (sbr rfl rfl) ?_
 refine D0 fun u1 hu1=>sv rfl (sv rfl (sv rfl (sv rfl (bs h fun v1 hv1 h=>B1 rfl rfl A2 (A2z _ _ hv1) (.inl rfl) (A1 (G3 ?_))))))
 cases h
 exact A7 (.inl rfl) rfl (.refl _)
noncomputable def A4o (v1:RoadsWay)(x1:((List Pass)×Int))(v2:Int)(x2:((List Pass)×Int))(v3:Zone)(x3:((List Pass)×Int)):Option (Stp ((List Pass)×Int) (List Pass)):=
  cond (decide (x3.2< (v3.Parts.length:Int))) ((D6 v3.Parts x3.2).bind fun v4=>cond (v4.Lane_==v2) ((D6 v1.starts x1.2).bind fun v5=>(D6 v1.starts x1.2).bind fun v6=>(A8h x3.1 [(Pass.mk x2.2 x3.2 (w64 (v5+v4.From)) (w64 (v6+v4.To)))]).bind fun v7=>some (.go (v7,(w64 (x3.2+1))))) (some (.go (x3.1,(w64 (x3.2+1)))))) (some (.out x3.1))
noncomputable def A4p (p1:Map)(v1:RoadsWay)(x1:((List Pass)×Int))(v2:Int)(x2:((List Pass)×Int)):Option (Stp ((List Pass)×Int) (List Pass)):=
  cond (decide (x2.2< (p1.Zones.length:Int))) ((D6 p1.Zones x2.2).bind fun v3=>(loop (A4o v1 x1 v2 x2 v3) (x2.1,0)).bind fun y3=>some (.go (y3,(w64 (x2.2+1))))) (some (.out x2.1))
noncomputable def A4q (p1:Map)(v1:RoadsWay)(x1:((List Pass)×Int)):Option (Stp ((List Pass)×Int) (List Pass)):=
  cond (decide (x1.2< (v1.lanes.length:Int))) ((D6 v1.lanes x1.2).bind fun v2=>(loop (A4p p1 v1 x1 v2) (x1.1,0)).bind fun y2=>some (.go (y2,(w64 (x1.2+1))))) (some (.out x1.1))
noncomputable def A8k (p1:Map)(p2:(List Int)):Option (List Pass):=
  (A0z p1 p2).bind fun v1=>(loop (A4q p1 v1) ([],0)).bind fun y1=>cond (List.isEmpty y1) ((G1).bind fun v9=>some []) ((G0 y1).bind fun v8=>some v8)
theorem C0f (p1:Map)(p2:(List Int))(r:(List Pass))(h:A8k p1 p2=some r):PCall Tryz.prog 246 [(.agg (A4h p1)),(.list (List.map A5 p2))] (.list (List.map A2t r)):=by
 refine B8 (fk Tryz.func246 Tryz.ntmps246 (fun r=>if r==13 then [1020]else if r==17 then [1017001]else []) (by with_unfolding_all rfl)) (nl rfl) ?_
 unfold A8k at h
 refine B5 (s0:=⟨T [(0,(.d _)),(1,(.d _))],G []⟩) (sbr rfl rfl) ?_
 refine lr (fun u1 hu1=>sn rfl rfl (sv rfl (A1 (lr (fun u2 hu2=>sd rfl (B2 rfl G_hit rfl rfl) (sv rfl (bs h fun v1 hv1 h=>B1 rfl rfl A2 (A76 _ _ _ hv1) (.inl rfl) (sn rfl rfl (sst rfl G_hit (B02 v1) rfl (A1 (lr (fun u3 hu3=>sv rfl (A1 (A6 (lr (fun u4 hu4=>sp rfl rfl (sl rfl G_hit rfl (sd rfl (E5 rfl) (sv rfl (A1 (bs h fun y1 hy1 h=>E0 (fun s=> ∃g1:Nat,Sb ⟨T [(6,(oS y1 (65,g1)))],G [((65,g1),oB 229 4 A2t y1)]⟩ s) ?_ ?_)))))))))))))))))))))
 refine A8 (E7 (A4q p1 v1) (fun (x1:((List Pass)×Int)) (g2:Nat)=>⟨T [(2,(.ptr (2,u1) 0)),(5,(.ptr (5,u2) 0)),(6,(oS x1.1 (65,g2))),(17,(dl A5 v1.lanes)),(18,(di (v1.lanes.length:Int))),(19,(di x1.2))],G [((2,u1),some (.box 33 (A0i p1))),((5,u2),some (.box 260 (B02 v1))),((65,g2),oB 229 4 A2t x1.1)]⟩) ([],0) 0 _ hy1 (G8 ⟨.of rfl, .of rfl, .of rfl, .of rfl, .of rfl, .of rfl,trivial⟩ (sg rfl (B0 G_hit (.of rfl) (Y3 trivial)))) ?_)
 intro x1 g2 z1 hz1 ez1
 unfold A4q at hz1
 refine lr (fun u5 hu5=>sv rfl (A1 (A6 (cc rfl hz1 (fun c1 hz1=> ?_) (fun c1 hz1=> ?_)))))
 refine A9 (A6 (A8 (lr (fun u6 hu6=>sv rfl (bs hz1 fun v2 hv2 hz1=>sd rfl (E4 rfl rfl hv2 rfl) (sd rfl (F3 rfl hv2 rfl) (sv rfl (sv rfl (A1 (lr (fun u7 hu7=>sp rfl rfl (sl rfl G_hit rfl (sd rfl (E5 rfl) (sv rfl (A1 (bs hz1 fun y2 hy2 hz1=>E0 (fun s=> ∃g3:Nat,Sb ⟨T [(2,(.ptr (2,u1) 0)),(5,(.ptr (5,u2) 0)),(6,(oS y2 (65,g3))),(17,(dl A5 v1.lanes)),(18,(di (v1.lanes.length:Int))),(19,(di x1.2))],G [((2,u1),some (.box 33 (A0i p1))),((5,u2),some (.box 260 (B02 v1))),((65,g3),oB 229 4 A2t y2)]⟩ s) ?_ ?_))))))))))))))))
 refine A8 (E7 (A4p p1 v1 x1 v2) (fun (x2:((List Pass)×Int)) (g4:Nat)=>⟨T [(2,(.ptr (2,u1) 0)),(5,(.ptr (5,u2) 0)),(6,(oS x2.1 (65,g4))),(7,(di x1.2)),(8,(di v2)),(17,(dl A5 v1.lanes)),(18,(di (v1.lanes.length:Int))),(19,(di x1.2)),(25,(dl A7r p1.Zones)),(26,(di (p1.Zones.length:Int))),(27,(di x2.2))],G [((2,u1),some (.box 33 (A0i p1))),((5,u2),some (.box 260 (B02 v1))),((65,g4),oB 229 4 A2t x2.1)]⟩) (x1.1,0) g2 _ hy2 (G8 ⟨.of rfl, .of rfl, .of rfl, .of rfl, .of rfl, .of rfl, .of rfl, .of rfl, .of rfl, .of rfl, .of rfl,trivial⟩ (B0 G_hit (.of rfl) (sg rfl (B7 (gq rfl) trivial)))) ?_)
 intro x2 g4 z2 hz2 ez2
 unfold A4p at hz2
 refine lr (fun u8 hu8=>sv rfl (A1 (A6 (cc rfl hz2 (fun c2 hz2=> ?_) (fun c2 hz2=> ?_)))))
 refine A9 (A6 (A8 (lr (fun u9 hu9=>sv rfl (bs hz2 fun v3 hv3 hz2=>sd rfl (E4 rfl rfl hv3 rfl) (sd rfl (C4 rfl hv3 rfl rfl) (sn rfl rfl (sv rfl (sst rfl G_hit [(dl A6b v3.Parts),(di v3.Signal_)] rfl (A1 (lr (fun u10 hu10=>sp rfl rfl (sl rfl G_hit rfl (sd rfl (E5 rfl) (sv rfl (A1 (bs hz2 fun y3 hy3 hz2=>E0 (fun s=> ∃g5:Nat,Sb ⟨T [(2,(.ptr (2,u1) 0)),(5,(.ptr (5,u2) 0)),(6,(oS y3 (65,g5))),(7,(di x1.2)),(8,(di v2)),(17,(dl A5 v1.lanes)),(18,(di (v1.lanes.length:Int))),(19,(di x1.2)),(25,(dl A7r p1.Zones)),(26,(di (p1.Zones.length:Int))),(27,(di x2.2))],G [((2,u1),some (.box 33 (A0i p1))),((5,u2),some (.box 260 (B02 v1))),((65,g5),oB 229 4 A2t y3)]⟩ s) ?_ ?_)))))))))))))))))
 refine A8 (E7 (A4o v1 x1 v2 x2 v3) (fun (x3:((List Pass)×Int)) (g6:Nat)=>⟨T [(2,(.ptr (2,u1) 0)),(5,(.ptr (5,u2) 0)),(6,(oS x3.1 (65,g6))),(7,(di x1.2)),(8,(di v2)),(9,(di x2.2)),(17,(dl A5 v1.lanes)),(18,(di (v1.lanes.length:Int))),(19,(di x1.2)),(25,(dl A7r p1.Zones)),(26,(di (p1.Zones.length:Int))),(27,(di x2.2)),(33,(dl A6b v3.Parts)),(34,(di (v3.Parts.length:Int))),(35,(di x3.2))],G [((2,u1),some (.box 33 (A0i p1))),((5,u2),some (.box 260 (B02 v1))),((65,g6),oB 229 4 A2t x3.1)]⟩) (x2.1,0) g4 _ hy3 (G8 ⟨.of rfl, .of rfl, .of rfl, .of rfl, .of rfl, .of rfl, .of rfl, .of rfl, .of rfl, .of rfl, .of rfl, .of rfl, .of rfl, .of rfl, .of rfl,trivial⟩ (sg rfl (sg rfl (B7 (gq rfl) trivial)))) ?_)
 intro x3 g6 z3 hz3 ez3
 unfold A4o at hz3
 refine lr (fun u11 hu11=>sv rfl (A1 (A6 (cc rfl hz3 (fun c3 hz3=> ?_) (fun c3 hz3=> ?_)))))
 refine A9 (A6 (A8 (lr (fun u12 hu12=>sv rfl (bs hz3 fun v4 hv4 hz3=>sd rfl (E4 rfl rfl hv4 rfl) (sd rfl (C4 rfl hv4 rfl rfl) (sn rfl rfl (sv rfl (sst rfl G_hit (C62 v4) rfl (A1 (lr (fun u13 hu13=>sp rfl rfl (sl rfl G_hit rfl (sv rfl (sv rfl (A1 (cc rfl hz3 (fun c4 hz3=> ?_) (fun c4 hz3=> ?_))))))))))))))))))
 refine I6 rfl fun u14 hu14=>B9 (oS x3.1 (65,g6)) rfl rfl (sv rfl (sv rfl (sp rfl rfl (sl rfl (gq rfl) rfl (sv rfl (bs hz3 fun v5 hv5 hz3=>sd rfl (E4 rfl rfl hv5 rfl) (sd rfl (F3 rfl hv5 rfl) (sp rfl rfl (sl rfl G_hit rfl (sv rfl (sp rfl rfl (sl rfl (gq rfl) rfl (sv rfl (bs hz3 fun v6 hv6 hz3=>sd rfl (E4 rfl rfl hv6 rfl) (sd rfl (F3 rfl hv6 rfl) (sp rfl rfl (sl rfl G_hit rfl (sv rfl (sv rfl (B9 (dl A2t [(Pass.mk x2.2 x3.2 (w64 (v5+v4.From)) (w64 (v6+v4.To)))]) rfl rfl (bs hz3 fun v7 hv7 hz3=>X0 A2t (65,g6) x3.1 (Pass.mk x2.2 x3.2 (w64 (v5+v4.From)) (w64 (v6+v4.To))) [] _ (O2 (fun _=>rfl)) rfl (gq rfl) hv7 (ss rfl (A1 (F9 (D0 fun u15 hu15=>sv rfl (sv rfl (A1 (G3 ?_))))))))))))))))))))))))))))
 cases hz3
 exact ⟨rfl,u14,(G8 ⟨.of rfl, .of rfl,(.of (A2r (A18 hv7)).symm), .of rfl, .of rfl, .of rfl, .of rfl, .of rfl, .of rfl, .of rfl, .of rfl, .of rfl, .of rfl, .of rfl, .of rfl,trivial⟩ (sg rfl (sg rfl (T1 G_hit trivial))))⟩
 refine A9 (F9 (D0 fun u16 hu16=>sv rfl (sv rfl (A1 (G3 ?_)))))
 cases hz3
 exact ⟨rfl,g6,(G8 ⟨.of rfl, .of rfl, .of rfl, .of rfl, .of rfl, .of rfl, .of rfl, .of rfl, .of rfl, .of rfl, .of rfl, .of rfl, .of rfl, .of rfl, .of rfl,trivial⟩ (sg rfl (sg rfl (B7 (gq rfl) trivial))))⟩
 refine C3 rfl ?_
 cases hz3
 obtain rfl:=ez3 _ rfl
 refine ⟨nofun,C0 rfl (l_j ?_)⟩
 exact ⟨g6,(G8 ⟨.of rfl, .of rfl, .of rfl, .of rfl, .of rfl, .of rfl, .of rfl, .of rfl, .of rfl, .of rfl, .of rfl,trivial⟩ (B0 G_hit (.of rfl) (sg rfl (B7 (gq rfl) trivial))))⟩
 rintro _ ⟨g5,q1⟩
 refine F9 (B5 q1 (D0 fun u17 hu17=>sv rfl (sv rfl (A1 (G3 ?_)))))
 cases hz2
 exact ⟨rfl,g5,(G8 ⟨.of rfl, .of rfl, .of rfl, .of rfl, .of rfl, .of rfl, .of rfl, .of rfl, .of rfl, .of rfl, .of rfl,trivial⟩ (B0 G_hit (.of rfl) (sg rfl (B7 (gq rfl) trivial))))⟩
 refine C3 rfl ?_
 cases hz2
 obtain rfl:=ez2 _ rfl
 refine ⟨nofun,C0 rfl (l_j ?_)⟩
 exact ⟨g4,(G8 ⟨.of rfl, .of rfl, .of rfl, .of rfl, .of rfl, .of rfl,trivial⟩ (B0 G_hit (.of rfl) (sg rfl (B7 (gq rfl) trivial))))⟩
 rintro _ ⟨g3,q2⟩
 refine F9 (B5 q2 (D0 fun u18 hu18=>sv rfl (sv rfl (A1 (G3 ?_)))))
 cases hz1
 exact ⟨rfl,g3,(G8 ⟨.of rfl, .of rfl, .of rfl, .of rfl, .of rfl, .of rfl,trivial⟩ (B0 G_hit (.of rfl) (sg rfl (B7 (gq rfl) trivial))))⟩
 refine C3 rfl ?_
 cases hz1
 obtain rfl:=ez1 _ rfl
 refine ⟨nofun,C0 rfl (l_j ?_)⟩
 exact ⟨g2,(G8 ⟨.of rfl,trivial⟩ (B7 (gq rfl) trivial))⟩
 rintro _ ⟨g1,q3⟩
 refine B5 q3 (A6 ?_)
 rcases C4q h with ⟨e1,h⟩|⟨e1,h⟩
 refine B5 (s0:=⟨T [(6,(.d .nilS))],G []⟩) (G8 ⟨.of (D4r e1),trivial⟩ trivial) ?_
 refine D0 fun u22 hu22=>sv rfl (bs h fun v9 hv9 h=>C9f (v:= .d (.tup [])) (us:= []) (D8r [] _ rfl rfl A2 (A1d _ hv9) rfl rfl) (A1 (lr (fun u23 hu23=>sv rfl (sv rfl (A1 (B3 ?_)))))))
 cases h
 exact A7 (.inr rfl) (B6 (B4 rfl) E1) DLe.nil
 refine B5 (s0:=⟨T [(6,(.sl (65,g1)))],G [((65,g1),some (.arr 229 4 (List.map A2t y1)))]⟩) (G8 ⟨.of (A2r e1),trivial⟩ (B0 (B7k G_hit e1) (.of rfl) trivial)) ?_
 refine D0 fun u20 hu20=>ss rfl (bs h fun v8 hv8 h=>C9f (v:= .d (.tup [])) (us:= [(65,g1)]) (D21 (A1c _ _ hv8) [(65,g1)] [(65,g1)] _ (((65,g1),some (.arr 229 4 (List.map A2t v8)))::_) rfl A9z (A1a C4n (A1a C7g B6n)) (A71 G_hit A70) ⟨⟨_,G_hit, .of rfl⟩,trivial⟩ (fun _ h=>h) nd1 rfl rfl rfl) (A1 (lr (fun u21 hu21=>ss rfl (ss rfl (A1 (B3 ?_)))))))
 cases h
 exact A7 (.inr rfl) (B6 (B4 rfl) (D0a G_hit)) (.refl _)
noncomputable def A1e (p1:Pass)(p2:Int)(p3:WorldSpan):Option Bool:=
  some (((p1.Zone_==p2)&& (decide (p1.From≤p3.to)))&& (decide (p3.from_≤p1.To)))
theorem B3t (p1:Pass)(p2:Int)(p3:WorldSpan)(r:Bool)(h:A1e p1 p2 p3=some r):PCall Tryz.prog 247 [(.agg (A2t p1)),(.bp [(i64 p2)] 0),(.bp [(i64 p3.from_),(i64 p3.to)] 0)] (bo r):=by
 refine B8 (fk Tryz.func247 Tryz.ntmps247 m0 (by with_unfolding_all rfl)) (nl rfl) ?_
 unfold A1e at h
 refine B5 (s0:=⟨T [(0,(.d _)),(1,(.d _)),(2,(.d _))],G []⟩) (sbr rfl rfl) ?_
 refine lr (fun u1 hu1=>sn rfl rfl (sv rfl (A1 (lr (fun u2 hu2=>sp rfl rfl (sl rfl G_hit rfl (sv rfl (sv rfl (sv rfl (gp rfl (A19 rfl) (fun _=>rfl) (gt rfl (vl rfl G_hit rfl) (gt rfl (fun _=>rfl) ?_))))))))))))
 refine gt rfl (fun w4=>(by simp only [A3 w4];rfl)) ?_
 refine gt rfl (fun w5=>(V8 (A3 w5) (A3 w5) rfl)) (sa rfl rfl rfl (sv rfl (gt rfl (fun _=>rfl) ?_)))
 refine gt rfl (fun w7=>(by simp only [A3 w7];rfl)) ?_
 refine gp rfl (A19 rfl) (fun _=>rfl) (gt rfl (vl rfl G_hit rfl) (gt rfl (fun w10=>(V8 (A3 w10) (A3 w10) rfl)) (sa rfl rfl rfl (sv rfl (A1 (B3 ?_))))))
 cases h
 exact A7 (.inr rfl) (B6 (B4 rfl) E1) (.refl _)
noncomputable def G4 (p1:(List Pass))(p2:Int)(p3:WorldSpan)(x1:Int):Option (Stp Int (Sum Unit Int)):=
  cond (decide (x1< (p1.length:Int))) ((D6 p1 x1).bind fun v1=>(A1e v1 p2 p3).bind fun v2=>cond v2 (some (.out (.inr x1))) (some (.go (w64 (x1+1))))) (some (.out (.inl ())))
noncomputable def I4 (p1:(List Pass))(p2:Int)(p3:WorldSpan):Option Int:=
  thenS (loop (G4 p1 p2 p3) 0) (fun _=>some (-1)) (fun r=>some r)
theorem A2e (p1:(List Pass))(p2:Int)(p3:WorldSpan)(r:Int)(h:I4 p1 p2 p3=some r):PCall Tryz.prog 262 [(.list (List.map A2t p1)),(.fn (.func 247) [] [(.bp [(i64 p2)] 0),(.bp [(i64 p3.from_),(i64 p3.to)] 0)])] (i64 r):=by
 refine B8 (fk Tryz.func262 Tryz.ntmps262 m0 (by with_unfolding_all rfl)) (nl rfl) ?_
 unfold I4 at h
 refine B5 (s0:=⟨T [(0,(.d _)),(1,(.d _))],G []⟩) (sbr rfl rfl) ?_
 refine lr (fun u1 hu1=>sv rfl (A1 (A6 (lr (fun u2 hu2=>sv rfl (sd rfl (E5 rfl) (sv rfl (A1 (js h fun z1 hz1 h=>E0 (fun s=> ∃(y1:Unit) (g1:Unit),z1= .inl y1∧Sb ⟨T [],G []⟩ s) ?_ ?_)))))))))
 refine A8 (E7 (G4 p1 p2 p3) (fun (x1:Int) (g2:Unit)=>⟨T [(0,(dl A2t p1)),(1,(.d (.fn (.func 247) [] [(.bp [(i64 p2)] 0),(.bp [(i64 p3.from_),(i64 p3.to)] 0)]))),(7,(di (p1.length:Int))),(8,(di x1))],G []⟩) 0 () _ hz1 (sbr rfl rfl) ?_)
 intro x1 g2 z2 hz2 ez2
 unfold G4 at hz2
 refine lr (fun u3 hu3=>sv rfl (A1 (A6 (cc rfl hz2 (fun c1 hz2=> ?_) (fun c1 hz2=> ?_)))))
 refine A9 (A6 (A8 (lr (fun u4 hu4=>sv rfl (sv rfl (A1 (lr (fun u5 hu5=>sv rfl (sv rfl (sv rfl (bs hz2 fun v1 hv1 hz2=>sd rfl (E4 rfl rfl hv1 rfl) (sd rfl (C4 rfl hv1 rfl rfl) (bs hz2 fun v2 hv2 hz2=>B1 rfl rfl A2 (B3t _ _ _ _ hv2) (.inl rfl) (A1 (cc rfl hz2 (fun c2 hz2=> ?_) (fun c2 hz2=> ?_))))))))))))))))
 refine lr (fun u6 hu6=>sv rfl (sv rfl (A1 (B3 ?_))))
 cases hz2
 obtain rfl:=ez2 _ rfl
 refine ⟨nofun,D7 ?_⟩
 rw [Sum.elim_inr]at h
 cases h
 exact A7 (.inr rfl) (B6 (B4 rfl) E1) (.refl _)
 refine A9 (F9 (D0 fun u7 hu7=>sv rfl (sv rfl (A1 (G3 ?_)))))
 cases hz2
 exact ⟨rfl,(),(sbr rfl rfl)⟩
 refine C3 rfl ?_
 cases hz2
 obtain rfl:=ez2 _ rfl
 refine ⟨nofun,C0 rfl (l_j ?_)⟩
 exact ⟨_,(),rfl,(sbr rfl rfl)⟩
 rintro _ ⟨y1,g1,rfl,q1⟩
 rw [Sum.elim_inl]at h
 refine B5 q1 (lr (fun u8 hu8=>sv rfl (A1 (B3 ?_))))
 cases h
 exact A7 (.inr rfl) (B6 (B4 rfl) E1) (.refl _)
noncomputable def G5 (p1:(List Pass))(p2:Int)(p3:WorldSpan):Option Bool:=
  (I4 p1 p2 p3).bind fun v1=>some (decide (v1≥0))
theorem A1k (p1:(List Pass))(p2:Int)(p3:WorldSpan)(r:Bool)(h:G5 p1 p2 p3=some r):PCall Tryz.prog 245 [(.list (List.map A2t p1)),(.fn (.func 247) [] [(.bp [(i64 p2)] 0),(.bp [(i64 p3.from_),(i64 p3.to)] 0)])] (bo r):=by
 refine B8 (fk Tryz.func245 Tryz.ntmps245 m0 (by with_unfolding_all rfl)) (nl rfl) ?_
 unfold G5 at h
 refine B5 (s0:=⟨T [(0,(.d _)),(1,(.d _))],G []⟩) (sbr rfl rfl) ?_
 refine lr (fun u1 hu1=>sv rfl (A1 (lr (fun u2 hu2=>sv rfl (sv rfl (bs h fun v1 hv1 h=>B1 rfl rfl A2 (A2e _ _ _ _ hv1) (.inl rfl) (sv rfl (sv rfl (A1 (B3 ?_))))))))))
 cases h
 exact A7 (.inr rfl) (B6 (B4 rfl) E1) (.refl _)
noncomputable def A77 (p1:Map)(p2:Agent)(p3:Agent)(p4:Int):Option Bool:=
  (A7z p2).bind fun v1=>((cond (!(!v1)) (A7z p3) (some default))).bind fun v2=>cond ((!v1)||(!v2)) (some false) ((A2w p2).bind fun v3=>(A8k p1 p2.Route).bind fun v4=>(G5 v4 p4 (WorldSpan.mk v3.from_ p3.S)).bind fun v5=>some v5)
theorem B8o (p1:Map)(p2:Agent)(p3:Agent)(p4:Int)(r:Bool)(h:A77 p1 p2 p3 p4=some r):PCall Tryz.prog 218 [(.agg (A4h p1)),(.agg (D2 p2)),(.agg (D2 p3)),(i64 p4)] (bo r):=by
 refine B8 (fk Tryz.func218 Tryz.ntmps218 m0 (by with_unfolding_all rfl)) (nl rfl) ?_
 unfold A77 at h
 refine B5 (s0:=⟨T [(0,(.d _)),(1,(.d _)),(2,(.d _)),(3,(.d _))],G []⟩) (sbr rfl rfl) ?_
 refine lr (fun u1 hu1=>sn rfl rfl (sn rfl rfl (sn rfl rfl (sn rfl rfl (sv rfl (A1 (A6 (lr (fun u2 hu2=>sd rfl (B2 rfl (gq rfl) rfl rfl) (bs h fun v1 hv1 h=>B1 rfl rfl A2 (B30 _ _ hv1) (.inl rfl) (B9 (.d (bo (!v1))) rfl rfl (sv rfl (gf rfl (fun w1=>(B2 rfl (gq rfl) rfl rfl)) (bs h fun v2 hv2 h=> ?_))))))))))))))
 refine U8 _ (bo v2) (T8 rfl) (fun w2=>⟨_,[(.d (.agg (D2 p3)))],_,_,(by simp only [A3 w2];rfl),rfl,A2,B30 _ _ (C7 w2 hv2),(.inl rfl)⟩) ?_
 refine Z7 _ (.d (bo (!v2))) rfl (T8 rfl) (fun w3=>(by simp only [A3 w3];rfl)) ?_
 refine sd rfl (A0u rfl rfl (fun hc=>A3 (L6 hc))) (A1 (cc rfl h (fun c1 h=> ?_) (fun c1 h=> ?_)))
 refine lr (fun u3 hu3=>sv rfl (A1 (B3 ?_)))
 cases h
 exact A7 (.inr rfl) (B6 (B4 rfl) E1) (.refl _)
 refine A9 (A6 (I6 rfl fun u4 hu4=>sd rfl (B2 rfl (gq rfl) rfl rfl) (bs h fun v3 hv3 h=>B1 rfl rfl A2 (A5c _ _ hv3) (.inl rfl) (sv rfl (sp rfl rfl (sl rfl (gq rfl) rfl (sv rfl (sn rfl rfl (sst rfl G_hit [(di v3.from_),(di p3.S)] rfl (A1 (lr (fun u5 hu5=>sd rfl (B2 rfl (gq rfl) rfl rfl) (sp rfl rfl (sl rfl (gq rfl) rfl (bs h fun v4 hv4 h=>B1 rfl rfl A2 (C0f _ _ _ hv4) (.inl rfl) (B9 (.fn _ _ _) rfl rfl (bs h fun v5 hv5 h=>B1 rfl (rD (C9 (C1a E2 (C9 (A2q (gq rfl) (rD E2)) (C9 (A2q G_hit (rD (rD E2))) E2))) E2)) A2 (A1k _ _ _ _ hv5) (.inr rfl) (sv rfl (A1 (B3 ?_))))))))))))))))))))
 cases h
 exact A7 (.inr rfl) (B6 (B4 rfl) E1) (.refl _)
noncomputable def Q6 (p1:WorldScene)(p2:Int)(p3:Int):Option Bool:=
  (A4n p1.before p2).bind fun v1=>((cond v1 (D6 p1.before.Agents p2) (some default))).bind fun v2=>((cond v1 (D6 p1.after.Agents p2) (some default))).bind fun v3=>((cond v1 (A77 p1.m v2 v3 p3) (some default))).bind fun v4=>some (v1&&v4)
theorem A0j (p1:WorldScene)(p2:Int)(p3:Int)(r:Bool)(h:Q6 p1 p2 p3=some r):PCall Tryz.prog 171 [(.bp (B01 p1) 0),(i64 p2),(i64 p3)] (bo r):=by
 refine B8 (fk Tryz.func171 Tryz.ntmps171 m0 (by with_unfolding_all rfl)) (nl rfl) ?_
 unfold Q6 at h
 refine B5 (s0:=⟨T [(0,(.d _)),(1,(.d _)),(2,(.d _))],G []⟩) (sbr rfl rfl) ?_
 refine lr (fun u1 hu1=>sv rfl (A1 (A6 (I6 rfl fun u2 hu2=>sv rfl (sv rfl (sv rfl (sv rfl (sv rfl (bs h fun v1 hv1 h=>B1 rfl rfl A2 (A8a _ _ _ hv1) (.inl rfl) (sv rfl (gt rfl (fun _=>rfl) ?_)))))))))))
 refine gt rfl (fun w2=>(by simp only [A3 w2];rfl)) ?_
 refine gt rfl (fun w3=>(by simp only [A3 w3];rfl)) ?_
 refine gt rfl (fun w4=>(by simp only [A3 w4];rfl)) ?_
 refine gt rfl (fun _=>rfl) ?_
 refine gt rfl (fun w6=>(by simp only [A3 w6];rfl)) ?_
 refine gt rfl (fun w7=>(by simp only [A3 w7];rfl)) ?_
 refine gt rfl (fun w8=>(by simp only [A3 w8];rfl)) ?_
 refine gt rfl (fun w9=>(by simp only [A3 w9];rfl)) ?_
 refine gt rfl (fun _=>rfl) (bs h fun v2 hv2 h=>gt rfl (fun w11=>(E4 (A3 w11) (A3 w11) (C7 w11 hv2) rfl)) (gt rfl (fun w12=>(C4 (A3 w12) (C7 w12 hv2) rfl rfl)) (gt rfl (fun _=>rfl) ?_)))
 refine gt rfl (fun w14=>(by simp only [A3 w14];rfl)) ?_
 refine gt rfl (fun w15=>(by simp only [A3 w15];rfl)) ?_
 refine gt rfl (fun w16=>(by simp only [A3 w16];rfl)) ?_
 refine gt rfl (fun w17=>(by simp only [A3 w17];rfl)) ?_
 refine gt rfl (fun _=>rfl) (bs h fun v3 hv3 h=>gt rfl (fun w19=>(E4 (A3 w19) (A3 w19) (C7 w19 hv3) rfl)) (gt rfl (fun w20=>(C4 (A3 w20) (C7 w20 hv3) rfl rfl)) (gt rfl (fun _=>rfl) (bs h fun v4 hv4 h=> ?_))))
 refine U8 v1 (bo v4) (A19 rfl) (fun w22=>⟨_,[(.d (.agg (A4h p1.m))),(.d (.agg (D2 v2))),(.d (.agg (D2 v3))),(di p3)],_,_,(by simp only [A3 w22];rfl),rfl,A2,B8o _ _ _ _ _ (C7 w22 hv4),(.inl rfl)⟩) ?_
 refine sa rfl rfl rfl (sv rfl (A1 (B3 ?_)))
 cases h
 exact A7 (.inr rfl) (B6 (B4 rfl) E1) (.refl _)
noncomputable def E8 (p1:(List Stay))(p2:Stay)(x1:(Int×Int)):Option (Stp (Int×Int) Int):=
  cond (decide (x1.1<x1.2)) ((D6 p1 (w64 ((IntKind.wrap .u64 (w64 (x1.1+x1.2))).fdiv (2^ (min (1:Int).toNat (IntKind.bits .u64)))))).bind fun v1=>(A3e v1 p2).bind fun v2=>cond (decide (v2<0)) (some (.go ((w64 ((w64 ((IntKind.wrap .u64 (w64 (x1.1+x1.2))).fdiv (2^ (min (1:Int).toNat (IntKind.bits .u64)))))+1)),x1.2))) (some (.go (x1.1,(w64 ((IntKind.wrap .u64 (w64 (x1.1+x1.2))).fdiv (2^ (min (1:Int).toNat (IntKind.bits .u64))))))))) (some (.out x1.1))
noncomputable def C8 (p1:(List Stay))(p2:Stay):Option (Int×Bool):=
  (loop (E8 p1 p2) (0,(p1.length:Int))).bind fun y1=>((cond (decide (y1< (p1.length:Int))) (D6 p1 y1) (some default))).bind fun v3=>((cond (decide (y1< (p1.length:Int))) (A3e v3 p2) (some default))).bind fun v4=>some (y1,((decide (y1< (p1.length:Int)))&& (v4==0)))
theorem L9 (p1:(List Stay))(p2:Stay)(r:(Int×Bool))(h:C8 p1 p2=some r):PCall Tryz.prog 172 [(.list (List.map L7 p1)),(.agg (L7 p2)),(.fn (.func 73) [] [])] (.tup [(i64 r.1),(bo r.2)]):=by
 refine B8 (fk Tryz.func172 Tryz.ntmps172 m0 (by with_unfolding_all rfl)) (nl rfl) ?_
 unfold C8 at h
 refine B5 (s0:=⟨T [(0,(.d _)),(1,(.d _)),(2,(.d _))],G []⟩) (sbr rfl rfl) ?_
 refine lr (fun u1 hu1=>sn rfl rfl (sv rfl (sv rfl (A1 (lr (fun u2 hu2=>sv rfl (sd rfl (E5 rfl) (sv rfl (A1 (lr (fun u3 hu3=>sv rfl (sv rfl (sv rfl (A1 (A6 (bs h fun y1 hy1 h=>E0 (fun s=> ∃g1:Unit,Sb ⟨T [(0,(dl L7 p1)),(2,(.d (.fn (.func 73) [] []))),(4,(.ptr (4,u1) 0)),(8,(di (p1.length:Int))),(9,(di y1))],G [((4,u1),some (.box 127 (B8n p2)))]⟩ s) ?_ ?_))))))))))))))))
 refine A8 (E7 (E8 p1 p2) (fun (x1:(Int×Int)) (g2:Unit)=>⟨T [(0,(dl L7 p1)),(2,(.d (.fn (.func 73) [] []))),(4,(.ptr (4,u1) 0)),(8,(di (p1.length:Int))),(9,(di x1.1)),(10,(di x1.2))],G [((4,u1),some (.box 127 (B8n p2)))]⟩) (0,(p1.length:Int)) () _ hy1 (sbr rfl rfl) ?_)
 intro x1 g2 z1 hz1 ez1
 unfold E8 at hz1
 refine A6 (lr (fun u4 hu4=>sv rfl (sv rfl (sv rfl (A1 (cc rfl hz1 (fun c1 hz1=> ?_) (fun c1 hz1=> ?_)))))))
 refine A9 (A8 (lr (fun u5 hu5=>sv rfl (sv rfl (sv rfl (sv rfl (sv rfl (sv rfl (sv rfl (A1 (A6 (I6 rfl fun u6 hu6=>sv rfl (sv rfl (sv rfl (bs hz1 fun v1 hv1 hz1=>sd rfl (E4 rfl rfl hv1 rfl) (sd rfl (C4 rfl hv1 rfl rfl) (sd rfl (B2 rfl G_hit rfl rfl) (bs hz1 fun v2 hv2 hz1=>B1 rfl rfl A2 (B1g _ _ _ hv2) (.inl rfl) (sv rfl (A1 (cc rfl hz1 (fun c2 hz1=> ?_) (fun c2 hz1=> ?_))))))))))))))))))))))
 refine D0 fun u7 hu7=>sv rfl (sv rfl (sv rfl (A1 (F9 (G3 ?_)))))
 cases hz1
 exact ⟨rfl,(),(sbr rfl rfl)⟩
 refine D0 fun u8 hu8=>sv rfl (sv rfl (A1 (F9 (G3 ?_))))
 cases hz1
 exact ⟨rfl,(),(sbr rfl rfl)⟩
 refine C3 rfl ?_
 cases hz1
 obtain rfl:=ez1 _ rfl
 refine ⟨nofun,C0 rfl (l_j ?_)⟩
 exact ⟨(),(sbr rfl rfl)⟩
 rintro _ ⟨g1,q1⟩
 refine B5 q1 (A6 (I6 rfl fun u9 hu9=>sv rfl (sv rfl (sv rfl (sv rfl (sv rfl (gt rfl (fun _=>rfl) (gt rfl (fun _=>rfl) (gt rfl (fun _=>rfl) (bs h fun v3 hv3 h=>gt rfl (fun w4=>(E4 (A3 w4) (A3 w4) (C7 w4 hv3) rfl)) (gt rfl (fun w5=>(C4 (A3 w5) (C7 w5 hv3) rfl rfl)) (gt rfl (fun w6=>(B2 rfl G_hit rfl rfl)) (bs h fun v4 hv4 h=> ?_)))))))))))))
 refine U8 _ (i64 v4) (A19 rfl) (fun w7=>⟨_,[(.d (.agg (L7 v3))),(.d (.agg (L7 p2)))],_,_,(by simp only [A3 w7];rfl),rfl,A2,B1g _ _ _ (C7 w7 hv4),(.inl rfl)⟩) ?_
 refine gt rfl (vb rfl rfl rfl) (sa rfl rfl rfl (sv rfl (sv rfl (A1 (B3 ?_)))))
 cases h
 exact A7 (.inr rfl) (B6j (B4 rfl) (B4 rfl) E1 E1) (.refl _)
noncomputable def A60 (p1:Part)(p2:Int):Option Bool:=
  some (p1.Lane_==p2)
theorem B7t (p1:Part)(p2:Int)(r:Bool)(h:A60 p1 p2=some r):PCall Tryz.prog 265 [(.agg (A6b p1)),(.bp [(i64 p2)] 0)] (bo r):=by
 refine B8 (fk Tryz.func265 Tryz.ntmps265 m0 (by with_unfolding_all rfl)) (nl rfl) ?_
 unfold A60 at h
 refine B5 (s0:=⟨T [(0,(.d _)),(1,(.d _))],G []⟩) (sbr rfl rfl) ?_
 refine lr (fun u1 hu1=>sn rfl rfl (sv rfl (A1 (lr (fun u2 hu2=>sp rfl rfl (sl rfl G_hit rfl (sv rfl (sv rfl (sv rfl (A1 (B3 ?_)))))))))))
 cases h
 exact A7 (.inr rfl) (B6 (B4 rfl) E1) (.refl _)
noncomputable def I9 (p1:(List Part))(p2:Int)(x1:Int):Option (Stp Int (Sum Unit Int)):=
  cond (decide (x1< (p1.length:Int))) ((D6 p1 x1).bind fun v1=>(A60 v1 p2).bind fun v2=>cond v2 (some (.out (.inr x1))) (some (.go (w64 (x1+1))))) (some (.out (.inl ())))
noncomputable def J9 (p1:(List Part))(p2:Int):Option Int:=
  thenS (loop (I9 p1 p2) 0) (fun _=>some (-1)) (fun r=>some r)
theorem A3g (p1:(List Part))(p2:Int)(r:Int)(h:J9 p1 p2=some r):PCall Tryz.prog 220 [(.list (List.map A6b p1)),(.fn (.func 265) [] [(.bp [(i64 p2)] 0)])] (i64 r):=by
 refine B8 (fk Tryz.func220 Tryz.ntmps220 m0 (by with_unfolding_all rfl)) (nl rfl) ?_
 unfold J9 at h
 refine B5 (s0:=⟨T [(0,(.d _)),(1,(.d _))],G []⟩) (sbr rfl rfl) ?_
 refine lr (fun u1 hu1=>sv rfl (A1 (A6 (lr (fun u2 hu2=>sv rfl (sd rfl (E5 rfl) (sv rfl (A1 (js h fun z1 hz1 h=>E0 (fun s=> ∃(y1:Unit) (g1:Unit),z1= .inl y1∧Sb ⟨T [],G []⟩ s) ?_ ?_)))))))))
 refine A8 (E7 (I9 p1 p2) (fun (x1:Int) (g2:Unit)=>⟨T [(0,(dl A6b p1)),(1,(.d (.fn (.func 265) [] [(.bp [(i64 p2)] 0)]))),(7,(di (p1.length:Int))),(8,(di x1))],G []⟩) 0 () _ hz1 (sbr rfl rfl) ?_)
 intro x1 g2 z2 hz2 ez2
 unfold I9 at hz2
 refine lr (fun u3 hu3=>sv rfl (A1 (A6 (cc rfl hz2 (fun c1 hz2=> ?_) (fun c1 hz2=> ?_)))))
 refine A9 (A6 (A8 (lr (fun u4 hu4=>sv rfl (sv rfl (A1 (lr (fun u5 hu5=>sv rfl (sv rfl (sv rfl (bs hz2 fun v1 hv1 hz2=>sd rfl (E4 rfl rfl hv1 rfl) (sd rfl (C4 rfl hv1 rfl rfl) (bs hz2 fun v2 hv2 hz2=>B1 rfl rfl A2 (B7t _ _ _ hv2) (.inl rfl) (A1 (cc rfl hz2 (fun c2 hz2=> ?_) (fun c2 hz2=> ?_))))))))))))))))
 refine lr (fun u6 hu6=>sv rfl (sv rfl (A1 (B3 ?_))))
 cases hz2
 obtain rfl:=ez2 _ rfl
 refine ⟨nofun,D7 ?_⟩
 rw [Sum.elim_inr]at h
 cases h
 exact A7 (.inr rfl) (B6 (B4 rfl) E1) (.refl _)
 refine A9 (F9 (D0 fun u7 hu7=>sv rfl (sv rfl (A1 (G3 ?_)))))
 cases hz2
 exact ⟨rfl,(),(sbr rfl rfl)⟩
 refine C3 rfl ?_
 cases hz2
 obtain rfl:=ez2 _ rfl
 refine ⟨nofun,C0 rfl (l_j ?_)⟩
 exact ⟨_,(),rfl,(sbr rfl rfl)⟩
 rintro _ ⟨y1,g1,rfl,q1⟩
 rw [Sum.elim_inl]at h
 refine B5 q1 (lr (fun u8 hu8=>sv rfl (A1 (B3 ?_))))
 cases h
 exact A7 (.inr rfl) (B6 (B4 rfl) E1) (.refl _)
noncomputable def B2e (p1:Zone)(p2:Int):Option (Part×Bool):=
  (J9 p1.Parts p2).bind fun v1=>cond (decide (v1<0)) (some ((Part.mk 0 0 0 0),false)) ((D6 p1.Parts v1).bind fun v2=>some (v2,true))
theorem C33 (p1:Zone)(p2:Int)(r:(Part×Bool))(h:B2e p1 p2=some r):PCall Tryz.prog 251 [(.agg [(.list (List.map A6b p1.Parts)),(i64 p1.Signal_)]),(i64 p2)] (.tup [(.agg (A6b r.1)),(bo r.2)]):=by
 refine B8 (fk Tryz.func251 Tryz.ntmps251 m0 (by with_unfolding_all rfl)) (nl rfl) ?_
 unfold B2e at h
 refine B5 (s0:=⟨T [(0,(.d _)),(1,(.d _))],G []⟩) (sbr rfl rfl) ?_
 refine lr (fun u1 hu1=>sn rfl rfl (sn rfl rfl (sn rfl rfl (sv rfl (A1 (lr (fun u2 hu2=>sp rfl rfl (sl rfl (gq rfl) rfl (B9 (.fn _ _ _) rfl rfl (bs h fun v1 hv1 h=>B1 rfl (rD (C9 (C1a E2 (C9 (A2q (gq rfl) (rD E2)) E2)) E2)) A2 (A3g _ _ _ hv1) (.inr rfl) (sv rfl (A1 (A6 (lr (fun u3 hu3=>sv rfl (sv rfl (A1 (cc rfl h (fun c1 h=> ?_) (fun c1 h=> ?_)))))))))))))))))))
 refine lr (fun u4 hu4=>sv rfl (sst rfl G_hit (zs 4) rfl (sv rfl (A1 (B3 ?_)))))
 cases h
 exact A7 (.inr rfl) (B6j (K9 rfl G_hit (nl rfl) rfl) (B4 rfl) E1 E1) (.refl _)
 refine A9 (lr (fun u5 hu5=>sp rfl rfl (sl rfl (gq rfl) rfl (sv rfl (bs h fun v2 hv2 h=>sd rfl (E4 rfl rfl hv2 rfl) (sd rfl (C4 rfl hv2 rfl rfl) (sst rfl G_hit (C62 v2) rfl (sv rfl (A1 (B3 ?_))))))))))
 cases h
 exact A7 (.inr rfl) (B6j (K9 rfl G_hit (nl rfl) rfl) (B4 rfl) E1 E1) (.refl _)
noncomputable def A30 (p1:Int)(p2:Map)(p3:Int):Option Bool:=
  (D6 p2.Zones p3).bind fun v1=>(B2e v1 p1).bind fun v2=>some v2.2
theorem B4x (p1:Int)(p2:Map)(p3:Int)(r:Bool)(h:A30 p1 p2 p3=some r):PCall Tryz.prog 250 [(i64 p1),(.bp (A4h p2) 0),(.bp [(i64 p3)] 0)] (bo r):=by
 refine B8 (fk Tryz.func250 Tryz.ntmps250 m0 (by with_unfolding_all rfl)) (nl rfl) ?_
 unfold A30 at h
 refine B5 (s0:=⟨T [(0,(.d _)),(1,(.d _)),(2,(.d _))],G []⟩) (sbr rfl rfl) ?_
 refine lr (fun u1 hu1=>sv rfl (A1 (lr (fun u2 hu2=>sv rfl (sv rfl (sv rfl (bs h fun v1 hv1 h=>sd rfl (E4 rfl rfl hv1 rfl) (sd rfl (C4 rfl hv1 rfl rfl) (sv rfl (bs h fun v2 hv2 h=>B1 rfl rfl A2 (C33 _ _ _ hv2) (.inl rfl) (sv rfl (sv rfl (sv rfl (sn rfl rfl (sst rfl G_hit (C62 v2.1) rfl (sv rfl (A1 (lr (fun u3 hu3=>sv rfl (sv rfl (A1 (B3 ?_))))))))))))))))))))))
 cases h
 exact A7 (.inr rfl) (B6 (B4 rfl) E1) (.refl _)
noncomputable def J0 (p1:(List Int))(p2:Map)(p3:Int)(x1:Int):Option (Stp Int (Sum Unit Int)):=
  cond (decide (x1< (p1.length:Int))) ((D6 p1 x1).bind fun v1=>(A30 v1 p2 p3).bind fun v2=>cond v2 (some (.out (.inr x1))) (some (.go (w64 (x1+1))))) (some (.out (.inl ())))
noncomputable def K0 (p1:(List Int))(p2:Map)(p3:Int):Option Int:=
  thenS (loop (J0 p1 p2 p3) 0) (fun _=>some (-1)) (fun r=>some r)
theorem A3h (p1:(List Int))(p2:Map)(p3:Int)(r:Int)(h:K0 p1 p2 p3=some r):PCall Tryz.prog 249 [(.list (List.map A5 p1)),(.fn (.func 250) [] [(.bp (A4h p2) 0),(.bp [(i64 p3)] 0)])] (i64 r):=by
 refine B8 (fk Tryz.func249 Tryz.ntmps249 m0 (by with_unfolding_all rfl)) (nl rfl) ?_
 unfold K0 at h
 refine B5 (s0:=⟨T [(0,(.d _)),(1,(.d _))],G []⟩) (sbr rfl rfl) ?_
 refine lr (fun u1 hu1=>sv rfl (A1 (A6 (lr (fun u2 hu2=>sv rfl (sd rfl (E5 rfl) (sv rfl (A1 (js h fun z1 hz1 h=>E0 (fun s=> ∃(y1:Unit) (g1:Unit),z1= .inl y1∧Sb ⟨T [],G []⟩ s) ?_ ?_)))))))))
 refine A8 (E7 (J0 p1 p2 p3) (fun (x1:Int) (g2:Unit)=>⟨T [(0,(dl A5 p1)),(1,(.d (.fn (.func 250) [] [(.bp (A4h p2) 0),(.bp [(i64 p3)] 0)]))),(7,(di (p1.length:Int))),(8,(di x1))],G []⟩) 0 () _ hz1 (sbr rfl rfl) ?_)
 intro x1 g2 z2 hz2 ez2
 unfold J0 at hz2
 refine lr (fun u3 hu3=>sv rfl (A1 (A6 (cc rfl hz2 (fun c1 hz2=> ?_) (fun c1 hz2=> ?_)))))
 refine A9 (A6 (A8 (lr (fun u4 hu4=>sv rfl (sv rfl (A1 (lr (fun u5 hu5=>sv rfl (sv rfl (sv rfl (bs hz2 fun v1 hv1 hz2=>sd rfl (E4 rfl rfl hv1 rfl) (sd rfl (F3 rfl hv1 rfl) (bs hz2 fun v2 hv2 hz2=>B1 rfl rfl A2 (B4x _ _ _ _ hv2) (.inl rfl) (A1 (cc rfl hz2 (fun c2 hz2=> ?_) (fun c2 hz2=> ?_))))))))))))))))
 refine lr (fun u6 hu6=>sv rfl (sv rfl (A1 (B3 ?_))))
 cases hz2
 obtain rfl:=ez2 _ rfl
 refine ⟨nofun,D7 ?_⟩
 rw [Sum.elim_inr]at h
 cases h
 exact A7 (.inr rfl) (B6 (B4 rfl) E1) (.refl _)
 refine A9 (F9 (D0 fun u7 hu7=>sv rfl (sv rfl (A1 (G3 ?_)))))
 cases hz2
 exact ⟨rfl,(),(sbr rfl rfl)⟩
 refine C3 rfl ?_
 cases hz2
 obtain rfl:=ez2 _ rfl
 refine ⟨nofun,C0 rfl (l_j ?_)⟩
 exact ⟨_,(),rfl,(sbr rfl rfl)⟩
 rintro _ ⟨y1,g1,rfl,q1⟩
 rw [Sum.elim_inl]at h
 refine B5 q1 (lr (fun u8 hu8=>sv rfl (A1 (B3 ?_))))
 cases h
 exact A7 (.inr rfl) (B6 (B4 rfl) E1) (.refl _)
noncomputable def B09 (p1:Map)(p2:(List Int))(p3:Int):Option Int:=
  (A0z p1 p2).bind fun v1=>cond ((decide (p3<0))||(decide (p3≥(p1.Zones.length:Int)))) (some (-1)) ((K0 v1.lanes p1 p3).bind fun v2=>some v2)
theorem C1f (p1:Map)(p2:(List Int))(p3:Int)(r:Int)(h:B09 p1 p2 p3=some r):PCall Tryz.prog 222 [(.agg (A4h p1)),(.list (List.map A5 p2)),(i64 p3)] (i64 r):=by
 refine B8 (fk Tryz.func222 Tryz.ntmps222 m0 (by with_unfolding_all rfl)) (nl rfl) ?_
 unfold B09 at h
 refine B5 (s0:=⟨T [(0,(.d _)),(1,(.d _)),(2,(.d _))],G []⟩) (sbr rfl rfl) ?_
 refine lr (fun u1 hu1=>sn rfl rfl (sn rfl rfl (sv rfl (A1 (lr (fun u2 hu2=>sd rfl (B2 rfl (gq rfl) rfl rfl) (sv rfl (bs h fun v1 hv1 h=>B1 rfl rfl A2 (A76 _ _ _ hv1) (.inl rfl) (sn rfl rfl (sst rfl G_hit (B02 v1) rfl (A1 (A6 (lr (fun u3 hu3=>sl rfl (gq rfl) rfl (sv rfl (sv rfl (gf rfl (fun w1=>(X1 rfl (gq rfl) rfl)) (gp rfl (T8 rfl) (fun _=>rfl) (gf rfl (vl rfl (gq rfl) rfl) (gf rfl (fun w4=>(E5 (A3 w4))) (gf rfl (fun w5=>(V8 (A3 w5) (A3 w5) rfl)) (sd rfl (A0u rfl rfl (fun hc=>A3 (L6 hc))) (A1 (cc rfl h (fun c1 h=> ?_) (fun c1 h=> ?_)))))))))))))))))))))))))
 refine lr (fun u4 hu4=>sv rfl (A1 (B3 ?_)))
 cases h
 exact A7 (.inr rfl) (B6 (B4 rfl) E1) (.refl _)
 refine A9 (lr (fun u5 hu5=>sp rfl rfl (sl rfl G_hit rfl (B9 (.fn _ _ _) rfl rfl (bs h fun v2 hv2 h=>B1 rfl (rD (C9 (C1a E2 (C9 (A2q (gq rfl) (rD (rD (rD (rD (rD E2)))))) (C9 (A2q (gq rfl) (rD E2)) E2))) E2)) A2 (A3h _ _ _ _ hv2) (.inr rfl) (sv rfl (A1 (B3 ?_))))))))
 cases h
 exact A7 (.inr rfl) (B6 (B4 rfl) E1) (.refl _)
noncomputable def A6d (p1:Map)(p2:(List Int))(p3:Int):Option Int:=
  (B09 p1 p2 p3).bind fun v1=>cond (decide (v1≥0)) ((D6 p2 v1).bind fun v2=>some v2) (some (-1))
theorem B1h (p1:Map)(p2:(List Int))(p3:Int)(r:Int)(h:A6d p1 p2 p3=some r):PCall Tryz.prog 175 [(.agg (A4h p1)),(.list (List.map A5 p2)),(i64 p3)] (i64 r):=by
 refine B8 (fk Tryz.func175 Tryz.ntmps175 m0 (by with_unfolding_all rfl)) (nl rfl) ?_
 unfold A6d at h
 refine B5 (s0:=⟨T [(0,(.d _)),(1,(.d _)),(2,(.d _))],G []⟩) (sbr rfl rfl) ?_
 refine lr (fun u1 hu1=>sn rfl rfl (sv rfl (A1 (A6 (lr (fun u2 hu2=>sd rfl (B2 rfl G_hit rfl rfl) (sv rfl (sv rfl (bs h fun v1 hv1 h=>B1 rfl rfl A2 (C1f _ _ _ _ hv1) (.inl rfl) (sv rfl (A1 (lr (fun u3 hu3=>sv rfl (sv rfl (A1 (cc rfl h (fun c1 h=> ?_) (fun c1 h=> ?_)))))))))))))))))
 refine lr (fun u4 hu4=>sv rfl (sv rfl (bs h fun v2 hv2 h=>sd rfl (E4 rfl rfl hv2 rfl) (sd rfl (F3 rfl hv2 rfl) (sv rfl (A1 (B3 ?_)))))))
 cases h
 exact A7 (.inr rfl) (B6 (B4 rfl) E1) (.refl _)
 refine A9 (lr (fun u5 hu5=>sv rfl (A1 (B3 ?_))))
 cases h
 exact A7 (.inr rfl) (B6 (B4 rfl) E1) (.refl _)
noncomputable def B31 (p1:Map)(p2:Int):Option Bool:=
  ((cond ((decide (p2≥0))&& (decide (p2< (p1.Lanes.length:Int)))) (A3c p1) (some default))).bind fun v1=>some (((decide (p2≥0))&& (decide (p2< (p1.Lanes.length:Int))))&& (v1==0))
theorem B5t (p1:Map)(p2:Int)(r:Bool)(h:B31 p1 p2=some r):PCall Tryz.prog 206 [(.agg (A4h p1)),(i64 p2)] (bo r):=by
 refine B8 (fk Tryz.func206 Tryz.ntmps206 m0 (by with_unfolding_all rfl)) (nl rfl) ?_
 unfold B31 at h
 refine B5 (s0:=⟨T [(0,(.d _)),(1,(.d _))],G []⟩) (sbr rfl rfl) ?_
 refine lr (fun u1 hu1=>sn rfl rfl (sv rfl (A1 (lr (fun u2 hu2=>sv rfl (sv rfl (sv rfl (gt rfl (fun _=>rfl) (gp rfl (A19 rfl) (fun _=>rfl) (gt rfl (vl rfl G_hit rfl) (gt rfl (fun w4=>(E5 (A3 w4))) (gt rfl (fun w5=>(V8 (A3 w5) (A3 w5) rfl)) (sa rfl rfl rfl (sv rfl (gt rfl (fun w6=>(B2 rfl G_hit rfl rfl)) (bs h fun v1 hv1 h=> ?_))))))))))))))))
 refine U8 _ (i64 v1) (A19 rfl) (fun w7=>⟨_,[(.d (.agg (A4h p1)))],_,_,(by simp only [A3 w7];rfl),rfl,A2,B1f _ _ (C7 w7 hv1),(.inl rfl)⟩) ?_
 refine gt rfl (vb rfl rfl rfl) (sa rfl rfl rfl (sv rfl (A1 (B3 ?_))))
 cases h
 exact A7 (.inr rfl) (B6 (B4 rfl) E1) (.refl _)
noncomputable def A61 (p1:Signal)(p2:Int)(x2:(Int×Int)):Option (Stp (Int×Int) (Sum Unit Bool)):=
  cond (decide (x2.2< (p1.Phases.length:Int))) ((D6 p1.Phases x2.2).bind fun v5=>cond (decide (x2.1≥v5.Ticks)) (some (.go ((w64 (x2.1 - v5.Ticks)),(w64 (x2.2+1))))) ((L8 v5.Green p2).bind fun v6=>some (.out (.inr v6)))) (some (.out (.inl ())))
noncomputable def A62 (p1:Signal)(x1:(Int×Int)):Option (Stp (Int×Int) Int):=
  cond (decide (x1.2< (p1.Phases.length:Int))) ((D6 p1.Phases x1.2).bind fun v1=>some (.go ((w64 (x1.1+v1.Ticks)),(w64 (x1.2+1))))) (some (.out x1.1))
noncomputable def A80 (p1:Signal)(p2:Int)(p3:Int):Option Bool:=
  (loop (A62 p1) (0,0)).bind fun y1=>(D0d p1.Offset y1).bind fun v2=>(D0d p3 y1).bind fun v3=>(D0d (w64 (v2+v3)) y1).bind fun v4=>thenS (loop (A61 p1 p2) (v4,0)) (fun _=>some false) (fun r=>some r)
theorem B59 (p1:Signal)(p2:Int)(p3:Int)(r:Bool)(h:A80 p1 p2 p3=some r):PCall Tryz.prog 248 [(.agg [(i64 p1.Offset),(.list (List.map A5q p1.Phases))]),(i64 p2),(i64 p3)] (bo r):=by
 refine B8 (fk Tryz.func248 Tryz.ntmps248 m0 (by with_unfolding_all rfl)) (nl rfl) ?_
 unfold A80 at h
 refine B5 (s0:=⟨T [(0,(.d _)),(1,(.d _)),(2,(.d _))],G []⟩) (sbr rfl rfl) ?_
 refine lr (fun u1 hu1=>sn rfl rfl (sv rfl (A1 (D5w (lr (fun u2 hu2=>sv rfl (A1 (A6 (lr (fun u3 hu3=>sp rfl rfl (sl rfl G_hit rfl (sd rfl (E5 rfl) (sv rfl (A1 (bs h fun y1 hy1 h=>E0 (fun s=> ∃g1:Unit,Sb ⟨T [(1,(di p2)),(2,(di p3)),(3,(.ptr (3,u1) 0)),(7,(di y1))],G [((3,u1),some (.box 120 [(di p1.Offset),(dl A5q p1.Phases)]))]⟩ s) ?_ ?_)))))))))))))))
 refine A8 (E7 (A62 p1) (fun (x1:(Int×Int)) (g2:Unit)=>⟨T [(1,(di p2)),(2,(di p3)),(3,(.ptr (3,u1) 0)),(7,(di x1.1)),(14,(dl A5q p1.Phases)),(15,(di (p1.Phases.length:Int))),(16,(di x1.2))],G [((3,u1),some (.box 120 [(di p1.Offset),(dl A5q p1.Phases)]))]⟩) (0,0) () _ hy1 (sbr rfl rfl) ?_)
 intro x1 g2 z1 hz1 ez1
 unfold A62 at hz1
 refine lr (fun u4 hu4=>sv rfl (A1 (A6 (cc rfl hz1 (fun c1 hz1=> ?_) (fun c1 hz1=> ?_)))))
 refine A9 (A6 (A8 (lr (fun u5 hu5=>bs hz1 fun v1 hv1 hz1=>sd rfl (E4 rfl rfl hv1 rfl) (sd rfl (C4 rfl hv1 rfl rfl) (sn rfl rfl (sst rfl G_hit [(di v1.Ticks),(dl A5 v1.Green)] rfl (A1 (D0 fun u6 hu6=>sv rfl (sp rfl rfl (sl rfl G_hit rfl (sv rfl (sv rfl (A1 (F9 (D0 fun u7 hu7=>sv rfl (sv rfl (A1 (G3 ?_)))))))))))))))))))
 cases hz1
 exact ⟨rfl,(),(sbr rfl rfl)⟩
 refine C3 rfl ?_
 cases hz1
 obtain rfl:=ez1 _ rfl
 refine ⟨nofun,C0 rfl (l_j ?_)⟩
 exact ⟨(),(sbr rfl rfl)⟩
 rintro _ ⟨g1,q1⟩
 refine B5 q1 (A6 (I6 rfl fun u8 hu8=>sp rfl rfl (sl rfl G_hit rfl (sv rfl (bs h fun v2 hv2 h=>sd rfl (D3a rfl rfl hv2) (sv rfl (sv rfl (bs h fun v3 hv3 h=>sd rfl (D3a rfl rfl hv3) (sv rfl (sv rfl (bs h fun v4 hv4 h=>sd rfl (D3a rfl rfl hv4) (sv rfl (A1 (A6 (A9 (A6 (lr (fun u9 hu9=>sp rfl rfl (sl rfl G_hit rfl (sd rfl (E5 rfl) (sv rfl (A1 (js h fun z2 hz2 h=>E0 (fun s=> ∃(y2:Unit) (g3:Unit),z2= .inl y2∧Sb ⟨T [],G []⟩ s) ?_ ?_)))))))))))))))))))))))
 refine A8 (E7 (A61 p1 p2) (fun (x2:(Int×Int)) (g4:Unit)=>⟨T [(1,(di p2)),(10,(di x2.1)),(36,(dl A5q p1.Phases)),(37,(di (p1.Phases.length:Int))),(38,(di x2.2))],G []⟩) (v4,0) () _ hz2 (sbr rfl rfl) ?_)
 intro x2 g4 z3 hz3 ez3
 unfold A61 at hz3
 refine lr (fun u10 hu10=>sv rfl (A1 (A6 (cc rfl hz3 (fun c2 hz3=> ?_) (fun c2 hz3=> ?_)))))
 refine A9 (A6 (A8 (lr (fun u11 hu11=>bs hz3 fun v5 hv5 hz3=>sd rfl (E4 rfl rfl hv5 rfl) (sd rfl (C4 rfl hv5 rfl rfl) (sn rfl rfl (sst rfl G_hit [(di v5.Ticks),(dl A5 v5.Green)] rfl (A1 (A6 (lr (fun u12 hu12=>sv rfl (sp rfl rfl (sl rfl G_hit rfl (sv rfl (A1 (cc rfl hz3 (fun c3 hz3=> ?_) (fun c3 hz3=> ?_)))))))))))))))))
 refine lr (fun u13 hu13=>sv rfl (sp rfl rfl (sl rfl G_hit rfl (sv rfl (sv rfl (A1 (B9t rfl (D0 fun u14 hu14=>sv rfl (sv rfl (A1 (G3 ?_)))))))))))
 cases hz3
 exact ⟨rfl,(),(sbr rfl rfl)⟩
 refine A9 (lr (fun u15 hu15=>sp rfl rfl (sl rfl G_hit rfl (sv rfl (bs hz3 fun v6 hv6 hz3=>B1 rfl rfl A2 (A1m _ _ _ hv6) (.inl rfl) (sv rfl (A1 (B3 ?_))))))))
 cases hz3
 obtain rfl:=ez3 _ rfl
 refine ⟨nofun,D7 ?_⟩
 rw [Sum.elim_inr]at h
 cases h
 exact A7 (.inr rfl) (B6 (B4 rfl) E1) (.refl _)
 refine C3 rfl ?_
 cases hz3
 obtain rfl:=ez3 _ rfl
 refine ⟨nofun,C0 rfl (l_j ?_)⟩
 exact ⟨_,(),rfl,(sbr rfl rfl)⟩
 rintro _ ⟨y2,g3,rfl,q2⟩
 rw [Sum.elim_inl]at h
 refine B5 q2 (lr (fun u16 hu16=>sv rfl (A1 (B3 ?_))))
 cases h
 exact A7 (.inr rfl) (B6 (B4 rfl) E1) (.refl _)
noncomputable def B0a (p1:Map)(p2:Int)(p3:Int)(p4:Int):Option Bool:=
  ((cond (((decide (p4≥0))&& (decide (p2≥0)))&& (decide (p2< (p1.Signals.length:Int)))) (B31 p1 p3) (some default))).bind fun v1=>((cond ((((decide (p4≥0))&& (decide (p2≥0)))&& (decide (p2< (p1.Signals.length:Int))))&&v1) (D6 p1.Signals p2) (some default))).bind fun v2=>((cond ((((decide (p4≥0))&& (decide (p2≥0)))&& (decide (p2< (p1.Signals.length:Int))))&&v1) (A80 v2 p3 p4) (some default))).bind fun v3=>some (((((decide (p4≥0))&& (decide (p2≥0)))&& (decide (p2< (p1.Signals.length:Int))))&&v1)&&v3)
theorem C1g (p1:Map)(p2:Int)(p3:Int)(p4:Int)(r:Bool)(h:B0a p1 p2 p3 p4=some r):PCall Tryz.prog 219 [(.agg (A4h p1)),(i64 p2),(i64 p3),(i64 p4)] (bo r):=by
 refine B8 (fk Tryz.func219 Tryz.ntmps219 m0 (by with_unfolding_all rfl)) (nl rfl) ?_
 unfold B0a at h
 refine B5 (s0:=⟨T [(0,(.d _)),(1,(.d _)),(2,(.d _)),(3,(.d _))],G []⟩) (sbr rfl rfl) ?_
 refine lr (fun u1 hu1=>sn rfl rfl (sv rfl (A1 (lr (fun u2 hu2=>sv rfl (sv rfl (sv rfl (gt rfl (fun _=>rfl) (gt rfl (vb rfl rfl rfl) (sa rfl rfl rfl (sv rfl (gt rfl (fun _=>rfl) (gp rfl (A19 rfl) (fun _=>rfl) (gt rfl (vl rfl G_hit rfl) (gt rfl (fun w6=>(E5 (A3 w6))) (gt rfl (fun w7=>(V8 (A3 w7) (A3 w7) rfl)) (sa rfl rfl rfl (sv rfl (gt rfl (fun w8=>(B2 rfl G_hit rfl rfl)) (gt rfl (fun _=>rfl) (bs h fun v1 hv1 h=> ?_)))))))))))))))))))))
 refine U8 _ (bo v1) (A19 rfl) (fun w10=>⟨_,[(.d (.agg (A4h p1))),(di p3)],_,_,(by simp only [A3 w10];rfl),rfl,A2,B5t _ _ _ (C7 w10 hv1),(.inl rfl)⟩) ?_
 refine sa rfl rfl rfl (sv rfl (gp rfl (A19 rfl) (fun _=>rfl) (gt rfl (vl rfl G_hit rfl) (gt rfl (fun _=>rfl) (bs h fun v2 hv2 h=>gt rfl (fun w14=>(E4 (A3 w14) (A3 w14) (C7 w14 hv2) rfl)) (gt rfl (fun w15=>(C4 (A3 w15) (C7 w15 hv2) rfl rfl)) (gt rfl (fun _=>rfl) (gt rfl (fun _=>rfl) (bs h fun v3 hv3 h=> ?_)))))))))
 refine U8 _ (bo v3) (A19 rfl) (fun w18=>⟨_,[(.d (.agg [(i64 v2.Offset),(.list (List.map A5q v2.Phases))])),(di p3),(di p4)],_,_,(by simp only [A3 w18];rfl),rfl,A2,B59 _ _ _ _ (C7 w18 hv3),(.inl rfl)⟩) ?_
 refine sa rfl rfl rfl (sv rfl (A1 (B3 ?_)))
 cases h
 exact A7 (.inr rfl) (B6 (B4 rfl) E1) (.refl _)
noncomputable def A63 (p1:Part)(p2:Int):Option Bool:=
  some (p1.Lane_==p2)
theorem B7u (p1:Part)(p2:Int)(r:Bool)(h:A63 p1 p2=some r):PCall Tryz.prog 221 [(.agg (A6b p1)),(.bp [(i64 p2)] 0)] (bo r):=by
 refine B8 (fk Tryz.func221 Tryz.ntmps221 m0 (by with_unfolding_all rfl)) (nl rfl) ?_
 unfold A63 at h
 refine B5 (s0:=⟨T [(0,(.d _)),(1,(.d _))],G []⟩) (sbr rfl rfl) ?_
 refine lr (fun u1 hu1=>sn rfl rfl (sv rfl (A1 (lr (fun u2 hu2=>sp rfl rfl (sl rfl G_hit rfl (sv rfl (sv rfl (sv rfl (A1 (B3 ?_)))))))))))
 cases h
 exact A7 (.inr rfl) (B6 (B4 rfl) E1) (.refl _)
noncomputable def J1 (p1:(List Part))(p2:Int)(x1:Int):Option (Stp Int (Sum Unit Int)):=
  cond (decide (x1< (p1.length:Int))) ((D6 p1 x1).bind fun v1=>(A63 v1 p2).bind fun v2=>cond v2 (some (.out (.inr x1))) (some (.go (w64 (x1+1))))) (some (.out (.inl ())))
noncomputable def K1 (p1:(List Part))(p2:Int):Option Int:=
  thenS (loop (J1 p1 p2) 0) (fun _=>some (-1)) (fun r=>some r)
theorem A3i (p1:(List Part))(p2:Int)(r:Int)(h:K1 p1 p2=some r):PCall Tryz.prog 220 [(.list (List.map A6b p1)),(.fn (.func 221) [] [(.bp [(i64 p2)] 0)])] (i64 r):=by
 refine B8 (fk Tryz.func220 Tryz.ntmps220 m0 (by with_unfolding_all rfl)) (nl rfl) ?_
 unfold K1 at h
 refine B5 (s0:=⟨T [(0,(.d _)),(1,(.d _))],G []⟩) (sbr rfl rfl) ?_
 refine lr (fun u1 hu1=>sv rfl (A1 (A6 (lr (fun u2 hu2=>sv rfl (sd rfl (E5 rfl) (sv rfl (A1 (js h fun z1 hz1 h=>E0 (fun s=> ∃(y1:Unit) (g1:Unit),z1= .inl y1∧Sb ⟨T [],G []⟩ s) ?_ ?_)))))))))
 refine A8 (E7 (J1 p1 p2) (fun (x1:Int) (g2:Unit)=>⟨T [(0,(dl A6b p1)),(1,(.d (.fn (.func 221) [] [(.bp [(i64 p2)] 0)]))),(7,(di (p1.length:Int))),(8,(di x1))],G []⟩) 0 () _ hz1 (sbr rfl rfl) ?_)
 intro x1 g2 z2 hz2 ez2
 unfold J1 at hz2
 refine lr (fun u3 hu3=>sv rfl (A1 (A6 (cc rfl hz2 (fun c1 hz2=> ?_) (fun c1 hz2=> ?_)))))
 refine A9 (A6 (A8 (lr (fun u4 hu4=>sv rfl (sv rfl (A1 (lr (fun u5 hu5=>sv rfl (sv rfl (sv rfl (bs hz2 fun v1 hv1 hz2=>sd rfl (E4 rfl rfl hv1 rfl) (sd rfl (C4 rfl hv1 rfl rfl) (bs hz2 fun v2 hv2 hz2=>B1 rfl rfl A2 (B7u _ _ _ hv2) (.inl rfl) (A1 (cc rfl hz2 (fun c2 hz2=> ?_) (fun c2 hz2=> ?_))))))))))))))))
 refine lr (fun u6 hu6=>sv rfl (sv rfl (A1 (B3 ?_))))
 cases hz2
 obtain rfl:=ez2 _ rfl
 refine ⟨nofun,D7 ?_⟩
 rw [Sum.elim_inr]at h
 cases h
 exact A7 (.inr rfl) (B6 (B4 rfl) E1) (.refl _)
 refine A9 (F9 (D0 fun u7 hu7=>sv rfl (sv rfl (A1 (G3 ?_)))))
 cases hz2
 exact ⟨rfl,(),(sbr rfl rfl)⟩
 refine C3 rfl ?_
 cases hz2
 obtain rfl:=ez2 _ rfl
 refine ⟨nofun,C0 rfl (l_j ?_)⟩
 exact ⟨_,(),rfl,(sbr rfl rfl)⟩
 rintro _ ⟨y1,g1,rfl,q1⟩
 rw [Sum.elim_inl]at h
 refine B5 q1 (lr (fun u8 hu8=>sv rfl (A1 (B3 ?_))))
 cases h
 exact A7 (.inr rfl) (B6 (B4 rfl) E1) (.refl _)
noncomputable def A9t (p1:Map)(p2:Agent)(p3:Int)(p4:Int):Option Int:=
  (A6d p1 p2.Route p3).bind fun v1=>cond (decide (v1<0)) (some 0) ((D6 p1.Zones p3).bind fun v2=>((cond (decide (v2.Signal_>0)) (B0a p1 (w64 (v2.Signal_ - 1)) v1 p4) (some default))).bind fun v3=>cond ((decide (v2.Signal_>0))&&v3) (some 2) (cond (decide (v2.Signal_>0)) (some 0) ((K1 v2.Parts v1).bind fun v4=>(D6 v2.Parts v4).bind fun v5=>some v5.Rank)))
theorem B6w (p1:Map)(p2:Agent)(p3:Int)(p4:Int)(r:Int)(h:A9t p1 p2 p3 p4=some r):PCall Tryz.prog 173 [(.agg (A4h p1)),(.agg (D2 p2)),(i64 p3),(i64 p4)] (i64 r):=by
 refine B8 (fk Tryz.func173 Tryz.ntmps173 m0 (by with_unfolding_all rfl)) (nl rfl) ?_
 unfold A9t at h
 refine B5 (s0:=⟨T [(0,(.d _)),(1,(.d _)),(2,(.d _)),(3,(.d _))],G []⟩) (sbr rfl rfl) ?_
 refine lr (fun u1 hu1=>sn rfl rfl (sn rfl rfl (sv rfl (A1 (lr (fun u2 hu2=>sd rfl (B2 rfl (gq rfl) rfl rfl) (sp rfl rfl (sl rfl G_hit rfl (sv rfl (bs h fun v1 hv1 h=>B1 rfl rfl A2 (B1h _ _ _ _ hv1) (.inl rfl) (sn rfl rfl (sst rfl G_hit [(di v1)] rfl (A1 (A6 (lr (fun u3 hu3=>sl rfl G_hit rfl (sv rfl (A1 (cc rfl h (fun c1 h=> ?_) (fun c1 h=> ?_))))))))))))))))))))
 refine lr (fun u4 hu4=>sv rfl (A1 (B3 ?_)))
 cases h
 exact A7 (.inr rfl) (B6 (B4 rfl) E1) (.refl _)
 refine A9 (lr (fun u5 hu5=>sp rfl rfl (sl rfl (gq rfl) rfl (sv rfl (bs h fun v2 hv2 h=>sd rfl (E4 rfl rfl hv2 rfl) (sd rfl (C4 rfl hv2 rfl rfl) (sn rfl rfl (sst rfl G_hit [(dl A6b v2.Parts),(di v2.Signal_)] rfl (A1 (A6 (A8 (lr (fun u6 hu6=>sp rfl rfl (sl rfl G_hit rfl (sv rfl (sv rfl (gt rfl (fun w1=>(B2 rfl (gq rfl) rfl rfl)) (gp rfl (A19 rfl) (fun _=>rfl) (gt rfl (vl rfl G_hit rfl) (gt rfl (vb rfl rfl rfl) (gt rfl (fun w5=>(X1 rfl (gq rfl) rfl)) (gt rfl (fun _=>rfl) (bs h fun v3 hv3 h=> ?_)))))))))))))))))))))))
 refine U8 _ (bo v3) (A19 rfl) (fun w7=>⟨_,[(.d (.agg (A4h p1))),(di (w64 (v2.Signal_ - 1))),(di v1),(di p4)],_,_,(by simp only [A3 w7];rfl),rfl,A2,C1g _ _ _ _ _ (C7 w7 hv3),(.inl rfl)⟩) ?_
 refine sa rfl rfl rfl (sv rfl (A1 (cc rfl h (fun c2 h=> ?_) (fun c2 h=> ?_))))
 refine lr (fun u7 hu7=>sv rfl (A1 (B3 ?_)))
 cases h
 exact A7 (.inr rfl) (B6 (B4 rfl) E1) (.refl _)
 refine lr (fun u8 hu8=>sp rfl rfl (sl rfl G_hit rfl (sv rfl (sv rfl (A1 (cc rfl h (fun c3 h=> ?_) (fun c3 h=> ?_)))))))
 refine lr (fun u9 hu9=>sv rfl (A1 (B3 ?_)))
 cases h
 exact A7 (.inr rfl) (B6 (B4 rfl) E1) (.refl _)
 refine A9 (F9 (A6 (I6 rfl fun u10 hu10=>sp rfl rfl (sl rfl G_hit rfl (sp rfl rfl (sl rfl G_hit rfl (B9 (.fn _ _ _) rfl rfl (bs h fun v4 hv4 h=>B1 rfl (rD (C9 (C1a E2 (C9 (A2q (gq rfl) (rD E2)) E2)) E2)) A2 (A3i _ _ _ hv4) (.inr rfl) (bs h fun v5 hv5 h=>sd rfl (E4 rfl rfl hv5 rfl) (sv rfl (sd rfl (F3 rfl hv5 rfl) (sv rfl (A1 (B3 ?_))))))))))))))
 cases h
 exact A7 (.inr rfl) (B6 (B4 rfl) E1) (.refl _)
noncomputable def Z5 (p1:WorldScene)(x1:(Int× (List Stay)))(v1:Agent)(x2:(Int× (List Stay))):Option (Stp (Int× (List Stay)) (List Stay)):=
  cond (decide (x2.1< (p1.m.Zones.length:Int))) ((Q6 (WorldScene.mk p1.m p1.before (State.mk p1.after.Tick p1.after.Agents x2.2) p1.acts p1.crashes) x1.1 x2.1).bind fun v2=>cond (!v2) (some (.go ((w64 (x2.1+1)),x2.2))) ((C8 p1.before.In (Stay.mk x1.1 x2.1 p1.before.Tick 0)).bind fun v3=>(cond v3.2 ((D6 p1.before.In v3.1).bind fun v4=>some v4) ((A9t p1.m v1 x2.1 p1.before.Tick).bind fun v5=>some (Stay.mk x1.1 x2.1 p1.before.Tick v5))).bind fun y2=>(A8h x2.2 [y2]).bind fun v6=>some (.go ((w64 (x2.1+1)),v6)))) (some (.out x2.2))
noncomputable def Z6 (p1:WorldScene)(x1:(Int× (List Stay))):Option (Stp (Int× (List Stay)) WorldScene):=
  cond (decide (x1.1< (p1.before.Agents.length:Int))) ((D6 p1.before.Agents x1.1).bind fun v1=>(loop (Z5 p1 x1 v1) (0,x1.2)).bind fun y1=>some (.go ((w64 (x1.1+1)),y1))) (some (.out ((WorldScene.mk p1.m p1.before (State.mk p1.after.Tick p1.after.Agents x1.2) p1.acts p1.crashes))))
noncomputable def A1f (p1:WorldScene):Option WorldScene:=
  loop (Z6 p1) (0,[])
theorem B3u (p1:WorldScene)(r:WorldScene)(h:A1f p1=some r):MCall Tryz.prog 80 [(.ptr (900000,0) 0)] [(.box 135 (W8 p1))] (.d (.tup [])) [some (.box 135 (W8 r))] []:=by
 refine B5q (fk Tryz.func80 Tryz.ntmps80 (fun r=>if r==13 then [1007]else []) (by with_unfolding_all rfl)) rfl (nl rfl) ?_
 unfold A1f at h
 refine B5 (s0:=⟨T [(0,(.ptr _ _))],G [((900000,0),some (.box 135 _))]⟩) (sbr rfl rfl) ?_
 refine lr (fun u1 hu1=>sp rfl rfl (sp rfl rfl (sp rfl rfl (sp rfl rfl (sst rfl G_hit ((W8 p1).set 10 (.d .nilS)) rfl (A1 (lr (fun u2 hu2=>sp rfl rfl (sp rfl rfl (sp rfl rfl (sp rfl rfl (sl rfl G_hit rfl (sd rfl (E5 rfl) (sv rfl (A1 (A8 (E7 (Z6 p1) (fun (x1:(Int× (List Stay))) (g1:Nat)=>⟨T [(0,(.ptr (900000,0) 0)),(16,(dl D2 p1.before.Agents)),(17,(di (p1.before.Agents.length:Int))),(18,(di x1.1))],G [((900000,0),some (.box 135 ((W8 p1).set 10 (oS x1.2 (85,g1))))),((85,g1),oB 127 4 L7 x1.2)]⟩) (0,[]) 0 _ h (G8 ⟨.of rfl, .of rfl, .of rfl, .of rfl,trivial⟩ (B0 G_hit (.of rfl) (Y3 trivial))) ?_)))))))))))))))))
 intro x1 g1 z1 hz1 ez1
 unfold Z6 at hz1
 refine lr (fun u3 hu3=>sv rfl (A1 (A6 (cc rfl hz1 (fun c1 hz1=> ?_) (fun c1 hz1=> ?_)))))
 refine A9 (A6 (A8 (lr (fun u4 hu4=>sv rfl (bs hz1 fun v1 hv1 hz1=>sd rfl (E4 rfl rfl hv1 rfl) (sd rfl (C4 rfl hv1 rfl rfl) (sn rfl rfl (sv rfl (sst rfl G_hit (A0h v1) rfl (A1 (lr (fun u5 hu5=>sp rfl rfl (sp rfl rfl (sp rfl rfl (sp rfl rfl (sl rfl (gq rfl) rfl (sd rfl (E5 rfl) (sv rfl (A1 (bs hz1 fun y1 hy1 hz1=>E0 (fun s=> ∃g2:Nat,Sb ⟨T [(0,(.ptr (900000,0) 0)),(16,(dl D2 p1.before.Agents)),(17,(di (p1.before.Agents.length:Int))),(18,(di x1.1))],G [((900000,0),some (.box 135 ((W8 p1).set 10 (oS y1 (85,g2))))),((85,g2),oB 127 4 L7 y1)]⟩ s) ?_ ?_))))))))))))))))))))
 refine A8 (E7 (Z5 p1 x1 v1) (fun (x2:(Int× (List Stay))) (g3:Nat)=>⟨T [(0,(.ptr (900000,0) 0)),(2,(di x1.1)),(3,(.ptr (3,u4) 0)),(16,(dl D2 p1.before.Agents)),(17,(di (p1.before.Agents.length:Int))),(18,(di x1.1)),(28,(di (p1.m.Zones.length:Int))),(29,(di x2.1))],G [((900000,0),some (.box 135 ((W8 p1).set 10 (oS x2.2 (85,g3))))),((3,u4),some (.box 45 (A0h v1))),((85,g3),oB 127 4 L7 x2.2)]⟩) (0,x1.2) g1 _ hy1 (G8 ⟨.of rfl, .of rfl, .of rfl, .of rfl, .of rfl, .of rfl, .of rfl, .of rfl,trivial⟩ (sg rfl (B0 G_hit (.of rfl) (B7 (gq rfl) trivial)))) ?_)
 intro x2 g3 z2 hz2 ez2
 unfold Z5 at hz2
 refine lr (fun u6 hu6=>sv rfl (A1 (A6 (cc rfl hz2 (fun c2 hz2=> ?_) (fun c2 hz2=> ?_)))))
 refine A9 (A6 (A8 (lr (fun u7 hu7=>sv rfl (sv rfl (A1 (A6 (lr (fun u8 hu8=>sp rfl rfl (sv rfl (sv rfl (bs hz2 fun v2 hv2 hz2=>B1 rfl (C9 (A2q G_hit (rD (rD (rD (rD (rD (rD (rD (rD (rD (rD (C9 (A1x (gq rfl)) (rD (rD E2)))))))))))))) (rD (rD E2))) (.cons (DLe.bp (ca rfl (ca rfl (ca rfl (ca rfl (ca rfl (ca rfl (ca rfl (ca rfl (ca rfl (ca rfl (.cons ⟨A1w,rfl⟩ (cz rfl))))))))))))) (.cons (.refl _) A2)) (A0j _ _ _ _ hv2) (.inr rfl) (B9 (.d (bo (!v2))) rfl rfl (A1 (cc rfl hz2 (fun c3 hz2=> ?_) (fun c3 hz2=> ?_))))))))))))))))
 refine B9t rfl (D0 fun u9 hu9=>sv rfl (sv rfl (A1 (G3 ?_))))
 cases hz2
 exact ⟨rfl,g3,(G8 ⟨.of rfl, .of rfl, .of rfl, .of rfl, .of rfl, .of rfl, .of rfl, .of rfl,trivial⟩ (B0 G_hit (.of rfl) (sg rfl (B7 (gq rfl) trivial))))⟩
 refine A9 (lr (fun u10 hu10=>sv rfl (sv rfl (sp rfl rfl (sp rfl rfl (sp rfl rfl (sp rfl rfl (sl rfl G_hit rfl (sv rfl (sn rfl rfl (sst rfl G_hit [(di x1.1),(di x2.1),(di p1.before.Tick),(di 0)] rfl (A1 (A6 (A6 (I6 rfl fun u11 hu11=>sp rfl rfl (sp rfl rfl (sp rfl rfl (sp rfl rfl (sl rfl (gq rfl) rfl (sd rfl (B2 rfl G_hit rfl rfl) (bs hz2 fun v3 hv3 hz2=>B1 rfl rfl A2 (L9 _ _ _ hv3) (.inl rfl) (sv rfl (sv rfl (sv rfl (sv rfl (sv rfl (A1 (lr (fun u12 hu12=>sv rfl (A1 (bs hz2 fun y2 hy2 hz2=>E0 (fun s=> ∃g4:Unit,Sb ⟨T [(0,(.ptr (900000,0) 0)),(2,(di x1.1)),(3,(.ptr (3,u4) 0)),(5,(.ptr (5,u10) 0)),(16,(dl D2 p1.before.Agents)),(17,(di (p1.before.Agents.length:Int))),(18,(di x1.1)),(28,(di (p1.m.Zones.length:Int))),(29,(di x2.1))],G [((900000,0),some (.box 135 ((W8 p1).set 10 (oS x2.2 (85,g3))))),((3,u4),some (.box 45 (A0h v1))),((5,u10),some (.box 127 (B8n y2))),((85,g3),oB 127 4 L7 x2.2)]⟩ s) ?_ ?_)))))))))))))))))))))))))))))))
 refine cc rfl hy2 (fun c4 hy2=> ?_) (fun c4 hy2=> ?_)
 refine D0 fun u13 hu13=>sp rfl rfl (sp rfl rfl (sp rfl rfl (sp rfl rfl (sl rfl (gq rfl) rfl (sv rfl (bs hy2 fun v4 hv4 hy2=>sd rfl (E4 rfl rfl hv4 rfl) (sd rfl (C4 rfl hv4 rfl rfl) (sst rfl G_hit (B8n v4) rfl (A1 ?_)))))))))
 obtain rfl:=(Option.some.inj hy2)
 exact l_j ⟨(),(G8 ⟨.of rfl, .of rfl, .of rfl, .of rfl, .of rfl, .of rfl, .of rfl, .of rfl, .of rfl,trivial⟩ (sg rfl (sg rfl (B0 G_hit (.of rfl) (B7 (gq rfl) trivial)))))⟩
 refine I6 rfl fun u14 hu14=>sp rfl rfl (sp rfl rfl (sp rfl rfl (sd rfl (B2 rfl (gq rfl) rfl rfl) (sd rfl (B2 rfl (gq rfl) rfl rfl) (sv rfl (sp rfl rfl (sp rfl rfl (sp rfl rfl (sp rfl rfl (sl rfl (gq rfl) rfl (bs hy2 fun v5 hv5 hy2=>B1 rfl rfl A2 (B6w _ _ _ _ _ hv5) (.inl rfl) (sp rfl rfl (sst rfl G_hit [(di x1.1),(di x2.1),(di p1.before.Tick),(di v5)] rfl (A1 ?_))))))))))))))
 cases hy2
 exact l_j ⟨(),(G8 ⟨.of rfl, .of rfl, .of rfl, .of rfl, .of rfl, .of rfl, .of rfl, .of rfl, .of rfl,trivial⟩ (sg rfl (sg rfl (B0 G_hit (.of rfl) (B7 (gq rfl) trivial)))))⟩
 rintro _ ⟨g4,q1⟩
 refine B5 q1 (I6 rfl fun u15 hu15=>sp rfl rfl (sp rfl rfl (sp rfl rfl (sp rfl rfl (sp rfl rfl (B9 (oS x2.2 (85,g3)) rfl (X1 rfl G_hit rfl) (sd rfl (B2 rfl (gq rfl) rfl rfl) (B9 (dl L7 [y2]) rfl rfl (bs hz2 fun v6 hv6 hz2=>X0 L7 (85,g3) x2.2 y2 [] _ (O2 (fun _=>rfl)) rfl (gq rfl) hv6 (sp rfl rfl (sp rfl rfl (sp rfl rfl (sst rfl (gq rfl) ((W8 p1).set 10 (.sl (85,u15))) rfl (A1 (F9 (D0 fun u16 hu16=>sv rfl (sv rfl (A1 (G3 ?_)))))))))))))))))))
 cases hz2
 exact ⟨rfl,u15,(G8 ⟨.of rfl, .of rfl, .of rfl, .of rfl, .of rfl, .of rfl, .of rfl, .of rfl,trivial⟩ (B0 G_hit (.box (cv (cv (cv (cv (cv (cv (cv (cv (cv (cv (.cons (.of (A2r (A18 hv6)).symm) cw)))))))))))) (sg rfl (T1 (gq rfl) trivial))))⟩
 refine C3 rfl ?_
 cases hz2
 obtain rfl:=ez2 _ rfl
 refine ⟨nofun,C0 rfl (l_j ?_)⟩
 exact ⟨g3,(G8 ⟨.of rfl, .of rfl, .of rfl, .of rfl,trivial⟩ (B0 G_hit (.of rfl) (B7 (gq rfl) trivial)))⟩
 rintro _ ⟨g2,q2⟩
 refine F9 (B5 q2 (D0 fun u17 hu17=>sv rfl (sv rfl (A1 (G3 ?_)))))
 cases hz1
 exact ⟨rfl,g2,(G8 ⟨.of rfl, .of rfl, .of rfl, .of rfl,trivial⟩ (B0 G_hit (.of rfl) (B7 (gq rfl) trivial)))⟩
 refine C3 rfl ?_
 cases hz1
 obtain rfl:=ez1 _ rfl
 refine ⟨nofun,C0 rfl (G3 ?_)⟩
 exact C01 (.inl rfl) [(85,g1)] C02 (.refl _) ⟨⟨_,_,_,G_hit,(D0q rfl A3a),(rD (rD (rD (rD (rD (rD (rD (rD (rD (rD (C9 (A1x (D6a (.head _) (gq rfl))) (rD (rD E2))))))))))))),(.cons (.refl _) (.cons (.refl _) (.cons (.refl _) (.cons (.refl _) (.cons (.refl _) (.cons (.refl _) (.cons (.refl _) (.cons (.refl _) (.cons (.refl _) (.cons (.refl _) (.cons A1w (.cons (.refl _) A2)))))))))))),rfl⟩,trivial⟩
noncomputable def B8f (s:State)(i:Nat):Nat→Nat→Option (List (Int×Int))
  |0,_=>some []
  |k+1,j=>(A4n s i).bind fun a=>(A4n s j).bind fun b=>(B8f s i k (j+1)).bind fun l=>some (cond (a&&b) (((i:Int),(j:Int))::l) l)
noncomputable def C0g (s:State)(n:Nat):Nat→Nat→Option (List (Int×Int))
  |0,_=>some []
  |k+1,i=>(B8f s i (n - (i+1)) (i+1)).bind fun a=>(C0g s n k (i+1)).bind fun b=>some (a++b)
noncomputable def C20 (s:State):Option (List (Int×Int)):=if s.Agents.length≤1000000 then C0g s s.Agents.length s.Agents.length 0 else none
abbrev C65 (a:Int×Int):List D:= [i64 a.1,i64 a.2]
def B5u (kb ks:Key)(s:State)(h:J2):Prop:=h kb=some (.box 133 [.ptr ks 0])∧∃c0 c1 c2 c3 c4 c8 c9 c10 c11 c12,h ks=some (.box 135 [c0,c1,c2,c3,c4, .d (i64 s.Tick), .d (.list (List.map D2 s.Agents)), .d (.list (List.map L7 s.In)),c8,c9,c10,c11,c12])
theorem C21 {s:State}{L:List (Int×Int)}(h:C20 s=some L)(kb ks:Key):D87 Tryz.prog (.fn (.func 174) [] [.ptr kb 0]) (B5u kb ks s) (L.map C65):=by
  unfold C20 at h
  split at h
  case isFalse=>cases h
  rename_i hlen
  refine ⟨174,[],[.ptr kb 0],rfl,?_⟩
  intro k h0 Inv Stop hi0 hcan hy
  refine C2m (fk Tryz.func174 Tryz.ntmps174 (fun r=>if r==6 then [18]else []) (by with_unfolding_all rfl)) (by simp) (D5v ?_)
  obtain ⟨g0,S0,i0,c0⟩:=hcan 0 h0 hi0
  have hLm:(L.map C65).length=L.length:=List.length_map ..
  rw [hLm]
  refine B5 (s0:=⟨T [(0, .yld k),(1, .ptr kb 0)],g0⟩) ⟨fun i=> ?_,S0.h⟩ ?_
  ·match i with
   |0=>exact .refl _
   |1=>exact .refl _
   |n+2=>exact .any _
  have c0':=c0
  obtain ⟨e1,a0,a1,a2,a3,a4,a8,a9,a10,a11,a12,e2⟩:=c0'
  refine A6 ?_
  refine B56 fun u hu=> ?_
  refine E6 (.ptr ks 0) rfl (X1 rfl e1 rfl) ?_
  refine E6 (.ptr ks 0) rfl rfl ?_
  refine E6 (.ptr ks 5) rfl rfl ?_
  refine E6 (.ptr ks 6) rfl rfl ?_
  refine E6 (.d (.list (List.map D2 s.Agents))) rfl (X1 rfl e2 rfl) ?_
  refine E6 (.d (i64 s.Agents.length)) rfl (E5 (f:=D2) rfl) ?_
  refine E6 (.d (i64 0)) rfl rfl ?_
  refine A2p ?_
  refine A8 ?_
  refine D15 (α:=Nat×Nat×J2) (fun x=>⟨T [(0, .yld k),(1, .ptr kb 0),(10, .d (i64 s.Agents.length)),(11, .d (i64 (x.1:Int)))],x.2.2⟩) (fun x=>s.Agents.length - x.1)
    (fun x=>Inv x.2.1 x.2.2∧B5u kb ks s x.2.2∧x.1≤s.Agents.length∧x.2.1≤L.length∧C0g s s.Agents.length (s.Agents.length - x.1) x.1=some (L.drop x.2.1)) (0,0,g0) ⟨i0,c0,Nat.zero_le _,Nat.zero_le _,h⟩ (B8c ⟨rfl,rfl,rfl,rfl,trivial⟩ fun _ _ h=>h) ?_
  rintro ⟨i,pos,hh⟩ ⟨hinv,hrq,hi,hpos,hgo⟩
  dsimp only at hinv hrq hi hpos hgo ⊢
  refine A6 ?_
  refine B56 fun u hu=> ?_
  refine E6 (.d (bo (decide ((i:Int)< (s.Agents.length:Int))))) rfl rfl ?_
  refine A2p ?_
  refine A6 ?_
  refine D0c (decide ((i:Int)< (s.Agents.length:Int))) rfl (fun hlt=> ?_) (fun hlt=> ?_)
  ·refine A9 ?_
   have hlt:i<s.Agents.length:=by simpa using hlt
   have hw1: ∀n:Nat,n≤1000000→IntKind.i64.wrap ((n:Int)+1)=((n+1:Nat):Int):=fun n hn=>(Go.IntWalk.i64_in _ (by omega)).trans (by omega)
   obtain ⟨m,hm⟩: ∃m,s.Agents.length - i=m+1:=⟨s.Agents.length - i - 1,by omega⟩
   rw [hm,C0g]at hgo
   obtain ⟨l1,hl1,hgo⟩:=bind_some hgo
   obtain ⟨l2,hl2,hgo⟩:=bind_some hgo
   have hgo:l1++l2=L.drop pos:=Option.some.inj hgo
   refine A6 ?_
   refine A8 ?_
   refine A6 ?_
   refine B56 fun u hu=> ?_
   refine E6 (.d (i64 i)) rfl rfl ?_
   refine E6 (.d (i64 i)) rfl rfl ?_
   refine A2p ?_
   refine A6 ?_
   refine B56 fun u hu=> ?_
   refine E6 (.d (i64 i)) rfl rfl ?_
   refine E6 (.d (i64 ((i+1:Nat):Int))) rfl (by rw [← hw1 i (by omega)];rfl) ?_
   refine E6 (.d (i64 ((i+1:Nat):Int))) rfl rfl ?_
   refine A2p ?_
   refine A8 ?_
   refine D15 (α:=Nat×Nat×J2) (fun x=>⟨T [(0, .yld k),(1, .ptr kb 0),(3, .d (i64 (i:Int))),(4, .d (i64 (x.1:Int))),(10, .d (i64 s.Agents.length)),(11, .d (i64 (i:Int)))],x.2.2⟩) (fun x=>s.Agents.length - x.1)
     (fun x=>Inv x.2.1 x.2.2∧B5u kb ks s x.2.2∧x.1≤s.Agents.length∧x.2.1≤L.length∧∃l,B8f s i (s.Agents.length - x.1) x.1=some l∧l++l2=L.drop x.2.1) (i+1,pos,hh) ⟨hinv,hrq,hlt,hpos,l1,hl1,hgo⟩ (B8c ⟨rfl,rfl,rfl,rfl,rfl,rfl,trivial⟩ fun _ _ h=>h) ?_
   rintro ⟨j,pos,hh⟩ ⟨hinv,hrq,hj,hpos,l,hl,hgo⟩
   dsimp only at hinv hrq hj hpos hl hgo ⊢
   have hrq':=hrq
   obtain ⟨e1,a0,a1,a2,a3,a4,a8,a9,a10,a11,a12,e2⟩:=hrq'
   refine A6 ?_
   refine A6 ?_
   refine B56 fun u hu=> ?_
   refine E6 (.d (i64 j)) rfl rfl ?_
   refine E6 (.ptr ks 0) rfl (X1 rfl e1 rfl) ?_
   refine E6 (.ptr ks 0) rfl rfl ?_
   refine E6 (.ptr ks 5) rfl rfl ?_
   refine E6 (.ptr ks 6) rfl rfl ?_
   refine E6 (.d (.list (List.map D2 s.Agents))) rfl (X1 rfl e2 rfl) ?_
   refine E6 (.d (i64 s.Agents.length)) rfl (E5 (f:=D2) rfl) ?_
   refine E6 (.d (bo (decide ((j:Int)< (s.Agents.length:Int))))) rfl rfl ?_
   refine A2p ?_
   refine D0c (decide ((j:Int)< (s.Agents.length:Int))) rfl (fun hjl=> ?_) (fun hjl=> ?_)
   ·refine A9 ?_
    have hjl:j<s.Agents.length:=by simpa using hjl
    obtain ⟨m',hm'⟩: ∃m',s.Agents.length - j=m'+1:=⟨s.Agents.length - j - 1,by omega⟩
    rw [hm',B8f]at hl
    obtain ⟨a,ha,hl⟩:=bind_some hl
    obtain ⟨b,hb,hl⟩:=bind_some hl
    obtain ⟨l',hl',hl⟩:=bind_some hl
    have hl:cond (a&&b) (((i:Int),(j:Int))::l') l'=l:=Option.some.inj hl
    have hm1:s.Agents.length - (j+1)=m':=by omega
    -- what a round leaves
    have hend: ∀(p':Nat) (h':J2),Inv p' h'→B5u kb ks s h'→p'≤L.length→l'++l2=L.drop p'→∃y:Nat×Nat×J2,(Inv y.2.1 y.2.2∧B5u kb ks s y.2.2∧y.1≤s.Agents.length∧y.2.1≤L.length∧∃l,B8f s i (s.Agents.length - y.1) y.1=some l∧l++l2=L.drop y.2.1)∧s.Agents.length - y.1<s.Agents.length - j∧y=(j+1,p',h'):=fun p' h' q1 q2 q3 q4=>⟨(j+1,p',h'),⟨q1,q2,hjl,q3,l',by dsimp only;rw [hm1];exact hl',q4⟩,by dsimp only;omega,rfl⟩
    refine A6 ?_
    refine A8 ?_
    refine A6 ?_
    refine B56 fun u hu=> ?_
    refine E6 (.ptr ks 0) rfl (X1 rfl e1 rfl) ?_
    refine E6 (.ptr ks 0) rfl rfl ?_
    refine E6 (.ptr ks 5) rfl rfl ?_
    refine E6 (.d (.agg [i64 s.Tick, .list (List.map D2 s.Agents), .list (List.map L7 s.In)])) rfl (B2 rfl e2 rfl rfl) ?_
    refine E6 (.d (i64 i)) rfl rfl ?_
    refine B7i rfl rfl (A8a s i _ ha) (.inl rfl) ?_
    refine E6 (.d (bo a)) rfl rfl ?_
    cases a with
    |false=>
     iterate 6 (refine D13 rfl rfl ?_)
     refine E6 (.d (bo false)) rfl rfl ?_
     refine E6 (.d (bo false)) rfl rfl ?_
     iterate 5 (refine D13 rfl rfl ?_)
     refine E6 (.d (bo false)) rfl rfl ?_
     refine A2p ?_
     refine B3y rfl (A9 (F9 ?_))
     refine B56 fun u hu=> ?_
     refine E6 (.d (i64 j)) rfl rfl ?_
     refine E6 (.d (i64 ((j+1:Nat):Int))) rfl (by rw [← hw1 j (by omega)];rfl) ?_
     refine E6 (.d (i64 ((j+1:Nat):Int))) rfl rfl ?_
     refine A2p ?_
     obtain ⟨y,y1,y2,rfl⟩:=hend pos hh hinv hrq hpos (by rw [← hgo,← hl];rfl)
     exact G3 ⟨_,y1,y2,B8c ⟨rfl,rfl,rfl,rfl,rfl,rfl,trivial⟩ fun _ _ h=>h⟩
    |true=>
     refine B8m rfl ?_
     refine E6 (.ptr ks 0) rfl (X1 rfl e1 rfl) ?_
     refine B8m rfl ?_
     refine E6 (.ptr ks 0) rfl rfl ?_
     refine B8m rfl ?_
     refine E6 (.ptr ks 5) rfl rfl ?_
     refine B8m rfl ?_
     refine E6 (.d (.agg [i64 s.Tick, .list (List.map D2 s.Agents), .list (List.map L7 s.In)])) rfl (B2 rfl e2 rfl rfl) ?_
     refine B8m rfl ?_
     refine E6 (.d (i64 j)) rfl rfl ?_
     refine B8m rfl ?_
     refine B7i rfl rfl (A8a s j _ hb) (.inl rfl) ?_
     refine E6 (.d (bo b)) rfl rfl ?_
     refine E6 (.d (bo b)) rfl rfl ?_
     cases b with
     |false=>
      iterate 5 (refine D13 rfl rfl ?_)
      refine E6 (.d (bo false)) rfl rfl ?_
      refine A2p ?_
      refine B3y rfl (A9 (F9 ?_))
      refine B56 fun u hu=> ?_
      refine E6 (.d (i64 j)) rfl rfl ?_
      refine E6 (.d (i64 ((j+1:Nat):Int))) rfl (by rw [← hw1 j (by omega)];rfl) ?_
      refine E6 (.d (i64 ((j+1:Nat):Int))) rfl rfl ?_
      refine A2p ?_
      obtain ⟨y,y1,y2,rfl⟩:=hend pos hh hinv hrq hpos (by rw [← hgo,← hl];rfl)
      exact G3 ⟨_,y1,y2,B8c ⟨rfl,rfl,rfl,rfl,rfl,rfl,trivial⟩ fun _ _ h=>h⟩
     |true=>
      have hcons:((i:Int),(j:Int))::(l'++l2)=L.drop pos:=by rw [← hgo,← hl];rfl
      have hLi:(L.map C65)[pos]? =some (C65 ((i:Int),(j:Int))):=by
        have:=congrArg (fun z=>z[0]?) hcons
        rw [List.getElem?_map]
        simp at this
        rw [← this];rfl
      have hLd:L.drop (pos+1)=l'++l2:=by
        have:=congrArg (fun z=>z.drop 1) hcons
        simpa using this.symm
      have hplt:pos+1≤L.length:=by
        have:=congrArg List.length hcons
        simp at this
        omega
      refine B8m rfl ?_
      refine E6 (.yld k) rfl rfl ?_
      refine B8m rfl ?_
      refine E6 (.d (i64 i)) rfl rfl ?_
      refine B8m rfl ?_
      refine E6 (.d (i64 j)) rfl rfl ?_
      refine B8m rfl ?_
      refine D14 k ((C65 ((i:Int),(j:Int))).map .d) rfl rfl ?_
      refine (hy pos hh _ hLi hinv).mono ?_
      rintro v' h' (⟨rfl,hin⟩|⟨rfl,hst⟩)
      ·obtain ⟨h1,S1,i1,q1⟩:=hcan _ _ hin
       refine ⟨h1,S1,fun u4 hu4=> ?_⟩
       refine B8m rfl ?_
       refine E6 (.d (bo false)) rfl rfl ?_
       refine E6 (.d (bo false)) rfl rfl ?_
       refine A2p ?_
       refine B3y rfl (A9 (F9 ?_))
       refine B56 fun u hu=> ?_
       refine E6 (.d (i64 j)) rfl rfl ?_
       refine E6 (.d (i64 ((j+1:Nat):Int))) rfl (by rw [← hw1 j (by omega)];rfl) ?_
       refine E6 (.d (i64 ((j+1:Nat):Int))) rfl rfl ?_
       refine A2p ?_
       obtain ⟨y,y1,y2,rfl⟩:=hend (pos+1) h1 i1 q1 hplt hLd.symm
       exact G3 ⟨_,y1,y2,B8c ⟨rfl,rfl,rfl,rfl,rfl,rfl,trivial⟩ fun _ _ h=>h⟩
      ·refine ⟨h',Sb.refl _,fun u4 hu4=> ?_⟩
       refine B8m rfl ?_
       refine E6 (.d (bo true)) rfl rfl ?_
       refine E6 (.d (bo true)) rfl rfl ?_
       refine A2p ?_
       refine B7j rfl ?_
       refine B3 (D7 (D7 ?_))
       exact ⟨Or.inr rfl,AV.tup [],rfl,Or.inr hst⟩
   ·refine C3 rfl ?_
    have hjn:j=s.Agents.length:=by
      have: ¬((j:Int)< (s.Agents.length:Int)):=by simpa using hjl
      omega
    subst hjn
    rw [Nat.sub_self,B8f]at hl
    cases hl
    refine C0 (r':= [.b 1, .c _]) rfl (F9 ?_)
    refine B56 fun u hu=> ?_
    refine E6 (.d (i64 ((i+1:Nat):Int))) rfl (by rw [← hw1 i (by omega)];rfl) ?_
    refine E6 (.d (i64 ((i+1:Nat):Int))) rfl rfl ?_
    refine A2p ?_
    refine G3 ⟨(i+1,pos,hh),⟨hinv,hrq,hlt,hpos,?_⟩,by dsimp only;omega,B8c ⟨rfl,rfl,rfl,rfl,trivial⟩ fun _ _ h=>h⟩
    dsimp only
    rw [show s.Agents.length - (i+1)=m by omega,hl2]
    exact congrArg some hgo
  ·refine C3 rfl ?_
   have hin:i=s.Agents.length:=by
     have: ¬((i:Int)< (s.Agents.length:Int)):=by simpa using hlt
     omega
   subst hin
   rw [Nat.sub_self,C0g]at hgo
   have h1:L.drop pos= []:=(Option.some.inj hgo).symm
   have h2:=List.drop_eq_nil_iff.1 h1
   have h3:pos=L.length:=by omega
   subst h3
   refine C0 (r':= []) rfl (G3 ?_)
   exact ⟨.inl rfl,AV.tup [],rfl, .inl hinv⟩
noncomputable def A09 (p1:WorldSpan)(p2:Int):Option WorldSpan:=
  some (WorldSpan.mk (w64 (p1.from_ - p2)) (w64 (p1.to - p2)))
theorem A4d (p1:WorldSpan)(p2:Int)(r:WorldSpan)(h:A09 p1 p2=some r):PCall Tryz.prog 141 [(.agg [(i64 p1.from_),(i64 p1.to)]),(i64 p2)] (.agg [(i64 r.from_),(i64 r.to)]):=by
 refine B8 (fk Tryz.func141 Tryz.ntmps141 m0 (by with_unfolding_all rfl)) (nl rfl) ?_
 unfold A09 at h
 refine B5 (s0:=⟨T [(0,(.d _)),(1,(.d _))],G []⟩) (sbr rfl rfl) ?_
 refine lr (fun u1 hu1=>sn rfl rfl (sn rfl rfl (A1 (lr (fun u2 hu2=>sp rfl rfl (sl rfl (gq rfl) rfl (sv rfl (sv rfl (sp rfl rfl (sl rfl (gq rfl) rfl (sv rfl (sv rfl (sv rfl (sst rfl G_hit [(di (w64 (p1.from_ - p2))),(di (w64 (p1.to - p2)))] rfl (A1 (B3 ?_))))))))))))))))
 cases h
 exact A7 (.inr rfl) (B6 (K9 rfl G_hit (nl rfl) rfl) E1) (.refl _)
noncomputable def A4r (p1:Map)(p2:Int):Option Int:=
  (B31 p1 p2).bind fun v1=>cond (!v1) (some 0) ((A2v p1 p2).bind fun v2=>some v2)
theorem B0b (p1:Map)(p2:Int)(r:Int)(h:A4r p1 p2=some r):PCall Tryz.prog 143 [(.agg (A4h p1)),(i64 p2)] (i64 r):=by
 refine B8 (fk Tryz.func143 Tryz.ntmps143 m0 (by with_unfolding_all rfl)) (nl rfl) ?_
 unfold A4r at h
 refine B5 (s0:=⟨T [(0,(.d _)),(1,(.d _))],G []⟩) (sbr rfl rfl) ?_
 refine lr (fun u1 hu1=>sn rfl rfl (sv rfl (A1 (A6 (lr (fun u2 hu2=>sd rfl (B2 rfl G_hit rfl rfl) (sv rfl (bs h fun v1 hv1 h=>B1 rfl rfl A2 (B5t _ _ _ hv1) (.inl rfl) (B9 (.d (bo (!v1))) rfl rfl (A1 (cc rfl h (fun c1 h=> ?_) (fun c1 h=> ?_))))))))))))
 refine lr (fun u3 hu3=>sv rfl (A1 (B3 ?_)))
 cases h
 exact A7 (.inr rfl) (B6 (B4 rfl) E1) (.refl _)
 refine A9 (lr (fun u4 hu4=>sd rfl (B2 rfl G_hit rfl rfl) (sv rfl (bs h fun v2 hv2 h=>B1 rfl rfl A2 (A9i _ _ _ hv2) (.inl rfl) (sv rfl (A1 (B3 ?_)))))))
 cases h
 exact A7 (.inr rfl) (B6 (B4 rfl) E1) (.refl _)
noncomputable def A3w (p1:WorldSpan)(p2:WorldSpan):Option WorldSpan:=
  some (WorldSpan.mk (mm2 true p1.from_ p2.from_) (mm2 false p1.to p2.to))
theorem B2f (p1:WorldSpan)(p2:WorldSpan)(r:WorldSpan)(h:A3w p1 p2=some r):PCall Tryz.prog 142 [(.agg [(i64 p1.from_),(i64 p1.to)]),(.agg [(i64 p2.from_),(i64 p2.to)])] (.agg [(i64 r.from_),(i64 r.to)]):=by
 refine B8 (fk Tryz.func142 Tryz.ntmps142 m0 (by with_unfolding_all rfl)) (nl rfl) ?_
 unfold A3w at h
 refine B5 (s0:=⟨T [(0,(.d _)),(1,(.d _))],G []⟩) (sbr rfl rfl) ?_
 refine lr (fun u1 hu1=>sn rfl rfl (sn rfl rfl (sn rfl rfl (A1 (lr (fun u2 hu2=>sp rfl rfl (sl rfl (gq rfl) rfl (sp rfl rfl (sl rfl (gq rfl) rfl (sv rfl (sp rfl rfl (sl rfl (gq rfl) rfl (sp rfl rfl (sl rfl (gq rfl) rfl (sv rfl (sv rfl (sst rfl G_hit [(di (mm2 true p1.from_ p2.from_)),(di (mm2 false p1.to p2.to))] rfl (A1 (B3 ?_)))))))))))))))))))
 cases h
 exact A7 (.inr rfl) (B6 (K9 rfl G_hit (nl rfl) rfl) E1) (.refl _)
noncomputable def A1r (p1:WorldSpan):Option Bool:=
  some (decide (p1.from_>p1.to))
theorem B0c (p1:WorldSpan)(r:Bool)(h:A1r p1=some r):PCall Tryz.prog 144 [(.agg [(i64 p1.from_),(i64 p1.to)])] (bo r):=by
 refine B8 (fk Tryz.func144 Tryz.ntmps144 m0 (by with_unfolding_all rfl)) (nl rfl) ?_
 unfold A1r at h
 refine B5 (s0:=⟨T [(0,(.d _))],G []⟩) (sbr rfl rfl) ?_
 refine lr (fun u1 hu1=>sn rfl rfl (sv rfl (A1 (lr (fun u2 hu2=>sp rfl rfl (sl rfl G_hit rfl (sp rfl rfl (sl rfl G_hit rfl (sv rfl (sv rfl (A1 (B3 ?_))))))))))))
 cases h
 exact A7 (.inr rfl) (B6 (B4 rfl) E1) (.refl _)
noncomputable def A78 (p1:Map)(p2:Agent)(v2:(List Int))(x1:((List Span)×Int)):Option (Stp ((List Span)×Int) (List Span)):=
  cond (decide (x1.2< (v2.length:Int))) ((D6 v2 x1.2).bind fun v3=>(D6 p2.Route x1.2).bind fun v4=>(A2w p2).bind fun v5=>(A09 v5 v3).bind fun v6=>(A4r p1 v4).bind fun v7=>(A3w v6 (WorldSpan.mk 0 v7)).bind fun v8=>(A1r v8).bind fun v9=>cond (!v9) ((A8h x1.1 [(Span.mk v4 v8.from_ v8.to)]).bind fun v10=>some (.go (v10,(w64 (x1.2+1))))) (some (.go (x1.1,(w64 (x1.2+1)))))) (some (.out x1.1))
noncomputable def A9u (p1:Map)(p2:Agent):Option (List Span):=
  (A7z p2).bind fun v1=>cond (!v1) (some []) ((A22 p1 p2.Route).bind fun v2=>(loop (A78 p1 p2 v2) ([],0)).bind fun y1=>some y1)
theorem B6x (p1:Map)(p2:Agent)(r:(List Span))(h:A9u p1 p2=some r):PCall Tryz.prog 67 [(.agg (A4h p1)),(.agg (D2 p2))] (.list (List.map B13 r)):=by
 refine B8 (fk Tryz.func67 Tryz.ntmps67 (fun r=>if r==10 then [1007]else []) (by with_unfolding_all rfl)) (nl rfl) ?_
 unfold A9u at h
 refine B5 (s0:=⟨T [(0,(.d _)),(1,(.d _))],G []⟩) (sbr rfl rfl) ?_
 refine lr (fun u1 hu1=>sn rfl rfl (sn rfl rfl (sv rfl (A1 (A6 (lr (fun u2 hu2=>sd rfl (B2 rfl G_hit rfl rfl) (bs h fun v1 hv1 h=>B1 rfl rfl A2 (B30 _ _ hv1) (.inl rfl) (B9 (.d (bo (!v1))) rfl rfl (A1 (cc rfl h (fun c1 h=> ?_) (fun c1 h=> ?_))))))))))))
 refine lr (fun u3 hu3=>sv rfl (A1 (B3 ?_)))
 cases h
 exact A7 (.inr rfl) (B6 (B4 rfl) E1) DLe.nil
 refine A9 (lr (fun u4 hu4=>sv rfl (A1 (A6 (lr (fun u5 hu5=>sd rfl (B2 rfl (gq rfl) rfl rfl) (sp rfl rfl (sl rfl G_hit rfl (bs h fun v2 hv2 h=>B1 rfl rfl A2 (B07 _ _ _ hv2) (.inl rfl) (sd rfl (E5 rfl) (sv rfl (A1 (bs h fun y1 hy1 h=>E0 (fun s=> ∃g1:Nat,Sb ⟨T [(5,(oS y1 (48,g1)))],G [((48,g1),oB 93 3 B13 y1)]⟩ s) ?_ ?_)))))))))))))
 refine A8 (E7 (A78 p1 p2 v2) (fun (x1:((List Span)×Int)) (g2:Nat)=>⟨T [(2,(.ptr (2,u1) 0)),(3,(.ptr (3,u1) 0)),(5,(oS x1.1 (48,g2))),(16,(dl A5 v2)),(17,(di (v2.length:Int))),(18,(di x1.2))],G [((2,u1),some (.box 33 (A0i p1))),((3,u1),some (.box 45 (A0h p2))),((48,g2),oB 93 3 B13 x1.1)]⟩) ([],0) 0 _ hy1 (G8 ⟨.of rfl, .of rfl, .of rfl, .of rfl, .of rfl, .of rfl,trivial⟩ (sg rfl (B0 G_hit (.of rfl) (Y3 trivial)))) ?_)
 intro x1 g2 z1 hz1 ez1
 unfold A78 at hz1
 refine lr (fun u6 hu6=>sv rfl (A1 (A6 (cc rfl hz1 (fun c2 hz1=> ?_) (fun c2 hz1=> ?_)))))
 refine A9 (A6 (A8 (lr (fun u7 hu7=>sv rfl (bs hz1 fun v3 hv3 hz1=>sd rfl (E4 rfl rfl hv3 rfl) (sd rfl (F3 rfl hv3 rfl) (sv rfl (sv rfl (A1 (lr (fun u8 hu8=>sp rfl rfl (sl rfl (gq rfl) rfl (sv rfl (bs hz1 fun v4 hv4 hz1=>sd rfl (E4 rfl rfl hv4 rfl) (sd rfl (F3 rfl hv4 rfl) (sv rfl (A1 (A6 (I6 rfl fun u9 hu9=>sd rfl (B2 rfl (gq rfl) rfl rfl) (bs hz1 fun v5 hv5 hz1=>B1 rfl rfl A2 (A5c _ _ hv5) (.inl rfl) (sv rfl (bs hz1 fun v6 hv6 hz1=>B1 rfl rfl A2 (A4d _ _ _ hv6) (.inl rfl) (sd rfl (B2 rfl G_hit rfl rfl) (sv rfl (bs hz1 fun v7 hv7 hz1=>B1 rfl rfl A2 (B0b _ _ _ hv7) (.inl rfl) (sv rfl (bs hz1 fun v8 hv8 hz1=>B1 rfl rfl A2 (B2f _ _ _ hv8) (.inl rfl) (sn rfl rfl (sst rfl G_hit [(di v8.from_),(di v8.to)] rfl (A1 (lr (fun u10 hu10=>sd rfl (B2 rfl G_hit rfl rfl) (bs hz1 fun v9 hv9 hz1=>B1 rfl rfl A2 (B0c _ _ hv9) (.inl rfl) (B9 (.d (bo (!v9))) rfl rfl (A1 (cc rfl hz1 (fun c3 hz1=> ?_) (fun c3 hz1=> ?_)))))))))))))))))))))))))))))))))))))
 refine D0 fun u11 hu11=>B9 (oS x1.1 (48,g2)) rfl rfl (sv rfl (sp rfl rfl (sl rfl G_hit rfl (sp rfl rfl (sl rfl G_hit rfl (sv rfl (B9 (dl B13 [(Span.mk v4 v8.from_ v8.to)]) rfl rfl (bs hz1 fun v10 hv10 hz1=>X0 B13 (48,g2) x1.1 (Span.mk v4 v8.from_ v8.to) [] _ (O2 (fun _=>rfl)) rfl (gq rfl) hv10 (ss rfl (A1 (F9 (D0 fun u12 hu12=>sv rfl (sv rfl (A1 (G3 ?_)))))))))))))))
 cases hz1
 exact ⟨rfl,u11,(G8 ⟨.of rfl, .of rfl,(.of (A2r (A18 hv10)).symm), .of rfl, .of rfl, .of rfl,trivial⟩ (sg rfl (sg rfl (T1 G_hit trivial))))⟩
 refine A9 (F9 (D0 fun u13 hu13=>sv rfl (sv rfl (A1 (G3 ?_)))))
 cases hz1
 exact ⟨rfl,g2,(G8 ⟨.of rfl, .of rfl, .of rfl, .of rfl, .of rfl, .of rfl,trivial⟩ (sg rfl (sg rfl (B7 (gq rfl) trivial))))⟩
 refine C3 rfl ?_
 cases hz1
 obtain rfl:=ez1 _ rfl
 refine ⟨nofun,C0 rfl (l_j ?_)⟩
 exact ⟨g2,(G8 ⟨.of rfl,trivial⟩ (B7 (gq rfl) trivial))⟩
 rintro _ ⟨g1,q1⟩
 refine B5 q1 (lr (fun u14 hu14=>B9 (oS y1 (48,g1)) rfl rfl (B9 (oS y1 (48,g1)) rfl rfl (A1 (B3 ?_)))))
 cases h
 exact A7 (.inr rfl) (B6 (B4 rfl) (A1x G_hit)) A1w
noncomputable def A0t (p1:Span)(p2:Span):Option Bool:=
  ((cond (p2.Lane_==p1.Lane_) (A3w (WorldSpan.mk p2.From p2.To) (WorldSpan.mk p1.From p1.To)) (some default))).bind fun v1=>((cond (p2.Lane_==p1.Lane_) (A1r v1) (some default))).bind fun v2=>some ((p2.Lane_==p1.Lane_)&& (!v2))
theorem B32 (p1:Span)(p2:Span)(r:Bool)(h:A0t p1 p2=some r):PCall Tryz.prog 147 [(.agg (B13 p1)),(.bp (B13 p2) 0)] (bo r):=by
 refine B8 (fk Tryz.func147 Tryz.ntmps147 m0 (by with_unfolding_all rfl)) (nl rfl) ?_
 unfold A0t at h
 refine B5 (s0:=⟨T [(0,(.d _)),(1,(.d _))],G []⟩) (sbr rfl rfl) ?_
 refine lr (fun u1 hu1=>sn rfl rfl (sv rfl (A1 (lr (fun u2 hu2=>sv rfl (sv rfl (sp rfl rfl (sl rfl G_hit rfl (sv rfl (sv rfl (gt rfl (fun _=>rfl) ?_)))))))))))
 refine gt rfl (fun w2=>(by simp only [A3 w2];rfl)) ?_
 refine gt rfl (fun _=>rfl) ?_
 refine gt rfl (fun w4=>(by simp only [A3 w4];rfl)) ?_
 refine gt rfl (fun w5=>(by simp only [A3 w5];rfl)) ?_
 refine gp rfl (A19 rfl) (fun _=>rfl) (gt rfl (vl rfl G_hit rfl) (gp rfl (A19 rfl) (fun _=>rfl) (gt rfl (vl rfl G_hit rfl) ?_)))
 refine gt rfl (fun w10=>(by simp only [A3 w10];rfl)) ?_
 refine bs h fun v1 hv1 h=> ?_
 refine U8 _ (.agg [(i64 v1.from_),(i64 v1.to)]) (A19 rfl) (fun w11=>⟨_,[(.d (.agg [(i64 p2.From),(i64 p2.To)])),(.d (.agg [(i64 p1.From),(i64 p1.To)]))],_,_,(by simp only [A3 w11];rfl),rfl,A2,B2f _ _ _ (C7 w11 hv1),(.inl rfl)⟩) ?_
 refine bs h fun v2 hv2 h=> ?_
 refine U8 _ (bo v2) (A19 rfl) (fun w12=>⟨_,[(.d (.agg [(i64 v1.from_),(i64 v1.to)]))],_,_,(by simp only [A3 w12];rfl),rfl,A2,B0c _ _ (C7 w12 hv2),(.inl rfl)⟩) ?_
 refine Z7 _ (.d (bo (!v2))) rfl (A19 rfl) (fun w13=>(by simp only [A3 w13];rfl)) ?_
 refine sa rfl rfl rfl (sv rfl (A1 (B3 ?_)))
 cases h
 exact A7 (.inr rfl) (B6 (B4 rfl) E1) (.refl _)
noncomputable def F5 (p1:(List Span))(p2:Span)(x1:Int):Option (Stp Int (Sum Unit Int)):=
  cond (decide (x1< (p1.length:Int))) ((D6 p1 x1).bind fun v1=>(A0t v1 p2).bind fun v2=>cond v2 (some (.out (.inr x1))) (some (.go (w64 (x1+1))))) (some (.out (.inl ())))
noncomputable def G9 (p1:(List Span))(p2:Span):Option Int:=
  thenS (loop (F5 p1 p2) 0) (fun _=>some (-1)) (fun r=>some r)
theorem A1n (p1:(List Span))(p2:Span)(r:Int)(h:G9 p1 p2=some r):PCall Tryz.prog 208 [(.list (List.map B13 p1)),(.fn (.func 147) [] [(.bp (B13 p2) 0)])] (i64 r):=by
 refine B8 (fk Tryz.func208 Tryz.ntmps208 m0 (by with_unfolding_all rfl)) (nl rfl) ?_
 unfold G9 at h
 refine B5 (s0:=⟨T [(0,(.d _)),(1,(.d _))],G []⟩) (sbr rfl rfl) ?_
 refine lr (fun u1 hu1=>sv rfl (A1 (A6 (lr (fun u2 hu2=>sv rfl (sd rfl (E5 rfl) (sv rfl (A1 (js h fun z1 hz1 h=>E0 (fun s=> ∃(y1:Unit) (g1:Unit),z1= .inl y1∧Sb ⟨T [],G []⟩ s) ?_ ?_)))))))))
 refine A8 (E7 (F5 p1 p2) (fun (x1:Int) (g2:Unit)=>⟨T [(0,(dl B13 p1)),(1,(.d (.fn (.func 147) [] [(.bp (B13 p2) 0)]))),(7,(di (p1.length:Int))),(8,(di x1))],G []⟩) 0 () _ hz1 (sbr rfl rfl) ?_)
 intro x1 g2 z2 hz2 ez2
 unfold F5 at hz2
 refine lr (fun u3 hu3=>sv rfl (A1 (A6 (cc rfl hz2 (fun c1 hz2=> ?_) (fun c1 hz2=> ?_)))))
 refine A9 (A6 (A8 (lr (fun u4 hu4=>sv rfl (sv rfl (A1 (lr (fun u5 hu5=>sv rfl (sv rfl (sv rfl (bs hz2 fun v1 hv1 hz2=>sd rfl (E4 rfl rfl hv1 rfl) (sd rfl (C4 rfl hv1 rfl rfl) (bs hz2 fun v2 hv2 hz2=>B1 rfl rfl A2 (B32 _ _ _ hv2) (.inl rfl) (A1 (cc rfl hz2 (fun c2 hz2=> ?_) (fun c2 hz2=> ?_))))))))))))))))
 refine lr (fun u6 hu6=>sv rfl (sv rfl (A1 (B3 ?_))))
 cases hz2
 obtain rfl:=ez2 _ rfl
 refine ⟨nofun,D7 ?_⟩
 rw [Sum.elim_inr]at h
 cases h
 exact A7 (.inr rfl) (B6 (B4 rfl) E1) (.refl _)
 refine A9 (F9 (D0 fun u7 hu7=>sv rfl (sv rfl (A1 (G3 ?_)))))
 cases hz2
 exact ⟨rfl,(),(sbr rfl rfl)⟩
 refine C3 rfl ?_
 cases hz2
 obtain rfl:=ez2 _ rfl
 refine ⟨nofun,C0 rfl (l_j ?_)⟩
 exact ⟨_,(),rfl,(sbr rfl rfl)⟩
 rintro _ ⟨y1,g1,rfl,q1⟩
 rw [Sum.elim_inl]at h
 refine B5 q1 (lr (fun u8 hu8=>sv rfl (A1 (B3 ?_))))
 cases h
 exact A7 (.inr rfl) (B6 (B4 rfl) E1) (.refl _)
noncomputable def F6 (p1:(List Span))(p2:Span):Option Bool:=
  (G9 p1 p2).bind fun v1=>some (decide (v1≥0))
theorem A13 (p1:(List Span))(p2:Span)(r:Bool)(h:F6 p1 p2=some r):PCall Tryz.prog 145 [(.list (List.map B13 p1)),(.fn (.func 147) [] [(.bp (B13 p2) 0)])] (bo r):=by
 refine B8 (fk Tryz.func145 Tryz.ntmps145 m0 (by with_unfolding_all rfl)) (nl rfl) ?_
 unfold F6 at h
 refine B5 (s0:=⟨T [(0,(.d _)),(1,(.d _))],G []⟩) (sbr rfl rfl) ?_
 refine lr (fun u1 hu1=>sv rfl (A1 (lr (fun u2 hu2=>sv rfl (sv rfl (bs h fun v1 hv1 h=>B1 rfl rfl A2 (A1n _ _ _ hv1) (.inl rfl) (sv rfl (sv rfl (A1 (B3 ?_))))))))))
 cases h
 exact A7 (.inr rfl) (B6 (B4 rfl) E1) (.refl _)
noncomputable def A25 (p1:Span)(p2:(List Span)):Option Bool:=
  (F6 p2 p1).bind fun v1=>some v1
theorem B42 (p1:Span)(p2:(List Span))(r:Bool)(h:A25 p1 p2=some r):PCall Tryz.prog 146 [(.agg (B13 p1)),(.bp [(.list (List.map B13 p2))] 0)] (bo r):=by
 refine B8 (fk Tryz.func146 Tryz.ntmps146 m0 (by with_unfolding_all rfl)) (nl rfl) ?_
 unfold A25 at h
 refine B5 (s0:=⟨T [(0,(.d _)),(1,(.d _))],G []⟩) (sbr rfl rfl) ?_
 refine lr (fun u1 hu1=>sn rfl rfl (sv rfl (A1 (lr (fun u2 hu2=>sv rfl (B9 (.fn _ _ _) rfl rfl (bs h fun v1 hv1 h=>B1 rfl (rD (C9 (C1a E2 (C9 (A2q G_hit (rD (rD (rD E2)))) E2)) E2)) A2 (A13 _ _ _ hv1) (.inr rfl) (sv rfl (A1 (B3 ?_))))))))))
 cases h
 exact A7 (.inr rfl) (B6 (B4 rfl) E1) (.refl _)
noncomputable def G6 (p1:(List Span))(p2:(List Span))(x1:Int):Option (Stp Int (Sum Unit Int)):=
  cond (decide (x1< (p1.length:Int))) ((D6 p1 x1).bind fun v1=>(A25 v1 p2).bind fun v2=>cond v2 (some (.out (.inr x1))) (some (.go (w64 (x1+1))))) (some (.out (.inl ())))
noncomputable def I5 (p1:(List Span))(p2:(List Span)):Option Int:=
  thenS (loop (G6 p1 p2) 0) (fun _=>some (-1)) (fun r=>some r)
theorem A2f (p1:(List Span))(p2:(List Span))(r:Int)(h:I5 p1 p2=some r):PCall Tryz.prog 208 [(.list (List.map B13 p1)),(.fn (.func 146) [] [(.bp [(.list (List.map B13 p2))] 0)])] (i64 r):=by
 refine B8 (fk Tryz.func208 Tryz.ntmps208 m0 (by with_unfolding_all rfl)) (nl rfl) ?_
 unfold I5 at h
 refine B5 (s0:=⟨T [(0,(.d _)),(1,(.d _))],G []⟩) (sbr rfl rfl) ?_
 refine lr (fun u1 hu1=>sv rfl (A1 (A6 (lr (fun u2 hu2=>sv rfl (sd rfl (E5 rfl) (sv rfl (A1 (js h fun z1 hz1 h=>E0 (fun s=> ∃(y1:Unit) (g1:Unit),z1= .inl y1∧Sb ⟨T [],G []⟩ s) ?_ ?_)))))))))
 refine A8 (E7 (G6 p1 p2) (fun (x1:Int) (g2:Unit)=>⟨T [(0,(dl B13 p1)),(1,(.d (.fn (.func 146) [] [(.bp [(.list (List.map B13 p2))] 0)]))),(7,(di (p1.length:Int))),(8,(di x1))],G []⟩) 0 () _ hz1 (sbr rfl rfl) ?_)
 intro x1 g2 z2 hz2 ez2
 unfold G6 at hz2
 refine lr (fun u3 hu3=>sv rfl (A1 (A6 (cc rfl hz2 (fun c1 hz2=> ?_) (fun c1 hz2=> ?_)))))
 refine A9 (A6 (A8 (lr (fun u4 hu4=>sv rfl (sv rfl (A1 (lr (fun u5 hu5=>sv rfl (sv rfl (sv rfl (bs hz2 fun v1 hv1 hz2=>sd rfl (E4 rfl rfl hv1 rfl) (sd rfl (C4 rfl hv1 rfl rfl) (bs hz2 fun v2 hv2 hz2=>B1 rfl rfl A2 (B42 _ _ _ hv2) (.inl rfl) (A1 (cc rfl hz2 (fun c2 hz2=> ?_) (fun c2 hz2=> ?_))))))))))))))))
 refine lr (fun u6 hu6=>sv rfl (sv rfl (A1 (B3 ?_))))
 cases hz2
 obtain rfl:=ez2 _ rfl
 refine ⟨nofun,D7 ?_⟩
 rw [Sum.elim_inr]at h
 cases h
 exact A7 (.inr rfl) (B6 (B4 rfl) E1) (.refl _)
 refine A9 (F9 (D0 fun u7 hu7=>sv rfl (sv rfl (A1 (G3 ?_)))))
 cases hz2
 exact ⟨rfl,(),(sbr rfl rfl)⟩
 refine C3 rfl ?_
 cases hz2
 obtain rfl:=ez2 _ rfl
 refine ⟨nofun,C0 rfl (l_j ?_)⟩
 exact ⟨_,(),rfl,(sbr rfl rfl)⟩
 rintro _ ⟨y1,g1,rfl,q1⟩
 rw [Sum.elim_inl]at h
 refine B5 q1 (lr (fun u8 hu8=>sv rfl (A1 (B3 ?_))))
 cases h
 exact A7 (.inr rfl) (B6 (B4 rfl) E1) (.refl _)
noncomputable def G7 (p1:(List Span))(p2:(List Span)):Option Bool:=
  (I5 p1 p2).bind fun v1=>some (decide (v1≥0))
theorem A1l (p1:(List Span))(p2:(List Span))(r:Bool)(h:G7 p1 p2=some r):PCall Tryz.prog 145 [(.list (List.map B13 p1)),(.fn (.func 146) [] [(.bp [(.list (List.map B13 p2))] 0)])] (bo r):=by
 refine B8 (fk Tryz.func145 Tryz.ntmps145 m0 (by with_unfolding_all rfl)) (nl rfl) ?_
 unfold G7 at h
 refine B5 (s0:=⟨T [(0,(.d _)),(1,(.d _))],G []⟩) (sbr rfl rfl) ?_
 refine lr (fun u1 hu1=>sv rfl (A1 (lr (fun u2 hu2=>sv rfl (sv rfl (bs h fun v1 hv1 h=>B1 rfl rfl A2 (A2f _ _ _ hv1) (.inl rfl) (sv rfl (sv rfl (A1 (B3 ?_))))))))))
 cases h
 exact A7 (.inr rfl) (B6 (B4 rfl) E1) (.refl _)
noncomputable def A64 (p1:Map)(p2:Agent)(p3:Agent):Option Bool:=
  (A9u p1 p3).bind fun v1=>(A9u p1 p2).bind fun v2=>(G7 v2 v1).bind fun v3=>some v3
theorem B7v (p1:Map)(p2:Agent)(p3:Agent)(r:Bool)(h:A64 p1 p2 p3=some r):PCall Tryz.prog 68 [(.agg (A4h p1)),(.agg (D2 p2)),(.agg (D2 p3))] (bo r):=by
 refine B8 (fk Tryz.func68 Tryz.ntmps68 m0 (by with_unfolding_all rfl)) (nl rfl) ?_
 unfold A64 at h
 refine B5 (s0:=⟨T [(0,(.d _)),(1,(.d _)),(2,(.d _))],G []⟩) (sbr rfl rfl) ?_
 refine lr (fun u1 hu1=>sn rfl rfl (sn rfl rfl (sn rfl rfl (sv rfl (A1 (lr (fun u2 hu2=>sd rfl (B2 rfl (gq rfl) rfl rfl) (sd rfl (B2 rfl G_hit rfl rfl) (bs h fun v1 hv1 h=>B1 rfl rfl A2 (B6x _ _ _ hv1) (.inl rfl) (sn rfl rfl (sst rfl G_hit [(dl B13 v1)] rfl (A1 (lr (fun u3 hu3=>sd rfl (B2 rfl (gq rfl) rfl rfl) (sd rfl (B2 rfl (gq rfl) rfl rfl) (bs h fun v2 hv2 h=>B1 rfl rfl A2 (B6x _ _ _ hv2) (.inl rfl) (B9 (.fn _ _ _) rfl rfl (bs h fun v3 hv3 h=>B1 rfl (rD (C9 (C1a E2 (C9 (A2q G_hit (rD E2)) E2)) E2)) A2 (A1l _ _ _ hv3) (.inr rfl) (sv rfl (A1 (B3 ?_)))))))))))))))))))))
 cases h
 exact A7 (.inr rfl) (B6 (B4 rfl) E1) (.refl _)
noncomputable def Z8 (p1:WorldScene)(p2:Int)(p3:Int)(p4:Int):Option Bool:=
  (Q6 p1 p2 p4).bind fun v1=>((cond v1 (Q6 p1 p3 p4) (some default))).bind fun v2=>((cond (v1&&v2) (D6 p1.before.Agents p2) (some default))).bind fun v3=>((cond (v1&&v2) (A6d p1.m v3.Route p4) (some default))).bind fun v4=>((cond (v1&&v2) (D6 p1.before.Agents p3) (some default))).bind fun v5=>((cond (v1&&v2) (A6d p1.m v5.Route p4) (some default))).bind fun v6=>some ((v1&&v2)&& (v4 !=v6))
theorem A7u (p1:WorldScene)(p2:Int)(p3:Int)(p4:Int)(r:Bool)(h:Z8 p1 p2 p3 p4=some r):PCall Tryz.prog 82 [(.bp (B01 p1) 0),(i64 p2),(i64 p3),(i64 p4)] (bo r):=by
 refine B8 (fk Tryz.func82 Tryz.ntmps82 m0 (by with_unfolding_all rfl)) (nl rfl) ?_
 unfold Z8 at h
 refine B5 (s0:=⟨T [(0,(.d _)),(1,(.d _)),(2,(.d _)),(3,(.d _))],G []⟩) (sbr rfl rfl) ?_
 refine lr (fun u1 hu1=>sv rfl (A1 (A6 (I6 rfl fun u2 hu2=>sv rfl (sv rfl (sv rfl (bs h fun v1 hv1 h=>B1 rfl rfl A2 (A0j _ _ _ _ hv1) (.inl rfl) (sv rfl (gt rfl (fun _=>rfl) (gt rfl (fun _=>rfl) (gt rfl (fun _=>rfl) (bs h fun v2 hv2 h=> ?_))))))))))))
 refine U8 v1 (bo v2) (A19 rfl) (fun w4=>⟨_,[(.d (.bp (B01 p1) 0)),(di p3),(di p4)],_,_,(by simp only [A3 w4];rfl),rfl,A2,A0j _ _ _ _ (C7 w4 hv2),(.inl rfl)⟩) ?_
 refine sa rfl rfl rfl (sv rfl (gt rfl (fun _=>rfl) ?_))
 refine gt rfl (fun w6=>(by simp only [A3 w6];rfl)) ?_
 refine gt rfl (fun w7=>(by simp only [A3 w7];rfl)) ?_
 refine gt rfl (fun w8=>(by simp only [A3 w8];rfl)) ?_
 refine gt rfl (fun _=>rfl) ?_
 refine gt rfl (fun w10=>(by simp only [A3 w10];rfl)) ?_
 refine gt rfl (fun w11=>(by simp only [A3 w11];rfl)) ?_
 refine gt rfl (fun w12=>(by simp only [A3 w12];rfl)) ?_
 refine gt rfl (fun w13=>(by simp only [A3 w13];rfl)) ?_
 refine gt rfl (fun _=>rfl) (bs h fun v3 hv3 h=>gt rfl (fun w15=>(E4 (A3 w15) (A3 w15) (C7 w15 hv3) rfl)) ?_)
 refine gt rfl (fun w16=>(by simp only [A3 w16];rfl)) ?_
 refine gt rfl (fun w17=>(F3 (A3 w17) (C7 w17 hv3) rfl)) (gt rfl (fun _=>rfl) (bs h fun v4 hv4 h=> ?_))
 refine U8 _ (i64 v4) (A19 rfl) (fun w19=>⟨_,[(.d (.agg (A4h p1.m))),(dl A5 v3.Route),(di p4)],_,_,(by simp only [A3 w19];rfl),rfl,A2,B1h _ _ _ _ (C7 w19 hv4),(.inl rfl)⟩) ?_
 refine gt rfl (fun _=>rfl) ?_
 refine gt rfl (fun w21=>(by simp only [A3 w21];rfl)) ?_
 refine gt rfl (fun w22=>(by simp only [A3 w22];rfl)) ?_
 refine gt rfl (fun w23=>(by simp only [A3 w23];rfl)) ?_
 refine gt rfl (fun _=>rfl) ?_
 refine gt rfl (fun w25=>(by simp only [A3 w25];rfl)) ?_
 refine gt rfl (fun w26=>(by simp only [A3 w26];rfl)) ?_
 refine gt rfl (fun w27=>(by simp only [A3 w27];rfl)) ?_
 refine gt rfl (fun w28=>(by simp only [A3 w28];rfl)) ?_
 refine gt rfl (fun _=>rfl) (bs h fun v5 hv5 h=>gt rfl (fun w30=>(E4 (A3 w30) (A3 w30) (C7 w30 hv5) rfl)) ?_)
 refine gt rfl (fun w31=>(by simp only [A3 w31];rfl)) ?_
 refine gt rfl (fun w32=>(F3 (A3 w32) (C7 w32 hv5) rfl)) (gt rfl (fun _=>rfl) (bs h fun v6 hv6 h=> ?_))
 refine U8 _ (i64 v6) (A19 rfl) (fun w34=>⟨_,[(.d (.agg (A4h p1.m))),(dl A5 v5.Route),(di p4)],_,_,(by simp only [A3 w34];rfl),rfl,A2,B1h _ _ _ _ (C7 w34 hv6),(.inl rfl)⟩) ?_
 refine gt rfl (fun w35=>(V8 (A3 w35) (A3 w35) rfl)) (sa rfl rfl rfl (sv rfl (A1 (B3 ?_))))
 cases h
 exact A7 (.inr rfl) (B6 (B4 rfl) E1) (.refl _)
noncomputable def A8l (p1:Map)(v5:WorldScene)(a1:(Int×Int))(x2:Int):Option (Stp Int (Sum Unit (State×Int))):=
  cond (decide (x2< (p1.Zones.length:Int))) ((Z8 v5 a1.1 a1.2 x2).bind fun v10=>cond v10 (some (.out (.inr ((State.mk 0 [] []),12)))) (some (.go (w64 (x2+1))))) (some (.out (.inl ())))
noncomputable def A8m (p1:Map)(p2:(List Agent))(v5:WorldScene)(x1:Unit)(a1:(Int×Int)):Option (Stp Unit (Sum Unit (State×Int))):=
  (D6 p2 a1.1).bind fun v7=>(D6 p2 a1.2).bind fun v8=>(A64 p1 v7 v8).bind fun v9=>cond v9 (some (.out (.inr ((State.mk 0 [] []),12)))) (thenS (loop (A8l p1 v5 a1) 0) (fun _=>some (.go ())) (fun r=>some (.out (.inr r))))
noncomputable def B19:Option Unit:=
  some ()
noncomputable def B43 (p1:Map)(p2:(List Agent)):Option (State×Int):=
  (A9s (State.mk 0 p2 [])).bind fun v1=>(A2d p1 v1).bind fun v2=>cond (v2 !=0) (some ((State.mk 0 [] []),v2)) ((I8 p2).bind fun v3=>cond v3 (some ((State.mk 0 [] []),10)) ((A9s v1).bind fun v4=>(A1f (WorldScene.mk p1 v1 v4 [] [])).bind fun v5=>(B19).bind fun y1=>thenS ((C20 v5.before).bind fun v6=>loopL (A8m p1 p2 v5) (fun (x1:Unit)=> .inl ()) v6 ()) (fun _=>some (v5.after,0)) (fun r=>some r)))
theorem C4t (p1:Map)(p2:(List Agent))(r:(State×Int))(h:B43 p1 p2=some r):PCall Tryz.prog 27 [(.agg (A4h p1)),(.list (List.map D2 p2))] (.tup [(.agg (A2s r.1)),(i64 r.2)]):=by
 refine B8 (fk Tryz.func27 Tryz.ntmps27 (fun r=>if r==8 then [1008001]else if r==9 then [1]else []) (by with_unfolding_all rfl)) (nl rfl) ?_
 unfold B43 at h
 refine B5 (s0:=⟨T [(0,(.d _)),(1,(.d _))],G []⟩) (sbr rfl rfl) ?_
 refine lr (fun u1 hu1=>sn rfl rfl (sn rfl rfl (sn rfl rfl (sn rfl rfl (A1 (lr (fun u2 hu2=>sl rfl (gq rfl) rfl (sv rfl (bs h fun v1 hv1 h=>B1 rfl rfl (.cons (.agg (ca rfl (ca rfl (.cons ⟨DLe.nil,rfl⟩ .nil)))) .nil) (B6q _ _ hv1) (.inl rfl) (sn rfl rfl (sst rfl G_hit (L5 v1) rfl (A1 (A6 (lr (fun u3 hu3=>sd rfl (B2 rfl (gq rfl) rfl rfl) (sd rfl (B2 rfl G_hit rfl rfl) (bs h fun v2 hv2 h=>B1 rfl rfl A2 (A89 _ _ _ hv2) (.inl rfl) (sv rfl (A1 (lr (fun u4 hu4=>sv rfl (sv rfl (A1 (cc rfl h (fun c1 h=> ?_) (fun c1 h=> ?_)))))))))))))))))))))))))
 refine lr (fun u5 hu5=>sv rfl (sv rfl (sst rfl (gq rfl) [(di 0),(.d .nilS),(.d .nilS)] rfl (sst rfl (gq rfl) [(di v2)] rfl (A1 (B3 ?_))))))
 cases h
 exact A7 (.inr rfl) (B6j (K9 rfl (gq rfl) (nl rfl) rfl) (B6i rfl G_hit rfl) E1 E1) (.tup (.cons (.agg (ca rfl (.cons ⟨DLe.nil,rfl⟩ (.cons ⟨DLe.nil,rfl⟩ .nil)))) A2))
 refine A9 (A6 (lr (fun u6 hu6=>sl rfl (gq rfl) rfl (bs h fun v3 hv3 h=>B1 rfl rfl A2 (A2j _ _ hv3) (.inl rfl) (A1 (cc rfl h (fun c2 h=> ?_) (fun c2 h=> ?_)))))))
 refine lr (fun u7 hu7=>sv rfl (sst rfl (gq rfl) [(di 0),(.d .nilS),(.d .nilS)] rfl (sst rfl (gq rfl) [(di 10)] rfl (A1 (B3 ?_)))))
 cases h
 exact A7 (.inr rfl) (B6j (K9 rfl (gq rfl) (nl rfl) rfl) (B6i rfl G_hit rfl) E1 E1) (.tup (.cons (.agg (ca rfl (.cons ⟨DLe.nil,rfl⟩ (.cons ⟨DLe.nil,rfl⟩ .nil)))) A2))
 refine A9 (A6 (I6 rfl fun u8 hu8=>sd rfl (B2 rfl (gq rfl) rfl rfl) (sd rfl (B2 rfl G_hit rfl rfl) (sd rfl (B2 rfl G_hit rfl rfl) (bs h fun v4 hv4 h=>B1 rfl rfl A2 (B6q _ _ hv4) (.inl rfl) (sv rfl (sn rfl rfl (sn rfl rfl (sst rfl G_hit [(.ptr (30,u8) 0)] rfl (A1 (lr (fun u9 hu9=>sp rfl (X1 rfl G_hit rfl) (bs h fun v5 hv5 h=>C9f (v:= .d (.tup [])) (us:= [(30,u8)]) (D21 (B3u _ _ hv5) [(30,u8)] [(30,u8)] _ (((30,u8),some (.box 135 (W8 v5)))::_) rfl A9z (A1a (D80 (A4 rfl (A4 rfl G_hit)) rfl) B6n) (A71 (A4 rfl (A4 rfl G_hit)) A70) ⟨⟨_,(A4 rfl (A4 rfl G_hit)), .box (.cons (.of rfl) (.cons (.of rfl) (.cons (.of rfl) (.cons (.of rfl) (.cons (.of rfl) (.cons (.of rfl) (.cons (.of rfl) (.cons (.of rfl) (.cons (.of rfl) (.cons (.of rfl) (.cons (.of rfl) (.cons (DLe.d DLe.nil) (.cons (DLe.d DLe.nil) .nil)))))))))))))⟩,trivial⟩ (fun _ h=>h) nd1 rfl rfl rfl) (A1 (A6 (lr (fun u10 hu10=>sp rfl (X1 rfl (gq rfl) rfl) (bs h fun y1 hy1 h=>C09 (fk Tryz.func81 Tryz.ntmps81 m0 (by with_unfolding_all rfl)) (fun (g1:Nat)=> [(2,(.ptr (2,u1) 0)),(3,(.ptr (3,u1) 0)),(4,(.ptr (4,u1) 0)),(5,(.ptr (5,u1) 0)),(8,(.ptr (8,u8) 0)),(34,(.fn (.func 174) [] [(.ptr (1,g1) 0)]))]) (fun (g1:Nat)=> [((2,u1),some (.box 33 (A0i p1))),((3,u1),some (.box 22 [(dl D2 p2)])),((4,u1),some (.box 25 [(di 0),(.d .nilS),(.d .nilS)])),((5,u1),some (.box 36 [(di 0)])),((8,u8),some (.box 133 [(.ptr (30,u8) 0)])),((30,u8),some (.box 135 (W8 v5))),((1,g1),some (.box 133 [(.ptr (30,u8) 0)]))]) rfl (nl rfl) ?_ ?_))))))))))))))))))
 unfold B19 at hy1
 refine B5 (s0:=⟨T [(0,(.ptr _ _))],G [((30,u8),some (.box 135 _)),((2,u1),some (.box 33 _)),((3,u1),some (.box 22 _)),((4,u1),some (.box 25 _)),((5,u1),some (.box 36 _)),((8,u8),some (.box 133 _))]⟩) (sbr rfl rfl) ?_
 refine lr (fun u11 hu11=>sn rfl rfl (sv rfl (A1 (lr (fun u12 hu12=>B9 (.fn _ _ _) rfl rfl (B9 (.fn _ _ _) rfl rfl (A1 (B3 ?_))))))))
 cases hy1
 exact C5z (.inr rfl) (D3h (B4 rfl)) u11 ⟨.of rfl, .of rfl, .of rfl, .of rfl, .of rfl, .of rfl,trivial⟩ (sg rfl (sg rfl (sg rfl (sg rfl (sg rfl (sg rfl (B0 G_hit (.of rfl) trivial)))))))
 intro g1
 intro u13 hu13
 refine A1 (js h fun z1 hz1 h=>E0 (fun s=> ∃(y2:Unit) (g2:Unit),z1= .inl y2∧Sb ⟨T [(4,(.ptr (4,u1) 0)),(5,(.ptr (5,u1) 0)),(8,(.ptr (8,u8) 0))],G [((4,u1),some (.box 25 [(di 0),(.d .nilS),(.d .nilS)])),((5,u1),some (.box 36 [(di 0)])),((8,u8),some (.box 133 [(.ptr (30,u8) 0)])),((30,u8),some (.box 135 (W8 v5)))]⟩ s) ?_ ?_)
 refine A8 (bs hz1 fun v6 hv6 hz1=>B5 (s0:=⟨T [(2,(.ptr _ _)),(3,(.ptr _ _)),(4,(.ptr _ _)),(5,(.ptr _ _)),(8,(.ptr _ _)),(34,(.fn _ _ _))],G [((2,u1),some (.box 33 _)),((3,u1),some (.box 22 _)),((4,u1),some (.box 25 _)),((5,u1),some (.box 36 _)),((8,u8),some (.box 133 _)),((30,u8),some (.box 135 _)),((1,g1),some (.box 133 _))]⟩) (sbr rfl rfl) ?_)
 refine C7n (.fn (.func 174) [] [(.ptr (1,g1) 0)]) (B5u (1,g1) (30,u8) v5.before) C65 v6 (A8m p1 p2 v5) (fun (x1:Unit)=>(.inl ():Sum Unit (State×Int))) (fun (x1:Unit) (g3:Unit)=> [((2,u1),some (.box 33 (A0i p1))),((3,u1),some (.box 22 [(dl D2 p2)])),((4,u1),some (.box 25 [(di 0),(.d .nilS),(.d .nilS)])),((5,u1),some (.box 36 [(di 0)])),((8,u8),some (.box 133 [(.ptr (30,u8) 0)])),((1,g1),some (.box 133 [(.ptr (30,u8) 0)])),((30,u8),some (.box 135 (W8 v5)))]) () () _ rfl (C21 hv6 _ _) (fun x1 g3 _ _=>⟨A4 rfl (gq rfl),_,_,_,_,_,_,_,_,_,_,A4 rfl (gq rfl)⟩) (fun _=>rfl) hz1 (sbr rfl rfl) nofun ?_ ?_
 intro u15 hu15 hku15
 refine ⟨fun x1 g3=>(A4 rfl (A4 rfl (A4 rfl (A4 rfl (A4 rfl (A4 rfl (A4 rfl rfl))))))),?_⟩
 intro r1 x1 g3 a1 z2 hrr1 hz2 ez2
 unfold A8m at hz2
 show AWL _ _ _ _ _ _ ⟨T [(36,(di a1.2)),(35,(di a1.1)),(2,(.ptr (2,u1) 0)),(3,(.ptr (3,u1) 0)),(4,(.ptr (4,u1) 0)),(5,(.ptr (5,u1) 0)),(8,(.ptr (8,u8) 0)),(34,(.fn (.func 174) [] [(.ptr (1,g1) 0)]))],G [((1000000,u15),some (.obj (T [(2,(.ptr (2,u1) 0)),(3,(.ptr (3,u1) 0)),(4,(.ptr (4,u1) 0)),(5,(.ptr (5,u1) 0)),(8,(.ptr (8,u8) 0)),(34,(.fn (.func 174) [] [(.ptr (1,g1) 0)]))]) r1)),((2,u1),some (.box 33 (A0i p1))),((3,u1),some (.box 22 [(dl D2 p2)])),((4,u1),some (.box 25 [(di 0),(.d .nilS),(.d .nilS)])),((5,u1),some (.box 36 [(di 0)])),((8,u8),some (.box 133 [(.ptr (30,u8) 0)])),((1,g1),some (.box 133 [(.ptr (30,u8) 0)])),((30,u8),some (.box 135 (W8 v5)))]⟩
 refine lr (fun u16 hu16=>sv rfl (A1 (D0 fun u17 hu17=>sv rfl (A1 (l_j (D0h G_hit ?_))))))
 refine A8 (A6 (A6 (I6 rfl fun u18 hu18=>sd rfl (B2 rfl (gq rfl) rfl rfl) (sl rfl (gq rfl) rfl (sv rfl (bs hz2 fun v7 hv7 hz2=>sd rfl (E4 rfl rfl hv7 rfl) (sd rfl (C4 rfl hv7 rfl rfl) (sl rfl (gq rfl) rfl (sv rfl (bs hz2 fun v8 hv8 hz2=>sd rfl (E4 rfl rfl hv8 rfl) (sd rfl (C4 rfl hv8 rfl rfl) (bs hz2 fun v9 hv9 hz2=>B1 rfl rfl A2 (B7v _ _ _ _ hv9) (.inl rfl) (A1 (cc rfl hz2 (fun c3 hz2=> ?_) (fun c3 hz2=> ?_)))))))))))))))
 refine lr (fun u19 hu19=>sv rfl (sst rfl (gq rfl) [(di 0),(.d .nilS),(.d .nilS)] rfl (sst rfl (gq rfl) [(di 12)] rfl (A1 (B3 ?_)))))
 cases hz2
 obtain rfl:=ez2 _ rfl
 refine D0i (gq rfl) nofun (D7 ?_)
 rw [Sum.elim_inr]at h
 cases h
 exact A7 (.inr rfl) (B6j (K9 rfl (gq rfl) (nl rfl) rfl) (B6i rfl (gq rfl) rfl) E1 E1) (.tup (.cons (.agg (ca rfl (.cons ⟨DLe.nil,rfl⟩ (.cons ⟨DLe.nil,rfl⟩ .nil)))) A2))
 refine A9 (lr (fun u20 hu20=>sp rfl rfl (sl rfl (gq rfl) rfl (sd rfl (E5 rfl) (sv rfl (A1 (js hz2 fun z3 hz3 hz2=>E0 (fun s=> ∃(y3:Unit) (g4:Unit),z3= .inl y3∧Sb ⟨T [],G [((2,u1),some (.box 33 (A0i p1))),((3,u1),some (.box 22 [(dl D2 p2)])),((4,u1),some (.box 25 [(di 0),(.d .nilS),(.d .nilS)])),((5,u1),some (.box 36 [(di 0)])),((8,u8),some (.box 133 [(.ptr (30,u8) 0)])),((1,g1),some (.box 133 [(.ptr (30,u8) 0)])),((1000000,u15),some (.obj (T [(2,(.ptr (2,u1) 0)),(3,(.ptr (3,u1) 0)),(4,(.ptr (4,u1) 0)),(5,(.ptr (5,u1) 0)),(8,(.ptr (8,u8) 0)),(34,(.fn (.func 174) [] [(.ptr (1,g1) 0)]))]) {r1 with state:= .busy})),((30,u8),some (.box 135 (W8 v5)))]⟩ s) ?_ ?_)))))))
 refine A8 (E7 (A8l p1 v5 a1) (fun (x2:Int) (g5:Unit)=>⟨T [(4,(.ptr (4,u1) 0)),(5,(.ptr (5,u1) 0)),(8,(.ptr (8,u8) 0)),(9,(di a1.1)),(10,(di a1.2)),(50,(di (p1.Zones.length:Int))),(51,(di x2))],G [((4,u1),some (.box 25 [(di 0),(.d .nilS),(.d .nilS)])),((5,u1),some (.box 36 [(di 0)])),((8,u8),some (.box 133 [(.ptr (30,u8) 0)])),((2,u1),some (.box 33 (A0i p1))),((3,u1),some (.box 22 [(dl D2 p2)])),((1,g1),some (.box 133 [(.ptr (30,u8) 0)])),((1000000,u15),some (.obj (T [(2,(.ptr (2,u1) 0)),(3,(.ptr (3,u1) 0)),(4,(.ptr (4,u1) 0)),(5,(.ptr (5,u1) 0)),(8,(.ptr (8,u8) 0)),(34,(.fn (.func 174) [] [(.ptr (1,g1) 0)]))]) {r1 with state:= .busy})),((30,u8),some (.box 135 (W8 v5)))]⟩) 0 () _ hz3 (sbr rfl rfl) ?_)
 intro x2 g5 z4 hz4 ez4
 unfold A8l at hz4
 refine lr (fun u21 hu21=>sv rfl (A1 (A6 (cc rfl hz4 (fun c4 hz4=> ?_) (fun c4 hz4=> ?_)))))
 refine A9 (A6 (A8 (lr (fun u22 hu22=>sv rfl (sv rfl (A1 (lr (fun u23 hu23=>sp rfl (X1 rfl (gq rfl) rfl) (sv rfl (sv rfl (sv rfl (bs hz4 fun v10 hv10 hz4=>B1 rfl (C9 (A2q (gq rfl) (rD (rD (rD (rD (rD (rD (rD (rD (rD (rD (rD (rD (rD E2)))))))))))))) (rD (rD (rD E2)))) A2 (A7u _ _ _ _ _ hv10) (.inr rfl) (A1 (cc rfl hz4 (fun c5 hz4=> ?_) (fun c5 hz4=> ?_)))))))))))))))
 refine lr (fun u24 hu24=>sv rfl (sst rfl G_hit [(di 0),(.d .nilS),(.d .nilS)] rfl (sst rfl (gq rfl) [(di 12)] rfl (A1 (B3 ?_)))))
 cases hz4
 obtain rfl:=ez4 _ rfl
 refine ⟨nofun,D7 ?_⟩
 rw [Sum.elim_inr]at hz2
 cases hz2
 obtain rfl:=ez2 _ rfl
 refine D0i (gq rfl) nofun (D7 ?_)
 rw [Sum.elim_inr]at h
 cases h
 exact A7 (.inr rfl) (B6j (K9 rfl (gq rfl) (nl rfl) rfl) (B6i rfl (gq rfl) rfl) E1 E1) (.tup (.cons (.agg (ca rfl (.cons ⟨DLe.nil,rfl⟩ (.cons ⟨DLe.nil,rfl⟩ .nil)))) A2))
 refine A9 (F9 (D0 fun u25 hu25=>sv rfl (sv rfl (A1 (G3 ?_)))))
 cases hz4
 exact ⟨rfl,(),(sbr rfl rfl)⟩
 refine C3 rfl ?_
 cases hz4
 obtain rfl:=ez4 _ rfl
 refine ⟨nofun,C0 rfl (l_j ?_)⟩
 exact ⟨_,(),rfl,(sbr rfl rfl)⟩
 rintro _ ⟨y3,g4,rfl,q1⟩
 rw [Sum.elim_inl]at hz2
 refine F9 (G3 ?_)
 cases hz2
 exact D5z q1 (gq rfl) () (B0 G_hit (.of rfl) (sg rfl (sg rfl (sg rfl (sg rfl (sg rfl (sg rfl trivial)))))))
 rintro x1 g3 _ rfl qx1
 refine F9 (l_j ?_)
 exact ⟨_,(),rfl,(Sb.after qx1 (sbr rfl rfl))⟩
 rintro _ ⟨y2,g2,rfl,q2⟩
 rw [Sum.elim_inl]at h
 refine B5 q2 (lr (fun u26 hu26=>sp rfl (X1 rfl (gq rfl) rfl) (sp rfl rfl (sp rfl rfl (sd rfl (B2 rfl (gq rfl) rfl rfl) (sst rfl G_hit (L5 v5.after) rfl (sst rfl (gq rfl) [(di 0)] rfl (A1 (B3 ?_)))))))))
 cases h
 exact A7 (.inr rfl) (B6j (K9 rfl (gq rfl) (nl rfl) rfl) (B6i rfl G_hit rfl) E1 E1) (.refl _)
noncomputable def A4s (p1:Int):Option Int:=
  (cond (decide (p1≥4294967296)) (some ((p1.fdiv (2^ (min (32:Int).toNat (IntKind.bits .u64)))),32)) (some (p1,0))).bind fun y1=>(cond (decide (y1.1≥65536)) (some ((y1.1.fdiv (2^ (min (16:Int).toNat (IntKind.bits .u64)))),(w64 (y1.2+16)))) (some (y1.1,y1.2))).bind fun y2=>cond (decide (y2.1≥256)) ((D71 (ByteArray.mk #[0,1,2,2,3,3,3,3,4,4,4,4,4,4,4,4,5,5,5,5,5,5,5,5,5,5,5,5,5,5,5,5,6,6,6,6,6,6,6,6,6,6,6,6,6,6,6,6,6,6,6,6,6,6,6,6,6,6,6,6,6,6,6,6,7,7,7,7,7,7,7,7,7,7,7,7,7,7,7,7,7,7,7,7,7,7,7,7,7,7,7,7,7,7,7,7,7,7,7,7,7,7,7,7,7,7,7,7,7,7,7,7,7,7,7,7,7,7,7,7,7,7,7,7,7,7,7,7,8,8,8,8,8,8,8,8,8,8,8,8,8,8,8,8,8,8,8,8,8,8,8,8,8,8,8,8,8,8,8,8,8,8,8,8,8,8,8,8,8,8,8,8,8,8,8,8,8,8,8,8,8,8,8,8,8,8,8,8,8,8,8,8,8,8,8,8,8,8,8,8,8,8,8,8,8,8,8,8,8,8,8,8,8,8,8,8,8,8,8,8,8,8,8,8,8,8,8,8,8,8,8,8,8,8,8,8,8,8,8,8,8,8,8,8,8,8,8,8,8,8,8,8,8,8,8,8]) (IntKind.wrap .u8 (y2.1.fdiv (2^ (min (8:Int).toNat (IntKind.bits .u64)))))).bind fun v1=>some (w64 ((w64 (y2.2+8))+ (w64 v1)))) ((D71 (ByteArray.mk #[0,1,2,2,3,3,3,3,4,4,4,4,4,4,4,4,5,5,5,5,5,5,5,5,5,5,5,5,5,5,5,5,6,6,6,6,6,6,6,6,6,6,6,6,6,6,6,6,6,6,6,6,6,6,6,6,6,6,6,6,6,6,6,6,7,7,7,7,7,7,7,7,7,7,7,7,7,7,7,7,7,7,7,7,7,7,7,7,7,7,7,7,7,7,7,7,7,7,7,7,7,7,7,7,7,7,7,7,7,7,7,7,7,7,7,7,7,7,7,7,7,7,7,7,7,7,7,7,8,8,8,8,8,8,8,8,8,8,8,8,8,8,8,8,8,8,8,8,8,8,8,8,8,8,8,8,8,8,8,8,8,8,8,8,8,8,8,8,8,8,8,8,8,8,8,8,8,8,8,8,8,8,8,8,8,8,8,8,8,8,8,8,8,8,8,8,8,8,8,8,8,8,8,8,8,8,8,8,8,8,8,8,8,8,8,8,8,8,8,8,8,8,8,8,8,8,8,8,8,8,8,8,8,8,8,8,8,8,8,8,8,8,8,8,8,8,8,8,8,8,8,8,8,8,8,8]) (IntKind.wrap .u8 y2.1)).bind fun v2=>some (w64 (y2.2+ (w64 v2))))
theorem B6y (p1:Int)(r:Int)(h:A4s p1=some r):PCall Tryz.prog 281 [(.v (.int .u64 p1))] (i64 r):=by
 refine B8 (fk Tryz.func281 Tryz.ntmps281 m0 (by with_unfolding_all rfl)) (nl rfl) ?_
 unfold A4s at h
 refine B5 (s0:=⟨T [(0,(.d _))],G []⟩) (sbr rfl rfl) ?_
 refine lr (fun u1 hu1=>sv rfl (A1 (A6 (lr (fun u2 hu2=>sv rfl (sv rfl (A1 (bs h fun y1 hy1 h=>E0 (fun s=> ∃g1:Unit,Sb ⟨T [(0,(.d (.v (.int .u64 y1.1)))),(2,(di y1.2))],G []⟩ s) ?_ ?_))))))))
 refine cc rfl hy1 (fun c1 hy1=> ?_) (fun c1 hy1=> ?_)
 refine lr (fun u3 hu3=>sv rfl (sv rfl (sv rfl (A1 (D0 fun u4 hu4=>sv rfl (A1 ?_))))))
 cases hy1
 exact l_j ⟨(),(sbr rfl rfl)⟩
 refine A9 ?_
 cases hy1
 exact l_j ⟨(),(sbr rfl rfl)⟩
 rintro _ ⟨g1,q1⟩
 refine B5 q1 (A6 (lr (fun u5 hu5=>sv rfl (sv rfl (A1 (bs h fun y2 hy2 h=>E0 (fun s=> ∃g2:Unit,Sb ⟨T [(0,(.d (.v (.int .u64 y2.1)))),(2,(di y2.2))],G []⟩ s) ?_ ?_))))))
 refine cc rfl hy2 (fun c2 hy2=> ?_) (fun c2 hy2=> ?_)
 refine lr (fun u6 hu6=>sv rfl (sv rfl (sv rfl (A1 (D0 fun u7 hu7=>sv rfl (sv rfl (sv rfl (A1 ?_))))))))
 cases hy2
 exact l_j ⟨(),(sbr rfl rfl)⟩
 refine A9 ?_
 cases hy2
 exact l_j ⟨(),(sbr rfl rfl)⟩
 rintro _ ⟨g2,q2⟩
 refine B5 q2 (A6 (lr (fun u8 hu8=>sv rfl (sv rfl (A1 (cc rfl h (fun c3 h=> ?_) (fun c3 h=> ?_)))))))
 refine lr (fun u9 hu9=>sv rfl (sv rfl (sv rfl (A1 (D0 fun u10 hu10=>sv rfl (sv rfl (sv rfl (A1 (lr (fun u11 hu11=>sv rfl (sv rfl (sv rfl (bs h fun v1 hv1 h=>sd rfl (D4q rfl rfl hv1) (sv rfl (sv rfl (sv rfl (A1 (B3 ?_))))))))))))))))))
 cases h
 exact A7 (.inr rfl) (B6 (B4 rfl) E1) (.refl _)
 refine A9 (lr (fun u12 hu12=>sv rfl (sv rfl (sv rfl (bs h fun v2 hv2 h=>sd rfl (D4q rfl rfl hv2) (sv rfl (sv rfl (sv rfl (A1 (B3 ?_))))))))))
 cases h
 exact A7 (.inr rfl) (B6 (B4 rfl) E1) (.refl _)
noncomputable def A5e (p1:Int):Option Int:=
  (A4s p1).bind fun v1=>some v1
theorem B3p (p1:Int)(r:Int)(h:A5e p1=some r):PCall Tryz.prog 267 [(.v (.int .u64 p1))] (i64 r):=by
 refine B8 (fk Tryz.func267 Tryz.ntmps267 m0 (by with_unfolding_all rfl)) (nl rfl) ?_
 unfold A5e at h
 refine B5 (s0:=⟨T [(0,(.d _))],G []⟩) (sbr rfl rfl) ?_
 refine lr (fun u1 hu1=>sv rfl (A1 (A6 (B3y rfl (A9 (lr (fun u2 hu2=>sv rfl (bs h fun v1 hv1 h=>B1 rfl rfl A2 (B6y _ _ hv1) (.inl rfl) (sv rfl (A1 (B3 ?_)))))))))))
 cases h
 exact A7 (.inr rfl) (B6 (B4 rfl) E1) (.refl _)
noncomputable def A65 (p1:Int)(p2:Int):Option Bool:=
  (A08 p1).bind fun v1=>((cond v1 (A08 p2) (some default))).bind fun v2=>some ((v1&& (!v2))||(decide (p1<p2)))
theorem B7w (p1:Int)(p2:Int)(r:Bool)(h:A65 p1 p2=some r):PCall Tryz.prog 277 [(i64 p1),(i64 p2)] (bo r):=by
 refine B8 (fk Tryz.func277 Tryz.ntmps277 m0 (by with_unfolding_all rfl)) (nl rfl) ?_
 unfold A65 at h
 refine B5 (s0:=⟨T [(0,(.d _)),(1,(.d _))],G []⟩) (sbr rfl rfl) ?_
 refine lr (fun u1 hu1=>sv rfl (A1 (lr (fun u2 hu2=>sv rfl (bs h fun v1 hv1 h=>B1 rfl rfl A2 (A4c _ _ hv1) (.inl rfl) (sv rfl (gt rfl (fun _=>rfl) (bs h fun v2 hv2 h=> ?_))))))))
 refine U8 v1 (bo v2) (A19 rfl) (fun w2=>⟨_,[(di p2)],_,_,(by simp only [A3 w2];rfl),rfl,A2,A4c _ _ (C7 w2 hv2),(.inl rfl)⟩) ?_
 refine Z7 _ (.d (bo (!v2))) rfl (A19 rfl) (fun w3=>(by simp only [A3 w3];rfl)) ?_
 refine sa rfl rfl rfl (sv rfl (gf rfl (fun _=>rfl) (gf rfl (fun _=>rfl) (gf rfl (fun w6=>(V8 (A3 w6) (A3 w6) rfl)) (sd rfl (A0u rfl rfl (fun hc=>A3 (L6 hc))) (sv rfl (A1 (B3 ?_))))))))
 cases h
 exact A7 (.inr rfl) (B6 (B4 rfl) E1) (.refl _)
noncomputable def K3 (p2:Int)(x2:(Int× (List Int))):Option (Stp (Int× (List Int)) (List Int)):=
  ((cond (decide (x2.1>p2)) (D6 x2.2 x2.1) (some default))).bind fun v1=>((cond (decide (x2.1>p2)) (D6 x2.2 (w64 (x2.1 - 1))) (some default))).bind fun v2=>((cond (decide (x2.1>p2)) (A65 v1 v2) (some default))).bind fun v3=>cond ((decide (x2.1>p2))&&v3) ((D6 x2.2 (w64 (x2.1 - 1))).bind fun v4=>(D6 x2.2 x2.1).bind fun v5=>(D6 x2.2 x2.1).bind fun v6=>(D6 (B8d x2.2 x2.1 v4) (w64 (x2.1 - 1))).bind fun v7=>some (.go ((w64 (x2.1 - 1)),(B8d (B8d x2.2 x2.1 v4) (w64 (x2.1 - 1)) v5)))) (some (.out x2.2))
noncomputable def K4 (p2:Int)(p3:Int)(x1:(Int× (List Int))):Option (Stp (Int× (List Int)) (List Int)):=
  cond (decide (x1.1<p3)) ((loop (K3 p2) (x1.1,x1.2)).bind fun y1=>some (.go ((w64 (x1.1+1)),y1))) (some (.out (x1.2)))
noncomputable def M5 (p1:(List Int))(p2:Int)(p3:Int):Option (List Int):=
  loop (K4 p2 p3) ((w64 (p2+1)),p1)
theorem A5f (p1:(List Int))(p2:Int)(p3:Int)(r:(List Int))(h:M5 p1 p2 p3=some r):MCall Tryz.prog 271 [(.sl (900000,0)),(di p2),(di p3)] [(.arr 2 1 (List.map A5 p1))] (.d (.tup [])) [some (.arr 2 1 (List.map A5 r))] []:=by
 refine B5q (fk Tryz.func271 Tryz.ntmps271 m0 (by with_unfolding_all rfl)) rfl (nl rfl) ?_
 unfold M5 at h
 refine B5 (s0:=⟨T [(0,(.sl _)),(1,(.d _)),(2,(.d _))],G [((900000,0),some _)]⟩) (sbr rfl rfl) ?_
 refine lr (fun u1 hu1=>sv rfl (sv rfl (sv rfl (A1 (A8 (E7 (K4 p2 p3) (fun (x1:(Int× (List Int))) (g1:Unit)=>⟨T [(0,(.sl (900000,0))),(1,(di p2)),(2,(di p3)),(6,(di x1.1))],G [((900000,0),some (.arr 2 1 (List.map A5 x1.2)))]⟩) ((w64 (p2+1)),p1) () _ h (sbr rfl rfl) ?_))))))
 intro x1 g1 z1 hz1 ez1
 unfold K4 at hz1
 refine A6 (lr (fun u2 hu2=>sv rfl (sv rfl (sv rfl (A1 (cc rfl hz1 (fun c1 hz1=> ?_) (fun c1 hz1=> ?_)))))))
 refine A9 (A6 (A8 (lr (fun u3 hu3=>sv rfl (sv rfl (A1 (bs hz1 fun y1 hy1 hz1=>E0 (fun s=> ∃g2:Unit,Sb ⟨T [(0,(.sl (900000,0))),(1,(di p2)),(2,(di p3)),(6,(di x1.1))],G [((900000,0),some (.arr 2 1 (List.map A5 y1)))]⟩ s) ?_ ?_)))))))
 refine A8 (E7 (K3 p2) (fun (x2:(Int× (List Int))) (g3:Unit)=>⟨T [(0,(.sl (900000,0))),(1,(di p2)),(2,(di p3)),(6,(di x1.1)),(7,(di x2.1))],G [((900000,0),some (.arr 2 1 (List.map A5 x2.2)))]⟩) (x1.1,x1.2) () _ hy1 (sbr rfl rfl) ?_)
 intro x2 g3 z2 hz2 ez2
 unfold K3 at hz2
 refine A6 (A6 (I6 rfl fun u4 hu4=>sv rfl (sv rfl (sv rfl (sv rfl (Z7 _ (.sl _) rfl (A19 rfl) (fun _=>rfl) (gt rfl (fun _=>rfl) (bs hz2 fun v1 hv1 hz2=>Z7 _ (.aptr _ _ _ _) rfl (A19 rfl) (fun w3=>(A9d (A3 w3) (A3 w3) G_hit (C7 w3 hv1))) (gt rfl (fun w4=>(C2s (A3 w4) G_hit (C7 w4 hv1) rfl)) (Z7 _ (.sl _) rfl (A19 rfl) (fun _=>rfl) (gt rfl (fun _=>rfl) (gt rfl (vb rfl rfl rfl) (bs hz2 fun v2 hv2 hz2=>Z7 _ (.aptr _ _ _ _) rfl (A19 rfl) (fun w8=>(A9d (A3 w8) (A3 w8) G_hit (C7 w8 hv2))) (gt rfl (fun w9=>(C2s (A3 w9) G_hit (C7 w9 hv2) rfl)) (bs hz2 fun v3 hv3 hz2=> ?_)))))))))))))))
 refine U8 _ (bo v3) (A19 rfl) (fun w10=>⟨_,[(di v1),(di v2)],_,_,(by simp only [A3 w10];rfl),rfl,A2,B7w _ _ _ (C7 w10 hv3),(.inl rfl)⟩) ?_
 refine sa rfl rfl rfl (A1 (cc rfl hz2 (fun c2 hz2=> ?_) (fun c2 hz2=> ?_)))
 refine A9 (A6 (A8 (I6 rfl fun u5 hu5=>ss rfl (sv rfl (ss rfl (sv rfl (sv rfl (ss rfl (sv rfl (sv rfl (bs hz2 fun v4 hv4 hz2=>B9 (.aptr _ _ _ _) rfl (A9d rfl rfl G_hit hv4) (sd rfl (C2s rfl G_hit hv4 rfl) (ss rfl (sv rfl (bs hz2 fun v5 hv5 hz2=>B9 (.aptr _ _ _ _) rfl (A9d rfl rfl G_hit hv5) (sd rfl (C2s rfl G_hit hv5 rfl) (bs hz2 fun v6 hv6 hz2=>B9 (.aptr _ _ _ _) rfl (A9d rfl rfl G_hit hv6) (B4p A5 _ _ _ (x2.1) _ v4 [(i64 v4)] rfl rfl rfl G_hit hv6 (nl rfl) rfl (bs hz2 fun v7 hv7 hz2=>B9 (.aptr _ _ _ _) rfl (A9d rfl rfl G_hit hv7) (B4p A5 _ _ _ ((w64 (x2.1 - 1))) _ v5 [(i64 v5)] rfl rfl rfl G_hit hv7 (nl rfl) rfl (A1 (F9 (D0 fun u6 hu6=>sv rfl (sv rfl (sv rfl (A1 (G3 ?_)))))))))))))))))))))))))))
 cases hz2
 exact ⟨rfl,(),(sbr rfl rfl)⟩
 refine C3 rfl ?_
 cases hz2
 obtain rfl:=ez2 _ rfl
 refine ⟨nofun,C0 rfl (l_j ?_)⟩
 exact ⟨(),(sbr rfl rfl)⟩
 rintro _ ⟨g2,q1⟩
 refine F9 (B5 q1 (D0 fun u7 hu7=>sv rfl (sv rfl (sv rfl (A1 (G3 ?_))))))
 cases hz1
 exact ⟨rfl,(),(sbr rfl rfl)⟩
 refine C3 rfl ?_
 cases hz1
 obtain rfl:=ez1 _ rfl
 refine ⟨nofun,C0 rfl (G3 ?_)⟩
 exact C01 (.inl rfl) [] C02 (.refl _) ⟨⟨G_hit,A3a⟩,trivial⟩
noncomputable def O3 (p1:(List Int))(x1:(Int×Int×Int×Bool×Bool)):Option (Stp (Int×Int×Int×Bool×Bool) (List Int)):=
  cond (decide ((w64 (x1.2.1 - x1.1))≤12)) ((M5 p1 x1.1 x1.2.1).bind fun v1=>some (.out (v1))) (cond (x1.2.2.1==0) (none) ((cond (!x1.2.2.2.1) (none) (some ())).bind fun _=>none))
noncomputable def R3 (p1:(List Int))(p2:Int)(p3:Int)(p4:Int):Option (List Int):=
  loop (O3 p1) (p2,p3,p4,true,true)
theorem A7s (p1:(List Int))(p2:Int)(p3:Int)(p4:Int)(r:(List Int))(h:R3 p1 p2 p3 p4=some r):MCall Tryz.prog 266 [(.sl (900000,0)),(di p2),(di p3),(di p4)] [(.arr 2 1 (List.map A5 p1))] (.d (.tup [])) [some (.arr 2 1 (List.map A5 r))] []:=by
 refine B5q (fk Tryz.func266 Tryz.ntmps266 (fun r=>if r==4 then [1004003]else []) (by with_unfolding_all rfl)) rfl (nl rfl) ?_
 unfold R3 at h
 refine B5 (s0:=⟨T [(0,(.sl _)),(1,(.d _)),(2,(.d _)),(3,(.d _))],G [((900000,0),some _)]⟩) (sbr rfl rfl) ?_
 refine lr (fun u1 hu1=>sv rfl (A1 (lr (fun u2 hu2=>sv rfl (A1 (A8 (E7 (O3 p1) (fun (x1:(Int×Int×Int×Bool×Bool)) (g1:Unit)=>⟨T [(0,(.sl (900000,0))),(1,(di x1.1)),(2,(di x1.2.1)),(3,(di x1.2.2.1)),(8,(.d (bo x1.2.2.2.1))),(9,(.d (bo x1.2.2.2.2)))],G [((900000,0),some (.arr 2 1 (List.map A5 p1)))]⟩) (p2,p3,p4,true,true) () _ h (sbr rfl rfl) ?_)))))))
 intro x1 g1 z1 hz1 ez1
 unfold O3 at hz1
 refine A8 (lr (fun u3 hu3=>sv rfl (sv rfl (sv rfl (sv rfl (A1 (A6 (lr (fun u4 hu4=>sv rfl (sv rfl (A1 (cc rfl hz1 (fun c1 hz1=> ?_) (fun c1 hz1=> ?_)))))))))))))
 refine lr (fun u5 hu5=>ss rfl (sv rfl (sv rfl (bs hz1 fun v1 hv1 hz1=>C9f (v:= .d (.tup [])) (us:= [(900000,0)]) (D21 (A5f _ _ _ _ hv1) [(900000,0)] [(900000,0)] _ (((900000,0),some (.arr 2 1 (List.map A5 v1)))::_) rfl A9z (A1a C4n (A1a C7g (A1a C7g B6n))) (A71 G_hit A70) ⟨⟨_,G_hit, .of rfl⟩,trivial⟩ (fun _ h=>h) nd1 rfl rfl rfl) (A1 (B3 ?_))))))
 cases hz1
 obtain rfl:=ez1 _ rfl
 refine ⟨nofun,D7 ?_⟩
 exact C01 (.inr rfl) [] C02 (.refl _) ⟨⟨G_hit,A3a⟩,trivial⟩
 refine A9 (A6 (lr (fun u6 hu6=>sv rfl (sv rfl (A1 (cc rfl hz1 (fun c2 hz1=> ?_) (fun c2 hz1=> ?_)))))))
 refine lr (fun u7 hu7=>ss rfl (sv rfl (sv rfl ?_)))
 cases hz1
 refine A9 (A6 (lr (fun u8 hu8=>sv rfl (B9 (.d (bo (!x1.2.2.2.1))) rfl rfl (A1 (bs hz1 fun y1 hy1 hz1=>E0 (fun s=> ∃g2:Unit,Sb ⟨T [(0,(.sl (900000,0))),(1,(di x1.1)),(2,(di x1.2.1)),(3,(di x1.2.2.1)),(8,(.d (bo x1.2.2.2.1))),(9,(.d (bo x1.2.2.2.2))),(10,(di (w64 (x1.2.1 - x1.1))))],G [((900000,0),some (.arr 2 1 (List.map A5 p1)))]⟩ s) ?_ ?_))))))
 refine cc rfl hy1 (fun c3 hy1=> ?_) (fun c3 hy1=> ?_)
 refine lr (fun u9 hu9=>ss rfl (sv rfl (sv rfl ?_)))
 cases hy1
 refine A9 ?_
 cases hy1
 exact l_j ⟨(),(sbr rfl rfl)⟩
 rintro _ ⟨g2,q1⟩
 refine B5 q1 (lr (fun u10 hu10=>ss rfl (sv rfl (sv rfl ?_))))
 cases hz1
noncomputable def W1 (p1:(List Int)):Option (List Int):=
  (A5e (IntKind.wrap .u64 (p1.length:Int))).bind fun v1=>(R3 p1 0 (p1.length:Int) v1).bind fun v2=>some v2
theorem A9j (p1:(List Int))(r:(List Int))(h:W1 p1=some r):MCall Tryz.prog 252 [(.sl (900000,0))] [(.arr 2 1 (List.map A5 p1))] (.d (.tup [])) [some (.arr 2 1 (List.map A5 r))] []:=by
 refine B5q (fk Tryz.func252 Tryz.ntmps252 (fun r=>if r==1 then [1001005]else []) (by with_unfolding_all rfl)) rfl (nl rfl) ?_
 unfold W1 at h
 refine B5 (s0:=⟨T [(0,(.sl _))],G [((900000,0),some _)]⟩) (sbr rfl rfl) ?_
 refine lr (fun u1 hu1=>ss rfl (sd rfl (D4k (f:=A5) rfl G_hit) (sv rfl (A1 (D0 fun u2 hu2=>ss rfl (sv rfl (sv rfl (sv rfl (bs h fun v1 hv1 h=>B1 rfl rfl A2 (B3p _ _ hv1) (.inl rfl) (bs h fun v2 hv2 h=>C9f (v:= .d (.tup [])) (us:= [(900000,0)]) (D21 (A7s _ _ _ _ _ hv2) [(900000,0)] [(900000,0)] _ (((900000,0),some (.arr 2 1 (List.map A5 v2)))::_) rfl A9z (A1a C4n (A1a C7g (A1a C7g (A1a C7g B6n)))) (A71 G_hit A70) ⟨⟨_,G_hit, .of rfl⟩,trivial⟩ (fun _ h=>h) nd1 rfl rfl rfl) (A1 (G3 ?_))))))))))))
 obtain rfl:=(Option.some.inj h)
 exact C01 (.inl rfl) [] C02 (.refl _) ⟨⟨G_hit,A3a⟩,trivial⟩
section
open Go.RowKit Go.Lib
noncomputable def cmpR:Go.Shelf.Ren:=⟨fun n=>if n=43 then 253 else 0,fun t=>if t=22 then 48 else if t=23 then 2 else t,fun x=>x⟩
theorem cmp_lay:SlLaysE.n43 Tryz.prog cmpR where
  mixed:=by kernel_rfl
  f43:=⟨Tryz.f253.name,by decide,by kernel_rfl⟩
  t0:=Tryz.underlying0
  a0:=Tryz.isAgg0
  z0:=Tryz.sizeOf0
  v0:=Tryz.zeroValue0
  t3:=Tryz.underlying3
  a3:=Tryz.isAgg3
  z3:=Tryz.sizeOf3
  v3:=Tryz.zeroValue3
  t4:=Tryz.underlying4
  a4:=Tryz.isAgg4
  z4:=Tryz.sizeOf4
  v4:=Tryz.zeroValue4
  t22:=Tryz.underlying48
  a22:=Tryz.isAgg48
  z22:=Tryz.sizeOf48
  v22:=Tryz.zeroValue48
  a23:=Tryz.isAgg2
  z23:=Tryz.sizeOf2
theorem D18 (g cap:Nat)(d:Array Int)(w:World)(hH:Go.Sort.Holds (Value.int .i64) w g 0 d)(hsz:d.size≤9223372036854775807)(hcap:d.size≤cap):
    Calls Tryz.prog 253 #[.slice (some ⟨g,0,none⟩) d.size cap] w fun e w'=>e= .returned (.slice (some ⟨g,0,none⟩) (Go.Lib.compactUpTo d d.size).length cap)∧∃q,w'=Go.Sort.putRow (Value.int .i64) (Go.Sort.ahead w q) g 0 (Go.Lib.compactUpTo d d.size++List.replicate (d.size - (Go.Lib.compactUpTo d d.size).length) 0).toArray:=
  AnyE.slices_Compact cmp_lay (Value.int .i64) (fun _=>rfl) (.intD _ _ _) (.intD _ _ _) 0 Tryz.zeroValue2 g 0 cap d w hH hsz hcap
theorem D6g (d:Array Int):(Go.Lib.compactUpTo d d.size).length≤d.size:=by
  unfold Go.Lib.compactUpTo
  rw [List.length_map]
  refine Nat.le_trans (List.length_filter_le _ _) ?_
  rw [List.length_range];exact Nat.le_refl _
theorem C4u (xs:List Int): ∀m,m≤xs.length→Go.Lib.compactUpTo xs.toArray m=B3n (xs.take m)
  |0,_=>rfl
  |m+1,h=>by
   rw [Go.Lib.compactUpTo_succ,C4u xs m (by omega),List.take_add_one,List.getElem?_eq_getElem (by omega),Option.toList_some,C08]
   congr 1
   have hm:m<xs.length:=by omega
   have e1:xs.toArray[m]! =xs[m]:=by rw [getElem!_pos xs.toArray m (by simpa using hm)];simp
   rw [Go.Lib.keeps,e1]
   cases m with
   |zero=>simp
   |succ k=>
    have e2:xs.toArray[k]! =xs[k]:=by rw [getElem!_pos xs.toArray k (by rw [List.size_toArray];omega)];simp
    have e3:(xs.take (k+1)).getLast? =some xs[k]:=by rw [List.take_add_one,List.getElem?_eq_getElem (by omega),Option.toList_some,List.getLast?_append];simp
    rw [Nat.add_sub_cancel,e2,e3]
    by_cases e:xs[k+1]=xs[k]
    ·simp [e]
    ·rw [if_pos (by simp [e]),if_neg (fun q=>e (Option.some.inj q).symm)]
theorem D90 (xs r:List Int)(hr:B95 xs=some r):MCall Tryz.prog 253 [.sl (900000,0)] [.arr 2 1 (List.map A5 xs)] (.sl (800000,0)) [none] [some (.arr 2 1 (List.map A5 r))]:=by
  obtain ⟨hx,rfl⟩:=C4r hr
  clear hr
  refine ⟨rfl,fun vs w=> ?_,fun w I ρ vs H hlen hrep=> ?_⟩
  ·have hn': ¬Tryz.f253.name= "runtime.NumGoroutine" :=by decide
   have hb: ∃c,Tryz.f253.body=some c:=⟨_,rfl⟩
   obtain ⟨c,hb⟩:=hb
   simp [callFunc,Tryz.func253,hb,hn']
  have hnx:0<xs.length:=List.length_pos_iff.2 hx
  obtain ⟨a,rfl⟩: ∃a,vs= [a]:=by
    match vs,hlen with
    | [a],_=>exact ⟨a,rfl⟩
  have r0:=hrep 0 _ rfl
  simp only [List.getD_cons_zero]at r0
  have hb0:G (C3t 0 [Blk.arr 2 1 (List.map A5 xs)]) (A6z 0)=some (.arr 2 1 (List.map A5 xs)):=rfl
  obtain ⟨x0,cx,p1,p2,p3,p4⟩:=H.blk _ _ hb0
  have e0:a=x0:=by
    cases r0 with
    |sl _ _ h=>exact Option.some.inj (h.symm.trans p1)
  subst e0
  obtain ⟨hxl,hx'|⟨g,c,cur,rfl,_,hg,hnc,hcm,hcs,hxc⟩⟩:=p2
  ·rw [List.length_map]at hx';omega
  rw [List.length_map]at hxl hnc hxc
  have hval: ∀i (hi:i<xs.length),cur[i]? =some (.int .i64 xs[i]):=by
    intro i hi
    obtain ⟨_,g2⟩:=p4 i 0 (.v (.int .i64 xs[i])) (by simp [at2,hi,A5])
    have:cx.getD (i*1+0) undef= .int .i64 xs[i]:=by generalize cx.getD (i*1+0) undef=y at g2;cases g2;rfl
    rw [← hxc,List.getD,List.getElem?_take,if_pos (by omega),Nat.mul_one,Nat.add_zero,Array.getElem?_toList]at this
    rw [Array.getElem?_eq_getElem (by omega)]at this ⊢
    rw [Option.getD_some]at this
    rw [this]
  have hH:Go.Sort.Holds (Value.int .i64) w g 0 xs.toArray:=by
    intro j hj
    rw [List.size_toArray]at hj
    have h2:=hval j hj
    refine ⟨?_,by simp [World.frozen?,hg]⟩
    simp [World.cell?,hg,h2,hj]
  have locx:V0 ρ (A6z 0) (.arr 2 1 (List.map A5 xs))=some g:=by simp [V0,p1,Value.ownBlock]
  have hca:=D18 g c xs.toArray w hH (by rw [List.size_toArray];unfold maxLen at hcm;omega) (by rw [List.size_toArray];exact hnc)
  have hcl:=D6g xs.toArray
  rw [List.size_toArray]at hca hcl
  rw [List.length_map]
  refine hca.mono ?_
  rintro e w' ⟨rfl,q,hw'⟩
  have hheap: ∀k,w'.heap[k]? =if k=g then some (.cells (Go.Sort.putCells (Value.int .i64) 0 (Go.Lib.compactUpTo xs.toArray xs.length++List.replicate (xs.length - (Go.Lib.compactUpTo xs.toArray xs.length).length) 0).toArray cur) 2 (0,0))else w.heap[k]?:=by
    intro k
    rw [hw']
    show (w.heap.modify g _)[k]? =_
    rw [Array.getElem?_modify]
    by_cases e:g=k
    ·subst e;rw [if_pos rfl,if_pos rfl,hg];rfl
    ·rw [if_neg e,if_neg (Ne.symm e)]
  have hos:w'.os=w.os∧w'.tape=w.tape∧w'.output=w.output∧w'.heap.size=w.heap.size:=by rw [hw'];exact ⟨rfl,rfl,rfl,by simp⟩
  clear hw' hca hH
  generalize hC:Go.Lib.compactUpTo xs.toArray xs.length=C at hcl hheap ⊢
  have hCc:B3n xs=C:=by rw [← hC,C4u xs _ (Nat.le_refl _),List.take_length]
  rw [hCc]
  obtain ⟨Z,hZ⟩: ∃Z:Array Int,Z=(C++List.replicate (xs.length - C.length) 0).toArray:=⟨_,rfl⟩
  rw [← hZ]at hheap
  have hZs:Z.size=xs.length:=by rw [hZ];simp;omega
  have hZg: ∀i (hi:i<C.length),Z[i]! =C[i]:=by
    intro i hi
    have hlt:i<Z.size:=by omega
    rw [getElem!_pos Z i hlt]
    subst hZ
    rw [List.getElem_toArray,List.getElem_append_left hi]
  clear hZ hC hCc
  obtain ⟨u0,hu0⟩:=H.fresh
  have hk0:ρ (7,u0)=none:=hu0 7 u0 (Nat.le_refl _)
  have hgI: ¬I g:=H.notI _ _ g hb0 locx
  have hgo:own ρ (G (C3t 0 [Blk.arr 2 1 (List.map A5 xs)])) g:=⟨_,_,hb0,locx⟩
  have hother: ∀k,k≠g→w'.heap[k]? =w.heap[k]?:=fun k hk=>by rw [hheap,if_neg hk]
  have hI': ∀b,I b→w'.heap[b]? =w.heap[b]?:=fun b hb=>hother b (fun e=>hgI (e▸hb))
  have H0:HeapOK w' I ρ (fun _=>none):=⟨fun k b hb=>(by cases hb),fun k k' b b' g h1=>(by cases h1),fun k b g h1=>(by cases h1),fun k b g h1=>(by cases h1),fun b hb=>by rw [hos.2.2.2];exact H.ilt b hb,⟨u0,hu0⟩,H.rone⟩
  have hloc: ∀k,V0 (upd ρ (7,u0) (some (Value.slice (some ⟨g,0,none⟩) C.length c))) (7,u0) (.arr 2 1 (List.map A5 C))=some k→k=g:=by
    intro k hk
    have:some g=some k:=by simpa [V0,E3,Value.ownBlock] using hk
    exact (Option.some.inj this).symm
  have hown: ∀g,¬own ρ (fun _=>none) g:=fun g ⟨k,b,h,_⟩=>by cases h
  have hsz:(Go.Sort.putCells (Value.int .i64) 0 Z cur).size=c:=by unfold Go.Sort.putCells;rw [Array.size_mapIdx,hcs,Nat.mul_one]
  have Hn:=C6u H0 (7,u0) (Value.slice (some ⟨g,0,none⟩) C.length c) (.arr 2 1 (List.map A5 C)) hk0 rfl (fun k hk=>by
    rw [hloc k hk]
    exact ⟨hown g,hgI,by rw [hos.2.2.2];exact H.lt _ _ g hb0 locx⟩)
    ⟨_,C.map (Value.int .i64),E3 _ _ _,⟨by simp, .inr ⟨g,c,_,by rw [List.length_map],Nat.zero_le _,by rw [hheap,if_pos rfl],by rw [List.length_map];omega,hcm,by rw [hsz,Nat.mul_one],by
      rw [List.length_map,Nat.mul_one]
      apply List.ext_getElem
      ·have h3:(Go.Sort.putCells (Value.int .i64) 0 Z cur).toList.length=c:=hsz
       rw [List.length_take,h3,List.length_map];omega
      ·intro i h1 h2
       rw [List.length_map]at h2
       rw [List.getElem_take,Array.getElem_toList,List.getElem_map]
       unfold Go.Sort.putCells
       rw [Array.getElem_mapIdx,if_pos ⟨Nat.zero_le _,by omega⟩,Nat.sub_zero,hZg i h2]⟩⟩,by
      intro q hq
      obtain ⟨z,_,rfl⟩:=List.mem_map.1 hq
      rfl,by
      intro r j d' hd'
      unfold at2 at hd'
      rw [List.getElem?_map]at hd'
      cases hr:C[r]? with
      |none=>rw [hr]at hd';cases hd'
      |some z=>
       rw [hr]at hd'
       match j,hd' with
       |0,hd'=>
        cases hd'
        refine ⟨rfl,?_⟩
        rw [Nat.mul_one,Nat.add_zero,List.getD,List.getElem?_map,hr]
        exact .v _
       |j+1,hd'=>simp [A5]at hd'⟩
  refine ⟨_, .sl (7,u0),I,_,_,rfl, .sl _ _ (E3 _ _ _),Hn,⟨hos.1,hos.2.1,hos.2.2.1,by rw [hos.2.2.2];exact Nat.le_refl _,fun b hb hn'=>hother b (fun e=>hn' (e▸hgo)),fun _ hb=>hb,fun _ hb _=> .inl hb,?_,C6t hk0⟩,fun _=>(7,u0),rfl,?_,?_,?_,?_⟩
  ·rintro k ⟨k',b',h1,h2⟩ hl
   by_cases ek:k'=(7,u0)
   ·subst ek
    rw [E3]at h1
    cases h1
    rw [hloc k h2];exact hgo
   ·rw [M8 _ _ _ _ ek]at h1;cases h1
  ·intro j b hb
   match j,hb with
   |0,hb=>cases hb
   |j+1,hb=>simp at hb
  ·intro j b hb
   match j,hb with
   |0,hb=>cases hb;exact E3 _ _ _
   |j+1,hb=>simp at hb
  ·intro j _ i _ e;simp only [A6z,Prod.mk.injEq]at e;omega
  ·intro j j' h1 h2 _
   simp only [List.length_cons,List.length_nil]at h1 h2
   omega
theorem D3m (A:Option Addr)(w:World):Calls Tryz.prog 253 #[.slice A 0 0] w fun e w'=>e= .returned (.slice A 0 0)∧∃q,w'=w.drewN q:=by
  have mixed:=cmp_lay.mixed
  have v0:=Tryz.zeroValue2
  go_enter Tryz.func253,Tryz.ntmps253
  go_wp2
  go_ret
  exact ⟨rfl,0,rfl⟩
theorem D6h:PCall Tryz.prog 253 [.nilS] .nilS:=by
  refine ⟨fun vs w=> ?_,fun w I vs hI hlen hrep=> ?_⟩
  ·have hn': ¬Tryz.f253.name= "runtime.NumGoroutine" :=by decide
   have hb: ∃c,Tryz.f253.body=some c:=⟨_,rfl⟩
   obtain ⟨c,hb⟩:=hb
   simp [callFunc,Tryz.func253,hb,hn']
  obtain ⟨a,rfl⟩: ∃a,vs= [a]:=by
    match vs,hlen with
    | [a],_=>exact ⟨a,rfl⟩
  have r0:=hrep 0 _ rfl
  simp only [List.getD_cons_zero]at r0
  cases r0 with
  |nilS A=>
   refine (D3m A w).mono ?_
   rintro e w' ⟨rfl,q,rfl⟩
   exact ⟨_,I,rfl, .nilS A,rfl,rfl,rfl,Nat.le_refl _,fun _ _=>rfl,fun _ hb=>hb,fun _ hb _=>hb,hI⟩
end
noncomputable def K5 (p1:Int)(x2:Int):Option (Stp Int Unit):=
  ((cond (decide (x2>p1)) ((none:Option Unit)) (some default))).bind fun v1=>cond ((decide (x2>p1))&&false) (none) (some (.out ()))
noncomputable def K6 (p1:Int)(p2:Int)(x1:Int):Option (Stp Int Unit):=
  cond (decide (x1<p2)) ((loop (K5 p1) x1).bind fun _=>some (.go (w64 (x1+1)))) (some (.out (())))
noncomputable def M6 (p1:Int)(p2:Int):Option Unit:=
  loop (K6 p1 p2) (w64 (p1+1))
theorem A5g (p1:Int)(p2:Int)(r:Unit)(h:M6 p1 p2=some r):PCall Tryz.prog 271 [.nilS,(i64 p1),(i64 p2)] (.tup []):=by
 refine B8 (fk Tryz.func271 Tryz.ntmps271 m0 (by with_unfolding_all rfl)) (nl rfl) ?_
 unfold M6 at h
 refine B5 (s0:=⟨T [(0,(.d _)),(1,(.d _)),(2,(.d _))],G []⟩) (sbr rfl rfl) ?_
 refine lr (fun u1 hu1=>sv rfl (sv rfl (sv rfl (A1 (A8 (E7 (K6 p1 p2) (fun (x1:Int) (g1:Unit)=>⟨T [(0,(.d .nilS)),(1,(di p1)),(2,(di p2)),(6,(di x1))],G []⟩) (w64 (p1+1)) () _ h (sbr rfl rfl) ?_))))))
 intro x1 g1 z1 hz1 ez1
 unfold K6 at hz1
 refine A6 (lr (fun u2 hu2=>sv rfl (sv rfl (sv rfl (A1 (cc rfl hz1 (fun c1 hz1=> ?_) (fun c1 hz1=> ?_)))))))
 refine A9 (A6 (A8 (lr (fun u3 hu3=>sv rfl (sv rfl (A1 (bs hz1 fun y1 hy1 hz1=>E0 (fun s=> ∃g2:Unit,Sb ⟨T [(0,(.d .nilS)),(1,(di p1)),(2,(di p2)),(6,(di x1))],G []⟩ s) ?_ ?_)))))))
 refine A8 (E7 (K5 p1) (fun (x2:Int) (g3:Unit)=>⟨T [(0,(.d .nilS)),(1,(di p1)),(2,(di p2)),(6,(di x1)),(7,(di x2))],G []⟩) x1 () _ hy1 (sbr rfl rfl) ?_)
 intro x2 g3 z2 hz2 ez2
 unfold K5 at hz2
 refine A6 (A6 (I6 rfl fun u4 hu4=>sv rfl (sv rfl (sv rfl (sv rfl (gt rfl (fun _=>rfl) (gt rfl (fun _=>rfl) (bs hz2 fun v1 hv1 hz2=>Z7 _ (.d (.tup [])) rfl (A19 rfl) (fun w3=>nomatch C7 w3 hv1) (Z7 _ (di 0) rfl (A19 rfl) (fun w4=>nomatch C7 w4 hv1) (Z7 _ (.d (.tup [])) rfl (A19 rfl) (fun w5=>nomatch C7 w5 hv1) (Z7 _ (di 0) rfl (A19 rfl) (fun w6=>nomatch C7 w6 hv1) (Z7 _ (di 0) rfl (A19 rfl) (fun w7=>nomatch C7 w7 hv1) (Z7 _ (.d (.tup [])) rfl (A19 rfl) (fun w8=>nomatch C7 w8 hv1) (Z7 _ (di 0) rfl (A19 rfl) (fun w9=>nomatch C7 w9 hv1) (U8 _ (bo false) (A19 rfl) (fun w10=>nomatch C7 w10 hv1) (sa rfl rfl rfl (A1 (cc rfl hz2 (fun c2 hz2=> ?_) (fun c2 hz2=> ?_)))))))))))))))))))
 refine A9 (A6 (A8 (I6 rfl fun u5 hu5=>sv rfl (sv rfl (sv rfl (sv rfl (sv rfl (sv rfl (sv rfl (sv rfl ?_))))))))))
 cases hz2
 refine C3 rfl ?_
 cases hz2
 obtain rfl:=ez2 _ rfl
 refine ⟨nofun,C0 rfl (l_j ?_)⟩
 exact ⟨(),(sbr rfl rfl)⟩
 rintro _ ⟨g2,q1⟩
 refine F9 (B5 q1 (D0 fun u6 hu6=>sv rfl (sv rfl (sv rfl (A1 (G3 ?_))))))
 cases hz1
 exact ⟨rfl,(),(sbr rfl rfl)⟩
 refine C3 rfl ?_
 cases hz1
 obtain rfl:=ez1 _ rfl
 refine ⟨nofun,C0 rfl (G3 ?_)⟩
 exact A7 (.inl rfl) rfl (.refl _)
noncomputable def O4 (x1:(Int×Int×Int×Bool×Bool)):Option (Stp (Int×Int×Int×Bool×Bool) Unit):=
  cond (decide ((w64 (x1.2.1 - x1.1))≤12)) ((M6 x1.1 x1.2.1).bind fun v1=>some (.out (()))) (cond (x1.2.2.1==0) (none) ((cond (!x1.2.2.2.1) (none) (some ())).bind fun _=>none))
noncomputable def R4 (p1:Int)(p2:Int)(p3:Int):Option Unit:=
  loop (O4) (p1,p2,p3,true,true)
theorem A7t (p1:Int)(p2:Int)(p3:Int)(r:Unit)(h:R4 p1 p2 p3=some r):PCall Tryz.prog 266 [.nilS,(i64 p1),(i64 p2),(i64 p3)] (.tup []):=by
 refine B8 (fk Tryz.func266 Tryz.ntmps266 m0 (by with_unfolding_all rfl)) (nl rfl) ?_
 unfold R4 at h
 refine B5 (s0:=⟨T [(0,(.d _)),(1,(.d _)),(2,(.d _)),(3,(.d _))],G []⟩) (sbr rfl rfl) ?_
 refine lr (fun u1 hu1=>sv rfl (A1 (lr (fun u2 hu2=>sv rfl (A1 (A8 (E7 (O4) (fun (x1:(Int×Int×Int×Bool×Bool)) (g1:Unit)=>⟨T [(0,(.d .nilS)),(1,(di x1.1)),(2,(di x1.2.1)),(3,(di x1.2.2.1)),(8,(.d (bo x1.2.2.2.1))),(9,(.d (bo x1.2.2.2.2)))],G []⟩) (p1,p2,p3,true,true) () _ h (sbr rfl rfl) ?_)))))))
 intro x1 g1 z1 hz1 ez1
 unfold O4 at hz1
 refine A8 (lr (fun u3 hu3=>sv rfl (sv rfl (sv rfl (sv rfl (A1 (A6 (lr (fun u4 hu4=>sv rfl (sv rfl (A1 (cc rfl hz1 (fun c1 hz1=> ?_) (fun c1 hz1=> ?_)))))))))))))
 refine lr (fun u5 hu5=>sv rfl (sv rfl (sv rfl (bs hz1 fun v1 hv1 hz1=>B1 rfl rfl A2 (A5g _ _ _ hv1) (.inl rfl) (A1 (B3 ?_))))))
 cases hz1
 obtain rfl:=ez1 _ rfl
 refine ⟨nofun,D7 ?_⟩
 exact A7 (.inr rfl) rfl (.refl _)
 refine A9 (A6 (lr (fun u6 hu6=>sv rfl (sv rfl (A1 (cc rfl hz1 (fun c2 hz1=> ?_) (fun c2 hz1=> ?_)))))))
 refine lr (fun u7 hu7=>sv rfl (sv rfl (sv rfl ?_)))
 cases hz1
 refine A9 (A6 (lr (fun u8 hu8=>sv rfl (B9 (.d (bo (!x1.2.2.2.1))) rfl rfl (A1 (bs hz1 fun y1 hy1 hz1=>E0 (fun s=> ∃g2:Unit,Sb ⟨T [(0,(.d .nilS)),(1,(di x1.1)),(2,(di x1.2.1)),(3,(di x1.2.2.1)),(8,(.d (bo x1.2.2.2.1))),(9,(.d (bo x1.2.2.2.2))),(10,(di (w64 (x1.2.1 - x1.1))))],G []⟩ s) ?_ ?_))))))
 refine cc rfl hy1 (fun c3 hy1=> ?_) (fun c3 hy1=> ?_)
 refine lr (fun u9 hu9=>sv rfl (sv rfl (sv rfl ?_)))
 cases hy1
 refine A9 ?_
 cases hy1
 exact l_j ⟨(),(sbr rfl rfl)⟩
 rintro _ ⟨g2,q1⟩
 refine B5 q1 (lr (fun u10 hu10=>sv rfl (sv rfl (sv rfl ?_))))
 cases hz1
noncomputable def W2:Option Unit:=
  (A5e (IntKind.wrap .u64 0)).bind fun v1=>(R4 0 0 v1).bind fun v2=>some ()
theorem A9k (r:Unit)(h:W2=some r):PCall Tryz.prog 252 [.nilS] (.tup []):=by
 refine B8 (fk Tryz.func252 Tryz.ntmps252 m0 (by with_unfolding_all rfl)) (nl rfl) ?_
 unfold W2 at h
 refine B5 (s0:=⟨T [(0,(.d _))],G []⟩) (sbr rfl rfl) ?_
 refine lr (fun u1 hu1=>sv rfl (sv rfl (sv rfl (A1 (D0 fun u2 hu2=>sv rfl (sv rfl (sv rfl (sv rfl (bs h fun v1 hv1 h=>B1 rfl rfl A2 (B3p _ _ hv1) (.inl rfl) (bs h fun v2 hv2 h=>B1 rfl rfl A2 (A7t _ _ _ _ hv2) (.inl rfl) (A1 (G3 ?_))))))))))))
 cases h
 exact A7 (.inl rfl) rfl (.refl _)
end Go.Abs.World
