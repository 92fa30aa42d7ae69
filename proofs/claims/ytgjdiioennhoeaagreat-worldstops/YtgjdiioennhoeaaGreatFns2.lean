/-
  The functions, part 2.
-/
import Derived.Test.YtgjdiioennhoeaaGreatFns1
set_option maxRecDepth 20000
set_option maxHeartbeats 4000000
set_option linter.unusedVariables false
namespace Go.Abs.World
open Go Go.Abs Go.Proofs
attribute [local irreducible] U1 B88 AWL
noncomputable def G9 (p1:(List Agent))(x1:Int):Option (Stp Int (Sum Unit Int)):=
  cond (decide (x1< (p1.length:Int))) ((G8 p1 x1).bind fun v1=>(A9o v1).bind fun v2=>cond v2 (some (.out (.inr x1))) (some (.go (w64 (x1+1))))) (some (.out (.inl ())))
noncomputable def J0 (p1:(List Agent)):Option Int:=
  thenS (loop (G9 p1) 0) (fun _=>some (-1)) (fun r=>some r)
theorem A2n (p1:(List Agent))(r:Int)(h:J0 p1=some r):PCall Tryz.prog 170 [(.list (List.map C0 p1)),(.fn (.func 79) [] [])] (i64 r):=by
 refine C1 (fk Tryz.func170 Tryz.ntmps170 m0 (by with_unfolding_all rfl)) (nl rfl) ?_
 unfold J0 at h
 refine B0 (s0:=⟨T [(0,(.d _)),(1,(.d _))],G []⟩) (sbr rfl rfl) ?_
 refine lr (fun u1 hu1=>sv rfl (A2 (A7 (lr (fun u2 hu2=>sv rfl (sd rfl (N1 rfl) (sv rfl (A2 (js h fun z1 hz1 h=>I5 (fun s=> ∃(y1:Unit) (g1:Unit),z1= .inl y1∧Sb ⟨T [],G []⟩ s) ?_ ?_)))))))))
 refine A8 (J4 (G9 p1) (fun (x1:Int) (g2:Unit)=>⟨T [(0,(dl C0 p1)),(1,(.d (.fn (.func 79) [] []))),(7,(di (p1.length:Int))),(8,(di x1))],G []⟩) 0 () _ hz1 (sbr rfl rfl) ?_)
 intro x1 g2 z2 hz2 ez2
 unfold G9 at hz2
 refine lr (fun u3 hu3=>sv rfl (A2 (A7 (cc rfl hz2 (fun c1 hz2=> ?_) (fun c1 hz2=> ?_)))))
 refine B2 (A7 (A8 (lr (fun u4 hu4=>sv rfl (sv rfl (A2 (lr (fun u5 hu5=>sv rfl (sv rfl (sv rfl (bs hz2 fun v1 hv1 hz2=>sd rfl (L4 rfl rfl hv1 rfl) (sd rfl (F0 rfl hv1 rfl rfl) (bs hz2 fun v2 hv2 hz2=>B3 rfl rfl A3 (C15 _ _ hv2) (.inl rfl) (A2 (cc rfl hz2 (fun c2 hz2=> ?_) (fun c2 hz2=> ?_))))))))))))))))
 refine lr (fun u6 hu6=>sv rfl (sv rfl (A2 (B4 ?_))))
 cases hz2
 obtain rfl:=ez2 _ rfl
 refine ⟨nofun,I4 ?_⟩
 rw [Sum.elim_inr]at h
 cases h
 exact A9 (.inr rfl) (B7 (B6 rfl) I8) (.refl _)
 refine B2 (M0 (B8 fun u7 hu7=>sv rfl (sv rfl (A2 (K4 ?_)))))
 cases hz2
 exact ⟨rfl,(),(sbr rfl rfl)⟩
 refine E1 rfl ?_
 cases hz2
 obtain rfl:=ez2 _ rfl
 refine ⟨nofun,C9 rfl (l_j ?_)⟩
 exact ⟨_,(),rfl,(sbr rfl rfl)⟩
 rintro _ ⟨y1,g1,rfl,q1⟩
 rw [Sum.elim_inl]at h
 refine B0 q1 (lr (fun u8 hu8=>sv rfl (A2 (B4 ?_))))
 cases h
 exact A9 (.inr rfl) (B7 (B6 rfl) I8) (.refl _)
noncomputable def H4 (p1:(List Agent)):Option Bool:=
  (J0 p1).bind fun v1=>some (decide (v1≥0))
theorem A1q (p1:(List Agent))(r:Bool)(h:H4 p1=some r):PCall Tryz.prog 78 [(.list (List.map C0 p1)),(.fn (.func 79) [] [])] (bo r):=by
 refine C1 (fk Tryz.func78 Tryz.ntmps78 m0 (by with_unfolding_all rfl)) (nl rfl) ?_
 unfold H4 at h
 refine B0 (s0:=⟨T [(0,(.d _)),(1,(.d _))],G []⟩) (sbr rfl rfl) ?_
 refine lr (fun u1 hu1=>sv rfl (A2 (lr (fun u2 hu2=>sv rfl (sv rfl (bs h fun v1 hv1 h=>B3 rfl rfl A3 (A2n _ _ hv1) (.inl rfl) (sv rfl (sv rfl (A2 (B4 ?_))))))))))
 cases h
 exact A9 (.inr rfl) (B7 (B6 rfl) I8) (.refl _)
noncomputable def A3v (p1:State)(p2:Int):Option Bool:=
  ((cond ((decide (p2≥0))&& (decide (p2< (p1.Agents.length:Int)))) (G8 p1.Agents p2) (some default))).bind fun v1=>((cond (((decide (p2≥0))&& (decide (p2< (p1.Agents.length:Int))))&& (!v1.Gone)) (G8 p1.Agents p2) (some default))).bind fun v2=>some ((((decide (p2≥0))&& (decide (p2< (p1.Agents.length:Int))))&& (!v1.Gone))&& (decide (v2.Begin≤p1.Tick)))
theorem A7i (p1:State)(p2:Int)(r:Bool)(h:A3v p1 p2=some r):PCall Tryz.prog 36 [(.agg (A9i p1)),(i64 p2)] (bo r):=by
 refine C1 (fk Tryz.func36 Tryz.ntmps36 m0 (by with_unfolding_all rfl)) (nl rfl) ?_
 unfold A3v at h
 refine B0 (s0:=⟨T [(0,(.d _)),(1,(.d _))],G []⟩) (sbr rfl rfl) ?_
 refine lr (fun u1 hu1=>sn rfl rfl (sv rfl (A2 (A7 (O4 rfl fun u2 hu2=>sv rfl (sv rfl (sv rfl (gt rfl (fun _=>rfl) (gp rfl (A1f rfl) (fun _=>rfl) (gt rfl (vl rfl G_hit rfl) (gt rfl (fun w4=>(N1 (A6 w4))) (gt rfl (fun w5=>(A1p (A6 w5) (A6 w5) rfl)) (sa rfl rfl rfl (sv rfl (gp rfl (A1f rfl) (fun _=>rfl) (gt rfl (vl rfl G_hit rfl) (gt rfl (fun _=>rfl) (bs h fun v1 hv1 h=>gt rfl (fun w9=>(L4 (A6 w9) (A6 w9) (E2 w9 hv1) rfl)) ?_))))))))))))))))))
 refine gt rfl (fun w10=>(by simp only [A6 w10];rfl)) ?_
 refine gt rfl (fun w11=>(N2 (A6 w11) (E2 w11 hv1) rfl)) ?_
 refine A0o _ (.d (bo (!v1.Gone))) rfl (A1f rfl) (fun w12=>(by simp only [A6 w12];rfl)) ?_
 refine sa rfl rfl rfl (sv rfl (gp rfl (A1f rfl) (fun _=>rfl) (gt rfl (vl rfl G_hit rfl) (gt rfl (fun _=>rfl) (bs h fun v2 hv2 h=>gt rfl (fun w16=>(L4 (A6 w16) (A6 w16) (E2 w16 hv2) rfl)) ?_)))))
 refine gt rfl (fun w17=>(by simp only [A6 w17];rfl)) ?_
 refine gt rfl (fun w18=>(N2 (A6 w18) (E2 w18 hv2) rfl)) (gp rfl (A1f rfl) (fun _=>rfl) (gt rfl (vl rfl G_hit rfl) (gt rfl (fun w21=>(A1p (A6 w21) (A6 w21) rfl)) (sa rfl rfl rfl (sv rfl (A2 (B4 ?_)))))))
 cases h
 exact A9 (.inr rfl) (B7 (B6 rfl) I8) (.refl _)
noncomputable def A79 (p1:Agent):Option Bool:=
  some ((((decide (p1.S≥0))&& (decide (p1.S≤1099511627776)))&& (decide (p1.Len≥0)))&& (decide (p1.Len≤1099511627776)))
theorem B2m (p1:Agent)(r:Bool)(h:A79 p1=some r):PCall Tryz.prog 138 [(.agg (C0 p1))] (bo r):=by
 refine C1 (fk Tryz.func138 Tryz.ntmps138 m0 (by with_unfolding_all rfl)) (nl rfl) ?_
 unfold A79 at h
 refine B0 (s0:=⟨T [(0,(.d _))],G []⟩) (sbr rfl rfl) ?_
 refine lr (fun u1 hu1=>sn rfl rfl (sv rfl (A2 (lr (fun u2 hu2=>sp rfl rfl (sl rfl G_hit rfl (sv rfl (sv rfl (gp rfl (A1f rfl) (fun _=>rfl) (gt rfl (vl rfl G_hit rfl) (gt rfl (vb rfl rfl rfl) (sa rfl rfl rfl (sv rfl (gp rfl (A1f rfl) (fun _=>rfl) (gt rfl (vl rfl G_hit rfl) (gt rfl (vb rfl rfl rfl) (sa rfl rfl rfl (sv rfl (gp rfl (A1f rfl) (fun _=>rfl) (gt rfl (vl rfl G_hit rfl) (gt rfl (vb rfl rfl rfl) (sa rfl rfl rfl (sv rfl (A2 (B4 ?_)))))))))))))))))))))))))
 cases h
 exact A9 (.inr rfl) (B7 (B6 rfl) I8) (.refl _)
noncomputable def W2 (p1:Int):Option Bool:=
  some (p1 !=p1)
theorem A3g (p1:Int)(r:Bool)(h:W2 p1=some r):PCall Tryz.prog 255 [(i64 p1)] (bo r):=by
 refine C1 (fk Tryz.func255 Tryz.ntmps255 m0 (by with_unfolding_all rfl)) (nl rfl) ?_
 unfold W2 at h
 refine B0 (s0:=⟨T [(0,(.d _))],G []⟩) (sbr rfl rfl) ?_
 refine lr (fun u1 hu1=>sv rfl (A2 (lr (fun u2 hu2=>sv rfl (sv rfl (sv rfl (sv rfl (A2 (B4 ?_)))))))))
 cases h
 exact A9 (.inr rfl) (B7 (B6 rfl) I8) (.refl _)
noncomputable def Z7 (p1:Int)(p2:Int):Option Int:=
  (W2 p1).bind fun v1=>(W2 p2).bind fun v2=>cond v1 (cond v2 (some 0) (some (-1))) (cond v2 (some 1) (cond (decide (p1<p2)) (some (-1)) (cond (decide (p1>p2)) (some 1) (some 0))))
theorem A8k (p1:Int)(p2:Int)(r:Int)(h:Z7 p1 p2=some r):PCall Tryz.prog 229 [(i64 p1),(i64 p2)] (i64 r):=by
 refine C1 (fk Tryz.func229 Tryz.ntmps229 m0 (by with_unfolding_all rfl)) (nl rfl) ?_
 unfold Z7 at h
 refine B0 (s0:=⟨T [(0,(.d _)),(1,(.d _))],G []⟩) (sbr rfl rfl) ?_
 refine lr (fun u1 hu1=>sv rfl (A2 (lr (fun u2 hu2=>sv rfl (bs h fun v1 hv1 h=>B3 rfl rfl A3 (A3g _ _ hv1) (.inl rfl) (sv rfl (A2 (lr (fun u3 hu3=>sv rfl (bs h fun v2 hv2 h=>B3 rfl rfl A3 (A3g _ _ hv2) (.inl rfl) (sv rfl (A2 (A7 (lr (fun u4 hu4=>sv rfl (A2 (cc rfl h (fun c1 h=> ?_) (fun c1 h=> ?_))))))))))))))))))
 refine A7 (lr (fun u5 hu5=>sv rfl (A2 (cc rfl h (fun c2 h=> ?_) (fun c2 h=> ?_)))))
 refine lr (fun u6 hu6=>sv rfl (A2 (B4 ?_)))
 cases h
 exact A9 (.inr rfl) (B7 (B6 rfl) I8) (.refl _)
 refine B2 (lr (fun u7 hu7=>sv rfl (A2 (B4 ?_))))
 cases h
 exact A9 (.inr rfl) (B7 (B6 rfl) I8) (.refl _)
 refine B2 (A7 (lr (fun u8 hu8=>sv rfl (A2 (cc rfl h (fun c3 h=> ?_) (fun c3 h=> ?_))))))
 refine lr (fun u9 hu9=>sv rfl (A2 (B4 ?_)))
 cases h
 exact A9 (.inr rfl) (B7 (B6 rfl) I8) (.refl _)
 refine B2 (A7 (lr (fun u10 hu10=>sv rfl (sv rfl (sv rfl (A2 (cc rfl h (fun c4 h=> ?_) (fun c4 h=> ?_))))))))
 refine lr (fun u11 hu11=>sv rfl (A2 (B4 ?_)))
 cases h
 exact A9 (.inr rfl) (B7 (B6 rfl) I8) (.refl _)
 refine B2 (A7 (lr (fun u12 hu12=>sv rfl (sv rfl (sv rfl (A2 (cc rfl h (fun c5 h=> ?_) (fun c5 h=> ?_))))))))
 refine lr (fun u13 hu13=>sv rfl (A2 (B4 ?_)))
 cases h
 exact A9 (.inr rfl) (B7 (B6 rfl) I8) (.refl _)
 refine B2 (lr (fun u14 hu14=>sv rfl (A2 (B4 ?_))))
 cases h
 exact A9 (.inr rfl) (B7 (B6 rfl) I8) (.refl _)
noncomputable def A51 (p1:Pass)(p2:Pass):Option Int:=
  (Z7 p1.From p2.From).bind fun v1=>(W1 p1.Zone_ p2.Zone_).bind fun v2=>(A78 [v1,v2]).bind fun v3=>some v3
theorem B7j (p1:Pass)(p2:Pass)(r:Int)(h:A51 p1 p2=some r):PCall Tryz.prog 264 [(.agg (A1g p1)),(.agg (A1g p2))] (i64 r):=by
 refine C1 (fk Tryz.func264 Tryz.ntmps264 (fun r=>if r==1 then [1010]else []) (by with_unfolding_all rfl)) (nl rfl) ?_
 unfold A51 at h
 refine B0 (s0:=⟨T [(0,(.d _)),(1,(.d _))],G []⟩) (sbr rfl rfl) ?_
 refine lr (fun u1 hu1=>sn rfl rfl (sn rfl rfl (sv rfl (A2 (A7 (O4 rfl fun u2 hu2=>sp rfl rfl (sl rfl (gq rfl) rfl (sp rfl rfl (sl rfl G_hit rfl (bs h fun v1 hv1 h=>B3 rfl rfl A3 (A8k _ _ _ hv1) (.inl rfl) (sp rfl rfl (sl rfl (gq rfl) rfl (sp rfl rfl (sl rfl G_hit rfl (bs h fun v2 hv2 h=>B3 rfl rfl A3 (A3f _ _ _ hv2) (.inl rfl) (D8 (dl A4 [v1,v2]) rfl rfl (bs h fun v3 hv3 h=>B3 rfl rfl A3 (B2l _ _ hv3) (.inl rfl) (sv rfl (A2 (B4 ?_))))))))))))))))))))
 cases h
 exact A9 (.inr rfl) (B7 (B6 rfl) I8) (.refl _)
noncomputable def D4 (p2:Int)(x2:(Int× (List Pass))):Option (Stp (Int× (List Pass)) (List Pass)):=
  ((cond (decide (x2.1>p2)) (G8 x2.2 x2.1) (some default))).bind fun v1=>((cond (decide (x2.1>p2)) (G8 x2.2 (w64 (x2.1 - 1))) (some default))).bind fun v2=>((cond (decide (x2.1>p2)) (A51 v1 v2) (some default))).bind fun v3=>cond ((decide (x2.1>p2))&& (decide (v3<0))) ((G8 x2.2 (w64 (x2.1 - 1))).bind fun v4=>(G8 x2.2 x2.1).bind fun v5=>(G8 x2.2 x2.1).bind fun v6=>(G8 (C1q x2.2 x2.1 v4) (w64 (x2.1 - 1))).bind fun v7=>some (.go ((w64 (x2.1 - 1)),(C1q (C1q x2.2 x2.1 v4) (w64 (x2.1 - 1)) v5)))) (some (.out x2.2))
noncomputable def D5 (p2:Int)(p3:Int)(x1:(Int× (List Pass))):Option (Stp (Int× (List Pass)) (List Pass)):=
  cond (decide (x1.1<p3)) ((loop (D4 p2) (x1.1,x1.2)).bind fun y1=>some (.go ((w64 (x1.1+1)),y1))) (some (.out (x1.2)))
noncomputable def C3 (p1:(List Pass))(p2:Int)(p3:Int):Option (List Pass):=
  loop (D5 p2 p3) ((w64 (p2+1)),p1)
theorem Q9 (p1:(List Pass))(p2:Int)(p3:Int)(r:(List Pass))(h:C3 p1 p2 p3=some r):MCall Tryz.prog 282 [(.sl (900000,0)),(di p2),(di p3),(.d (.fn (.func 264) [] []))] [(.arr 229 4 (List.map A1g p1))] (.d (.tup [])) [some (.arr 229 4 (List.map A1g r))] []:=by
 refine B5l (fk Tryz.func282 Tryz.ntmps282 m0 (by with_unfolding_all rfl)) rfl (nl rfl) ?_
 unfold C3 at h
 refine B0 (s0:=⟨T [(0,(.sl _)),(1,(.d _)),(2,(.d _)),(3,(.d _))],G [((900000,0),some _)]⟩) (sbr rfl rfl) ?_
 refine lr (fun u1 hu1=>sv rfl (sv rfl (sv rfl (A2 (A8 (J4 (D5 p2 p3) (fun (x1:(Int× (List Pass))) (g1:Unit)=>⟨T [(0,(.sl (900000,0))),(1,(di p2)),(2,(di p3)),(3,(.d (.fn (.func 264) [] []))),(8,(di x1.1))],G [((900000,0),some (.arr 229 4 (List.map A1g x1.2)))]⟩) ((w64 (p2+1)),p1) () _ h (sbr rfl rfl) ?_))))))
 intro x1 g1 z1 hz1 ez1
 unfold D5 at hz1
 refine A7 (lr (fun u2 hu2=>sv rfl (sv rfl (sv rfl (A2 (cc rfl hz1 (fun c1 hz1=> ?_) (fun c1 hz1=> ?_)))))))
 refine B2 (A7 (A8 (lr (fun u3 hu3=>sv rfl (sv rfl (A2 (bs hz1 fun y1 hy1 hz1=>I5 (fun s=> ∃g2:Unit,Sb ⟨T [(0,(.sl (900000,0))),(1,(di p2)),(2,(di p3)),(3,(.d (.fn (.func 264) [] []))),(8,(di x1.1))],G [((900000,0),some (.arr 229 4 (List.map A1g y1)))]⟩ s) ?_ ?_)))))))
 refine A8 (J4 (D4 p2) (fun (x2:(Int× (List Pass))) (g3:Unit)=>⟨T [(0,(.sl (900000,0))),(1,(di p2)),(2,(di p3)),(3,(.d (.fn (.func 264) [] []))),(8,(di x1.1)),(9,(di x2.1))],G [((900000,0),some (.arr 229 4 (List.map A1g x2.2)))]⟩) (x1.1,x1.2) () _ hy1 (sbr rfl rfl) ?_)
 intro x2 g3 z2 hz2 ez2
 unfold D4 at hz2
 refine A7 (A7 (O4 rfl fun u4 hu4=>sv rfl (sv rfl (sv rfl (sv rfl (gt rfl (fun _=>rfl) (A0o _ (.sl _) rfl (A1f rfl) (fun _=>rfl) (gt rfl (fun _=>rfl) (bs hz2 fun v1 hv1 hz2=>A0o _ (.aptr _ _ _ _) rfl (A1f rfl) (fun w4=>(B1x (A6 w4) (A6 w4) G_hit (E2 w4 hv1))) (gt rfl (fun w5=>(B4l (A6 w5) G_hit (E2 w5 hv1) rfl rfl)) (A0o _ (.sl _) rfl (A1f rfl) (fun _=>rfl) (gt rfl (fun _=>rfl) (gt rfl (vb rfl rfl rfl) (bs hz2 fun v2 hv2 hz2=>A0o _ (.aptr _ _ _ _) rfl (A1f rfl) (fun w9=>(B1x (A6 w9) (A6 w9) G_hit (E2 w9 hv2))) (gt rfl (fun w10=>(B4l (A6 w10) G_hit (E2 w10 hv2) rfl rfl)) (bs hz2 fun v3 hv3 hz2=> ?_))))))))))))))))
 refine U3 _ (i64 v3) (A1f rfl) (fun w11=>⟨_,[(.d (.agg (A1g v1))),(.d (.agg (A1g v2)))],_,_,(by simp only [A6 w11];rfl),rfl,A3,B7j _ _ _ (E2 w11 hv3),(.inl rfl)⟩) ?_
 refine gt rfl (vb rfl rfl rfl) (sa rfl rfl rfl (A2 (cc rfl hz2 (fun c2 hz2=> ?_) (fun c2 hz2=> ?_))))
 refine B2 (A7 (A8 (B0 (s0:=⟨T [(0,(.sl _)),(1,(.d _)),(2,(.d _)),(3,(.d _)),(8,(.d _)),(9,(.d _))],G [((900000,0),some _)]⟩) (sbr rfl rfl) ?_)))
 refine O4 rfl fun u5 hu5=>ss rfl (sv rfl (ss rfl (sv rfl (sv rfl (ss rfl (sv rfl (sv rfl (bs hz2 fun v4 hv4 hz2=>D8 (.aptr _ _ _ _) rfl (B1x rfl rfl G_hit hv4) (sd rfl (B4l rfl G_hit hv4 rfl rfl) (ss rfl (sv rfl (bs hz2 fun v5 hv5 hz2=>D8 (.aptr _ _ _ _) rfl (B1x rfl rfl G_hit hv5) (sd rfl (B4l rfl G_hit hv5 rfl rfl) (bs hz2 fun v6 hv6 hz2=>D8 (.aptr _ _ _ _) rfl (B1x rfl rfl G_hit hv6) (B6c A1g _ _ _ (x2.1) _ v4 (A1g v4) rfl rfl rfl G_hit hv6 (nl rfl) rfl (bs hz2 fun v7 hv7 hz2=>D8 (.aptr _ _ _ _) rfl (B1x rfl rfl G_hit hv7) (B6c A1g _ _ _ ((w64 (x2.1 - 1))) _ v5 (A1g v5) rfl rfl rfl G_hit hv7 (nl rfl) rfl (A2 (M0 (B0 (s0:=⟨T [(0,(.sl _)),(1,(.d _)),(2,(.d _)),(3,(.d _)),(8,(.d _)),(9,(.d _))],G [((900000,0),some _)]⟩) (sbr rfl rfl) ?_))))))))))))))))))))
 refine B8 fun u6 hu6=>sv rfl (sv rfl (sv rfl (A2 (K4 ?_))))
 cases hz2
 exact ⟨rfl,(),(sbr rfl rfl)⟩
 refine E1 rfl ?_
 cases hz2
 obtain rfl:=ez2 _ rfl
 refine ⟨nofun,C9 rfl (l_j ?_)⟩
 exact ⟨(),(sbr rfl rfl)⟩
 rintro _ ⟨g2,q1⟩
 refine M0 (B0 q1 (B8 fun u7 hu7=>sv rfl (sv rfl (sv rfl (A2 (K4 ?_))))))
 cases hz1
 exact ⟨rfl,(),(sbr rfl rfl)⟩
 refine E1 rfl ?_
 cases hz1
 obtain rfl:=ez1 _ rfl
 refine ⟨nofun,C9 rfl (K4 ?_)⟩
 exact C0a (.inl rfl) [] C0b (.refl _) ⟨⟨G_hit,A2m⟩,trivial⟩
noncomputable def F8 (p2:Int)(x3:(Int×Int)):Option (Stp (Int×Int) Int):=
  cond (decide (x3.2≤p2)) (none) (some (.out x3.1))
noncomputable def F9 (p2:Int)(v2:(List Pass))(x2:Int):Option (Stp Int (List Pass)):=
  cond (decide (x2<p2)) ((loop (F8 p2) (0,(w64 (2*x2)))).bind fun y2=>cond (decide ((w64 (y2+x2))<p2)) (none) (some (.go (w64 (x2*2))))) (some (.out (v2)))
noncomputable def G0 (p2:Int)(x1:(Int×Int× (List Pass))):Option (Stp (Int×Int× (List Pass)) (Int× (List Pass))):=
  cond (decide (x1.2.1≤p2)) ((C3 x1.2.2 x1.1 x1.2.1).bind fun v1=>some (.go (x1.2.1,(w64 (x1.2.1+20)),v1))) (some (.out (x1.1,x1.2.2)))
noncomputable def I0 (p1:(List Pass))(p2:Int):Option (List Pass):=
  (loop (G0 p2) (0,20,p1)).bind fun y1=>(C3 y1.2 y1.1 p2).bind fun v2=>loop (F9 p2 v2) 20
theorem A27 (p1:(List Pass))(p2:Int)(r:(List Pass))(h:I0 p1 p2=some r):MCall Tryz.prog 270 [(.sl (900000,0)),(di p2),(.d (.fn (.func 264) [] []))] [(.arr 229 4 (List.map A1g p1))] (.d (.tup [])) [some (.arr 229 4 (List.map A1g r))] []:=by
 refine B5l (fk Tryz.func270 Tryz.ntmps270 (fun r=>if r==3 then [1003004]else if r==6 then [1006004]else []) (by with_unfolding_all rfl)) rfl (nl rfl) ?_
 unfold I0 at h
 refine B0 (s0:=⟨T [(0,(.sl _)),(1,(.d _)),(2,(.d _))],G [((900000,0),some _)]⟩) (sbr rfl rfl) ?_
 refine lr (fun u1 hu1=>sv rfl (A2 (lr (fun u2 hu2=>sv rfl (sv rfl (sv rfl (A2 (A7 (bs h fun y1 hy1 h=>I5 (fun s=> ∃g1:Unit,Sb ⟨T [(0,(.sl (900000,0))),(1,(di p2)),(2,(.d (.fn (.func 264) [] []))),(6,(di 20)),(7,(di y1.1))],G [((900000,0),some (.arr 229 4 (List.map A1g y1.2)))]⟩ s) ?_ ?_)))))))))
 refine A8 (J4 (G0 p2) (fun (x1:(Int×Int× (List Pass))) (g2:Unit)=>⟨T [(0,(.sl (900000,0))),(1,(di p2)),(2,(.d (.fn (.func 264) [] []))),(6,(di 20)),(7,(di x1.1)),(8,(di x1.2.1))],G [((900000,0),some (.arr 229 4 (List.map A1g x1.2.2)))]⟩) (0,20,p1) () _ hy1 (sbr rfl rfl) ?_)
 intro x1 g2 z1 hz1 ez1
 unfold G0 at hz1
 refine A7 (lr (fun u3 hu3=>sv rfl (sv rfl (sv rfl (A2 (cc rfl hz1 (fun c1 hz1=> ?_) (fun c1 hz1=> ?_)))))))
 refine B2 (A8 (lr (fun u4 hu4=>ss rfl (sv rfl (sv rfl (sv rfl (bs hz1 fun v1 hv1 hz1=>C7n (v:= .d (.tup [])) (us:= [(900000,0)]) (C9h (Q9 _ _ _ _ hv1) [(900000,0)] [(900000,0)] _ (((900000,0),some (.arr 229 4 (List.map A1g v1)))::_) rfl A9e (A06 C3z (A06 C6b (A06 C6b (A06 C6b B6f)))) (A61 G_hit A60) ⟨⟨_,G_hit, .of rfl⟩,trivial⟩ (fun _ h=>h) nd1 rfl rfl rfl) (A2 (lr (fun u5 hu5=>sv rfl (sv rfl (A2 (B8 fun u6 hu6=>sv rfl (sv rfl (sv rfl (sv rfl (A2 (M0 (K4 ?_)))))))))))))))))))
 cases hz1
 exact ⟨rfl,(),(sbr rfl rfl)⟩
 refine E1 rfl ?_
 cases hz1
 obtain rfl:=ez1 _ rfl
 refine ⟨nofun,C9 rfl (l_j ?_)⟩
 exact ⟨(),(sbr rfl rfl)⟩
 rintro _ ⟨g1,q1⟩
 refine B0 q1 (lr (fun u7 hu7=>ss rfl (sv rfl (sv rfl (sv rfl (bs h fun v2 hv2 h=>C7n (v:= .d (.tup [])) (us:= [(900000,0)]) (C9h (Q9 _ _ _ _ hv2) [(900000,0)] [(900000,0)] _ (((900000,0),some (.arr 229 4 (List.map A1g v2)))::_) rfl A9e (A06 C3z (A06 C6b (A06 C6b (A06 C6b B6f)))) (A61 G_hit A60) ⟨⟨_,G_hit, .of rfl⟩,trivial⟩ (fun _ h=>h) nd1 rfl rfl rfl) (A2 (A8 (J4 (F9 p2 v2) (fun (x2:Int) (g3:Unit)=>⟨T [(0,(.sl (900000,0))),(1,(di p2)),(2,(.d (.fn (.func 264) [] []))),(6,(di x2))],G [((900000,0),some (.arr 229 4 (List.map A1g v2)))]⟩) 20 () _ h (sbr rfl rfl) ?_)))))))))
 intro x2 g3 z2 hz2 ez2
 unfold F9 at hz2
 refine A7 (lr (fun u8 hu8=>sv rfl (sv rfl (sv rfl (A2 (cc rfl hz2 (fun c2 hz2=> ?_) (fun c2 hz2=> ?_)))))))
 refine B2 (A8 (lr (fun u9 hu9=>sv rfl (sv rfl (sv rfl (sv rfl (A2 (A7 (bs hz2 fun y2 hy2 hz2=>I5 (fun s=> ∃g4:Unit,Sb ⟨T [(0,(.sl (900000,0))),(1,(di p2)),(2,(.d (.fn (.func 264) [] []))),(6,(di x2)),(7,(di y2))],G [((900000,0),some (.arr 229 4 (List.map A1g v2)))]⟩ s) ?_ ?_)))))))))
 refine A8 (J4 (F8 p2) (fun (x3:(Int×Int)) (g5:Unit)=>⟨T [(0,(.sl (900000,0))),(1,(di p2)),(2,(.d (.fn (.func 264) [] []))),(6,(di x2)),(7,(di x3.1)),(8,(di x3.2))],G [((900000,0),some (.arr 229 4 (List.map A1g v2)))]⟩) (0,(w64 (2*x2))) () _ hy2 (sbr rfl rfl) ?_)
 intro x3 g5 z3 hz3 ez3
 unfold F8 at hz3
 refine A7 (lr (fun u10 hu10=>sv rfl (sv rfl (sv rfl (A2 (cc rfl hz3 (fun c3 hz3=> ?_) (fun c3 hz3=> ?_)))))))
 refine B2 (A8 (lr (fun u11 hu11=>ss rfl (sv rfl (sv rfl (sv rfl (sv rfl (sv rfl (sv rfl ?_)))))))))
 cases hz3
 refine E1 rfl ?_
 cases hz3
 obtain rfl:=ez3 _ rfl
 refine ⟨nofun,C9 rfl (l_j ?_)⟩
 exact ⟨(),(sbr rfl rfl)⟩
 rintro _ ⟨g4,q2⟩
 refine B0 q2 (A7 (lr (fun u12 hu12=>sv rfl (sv rfl (sv rfl (sv rfl (A2 (lr (fun u13 hu13=>sv rfl (sv rfl (sv rfl (A2 (cc rfl hz2 (fun c4 hz2=> ?_) (fun c4 hz2=> ?_))))))))))))))
 refine B8 fun u14 hu14=>ss rfl (sv rfl (sv rfl (sv rfl (sv rfl ?_))))
 cases hz2
 refine B2 (B8 fun u15 hu15=>sv rfl (sv rfl (sv rfl (A2 (M0 (K4 ?_))))))
 cases hz2
 exact ⟨rfl,(),(sbr rfl rfl)⟩
 refine E1 rfl ?_
 cases hz2
 obtain rfl:=ez2 _ rfl
 refine ⟨nofun,C9 rfl (K4 ?_)⟩
 exact C0a (.inl rfl) [] C0b (.refl _) ⟨⟨G_hit,A2m⟩,trivial⟩
noncomputable def E8 (p1:(List Pass)):Option (List Pass):=
  (I0 p1 (p1.length:Int)).bind fun v1=>some v1
theorem A0a (p1:(List Pass))(r:(List Pass))(h:E8 p1=some r):MCall Tryz.prog 263 [(.sl (900000,0)),(.d (.fn (.func 264) [] []))] [(.arr 229 4 (List.map A1g p1))] (.d (.tup [])) [some (.arr 229 4 (List.map A1g r))] []:=by
 refine B5l (fk Tryz.func263 Tryz.ntmps263 (fun r=>if r==0 then [1000004]else []) (by with_unfolding_all rfl)) rfl (nl rfl) ?_
 unfold E8 at h
 refine B0 (s0:=⟨T [(0,(.sl _)),(1,(.d _))],G [((900000,0),some _)]⟩) (sbr rfl rfl) ?_
 refine B8 fun u1 hu1=>ss rfl (ss rfl (sd rfl (D1i (f:=A1g) rfl G_hit) (sv rfl (bs h fun v1 hv1 h=>C7n (v:= .d (.tup [])) (us:= [(900000,0)]) (C9h (A27 _ _ _ hv1) [(900000,0)] [(900000,0)] _ (((900000,0),some (.arr 229 4 (List.map A1g v1)))::_) rfl A9e (A06 C3z (A06 C6b (A06 C6b B6f))) (A61 G_hit A60) ⟨⟨_,G_hit, .of rfl⟩,trivial⟩ (fun _ h=>h) nd1 rfl rfl rfl) (A2 (K4 ?_))))))
 obtain rfl:=(Option.some.inj h)
 exact C0a (.inl rfl) [] C0b (.refl _) ⟨⟨G_hit,A2m⟩,trivial⟩
noncomputable def D6 (p1:Int)(x2:Int):Option (Stp Int Unit):=
  ((cond (decide (x2>p1)) ((none:Option Unit)) (some default))).bind fun v1=>cond ((decide (x2>p1))&&false) (none) (some (.out ()))
noncomputable def D7 (p1:Int)(p2:Int)(x1:Int):Option (Stp Int Unit):=
  cond (decide (x1<p2)) ((loop (D6 p1) x1).bind fun _=>some (.go (w64 (x1+1)))) (some (.out (())))
noncomputable def C4 (p1:Int)(p2:Int):Option Unit:=
  loop (D7 p1 p2) (w64 (p1+1))
theorem R0 (p1:Int)(p2:Int)(r:Unit)(h:C4 p1 p2=some r):PCall Tryz.prog 282 [.nilS,(i64 p1),(i64 p2),(.fn (.func 264) [] [])] (.tup []):=by
 refine C1 (fk Tryz.func282 Tryz.ntmps282 m0 (by with_unfolding_all rfl)) (nl rfl) ?_
 unfold C4 at h
 refine B0 (s0:=⟨T [(0,(.d _)),(1,(.d _)),(2,(.d _)),(3,(.d _))],G []⟩) (sbr rfl rfl) ?_
 refine lr (fun u1 hu1=>sv rfl (sv rfl (sv rfl (A2 (A8 (J4 (D7 p1 p2) (fun (x1:Int) (g1:Unit)=>⟨T [(0,(.d .nilS)),(1,(di p1)),(2,(di p2)),(3,(.d (.fn (.func 264) [] []))),(8,(di x1))],G []⟩) (w64 (p1+1)) () _ h (sbr rfl rfl) ?_))))))
 intro x1 g1 z1 hz1 ez1
 unfold D7 at hz1
 refine A7 (lr (fun u2 hu2=>sv rfl (sv rfl (sv rfl (A2 (cc rfl hz1 (fun c1 hz1=> ?_) (fun c1 hz1=> ?_)))))))
 refine B2 (A7 (A8 (lr (fun u3 hu3=>sv rfl (sv rfl (A2 (bs hz1 fun y1 hy1 hz1=>I5 (fun s=> ∃g2:Unit,Sb ⟨T [(0,(.d .nilS)),(1,(di p1)),(2,(di p2)),(3,(.d (.fn (.func 264) [] []))),(8,(di x1))],G []⟩ s) ?_ ?_)))))))
 refine A8 (J4 (D6 p1) (fun (x2:Int) (g3:Unit)=>⟨T [(0,(.d .nilS)),(1,(di p1)),(2,(di p2)),(3,(.d (.fn (.func 264) [] []))),(8,(di x1)),(9,(di x2))],G []⟩) x1 () _ hy1 (sbr rfl rfl) ?_)
 intro x2 g3 z2 hz2 ez2
 unfold D6 at hz2
 refine A7 (A7 (O4 rfl fun u4 hu4=>sv rfl (sv rfl (sv rfl (sv rfl (gt rfl (fun _=>rfl) (gt rfl (fun _=>rfl) (gt rfl (fun _=>rfl) (bs hz2 fun v1 hv1 hz2=>A0o _ (.d (.tup [])) rfl (A1f rfl) (fun w4=>nomatch E2 w4 hv1) (A0o _ (.d (.tup [])) rfl (A1f rfl) (fun w5=>nomatch E2 w5 hv1) (A0o _ (.d (.tup [])) rfl (A1f rfl) (fun w6=>nomatch E2 w6 hv1) (A0o _ (di 0) rfl (A1f rfl) (fun w7=>nomatch E2 w7 hv1) (A0o _ (di 0) rfl (A1f rfl) (fun w8=>nomatch E2 w8 hv1) (A0o _ (.d (.tup [])) rfl (A1f rfl) (fun w9=>nomatch E2 w9 hv1) (A0o _ (.d (.tup [])) rfl (A1f rfl) (fun w10=>nomatch E2 w10 hv1) (U3 _ (i64 0) (A1f rfl) (fun w11=>nomatch E2 w11 hv1) (A0o _ (.d (bo false)) rfl (A1f rfl) (fun w12=>nomatch E2 w12 hv1) (sa rfl rfl rfl (A2 (cc rfl hz2 (fun c2 hz2=> ?_) (fun c2 hz2=> ?_)))))))))))))))))))))
 refine B2 (A7 (A8 (B0 (s0:=⟨T [(0,(.d _)),(1,(.d _)),(2,(.d _)),(3,(.d _)),(8,(.d _)),(9,(.d _))],G []⟩) (sbr rfl rfl) ?_)))
 refine O4 rfl fun u5 hu5=>sv rfl (sv rfl (sv rfl (sv rfl (sv rfl (sv rfl (sv rfl (sv rfl ?_)))))))
 cases hz2
 refine E1 rfl ?_
 cases hz2
 obtain rfl:=ez2 _ rfl
 refine ⟨nofun,C9 rfl (l_j ?_)⟩
 exact ⟨(),(sbr rfl rfl)⟩
 rintro _ ⟨g2,q1⟩
 refine M0 (B0 q1 (B8 fun u6 hu6=>sv rfl (sv rfl (sv rfl (A2 (K4 ?_))))))
 cases hz1
 exact ⟨rfl,(),(sbr rfl rfl)⟩
 refine E1 rfl ?_
 cases hz1
 obtain rfl:=ez1 _ rfl
 refine ⟨nofun,C9 rfl (K4 ?_)⟩
 exact A9 (.inl rfl) rfl (.refl _)
noncomputable def G1 (p1:Int)(x3:(Int×Int)):Option (Stp (Int×Int) Int):=
  cond (decide (x3.2≤p1)) (none) (some (.out x3.1))
noncomputable def G2 (p1:Int)(x2:Int):Option (Stp Int Unit):=
  cond (decide (x2<p1)) ((loop (G1 p1) (0,(w64 (2*x2)))).bind fun y2=>cond (decide ((w64 (y2+x2))<p1)) (none) (some (.go (w64 (x2*2))))) (some (.out (())))
noncomputable def G3 (p1:Int)(x1:(Int×Int)):Option (Stp (Int×Int) Int):=
  cond (decide (x1.2≤p1)) ((C4 x1.1 x1.2).bind fun v1=>some (.go (x1.2,(w64 (x1.2+20))))) (some (.out x1.1))
noncomputable def I3 (p1:Int):Option Unit:=
  (loop (G3 p1) (0,20)).bind fun y1=>(C4 y1 p1).bind fun v2=>loop (G2 p1) 20
theorem A28 (p1:Int)(r:Unit)(h:I3 p1=some r):PCall Tryz.prog 270 [.nilS,(i64 p1),(.fn (.func 264) [] [])] (.tup []):=by
 refine C1 (fk Tryz.func270 Tryz.ntmps270 m0 (by with_unfolding_all rfl)) (nl rfl) ?_
 unfold I3 at h
 refine B0 (s0:=⟨T [(0,(.d _)),(1,(.d _)),(2,(.d _))],G []⟩) (sbr rfl rfl) ?_
 refine lr (fun u1 hu1=>sv rfl (A2 (lr (fun u2 hu2=>sv rfl (sv rfl (sv rfl (A2 (A7 (bs h fun y1 hy1 h=>I5 (fun s=> ∃g1:Unit,Sb ⟨T [(0,(.d .nilS)),(1,(di p1)),(2,(.d (.fn (.func 264) [] []))),(6,(di 20)),(7,(di y1))],G []⟩ s) ?_ ?_)))))))))
 refine A8 (J4 (G3 p1) (fun (x1:(Int×Int)) (g2:Unit)=>⟨T [(0,(.d .nilS)),(1,(di p1)),(2,(.d (.fn (.func 264) [] []))),(6,(di 20)),(7,(di x1.1)),(8,(di x1.2))],G []⟩) (0,20) () _ hy1 (sbr rfl rfl) ?_)
 intro x1 g2 z1 hz1 ez1
 unfold G3 at hz1
 refine A7 (lr (fun u3 hu3=>sv rfl (sv rfl (sv rfl (A2 (cc rfl hz1 (fun c1 hz1=> ?_) (fun c1 hz1=> ?_)))))))
 refine B2 (A8 (lr (fun u4 hu4=>sv rfl (sv rfl (sv rfl (sv rfl (bs hz1 fun v1 hv1 hz1=>B3 rfl rfl A3 (R0 _ _ _ hv1) (.inl rfl) (A2 (lr (fun u5 hu5=>sv rfl (sv rfl (A2 (B8 fun u6 hu6=>sv rfl (sv rfl (sv rfl (sv rfl (A2 (M0 (K4 ?_)))))))))))))))))))
 cases hz1
 exact ⟨rfl,(),(sbr rfl rfl)⟩
 refine E1 rfl ?_
 cases hz1
 obtain rfl:=ez1 _ rfl
 refine ⟨nofun,C9 rfl (l_j ?_)⟩
 exact ⟨(),(sbr rfl rfl)⟩
 rintro _ ⟨g1,q1⟩
 refine B0 q1 (lr (fun u7 hu7=>sv rfl (sv rfl (sv rfl (sv rfl (bs h fun v2 hv2 h=>B3 rfl rfl A3 (R0 _ _ _ hv2) (.inl rfl) (A2 (A8 (J4 (G2 p1) (fun (x2:Int) (g3:Unit)=>⟨T [(0,(.d .nilS)),(1,(di p1)),(2,(.d (.fn (.func 264) [] []))),(6,(di x2))],G []⟩) 20 () _ h (sbr rfl rfl) ?_)))))))))
 intro x2 g3 z2 hz2 ez2
 unfold G2 at hz2
 refine A7 (lr (fun u8 hu8=>sv rfl (sv rfl (sv rfl (A2 (cc rfl hz2 (fun c2 hz2=> ?_) (fun c2 hz2=> ?_)))))))
 refine B2 (A8 (lr (fun u9 hu9=>sv rfl (sv rfl (sv rfl (sv rfl (A2 (A7 (bs hz2 fun y2 hy2 hz2=>I5 (fun s=> ∃g4:Unit,Sb ⟨T [(0,(.d .nilS)),(1,(di p1)),(2,(.d (.fn (.func 264) [] []))),(6,(di x2)),(7,(di y2))],G []⟩ s) ?_ ?_)))))))))
 refine A8 (J4 (G1 p1) (fun (x3:(Int×Int)) (g5:Unit)=>⟨T [(0,(.d .nilS)),(1,(di p1)),(2,(.d (.fn (.func 264) [] []))),(6,(di x2)),(7,(di x3.1)),(8,(di x3.2))],G []⟩) (0,(w64 (2*x2))) () _ hy2 (sbr rfl rfl) ?_)
 intro x3 g5 z3 hz3 ez3
 unfold G1 at hz3
 refine A7 (lr (fun u10 hu10=>sv rfl (sv rfl (sv rfl (A2 (cc rfl hz3 (fun c3 hz3=> ?_) (fun c3 hz3=> ?_)))))))
 refine B2 (A8 (lr (fun u11 hu11=>sv rfl (sv rfl (sv rfl (sv rfl (sv rfl (sv rfl (sv rfl ?_)))))))))
 cases hz3
 refine E1 rfl ?_
 cases hz3
 obtain rfl:=ez3 _ rfl
 refine ⟨nofun,C9 rfl (l_j ?_)⟩
 exact ⟨(),(sbr rfl rfl)⟩
 rintro _ ⟨g4,q2⟩
 refine B0 q2 (A7 (lr (fun u12 hu12=>sv rfl (sv rfl (sv rfl (sv rfl (A2 (lr (fun u13 hu13=>sv rfl (sv rfl (sv rfl (A2 (cc rfl hz2 (fun c4 hz2=> ?_) (fun c4 hz2=> ?_))))))))))))))
 refine B8 fun u14 hu14=>sv rfl (sv rfl (sv rfl (sv rfl (sv rfl ?_))))
 cases hz2
 refine B2 (B8 fun u15 hu15=>sv rfl (sv rfl (sv rfl (A2 (M0 (K4 ?_))))))
 cases hz2
 exact ⟨rfl,(),(sbr rfl rfl)⟩
 refine E1 rfl ?_
 cases hz2
 obtain rfl:=ez2 _ rfl
 refine ⟨nofun,C9 rfl (K4 ?_)⟩
 exact A9 (.inl rfl) rfl (.refl _)
noncomputable def E9:Option Unit:=
  (I3 0).bind fun v1=>some ()
theorem A0b (r:Unit)(h:E9=some r):PCall Tryz.prog 263 [.nilS,(.fn (.func 264) [] [])] (.tup []):=by
 refine C1 (fk Tryz.func263 Tryz.ntmps263 m0 (by with_unfolding_all rfl)) (nl rfl) ?_
 unfold E9 at h
 refine B0 (s0:=⟨T [(0,(.d _)),(1,(.d _))],G []⟩) (sbr rfl rfl) ?_
 refine B8 fun u1 hu1=>sv rfl (sv rfl (sv rfl (sv rfl (bs h fun v1 hv1 h=>B3 rfl rfl A3 (A28 _ _ hv1) (.inl rfl) (A2 (K4 ?_))))))
 cases h
 exact A9 (.inl rfl) rfl (.refl _)
noncomputable def A3w (v1:RoadsWay)(x1:((List Pass)×Int))(v2:Int)(x2:((List Pass)×Int))(v3:Zone)(x3:((List Pass)×Int)):Option (Stp ((List Pass)×Int) (List Pass)):=
  cond (decide (x3.2< (v3.Parts.length:Int))) ((G8 v3.Parts x3.2).bind fun v4=>cond (v4.Lane_==v2) ((G8 v1.starts x1.2).bind fun v5=>(G8 v1.starts x1.2).bind fun v6=>(B2d x3.1 [(Pass.mk x2.2 x3.2 (w64 (v5+v4.From)) (w64 (v6+v4.To)))]).bind fun v7=>some (.go (v7,(w64 (x3.2+1))))) (some (.go (x3.1,(w64 (x3.2+1)))))) (some (.out x3.1))
noncomputable def A3x (p1:Map)(v1:RoadsWay)(x1:((List Pass)×Int))(v2:Int)(x2:((List Pass)×Int)):Option (Stp ((List Pass)×Int) (List Pass)):=
  cond (decide (x2.2< (p1.Zones.length:Int))) ((G8 p1.Zones x2.2).bind fun v3=>(loop (A3w v1 x1 v2 x2 v3) (x2.1,0)).bind fun y3=>some (.go (y3,(w64 (x2.2+1))))) (some (.out x2.1))
noncomputable def A3y (p1:Map)(v1:RoadsWay)(x1:((List Pass)×Int)):Option (Stp ((List Pass)×Int) (List Pass)):=
  cond (decide (x1.2< (v1.lanes.length:Int))) ((G8 v1.lanes x1.2).bind fun v2=>(loop (A3x p1 v1 x1 v2) (x1.1,0)).bind fun y2=>some (.go (y2,(w64 (x1.2+1))))) (some (.out x1.1))
noncomputable def A7u (p1:Map)(p2:(List Int)):Option (List Pass):=
  (A2l p1 p2).bind fun v1=>(loop (A3y p1 v1) ([],0)).bind fun y1=>cond (List.isEmpty y1) ((E9).bind fun v9=>some []) ((E8 y1).bind fun v8=>some v8)
theorem C0m (p1:Map)(p2:(List Int))(r:(List Pass))(h:A7u p1 p2=some r):PCall Tryz.prog 246 [(.agg (A7h p1)),(.list (List.map A4 p2))] (.list (List.map A1g r)):=by
 refine C1 (fk Tryz.func246 Tryz.ntmps246 (fun r=>if r==13 then [1020]else if r==17 then [1017001]else []) (by with_unfolding_all rfl)) (nl rfl) ?_
 unfold A7u at h
 refine B0 (s0:=⟨T [(0,(.d _)),(1,(.d _))],G []⟩) (sbr rfl rfl) ?_
 refine lr (fun u1 hu1=>sn rfl rfl (sv rfl (A2 (lr (fun u2 hu2=>sd rfl (B5 rfl G_hit rfl rfl) (sv rfl (bs h fun v1 hv1 h=>B3 rfl rfl A3 (A68 _ _ _ hv1) (.inl rfl) (sn rfl rfl (sst rfl G_hit (A62 v1) rfl (A2 (lr (fun u3 hu3=>sv rfl (A2 (A7 (lr (fun u4 hu4=>sp rfl rfl (sl rfl G_hit rfl (sd rfl (N1 rfl) (sv rfl (A2 (bs h fun y1 hy1 h=>I5 (fun s=> ∃g1:Nat,Sb ⟨T [(6,(oS y1 (65,g1)))],G [((65,g1),oB 229 4 A1g y1)]⟩ s) ?_ ?_)))))))))))))))))))))
 refine A8 (J4 (A3y p1 v1) (fun (x1:((List Pass)×Int)) (g2:Nat)=>⟨T [(2,(.ptr (2,u1) 0)),(5,(.ptr (5,u2) 0)),(6,(oS x1.1 (65,g2))),(17,(dl A4 v1.lanes)),(18,(di (v1.lanes.length:Int))),(19,(di x1.2))],G [((2,u1),some (.box 33 (Y2 p1))),((5,u2),some (.box 260 (A62 v1))),((65,g2),oB 229 4 A1g x1.1)]⟩) ([],0) 0 _ hy1 (F7 ⟨.of rfl, .of rfl, .of rfl, .of rfl, .of rfl, .of rfl,trivial⟩ (sg rfl (A5 G_hit (.of rfl) (A73 trivial)))) ?_)
 intro x1 g2 z1 hz1 ez1
 unfold A3y at hz1
 refine lr (fun u5 hu5=>sv rfl (A2 (A7 (cc rfl hz1 (fun c1 hz1=> ?_) (fun c1 hz1=> ?_)))))
 refine B2 (A7 (A8 (lr (fun u6 hu6=>sv rfl (bs hz1 fun v2 hv2 hz1=>sd rfl (L4 rfl rfl hv2 rfl) (sd rfl (N2 rfl hv2 rfl) (sv rfl (sv rfl (A2 (lr (fun u7 hu7=>sp rfl rfl (sl rfl G_hit rfl (sd rfl (N1 rfl) (sv rfl (A2 (bs hz1 fun y2 hy2 hz1=>I5 (fun s=> ∃g3:Nat,Sb ⟨T [(2,(.ptr (2,u1) 0)),(5,(.ptr (5,u2) 0)),(6,(oS y2 (65,g3))),(17,(dl A4 v1.lanes)),(18,(di (v1.lanes.length:Int))),(19,(di x1.2))],G [((2,u1),some (.box 33 (Y2 p1))),((5,u2),some (.box 260 (A62 v1))),((65,g3),oB 229 4 A1g y2)]⟩ s) ?_ ?_))))))))))))))))
 refine A8 (J4 (A3x p1 v1 x1 v2) (fun (x2:((List Pass)×Int)) (g4:Nat)=>⟨T [(2,(.ptr (2,u1) 0)),(5,(.ptr (5,u2) 0)),(6,(oS x2.1 (65,g4))),(7,(di x1.2)),(8,(di v2)),(17,(dl A4 v1.lanes)),(18,(di (v1.lanes.length:Int))),(19,(di x1.2)),(25,(dl A8n p1.Zones)),(26,(di (p1.Zones.length:Int))),(27,(di x2.2))],G [((2,u1),some (.box 33 (Y2 p1))),((5,u2),some (.box 260 (A62 v1))),((65,g4),oB 229 4 A1g x2.1)]⟩) (x1.1,0) g2 _ hy2 (F7 ⟨.of rfl, .of rfl, .of rfl, .of rfl, .of rfl, .of rfl, .of rfl, .of rfl, .of rfl, .of rfl, .of rfl,trivial⟩ (A5 G_hit (.of rfl) (sg rfl (B1 (gq rfl) trivial)))) ?_)
 intro x2 g4 z2 hz2 ez2
 unfold A3x at hz2
 refine lr (fun u8 hu8=>sv rfl (A2 (A7 (cc rfl hz2 (fun c2 hz2=> ?_) (fun c2 hz2=> ?_)))))
 refine B2 (A7 (A8 (lr (fun u9 hu9=>sv rfl (bs hz2 fun v3 hv3 hz2=>sd rfl (L4 rfl rfl hv3 rfl) (sd rfl (F0 rfl hv3 rfl rfl) (sn rfl rfl (sv rfl (sst rfl G_hit [(dl A74 v3.Parts),(di v3.Signal_)] rfl (A2 (lr (fun u10 hu10=>sp rfl rfl (sl rfl G_hit rfl (sd rfl (N1 rfl) (sv rfl (A2 (bs hz2 fun y3 hy3 hz2=>I5 (fun s=> ∃g5:Nat,Sb ⟨T [(2,(.ptr (2,u1) 0)),(5,(.ptr (5,u2) 0)),(6,(oS y3 (65,g5))),(7,(di x1.2)),(8,(di v2)),(17,(dl A4 v1.lanes)),(18,(di (v1.lanes.length:Int))),(19,(di x1.2)),(25,(dl A8n p1.Zones)),(26,(di (p1.Zones.length:Int))),(27,(di x2.2))],G [((2,u1),some (.box 33 (Y2 p1))),((5,u2),some (.box 260 (A62 v1))),((65,g5),oB 229 4 A1g y3)]⟩ s) ?_ ?_)))))))))))))))))
 refine A8 (J4 (A3w v1 x1 v2 x2 v3) (fun (x3:((List Pass)×Int)) (g6:Nat)=>⟨T [(2,(.ptr (2,u1) 0)),(5,(.ptr (5,u2) 0)),(6,(oS x3.1 (65,g6))),(7,(di x1.2)),(8,(di v2)),(9,(di x2.2)),(17,(dl A4 v1.lanes)),(18,(di (v1.lanes.length:Int))),(19,(di x1.2)),(25,(dl A8n p1.Zones)),(26,(di (p1.Zones.length:Int))),(27,(di x2.2)),(33,(dl A74 v3.Parts)),(34,(di (v3.Parts.length:Int))),(35,(di x3.2))],G [((2,u1),some (.box 33 (Y2 p1))),((5,u2),some (.box 260 (A62 v1))),((65,g6),oB 229 4 A1g x3.1)]⟩) (x2.1,0) g4 _ hy3 (F7 ⟨.of rfl, .of rfl, .of rfl, .of rfl, .of rfl, .of rfl, .of rfl, .of rfl, .of rfl, .of rfl, .of rfl, .of rfl, .of rfl, .of rfl, .of rfl,trivial⟩ (sg rfl (sg rfl (B1 (gq rfl) trivial)))) ?_)
 intro x3 g6 z3 hz3 ez3
 unfold A3w at hz3
 refine lr (fun u11 hu11=>sv rfl (A2 (A7 (cc rfl hz3 (fun c3 hz3=> ?_) (fun c3 hz3=> ?_)))))
 refine B2 (A7 (A8 (lr (fun u12 hu12=>sv rfl (bs hz3 fun v4 hv4 hz3=>sd rfl (L4 rfl rfl hv4 rfl) (sd rfl (F0 rfl hv4 rfl rfl) (sn rfl rfl (sv rfl (sst rfl G_hit (C48 v4) rfl (A2 (lr (fun u13 hu13=>sp rfl rfl (sl rfl G_hit rfl (sv rfl (sv rfl (A2 (cc rfl hz3 (fun c4 hz3=> ?_) (fun c4 hz3=> ?_))))))))))))))))))
 refine B0 (s0:=⟨T [(2,(.ptr (2,u1) 0)),(5,(.ptr (5,u2) 0)),(6,(oS x3.1 (65,g6))),(7,(di x1.2)),(8,(di v2)),(9,(di x2.2)),(11,(di x3.2)),(12,(.ptr (12,u12) 0)),(17,(dl A4 v1.lanes)),(18,(di (v1.lanes.length:Int))),(19,(di x1.2)),(25,(dl A8n p1.Zones)),(26,(di (p1.Zones.length:Int))),(27,(di x2.2)),(33,(dl A74 v3.Parts)),(34,(di (v3.Parts.length:Int))),(35,(di x3.2))],G [((2,u1),some (.box 33 (Y2 p1))),((5,u2),some (.box 260 (A62 v1))),((65,g6),oB 229 4 A1g x3.1),((12,u12),some (.box 114 (C48 v4)))]⟩) (F7 ⟨.of rfl, .of rfl, .of rfl, .of rfl, .of rfl, .of rfl, .of rfl, .of rfl, .of rfl, .of rfl, .of rfl, .of rfl, .of rfl, .of rfl, .of rfl, .of rfl, .of rfl,trivial⟩ (sg rfl (sg rfl (B1 (gq rfl) (A5 G_hit (.of rfl) trivial))))) ?_
 refine O4 rfl fun u14 hu14=>D8 (oS x3.1 (65,g6)) rfl rfl (sv rfl (sv rfl (sp rfl rfl (sl rfl (gq rfl) rfl (sv rfl (bs hz3 fun v5 hv5 hz3=>sd rfl (L4 rfl rfl hv5 rfl) (sd rfl (N2 rfl hv5 rfl) (sp rfl rfl (sl rfl (gq rfl) rfl (sv rfl (sp rfl rfl (sl rfl (gq rfl) rfl (sv rfl (bs hz3 fun v6 hv6 hz3=>sd rfl (L4 rfl rfl hv6 rfl) (sd rfl (N2 rfl hv6 rfl) (sp rfl rfl (sl rfl (gq rfl) rfl (sv rfl (sv rfl (D8 (dl A1g [(Pass.mk x2.2 x3.2 (w64 (v5+v4.From)) (w64 (v6+v4.To)))]) rfl rfl (bs hz3 fun v7 hv7 hz3=>A13 A1g (65,g6) x3.1 (Pass.mk x2.2 x3.2 (w64 (v5+v4.From)) (w64 (v6+v4.To))) [] _ (T7 (fun _=>rfl)) rfl (gq rfl) hv7 (ss rfl (A2 (M0 (B0 (s0:=⟨T [(2,(.ptr _ _)),(5,(.ptr _ _)),(6,(.sl _)),(7,(.d _)),(8,(.d _)),(9,(.d _)),(17,(.d _)),(18,(.d _)),(19,(.d _)),(25,(.d _)),(26,(.d _)),(27,(.d _)),(33,(.d _)),(34,(.d _)),(35,(.d _))],G [((2,u1),some (.box 33 _)),((5,u2),some (.box 260 _)),((65,u14),some _)]⟩) (sbr rfl rfl) ?_)))))))))))))))))))))))))
 refine B8 fun u15 hu15=>sv rfl (sv rfl (A2 (K4 ?_)))
 cases hz3
 exact ⟨rfl,u14,(F7 ⟨.of rfl, .of rfl,(.of (B2i (A4p hv7)).symm), .of rfl, .of rfl, .of rfl, .of rfl, .of rfl, .of rfl, .of rfl, .of rfl, .of rfl, .of rfl, .of rfl, .of rfl,trivial⟩ (A5 G_hit (.of rfl) (sg rfl (A5f (gq rfl) trivial))))⟩
 refine B2 (M0 (B0 (s0:=⟨T [(2,(.ptr (2,u1) 0)),(5,(.ptr (5,u2) 0)),(6,(oS x3.1 (65,g6))),(7,(di x1.2)),(8,(di v2)),(9,(di x2.2)),(17,(dl A4 v1.lanes)),(18,(di (v1.lanes.length:Int))),(19,(di x1.2)),(25,(dl A8n p1.Zones)),(26,(di (p1.Zones.length:Int))),(27,(di x2.2)),(33,(dl A74 v3.Parts)),(34,(di (v3.Parts.length:Int))),(35,(di x3.2))],G [((2,u1),some (.box 33 (Y2 p1))),((5,u2),some (.box 260 (A62 v1))),((65,g6),oB 229 4 A1g x3.1)]⟩) (F7 ⟨.of rfl, .of rfl, .of rfl, .of rfl, .of rfl, .of rfl, .of rfl, .of rfl, .of rfl, .of rfl, .of rfl, .of rfl, .of rfl, .of rfl, .of rfl,trivial⟩ (sg rfl (sg rfl (B1 (gq rfl) trivial)))) ?_))
 refine B8 fun u16 hu16=>sv rfl (sv rfl (A2 (K4 ?_)))
 cases hz3
 exact ⟨rfl,g6,(F7 ⟨.of rfl, .of rfl, .of rfl, .of rfl, .of rfl, .of rfl, .of rfl, .of rfl, .of rfl, .of rfl, .of rfl, .of rfl, .of rfl, .of rfl, .of rfl,trivial⟩ (A5 G_hit (.of rfl) (sg rfl (B1 (gq rfl) trivial))))⟩
 refine E1 rfl ?_
 cases hz3
 obtain rfl:=ez3 _ rfl
 refine ⟨nofun,C9 rfl (l_j ?_)⟩
 exact ⟨g6,(F7 ⟨.of rfl, .of rfl, .of rfl, .of rfl, .of rfl, .of rfl, .of rfl, .of rfl, .of rfl, .of rfl, .of rfl,trivial⟩ (A5 G_hit (.of rfl) (sg rfl (B1 (gq rfl) trivial))))⟩
 rintro _ ⟨g5,q1⟩
 refine M0 (B0 q1 (B8 fun u17 hu17=>sv rfl (sv rfl (A2 (K4 ?_)))))
 cases hz2
 exact ⟨rfl,g5,(F7 ⟨.of rfl, .of rfl, .of rfl, .of rfl, .of rfl, .of rfl, .of rfl, .of rfl, .of rfl, .of rfl, .of rfl,trivial⟩ (A5 G_hit (.of rfl) (sg rfl (B1 (gq rfl) trivial))))⟩
 refine E1 rfl ?_
 cases hz2
 obtain rfl:=ez2 _ rfl
 refine ⟨nofun,C9 rfl (l_j ?_)⟩
 exact ⟨g4,(F7 ⟨.of rfl, .of rfl, .of rfl, .of rfl, .of rfl, .of rfl,trivial⟩ (A5 G_hit (.of rfl) (sg rfl (B1 (gq rfl) trivial))))⟩
 rintro _ ⟨g3,q2⟩
 refine M0 (B0 q2 (B8 fun u18 hu18=>sv rfl (sv rfl (A2 (K4 ?_)))))
 cases hz1
 exact ⟨rfl,g3,(F7 ⟨.of rfl, .of rfl, .of rfl, .of rfl, .of rfl, .of rfl,trivial⟩ (A5 G_hit (.of rfl) (sg rfl (B1 (gq rfl) trivial))))⟩
 refine E1 rfl ?_
 cases hz1
 obtain rfl:=ez1 _ rfl
 refine ⟨nofun,C9 rfl (l_j ?_)⟩
 exact ⟨g2,(F7 ⟨.of rfl,trivial⟩ (B1 (gq rfl) trivial))⟩
 rintro _ ⟨g1,q3⟩
 refine B0 q3 (A7 ?_)
 rcases C45 h with ⟨e1,h⟩|⟨e1,h⟩
 refine B0 (s0:=⟨T [(6,(.d .nilS))],G []⟩) (F7 ⟨.of (D1l e1),trivial⟩ trivial) ?_
 refine B8 fun u22 hu22=>sv rfl (bs h fun v9 hv9 h=>C7n (v:= .d (.tup [])) (us:= []) (D4n [] _ rfl rfl A3 (A0b _ hv9) rfl rfl) (A2 (lr (fun u23 hu23=>sv rfl (sv rfl (A2 (B4 ?_)))))))
 cases h
 exact A9 (.inr rfl) (B7 (B6 rfl) I8) DLe.nil
 refine B0 (s0:=⟨T [(6,(.sl (65,g1)))],G [((65,g1),some (.arr 229 4 (List.map A1g y1)))]⟩) (F7 ⟨.of (B2i e1),trivial⟩ (A5 (B7h G_hit e1) (.of rfl) trivial)) ?_
 refine B8 fun u20 hu20=>ss rfl (bs h fun v8 hv8 h=>C7n (v:= .d (.tup [])) (us:= [(65,g1)]) (C9h (A0a _ _ hv8) [(65,g1)] [(65,g1)] _ (((65,g1),some (.arr 229 4 (List.map A1g v8)))::_) rfl A9e (A06 C3z (A06 C6b B6f)) (A61 G_hit A60) ⟨⟨_,G_hit, .of rfl⟩,trivial⟩ (fun _ h=>h) nd1 rfl rfl rfl) (A2 (lr (fun u21 hu21=>ss rfl (ss rfl (A2 (B4 ?_)))))))
 cases h
 exact A9 (.inr rfl) (B7 (B6 rfl) (C8j G_hit)) (.refl _)
noncomputable def A0c (p1:Pass)(p2:Int)(p3:WorldSpan):Option Bool:=
  some (((p1.Zone_==p2)&& (decide (p1.From≤p3.to)))&& (decide (p3.from_≤p1.To)))
theorem B3j (p1:Pass)(p2:Int)(p3:WorldSpan)(r:Bool)(h:A0c p1 p2 p3=some r):PCall Tryz.prog 247 [(.agg (A1g p1)),(.bp [(i64 p2)] 0),(.bp [(i64 p3.from_),(i64 p3.to)] 0)] (bo r):=by
 refine C1 (fk Tryz.func247 Tryz.ntmps247 m0 (by with_unfolding_all rfl)) (nl rfl) ?_
 unfold A0c at h
 refine B0 (s0:=⟨T [(0,(.d _)),(1,(.d _)),(2,(.d _))],G []⟩) (sbr rfl rfl) ?_
 refine lr (fun u1 hu1=>sn rfl rfl (sv rfl (A2 (lr (fun u2 hu2=>sp rfl rfl (sl rfl G_hit rfl (sv rfl (sv rfl (sv rfl (gp rfl (A1f rfl) (fun _=>rfl) (gt rfl (vl rfl G_hit rfl) (gt rfl (fun _=>rfl) ?_))))))))))))
 refine gt rfl (fun w4=>(by simp only [A6 w4];rfl)) ?_
 refine gt rfl (fun w5=>(A1p (A6 w5) (A6 w5) rfl)) (sa rfl rfl rfl (sv rfl (gt rfl (fun _=>rfl) ?_)))
 refine gt rfl (fun w7=>(by simp only [A6 w7];rfl)) ?_
 refine gp rfl (A1f rfl) (fun _=>rfl) (gt rfl (vl rfl G_hit rfl) (gt rfl (fun w10=>(A1p (A6 w10) (A6 w10) rfl)) (sa rfl rfl rfl (sv rfl (A2 (B4 ?_))))))
 cases h
 exact A9 (.inr rfl) (B7 (B6 rfl) I8) (.refl _)
noncomputable def F1 (p1:(List Pass))(p2:Int)(p3:WorldSpan)(x1:Int):Option (Stp Int (Sum Unit Int)):=
  cond (decide (x1< (p1.length:Int))) ((G8 p1 x1).bind fun v1=>(A0c v1 p2 p3).bind fun v2=>cond v2 (some (.out (.inr x1))) (some (.go (w64 (x1+1))))) (some (.out (.inl ())))
noncomputable def G6 (p1:(List Pass))(p2:Int)(p3:WorldSpan):Option Int:=
  thenS (loop (F1 p1 p2 p3) 0) (fun _=>some (-1)) (fun r=>some r)
theorem A1j (p1:(List Pass))(p2:Int)(p3:WorldSpan)(r:Int)(h:G6 p1 p2 p3=some r):PCall Tryz.prog 262 [(.list (List.map A1g p1)),(.fn (.func 247) [] [(.bp [(i64 p2)] 0),(.bp [(i64 p3.from_),(i64 p3.to)] 0)])] (i64 r):=by
 refine C1 (fk Tryz.func262 Tryz.ntmps262 m0 (by with_unfolding_all rfl)) (nl rfl) ?_
 unfold G6 at h
 refine B0 (s0:=⟨T [(0,(.d _)),(1,(.d _))],G []⟩) (sbr rfl rfl) ?_
 refine lr (fun u1 hu1=>sv rfl (A2 (A7 (lr (fun u2 hu2=>sv rfl (sd rfl (N1 rfl) (sv rfl (A2 (js h fun z1 hz1 h=>I5 (fun s=> ∃(y1:Unit) (g1:Unit),z1= .inl y1∧Sb ⟨T [],G []⟩ s) ?_ ?_)))))))))
 refine A8 (J4 (F1 p1 p2 p3) (fun (x1:Int) (g2:Unit)=>⟨T [(0,(dl A1g p1)),(1,(.d (.fn (.func 247) [] [(.bp [(i64 p2)] 0),(.bp [(i64 p3.from_),(i64 p3.to)] 0)]))),(7,(di (p1.length:Int))),(8,(di x1))],G []⟩) 0 () _ hz1 (sbr rfl rfl) ?_)
 intro x1 g2 z2 hz2 ez2
 unfold F1 at hz2
 refine lr (fun u3 hu3=>sv rfl (A2 (A7 (cc rfl hz2 (fun c1 hz2=> ?_) (fun c1 hz2=> ?_)))))
 refine B2 (A7 (A8 (lr (fun u4 hu4=>sv rfl (sv rfl (A2 (lr (fun u5 hu5=>sv rfl (sv rfl (sv rfl (bs hz2 fun v1 hv1 hz2=>sd rfl (L4 rfl rfl hv1 rfl) (sd rfl (F0 rfl hv1 rfl rfl) (bs hz2 fun v2 hv2 hz2=>B3 rfl rfl A3 (B3j _ _ _ _ hv2) (.inl rfl) (A2 (cc rfl hz2 (fun c2 hz2=> ?_) (fun c2 hz2=> ?_))))))))))))))))
 refine lr (fun u6 hu6=>sv rfl (sv rfl (A2 (B4 ?_))))
 cases hz2
 obtain rfl:=ez2 _ rfl
 refine ⟨nofun,I4 ?_⟩
 rw [Sum.elim_inr]at h
 cases h
 exact A9 (.inr rfl) (B7 (B6 rfl) I8) (.refl _)
 refine B2 (M0 (B8 fun u7 hu7=>sv rfl (sv rfl (A2 (K4 ?_)))))
 cases hz2
 exact ⟨rfl,(),(sbr rfl rfl)⟩
 refine E1 rfl ?_
 cases hz2
 obtain rfl:=ez2 _ rfl
 refine ⟨nofun,C9 rfl (l_j ?_)⟩
 exact ⟨_,(),rfl,(sbr rfl rfl)⟩
 rintro _ ⟨y1,g1,rfl,q1⟩
 rw [Sum.elim_inl]at h
 refine B0 q1 (lr (fun u8 hu8=>sv rfl (A2 (B4 ?_))))
 cases h
 exact A9 (.inr rfl) (B7 (B6 rfl) I8) (.refl _)
noncomputable def F2 (p1:(List Pass))(p2:Int)(p3:WorldSpan):Option Bool:=
  (G6 p1 p2 p3).bind fun v1=>some (decide (v1≥0))
theorem A0h (p1:(List Pass))(p2:Int)(p3:WorldSpan)(r:Bool)(h:F2 p1 p2 p3=some r):PCall Tryz.prog 245 [(.list (List.map A1g p1)),(.fn (.func 247) [] [(.bp [(i64 p2)] 0),(.bp [(i64 p3.from_),(i64 p3.to)] 0)])] (bo r):=by
 refine C1 (fk Tryz.func245 Tryz.ntmps245 m0 (by with_unfolding_all rfl)) (nl rfl) ?_
 unfold F2 at h
 refine B0 (s0:=⟨T [(0,(.d _)),(1,(.d _))],G []⟩) (sbr rfl rfl) ?_
 refine lr (fun u1 hu1=>sv rfl (A2 (lr (fun u2 hu2=>sv rfl (sv rfl (bs h fun v1 hv1 h=>B3 rfl rfl A3 (A1j _ _ _ _ hv1) (.inl rfl) (sv rfl (sv rfl (A2 (B4 ?_))))))))))
 cases h
 exact A9 (.inr rfl) (B7 (B6 rfl) I8) (.refl _)
noncomputable def A6b (p1:Map)(p2:Agent)(p3:Agent)(p4:Int):Option Bool:=
  (A79 p2).bind fun v1=>((cond (!(!v1)) (A79 p3) (some default))).bind fun v2=>cond ((!v1)||(!v2)) (some false) ((A33 p2).bind fun v3=>(A7u p1 p2.Route).bind fun v4=>(F2 v4 p4 (WorldSpan.mk v3.from_ p3.S)).bind fun v5=>some v5)
theorem B8k (p1:Map)(p2:Agent)(p3:Agent)(p4:Int)(r:Bool)(h:A6b p1 p2 p3 p4=some r):PCall Tryz.prog 218 [(.agg (A7h p1)),(.agg (C0 p2)),(.agg (C0 p3)),(i64 p4)] (bo r):=by
 refine C1 (fk Tryz.func218 Tryz.ntmps218 m0 (by with_unfolding_all rfl)) (nl rfl) ?_
 unfold A6b at h
 refine B0 (s0:=⟨T [(0,(.d _)),(1,(.d _)),(2,(.d _)),(3,(.d _))],G []⟩) (sbr rfl rfl) ?_
 refine lr (fun u1 hu1=>sn rfl rfl (sn rfl rfl (sn rfl rfl (sn rfl rfl (sv rfl (A2 (A7 (lr (fun u2 hu2=>sd rfl (B5 rfl (gq rfl) rfl rfl) (bs h fun v1 hv1 h=>B3 rfl rfl A3 (B2m _ _ hv1) (.inl rfl) (D8 (.d (bo (!v1))) rfl rfl (sv rfl (gf rfl (fun w1=>(B5 rfl (gq rfl) rfl rfl)) (bs h fun v2 hv2 h=> ?_))))))))))))))
 refine U3 _ (bo v2) (A4b rfl) (fun w2=>⟨_,[(.d (.agg (C0 p3)))],_,_,(by simp only [A6 w2];rfl),rfl,A3,B2m _ _ (E2 w2 hv2),(.inl rfl)⟩) ?_
 refine A0o _ (.d (bo (!v2))) rfl (A4b rfl) (fun w3=>(by simp only [A6 w3];rfl)) ?_
 refine sd rfl (A8i rfl rfl (fun hc=>A6 (Y1 hc))) (A2 (cc rfl h (fun c1 h=> ?_) (fun c1 h=> ?_)))
 refine lr (fun u3 hu3=>sv rfl (A2 (B4 ?_)))
 cases h
 exact A9 (.inr rfl) (B7 (B6 rfl) I8) (.refl _)
 refine B2 (A7 (O4 rfl fun u4 hu4=>sd rfl (B5 rfl (gq rfl) rfl rfl) (bs h fun v3 hv3 h=>B3 rfl rfl A3 (A4c _ _ hv3) (.inl rfl) (sv rfl (sp rfl rfl (sl rfl (gq rfl) rfl (sv rfl (sn rfl rfl (sst rfl G_hit [(di v3.from_),(di p3.S)] rfl (A2 (A7 (B0 (s0:=⟨T [(4,(.ptr _ _)),(5,(.ptr _ _)),(7,(.ptr _ _)),(9,(.ptr _ _))],G [((4,u1),some (.box 33 _)),((5,u1),some (.box 45 _)),((7,u1),some (.box 3 _)),((9,u4),some (.box 191 _))]⟩) (sbr rfl rfl) ?_))))))))))))
 refine B8 fun u5 hu5=>sd rfl (B5 rfl G_hit rfl rfl) (sp rfl rfl (sl rfl (gq rfl) rfl (bs h fun v4 hv4 h=>B3 rfl rfl A3 (C0m _ _ _ hv4) (.inl rfl) (D8 (.fn _ _ _) rfl rfl (bs h fun v5 hv5 h=>B3 rfl (rD (C2 (C13 D3 (C2 (A22 (gq rfl) (rD D3)) (C2 (A22 (gq rfl) (rD (rD D3))) D3))) D3)) A3 (A0h _ _ _ _ hv5) (.inr rfl) (sv rfl (A2 (B4 ?_))))))))
 cases h
 exact A9 (.inr rfl) (B7 (B6 rfl) I8) (.refl _)
noncomputable def P5 (p1:WorldScene)(p2:Int)(p3:Int):Option Bool:=
  (A3v p1.before p2).bind fun v1=>((cond v1 (G8 p1.before.Agents p2) (some default))).bind fun v2=>((cond v1 (G8 p1.after.Agents p2) (some default))).bind fun v3=>((cond v1 (A6b p1.m v2 v3 p3) (some default))).bind fun v4=>some (v1&&v4)
theorem X4 (p1:WorldScene)(p2:Int)(p3:Int)(r:Bool)(h:P5 p1 p2 p3=some r):PCall Tryz.prog 171 [(.bp (A9h p1) 0),(i64 p2),(i64 p3)] (bo r):=by
 refine C1 (fk Tryz.func171 Tryz.ntmps171 m0 (by with_unfolding_all rfl)) (nl rfl) ?_
 unfold P5 at h
 refine B0 (s0:=⟨T [(0,(.d _)),(1,(.d _)),(2,(.d _))],G []⟩) (sbr rfl rfl) ?_
 refine lr (fun u1 hu1=>sv rfl (A2 (A7 (O4 rfl fun u2 hu2=>sv rfl (sv rfl (sv rfl (sv rfl (sv rfl (bs h fun v1 hv1 h=>B3 rfl rfl A3 (A7i _ _ _ hv1) (.inl rfl) (sv rfl (gt rfl (fun _=>rfl) ?_)))))))))))
 refine gt rfl (fun w2=>(by simp only [A6 w2];rfl)) ?_
 refine gt rfl (fun w3=>(by simp only [A6 w3];rfl)) ?_
 refine gt rfl (fun w4=>(by simp only [A6 w4];rfl)) ?_
 refine gt rfl (fun _=>rfl) ?_
 refine gt rfl (fun w6=>(by simp only [A6 w6];rfl)) ?_
 refine gt rfl (fun w7=>(by simp only [A6 w7];rfl)) ?_
 refine gt rfl (fun w8=>(by simp only [A6 w8];rfl)) ?_
 refine gt rfl (fun w9=>(by simp only [A6 w9];rfl)) ?_
 refine gt rfl (fun _=>rfl) (bs h fun v2 hv2 h=>gt rfl (fun w11=>(L4 (A6 w11) (A6 w11) (E2 w11 hv2) rfl)) (gt rfl (fun w12=>(F0 (A6 w12) (E2 w12 hv2) rfl rfl)) (gt rfl (fun _=>rfl) ?_)))
 refine gt rfl (fun w14=>(by simp only [A6 w14];rfl)) ?_
 refine gt rfl (fun w15=>(by simp only [A6 w15];rfl)) ?_
 refine gt rfl (fun w16=>(by simp only [A6 w16];rfl)) ?_
 refine gt rfl (fun w17=>(by simp only [A6 w17];rfl)) ?_
 refine gt rfl (fun _=>rfl) (bs h fun v3 hv3 h=>gt rfl (fun w19=>(L4 (A6 w19) (A6 w19) (E2 w19 hv3) rfl)) (gt rfl (fun w20=>(F0 (A6 w20) (E2 w20 hv3) rfl rfl)) (gt rfl (fun _=>rfl) (bs h fun v4 hv4 h=> ?_))))
 refine U3 v1 (bo v4) (A1f rfl) (fun w22=>⟨_,[(.d (.agg (A7h p1.m))),(.d (.agg (C0 v2))),(.d (.agg (C0 v3))),(di p3)],_,_,(by simp only [A6 w22];rfl),rfl,A3,B8k _ _ _ _ _ (E2 w22 hv4),(.inl rfl)⟩) ?_
 refine sa rfl rfl rfl (sv rfl (A2 (B4 ?_)))
 cases h
 exact A9 (.inr rfl) (B7 (B6 rfl) I8) (.refl _)
noncomputable def D2 (p1:(List Stay))(p2:Stay)(x1:(Int×Int)):Option (Stp (Int×Int) Int):=
  cond (decide (x1.1<x1.2)) ((G8 p1 (w64 ((IntKind.wrap .u64 (w64 (x1.1+x1.2))).fdiv (2^ (min (1:Int).toNat (IntKind.bits .u64)))))).bind fun v1=>(A5i v1 p2).bind fun v2=>cond (decide (v2<0)) (some (.go ((w64 ((w64 ((IntKind.wrap .u64 (w64 (x1.1+x1.2))).fdiv (2^ (min (1:Int).toNat (IntKind.bits .u64)))))+1)),x1.2))) (some (.go (x1.1,(w64 ((IntKind.wrap .u64 (w64 (x1.1+x1.2))).fdiv (2^ (min (1:Int).toNat (IntKind.bits .u64))))))))) (some (.out x1.1))
noncomputable def B9 (p1:(List Stay))(p2:Stay):Option (Int×Bool):=
  (loop (D2 p1 p2) (0,(p1.length:Int))).bind fun y1=>((cond (decide (y1< (p1.length:Int))) (G8 p1 y1) (some default))).bind fun v3=>((cond (decide (y1< (p1.length:Int))) (A5i v3 p2) (some default))).bind fun v4=>some (y1,((decide (y1< (p1.length:Int)))&& (v4==0)))
theorem K5 (p1:(List Stay))(p2:Stay)(r:(Int×Bool))(h:B9 p1 p2=some r):PCall Tryz.prog 172 [(.list (List.map I9 p1)),(.agg (I9 p2)),(.fn (.func 73) [] [])] (.tup [(i64 r.1),(bo r.2)]):=by
 refine C1 (fk Tryz.func172 Tryz.ntmps172 m0 (by with_unfolding_all rfl)) (nl rfl) ?_
 unfold B9 at h
 refine B0 (s0:=⟨T [(0,(.d _)),(1,(.d _)),(2,(.d _))],G []⟩) (sbr rfl rfl) ?_
 refine lr (fun u1 hu1=>sn rfl rfl (sv rfl (sv rfl (A2 (lr (fun u2 hu2=>sv rfl (sd rfl (N1 rfl) (sv rfl (A2 (lr (fun u3 hu3=>sv rfl (sv rfl (sv rfl (A2 (A7 (bs h fun y1 hy1 h=>I5 (fun s=> ∃g1:Unit,Sb ⟨T [(0,(dl I9 p1)),(2,(.d (.fn (.func 73) [] []))),(4,(.ptr (4,u1) 0)),(8,(di (p1.length:Int))),(9,(di y1))],G [((4,u1),some (.box 127 (B8j p2)))]⟩ s) ?_ ?_))))))))))))))))
 refine A8 (J4 (D2 p1 p2) (fun (x1:(Int×Int)) (g2:Unit)=>⟨T [(0,(dl I9 p1)),(2,(.d (.fn (.func 73) [] []))),(4,(.ptr (4,u1) 0)),(8,(di (p1.length:Int))),(9,(di x1.1)),(10,(di x1.2))],G [((4,u1),some (.box 127 (B8j p2)))]⟩) (0,(p1.length:Int)) () _ hy1 (sbr rfl rfl) ?_)
 intro x1 g2 z1 hz1 ez1
 unfold D2 at hz1
 refine A7 (lr (fun u4 hu4=>sv rfl (sv rfl (sv rfl (A2 (cc rfl hz1 (fun c1 hz1=> ?_) (fun c1 hz1=> ?_)))))))
 refine B2 (A8 (lr (fun u5 hu5=>sv rfl (sv rfl (sv rfl (sv rfl (sv rfl (sv rfl (sv rfl (A2 (A7 (O4 rfl fun u6 hu6=>sv rfl (sv rfl (sv rfl (bs hz1 fun v1 hv1 hz1=>sd rfl (L4 rfl rfl hv1 rfl) (sd rfl (F0 rfl hv1 rfl rfl) (sd rfl (B5 rfl G_hit rfl rfl) (bs hz1 fun v2 hv2 hz1=>B3 rfl rfl A3 (B10 _ _ _ hv2) (.inl rfl) (sv rfl (A2 (cc rfl hz1 (fun c2 hz1=> ?_) (fun c2 hz1=> ?_))))))))))))))))))))))
 refine B0 (s0:=⟨T [(0,(.d _)),(2,(.d _)),(4,(.ptr _ _)),(8,(.d _)),(10,(.d _)),(11,(.d _))],G [((4,u1),some (.box 127 _))]⟩) (sbr rfl rfl) ?_
 refine B8 fun u7 hu7=>sv rfl (sv rfl (sv rfl (A2 (M0 (K4 ?_)))))
 cases hz1
 exact ⟨rfl,(),(sbr rfl rfl)⟩
 refine B0 (s0:=⟨T [(0,(.d _)),(2,(.d _)),(4,(.ptr _ _)),(8,(.d _)),(9,(.d _)),(11,(.d _))],G [((4,u1),some (.box 127 _))]⟩) (sbr rfl rfl) ?_
 refine B8 fun u8 hu8=>sv rfl (sv rfl (A2 (M0 (K4 ?_))))
 cases hz1
 exact ⟨rfl,(),(sbr rfl rfl)⟩
 refine E1 rfl ?_
 cases hz1
 obtain rfl:=ez1 _ rfl
 refine ⟨nofun,C9 rfl (l_j ?_)⟩
 exact ⟨(),(sbr rfl rfl)⟩
 rintro _ ⟨g1,q1⟩
 refine B0 q1 (A7 (O4 rfl fun u9 hu9=>sv rfl (sv rfl (sv rfl (sv rfl (sv rfl (gt rfl (fun _=>rfl) (gt rfl (fun _=>rfl) (gt rfl (fun _=>rfl) (bs h fun v3 hv3 h=>gt rfl (fun w4=>(L4 (A6 w4) (A6 w4) (E2 w4 hv3) rfl)) (gt rfl (fun w5=>(F0 (A6 w5) (E2 w5 hv3) rfl rfl)) (gt rfl (fun w6=>(B5 rfl G_hit rfl rfl)) (bs h fun v4 hv4 h=> ?_)))))))))))))
 refine U3 _ (i64 v4) (A1f rfl) (fun w7=>⟨_,[(.d (.agg (I9 v3))),(.d (.agg (I9 p2)))],_,_,(by simp only [A6 w7];rfl),rfl,A3,B10 _ _ _ (E2 w7 hv4),(.inl rfl)⟩) ?_
 refine gt rfl (vb rfl rfl rfl) (sa rfl rfl rfl (sv rfl (sv rfl (A2 (B4 ?_)))))
 cases h
 exact A9 (.inr rfl) (B8g (B6 rfl) (B6 rfl) I8 I8) (.refl _)
noncomputable def A52 (p1:Part)(p2:Int):Option Bool:=
  some (p1.Lane_==p2)
theorem B7k (p1:Part)(p2:Int)(r:Bool)(h:A52 p1 p2=some r):PCall Tryz.prog 265 [(.agg (A74 p1)),(.bp [(i64 p2)] 0)] (bo r):=by
 refine C1 (fk Tryz.func265 Tryz.ntmps265 m0 (by with_unfolding_all rfl)) (nl rfl) ?_
 unfold A52 at h
 refine B0 (s0:=⟨T [(0,(.d _)),(1,(.d _))],G []⟩) (sbr rfl rfl) ?_
 refine lr (fun u1 hu1=>sn rfl rfl (sv rfl (A2 (lr (fun u2 hu2=>sp rfl rfl (sl rfl G_hit rfl (sv rfl (sv rfl (sv rfl (A2 (B4 ?_)))))))))))
 cases h
 exact A9 (.inr rfl) (B7 (B6 rfl) I8) (.refl _)
noncomputable def H5 (p1:(List Part))(p2:Int)(x1:Int):Option (Stp Int (Sum Unit Int)):=
  cond (decide (x1< (p1.length:Int))) ((G8 p1 x1).bind fun v1=>(A52 v1 p2).bind fun v2=>cond v2 (some (.out (.inr x1))) (some (.go (w64 (x1+1))))) (some (.out (.inl ())))
noncomputable def J1 (p1:(List Part))(p2:Int):Option Int:=
  thenS (loop (H5 p1 p2) 0) (fun _=>some (-1)) (fun r=>some r)
theorem A2o (p1:(List Part))(p2:Int)(r:Int)(h:J1 p1 p2=some r):PCall Tryz.prog 220 [(.list (List.map A74 p1)),(.fn (.func 265) [] [(.bp [(i64 p2)] 0)])] (i64 r):=by
 refine C1 (fk Tryz.func220 Tryz.ntmps220 m0 (by with_unfolding_all rfl)) (nl rfl) ?_
 unfold J1 at h
 refine B0 (s0:=⟨T [(0,(.d _)),(1,(.d _))],G []⟩) (sbr rfl rfl) ?_
 refine lr (fun u1 hu1=>sv rfl (A2 (A7 (lr (fun u2 hu2=>sv rfl (sd rfl (N1 rfl) (sv rfl (A2 (js h fun z1 hz1 h=>I5 (fun s=> ∃(y1:Unit) (g1:Unit),z1= .inl y1∧Sb ⟨T [],G []⟩ s) ?_ ?_)))))))))
 refine A8 (J4 (H5 p1 p2) (fun (x1:Int) (g2:Unit)=>⟨T [(0,(dl A74 p1)),(1,(.d (.fn (.func 265) [] [(.bp [(i64 p2)] 0)]))),(7,(di (p1.length:Int))),(8,(di x1))],G []⟩) 0 () _ hz1 (sbr rfl rfl) ?_)
 intro x1 g2 z2 hz2 ez2
 unfold H5 at hz2
 refine lr (fun u3 hu3=>sv rfl (A2 (A7 (cc rfl hz2 (fun c1 hz2=> ?_) (fun c1 hz2=> ?_)))))
 refine B2 (A7 (A8 (lr (fun u4 hu4=>sv rfl (sv rfl (A2 (lr (fun u5 hu5=>sv rfl (sv rfl (sv rfl (bs hz2 fun v1 hv1 hz2=>sd rfl (L4 rfl rfl hv1 rfl) (sd rfl (F0 rfl hv1 rfl rfl) (bs hz2 fun v2 hv2 hz2=>B3 rfl rfl A3 (B7k _ _ _ hv2) (.inl rfl) (A2 (cc rfl hz2 (fun c2 hz2=> ?_) (fun c2 hz2=> ?_))))))))))))))))
 refine lr (fun u6 hu6=>sv rfl (sv rfl (A2 (B4 ?_))))
 cases hz2
 obtain rfl:=ez2 _ rfl
 refine ⟨nofun,I4 ?_⟩
 rw [Sum.elim_inr]at h
 cases h
 exact A9 (.inr rfl) (B7 (B6 rfl) I8) (.refl _)
 refine B2 (M0 (B8 fun u7 hu7=>sv rfl (sv rfl (A2 (K4 ?_)))))
 cases hz2
 exact ⟨rfl,(),(sbr rfl rfl)⟩
 refine E1 rfl ?_
 cases hz2
 obtain rfl:=ez2 _ rfl
 refine ⟨nofun,C9 rfl (l_j ?_)⟩
 exact ⟨_,(),rfl,(sbr rfl rfl)⟩
 rintro _ ⟨y1,g1,rfl,q1⟩
 rw [Sum.elim_inl]at h
 refine B0 q1 (lr (fun u8 hu8=>sv rfl (A2 (B4 ?_))))
 cases h
 exact A9 (.inr rfl) (B7 (B6 rfl) I8) (.refl _)
noncomputable def B21 (p1:Zone)(p2:Int):Option (Part×Bool):=
  (J1 p1.Parts p2).bind fun v1=>cond (decide (v1<0)) (some ((Part.mk 0 0 0 0),false)) ((G8 p1.Parts v1).bind fun v2=>some (v2,true))
theorem C2o (p1:Zone)(p2:Int)(r:(Part×Bool))(h:B21 p1 p2=some r):PCall Tryz.prog 251 [(.agg [(.list (List.map A74 p1.Parts)),(i64 p1.Signal_)]),(i64 p2)] (.tup [(.agg (A74 r.1)),(bo r.2)]):=by
 refine C1 (fk Tryz.func251 Tryz.ntmps251 m0 (by with_unfolding_all rfl)) (nl rfl) ?_
 unfold B21 at h
 refine B0 (s0:=⟨T [(0,(.d _)),(1,(.d _))],G []⟩) (sbr rfl rfl) ?_
 refine lr (fun u1 hu1=>sn rfl rfl (sn rfl rfl (sn rfl rfl (sv rfl (A2 (lr (fun u2 hu2=>sp rfl rfl (sl rfl (gq rfl) rfl (D8 (.fn _ _ _) rfl rfl (bs h fun v1 hv1 h=>B3 rfl (rD (C2 (C13 D3 (C2 (A22 (gq rfl) (rD D3)) D3)) D3)) A3 (A2o _ _ _ hv1) (.inr rfl) (sv rfl (A2 (A7 (lr (fun u3 hu3=>sv rfl (sv rfl (A2 (cc rfl h (fun c1 h=> ?_) (fun c1 h=> ?_)))))))))))))))))))
 refine lr (fun u4 hu4=>sv rfl (sst rfl G_hit (zs 4) rfl (sv rfl (A2 (B4 ?_)))))
 cases h
 exact A9 (.inr rfl) (B8g (N5 rfl G_hit (nl rfl) rfl) (B6 rfl) I8 I8) (.refl _)
 refine B2 (lr (fun u5 hu5=>sp rfl rfl (sl rfl (gq rfl) rfl (sv rfl (bs h fun v2 hv2 h=>sd rfl (L4 rfl rfl hv2 rfl) (sd rfl (F0 rfl hv2 rfl rfl) (sst rfl G_hit (C48 v2) rfl (sv rfl (A2 (B4 ?_))))))))))
 cases h
 exact A9 (.inr rfl) (B8g (N5 rfl G_hit (nl rfl) rfl) (B6 rfl) I8 I8) (.refl _)
noncomputable def A29 (p1:Int)(p2:Map)(p3:Int):Option Bool:=
  (G8 p2.Zones p3).bind fun v1=>(B21 v1 p1).bind fun v2=>some v2.2
theorem B4t (p1:Int)(p2:Map)(p3:Int)(r:Bool)(h:A29 p1 p2 p3=some r):PCall Tryz.prog 250 [(i64 p1),(.bp (A7h p2) 0),(.bp [(i64 p3)] 0)] (bo r):=by
 refine C1 (fk Tryz.func250 Tryz.ntmps250 m0 (by with_unfolding_all rfl)) (nl rfl) ?_
 unfold A29 at h
 refine B0 (s0:=⟨T [(0,(.d _)),(1,(.d _)),(2,(.d _))],G []⟩) (sbr rfl rfl) ?_
 refine lr (fun u1 hu1=>sv rfl (A2 (lr (fun u2 hu2=>sv rfl (sv rfl (sv rfl (bs h fun v1 hv1 h=>sd rfl (L4 rfl rfl hv1 rfl) (sd rfl (F0 rfl hv1 rfl rfl) (sv rfl (bs h fun v2 hv2 h=>B3 rfl rfl A3 (C2o _ _ _ hv2) (.inl rfl) (sv rfl (sv rfl (sv rfl (sn rfl rfl (sst rfl G_hit (C48 v2.1) rfl (sv rfl (A2 (lr (fun u3 hu3=>sv rfl (sv rfl (A2 (B4 ?_))))))))))))))))))))))
 cases h
 exact A9 (.inr rfl) (B7 (B6 rfl) I8) (.refl _)
noncomputable def H6 (p1:(List Int))(p2:Map)(p3:Int)(x1:Int):Option (Stp Int (Sum Unit Int)):=
  cond (decide (x1< (p1.length:Int))) ((G8 p1 x1).bind fun v1=>(A29 v1 p2 p3).bind fun v2=>cond v2 (some (.out (.inr x1))) (some (.go (w64 (x1+1))))) (some (.out (.inl ())))
noncomputable def J2 (p1:(List Int))(p2:Map)(p3:Int):Option Int:=
  thenS (loop (H6 p1 p2 p3) 0) (fun _=>some (-1)) (fun r=>some r)
theorem A2p (p1:(List Int))(p2:Map)(p3:Int)(r:Int)(h:J2 p1 p2 p3=some r):PCall Tryz.prog 249 [(.list (List.map A4 p1)),(.fn (.func 250) [] [(.bp (A7h p2) 0),(.bp [(i64 p3)] 0)])] (i64 r):=by
 refine C1 (fk Tryz.func249 Tryz.ntmps249 m0 (by with_unfolding_all rfl)) (nl rfl) ?_
 unfold J2 at h
 refine B0 (s0:=⟨T [(0,(.d _)),(1,(.d _))],G []⟩) (sbr rfl rfl) ?_
 refine lr (fun u1 hu1=>sv rfl (A2 (A7 (lr (fun u2 hu2=>sv rfl (sd rfl (N1 rfl) (sv rfl (A2 (js h fun z1 hz1 h=>I5 (fun s=> ∃(y1:Unit) (g1:Unit),z1= .inl y1∧Sb ⟨T [],G []⟩ s) ?_ ?_)))))))))
 refine A8 (J4 (H6 p1 p2 p3) (fun (x1:Int) (g2:Unit)=>⟨T [(0,(dl A4 p1)),(1,(.d (.fn (.func 250) [] [(.bp (A7h p2) 0),(.bp [(i64 p3)] 0)]))),(7,(di (p1.length:Int))),(8,(di x1))],G []⟩) 0 () _ hz1 (sbr rfl rfl) ?_)
 intro x1 g2 z2 hz2 ez2
 unfold H6 at hz2
 refine lr (fun u3 hu3=>sv rfl (A2 (A7 (cc rfl hz2 (fun c1 hz2=> ?_) (fun c1 hz2=> ?_)))))
 refine B2 (A7 (A8 (lr (fun u4 hu4=>sv rfl (sv rfl (A2 (lr (fun u5 hu5=>sv rfl (sv rfl (sv rfl (bs hz2 fun v1 hv1 hz2=>sd rfl (L4 rfl rfl hv1 rfl) (sd rfl (N2 rfl hv1 rfl) (bs hz2 fun v2 hv2 hz2=>B3 rfl rfl A3 (B4t _ _ _ _ hv2) (.inl rfl) (A2 (cc rfl hz2 (fun c2 hz2=> ?_) (fun c2 hz2=> ?_))))))))))))))))
 refine lr (fun u6 hu6=>sv rfl (sv rfl (A2 (B4 ?_))))
 cases hz2
 obtain rfl:=ez2 _ rfl
 refine ⟨nofun,I4 ?_⟩
 rw [Sum.elim_inr]at h
 cases h
 exact A9 (.inr rfl) (B7 (B6 rfl) I8) (.refl _)
 refine B2 (M0 (B8 fun u7 hu7=>sv rfl (sv rfl (A2 (K4 ?_)))))
 cases hz2
 exact ⟨rfl,(),(sbr rfl rfl)⟩
 refine E1 rfl ?_
 cases hz2
 obtain rfl:=ez2 _ rfl
 refine ⟨nofun,C9 rfl (l_j ?_)⟩
 exact ⟨_,(),rfl,(sbr rfl rfl)⟩
 rintro _ ⟨y1,g1,rfl,q1⟩
 rw [Sum.elim_inl]at h
 refine B0 q1 (lr (fun u8 hu8=>sv rfl (A2 (B4 ?_))))
 cases h
 exact A9 (.inr rfl) (B7 (B6 rfl) I8) (.refl _)
noncomputable def A9p (p1:Map)(p2:(List Int))(p3:Int):Option Int:=
  (A2l p1 p2).bind fun v1=>cond ((decide (p3<0))||(decide (p3≥(p1.Zones.length:Int)))) (some (-1)) ((J2 v1.lanes p1 p3).bind fun v2=>some v2)
theorem C16 (p1:Map)(p2:(List Int))(p3:Int)(r:Int)(h:A9p p1 p2 p3=some r):PCall Tryz.prog 222 [(.agg (A7h p1)),(.list (List.map A4 p2)),(i64 p3)] (i64 r):=by
 refine C1 (fk Tryz.func222 Tryz.ntmps222 m0 (by with_unfolding_all rfl)) (nl rfl) ?_
 unfold A9p at h
 refine B0 (s0:=⟨T [(0,(.d _)),(1,(.d _)),(2,(.d _))],G []⟩) (sbr rfl rfl) ?_
 refine lr (fun u1 hu1=>sn rfl rfl (sn rfl rfl (sv rfl (A2 (lr (fun u2 hu2=>sd rfl (B5 rfl (gq rfl) rfl rfl) (sv rfl (bs h fun v1 hv1 h=>B3 rfl rfl A3 (A68 _ _ _ hv1) (.inl rfl) (sn rfl rfl (sst rfl G_hit (A62 v1) rfl (A2 (A7 (lr (fun u3 hu3=>sl rfl (gq rfl) rfl (sv rfl (sv rfl (gf rfl (fun w1=>(S9 rfl (gq rfl) rfl)) (gp rfl (A4b rfl) (fun _=>rfl) (gf rfl (vl rfl (gq rfl) rfl) (gf rfl (fun w4=>(N1 (A6 w4))) (gf rfl (fun w5=>(A1p (A6 w5) (A6 w5) rfl)) (sd rfl (A8i rfl rfl (fun hc=>A6 (Y1 hc))) (A2 (cc rfl h (fun c1 h=> ?_) (fun c1 h=> ?_)))))))))))))))))))))))))
 refine A7 (B0 (s0:=⟨T [],G []⟩) (sbr rfl rfl) ?_)
 refine B8 fun u4 hu4=>sv rfl (A2 (B4 ?_))
 cases h
 exact A9 (.inr rfl) (B7 (B6 rfl) I8) (.refl _)
 refine B2 (A7 (B0 (s0:=⟨T [(3,(.ptr _ _)),(5,(.ptr _ _)),(7,(.ptr _ _))],G [((3,u1),some (.box 33 _)),((5,u1),some (.box 3 _)),((7,u2),some (.box 260 _))]⟩) (sbr rfl rfl) ?_))
 refine B8 fun u5 hu5=>sp rfl rfl (sl rfl (gq rfl) rfl (D8 (.fn _ _ _) rfl rfl (bs h fun v2 hv2 h=>B3 rfl (rD (C2 (C13 D3 (C2 (A22 G_hit (rD (rD (rD (rD (rD D3)))))) (C2 (A22 (gq rfl) (rD D3)) D3))) D3)) A3 (A2p _ _ _ _ hv2) (.inr rfl) (sv rfl (A2 (B4 ?_))))))
 cases h
 exact A9 (.inr rfl) (B7 (B6 rfl) I8) (.refl _)
noncomputable def A5k (p1:Map)(p2:(List Int))(p3:Int):Option Int:=
  (A9p p1 p2 p3).bind fun v1=>cond (decide (v1≥0)) ((G8 p2 v1).bind fun v2=>some v2) (some (-1))
theorem B12 (p1:Map)(p2:(List Int))(p3:Int)(r:Int)(h:A5k p1 p2 p3=some r):PCall Tryz.prog 175 [(.agg (A7h p1)),(.list (List.map A4 p2)),(i64 p3)] (i64 r):=by
 refine C1 (fk Tryz.func175 Tryz.ntmps175 m0 (by with_unfolding_all rfl)) (nl rfl) ?_
 unfold A5k at h
 refine B0 (s0:=⟨T [(0,(.d _)),(1,(.d _)),(2,(.d _))],G []⟩) (sbr rfl rfl) ?_
 refine lr (fun u1 hu1=>sn rfl rfl (sv rfl (A2 (A7 (lr (fun u2 hu2=>sd rfl (B5 rfl G_hit rfl rfl) (sv rfl (sv rfl (bs h fun v1 hv1 h=>B3 rfl rfl A3 (C16 _ _ _ _ hv1) (.inl rfl) (sv rfl (A2 (lr (fun u3 hu3=>sv rfl (sv rfl (A2 (cc rfl h (fun c1 h=> ?_) (fun c1 h=> ?_)))))))))))))))))
 refine lr (fun u4 hu4=>sv rfl (sv rfl (bs h fun v2 hv2 h=>sd rfl (L4 rfl rfl hv2 rfl) (sd rfl (N2 rfl hv2 rfl) (sv rfl (A2 (B4 ?_)))))))
 cases h
 exact A9 (.inr rfl) (B7 (B6 rfl) I8) (.refl _)
 refine B2 (lr (fun u5 hu5=>sv rfl (A2 (B4 ?_))))
 cases h
 exact A9 (.inr rfl) (B7 (B6 rfl) I8) (.refl _)
noncomputable def B2n (p1:Map)(p2:Int):Option Bool:=
  ((cond ((decide (p2≥0))&& (decide (p2< (p1.Lanes.length:Int)))) (A5h p1) (some default))).bind fun v1=>some (((decide (p2≥0))&& (decide (p2< (p1.Lanes.length:Int))))&& (v1==0))
theorem B5n (p1:Map)(p2:Int)(r:Bool)(h:B2n p1 p2=some r):PCall Tryz.prog 206 [(.agg (A7h p1)),(i64 p2)] (bo r):=by
 refine C1 (fk Tryz.func206 Tryz.ntmps206 m0 (by with_unfolding_all rfl)) (nl rfl) ?_
 unfold B2n at h
 refine B0 (s0:=⟨T [(0,(.d _)),(1,(.d _))],G []⟩) (sbr rfl rfl) ?_
 refine lr (fun u1 hu1=>sn rfl rfl (sv rfl (A2 (lr (fun u2 hu2=>sv rfl (sv rfl (sv rfl (gt rfl (fun _=>rfl) (gp rfl (A1f rfl) (fun _=>rfl) (gt rfl (vl rfl G_hit rfl) (gt rfl (fun w4=>(N1 (A6 w4))) (gt rfl (fun w5=>(A1p (A6 w5) (A6 w5) rfl)) (sa rfl rfl rfl (sv rfl (gt rfl (fun w6=>(B5 rfl G_hit rfl rfl)) (bs h fun v1 hv1 h=> ?_))))))))))))))))
 refine U3 _ (i64 v1) (A1f rfl) (fun w7=>⟨_,[(.d (.agg (A7h p1)))],_,_,(by simp only [A6 w7];rfl),rfl,A3,B0z _ _ (E2 w7 hv1),(.inl rfl)⟩) ?_
 refine gt rfl (vb rfl rfl rfl) (sa rfl rfl rfl (sv rfl (A2 (B4 ?_))))
 cases h
 exact A9 (.inr rfl) (B7 (B6 rfl) I8) (.refl _)
noncomputable def A53 (p1:Signal)(p2:Int)(x2:(Int×Int)):Option (Stp (Int×Int) (Sum Unit Bool)):=
  cond (decide (x2.2< (p1.Phases.length:Int))) ((G8 p1.Phases x2.2).bind fun v5=>cond (decide (x2.1≥v5.Ticks)) (some (.go ((w64 (x2.1 - v5.Ticks)),(w64 (x2.2+1))))) ((P6 v5.Green p2).bind fun v6=>some (.out (.inr v6)))) (some (.out (.inl ())))
noncomputable def A54 (p1:Signal)(x1:(Int×Int)):Option (Stp (Int×Int) Int):=
  cond (decide (x1.2< (p1.Phases.length:Int))) ((G8 p1.Phases x1.2).bind fun v1=>some (.go ((w64 (x1.1+v1.Ticks)),(w64 (x1.2+1))))) (some (.out x1.1))
noncomputable def A7a (p1:Signal)(p2:Int)(p3:Int):Option Bool:=
  (loop (A54 p1) (0,0)).bind fun y1=>(C8m p1.Offset y1).bind fun v2=>(C8m p3 y1).bind fun v3=>(C8m (w64 (v2+v3)) y1).bind fun v4=>thenS (loop (A53 p1 p2) (v4,0)) (fun _=>some false) (fun r=>some r)
theorem B57 (p1:Signal)(p2:Int)(p3:Int)(r:Bool)(h:A7a p1 p2 p3=some r):PCall Tryz.prog 248 [(.agg [(i64 p1.Offset),(.list (List.map A9f p1.Phases))]),(i64 p2),(i64 p3)] (bo r):=by
 refine C1 (fk Tryz.func248 Tryz.ntmps248 m0 (by with_unfolding_all rfl)) (nl rfl) ?_
 unfold A7a at h
 refine B0 (s0:=⟨T [(0,(.d _)),(1,(.d _)),(2,(.d _))],G []⟩) (sbr rfl rfl) ?_
 refine lr (fun u1 hu1=>sn rfl rfl (sv rfl (A2 (D2i (lr (fun u2 hu2=>sv rfl (A2 (A7 (lr (fun u3 hu3=>sp rfl rfl (sl rfl G_hit rfl (sd rfl (N1 rfl) (sv rfl (A2 (bs h fun y1 hy1 h=>I5 (fun s=> ∃g1:Unit,Sb ⟨T [(1,(di p2)),(2,(di p3)),(3,(.ptr (3,u1) 0)),(7,(di y1))],G [((3,u1),some (.box 120 [(di p1.Offset),(dl A9f p1.Phases)]))]⟩ s) ?_ ?_)))))))))))))))
 refine A8 (J4 (A54 p1) (fun (x1:(Int×Int)) (g2:Unit)=>⟨T [(1,(di p2)),(2,(di p3)),(3,(.ptr (3,u1) 0)),(7,(di x1.1)),(14,(dl A9f p1.Phases)),(15,(di (p1.Phases.length:Int))),(16,(di x1.2))],G [((3,u1),some (.box 120 [(di p1.Offset),(dl A9f p1.Phases)]))]⟩) (0,0) () _ hy1 (sbr rfl rfl) ?_)
 intro x1 g2 z1 hz1 ez1
 unfold A54 at hz1
 refine lr (fun u4 hu4=>sv rfl (A2 (A7 (cc rfl hz1 (fun c1 hz1=> ?_) (fun c1 hz1=> ?_)))))
 refine B2 (A7 (A8 (lr (fun u5 hu5=>bs hz1 fun v1 hv1 hz1=>sd rfl (L4 rfl rfl hv1 rfl) (sd rfl (F0 rfl hv1 rfl rfl) (sn rfl rfl (sst rfl G_hit [(di v1.Ticks),(dl A4 v1.Green)] rfl (A2 (B8 fun u6 hu6=>sv rfl (sp rfl rfl (sl rfl G_hit rfl (sv rfl (sv rfl (A2 (M0 (B8 fun u7 hu7=>sv rfl (sv rfl (A2 (K4 ?_)))))))))))))))))))
 cases hz1
 exact ⟨rfl,(),(sbr rfl rfl)⟩
 refine E1 rfl ?_
 cases hz1
 obtain rfl:=ez1 _ rfl
 refine ⟨nofun,C9 rfl (l_j ?_)⟩
 exact ⟨(),(sbr rfl rfl)⟩
 rintro _ ⟨g1,q1⟩
 refine B0 q1 (A7 (O4 rfl fun u8 hu8=>sp rfl rfl (sl rfl G_hit rfl (sv rfl (bs h fun v2 hv2 h=>sd rfl (D0q rfl rfl hv2) (sv rfl (sv rfl (bs h fun v3 hv3 h=>sd rfl (D0q rfl rfl hv3) (sv rfl (sv rfl (bs h fun v4 hv4 h=>sd rfl (D0q rfl rfl hv4) (sv rfl (A2 (A7 (B2 (A7 (lr (fun u9 hu9=>sp rfl rfl (sl rfl G_hit rfl (sd rfl (N1 rfl) (sv rfl (A2 (js h fun z2 hz2 h=>I5 (fun s=> ∃(y2:Unit) (g3:Unit),z2= .inl y2∧Sb ⟨T [],G []⟩ s) ?_ ?_)))))))))))))))))))))))
 refine A8 (J4 (A53 p1 p2) (fun (x2:(Int×Int)) (g4:Unit)=>⟨T [(1,(di p2)),(10,(di x2.1)),(36,(dl A9f p1.Phases)),(37,(di (p1.Phases.length:Int))),(38,(di x2.2))],G []⟩) (v4,0) () _ hz2 (sbr rfl rfl) ?_)
 intro x2 g4 z3 hz3 ez3
 unfold A53 at hz3
 refine lr (fun u10 hu10=>sv rfl (A2 (A7 (cc rfl hz3 (fun c2 hz3=> ?_) (fun c2 hz3=> ?_)))))
 refine B2 (A7 (A8 (lr (fun u11 hu11=>bs hz3 fun v5 hv5 hz3=>sd rfl (L4 rfl rfl hv5 rfl) (sd rfl (F0 rfl hv5 rfl rfl) (sn rfl rfl (sst rfl G_hit [(di v5.Ticks),(dl A4 v5.Green)] rfl (A2 (A7 (lr (fun u12 hu12=>sv rfl (sp rfl rfl (sl rfl G_hit rfl (sv rfl (A2 (cc rfl hz3 (fun c3 hz3=> ?_) (fun c3 hz3=> ?_)))))))))))))))))
 refine lr (fun u13 hu13=>sv rfl (sp rfl rfl (sl rfl G_hit rfl (sv rfl (sv rfl (A2 (C05 rfl (B8 fun u14 hu14=>sv rfl (sv rfl (A2 (K4 ?_)))))))))))
 cases hz3
 exact ⟨rfl,(),(sbr rfl rfl)⟩
 refine B2 (lr (fun u15 hu15=>sp rfl rfl (sl rfl G_hit rfl (sv rfl (bs hz3 fun v6 hv6 hz3=>B3 rfl rfl A3 (A0p _ _ _ hv6) (.inl rfl) (sv rfl (A2 (B4 ?_))))))))
 cases hz3
 obtain rfl:=ez3 _ rfl
 refine ⟨nofun,I4 ?_⟩
 rw [Sum.elim_inr]at h
 cases h
 exact A9 (.inr rfl) (B7 (B6 rfl) I8) (.refl _)
 refine E1 rfl ?_
 cases hz3
 obtain rfl:=ez3 _ rfl
 refine ⟨nofun,C9 rfl (l_j ?_)⟩
 exact ⟨_,(),rfl,(sbr rfl rfl)⟩
 rintro _ ⟨y2,g3,rfl,q2⟩
 rw [Sum.elim_inl]at h
 refine B0 q2 (lr (fun u16 hu16=>sv rfl (A2 (B4 ?_))))
 cases h
 exact A9 (.inr rfl) (B7 (B6 rfl) I8) (.refl _)
noncomputable def A9q (p1:Map)(p2:Int)(p3:Int)(p4:Int):Option Bool:=
  ((cond (((decide (p4≥0))&& (decide (p2≥0)))&& (decide (p2< (p1.Signals.length:Int)))) (B2n p1 p3) (some default))).bind fun v1=>((cond ((((decide (p4≥0))&& (decide (p2≥0)))&& (decide (p2< (p1.Signals.length:Int))))&&v1) (G8 p1.Signals p2) (some default))).bind fun v2=>((cond ((((decide (p4≥0))&& (decide (p2≥0)))&& (decide (p2< (p1.Signals.length:Int))))&&v1) (A7a v2 p3 p4) (some default))).bind fun v3=>some (((((decide (p4≥0))&& (decide (p2≥0)))&& (decide (p2< (p1.Signals.length:Int))))&&v1)&&v3)
theorem C17 (p1:Map)(p2:Int)(p3:Int)(p4:Int)(r:Bool)(h:A9q p1 p2 p3 p4=some r):PCall Tryz.prog 219 [(.agg (A7h p1)),(i64 p2),(i64 p3),(i64 p4)] (bo r):=by
 refine C1 (fk Tryz.func219 Tryz.ntmps219 m0 (by with_unfolding_all rfl)) (nl rfl) ?_
 unfold A9q at h
 refine B0 (s0:=⟨T [(0,(.d _)),(1,(.d _)),(2,(.d _)),(3,(.d _))],G []⟩) (sbr rfl rfl) ?_
 refine lr (fun u1 hu1=>sn rfl rfl (sv rfl (A2 (lr (fun u2 hu2=>sv rfl (sv rfl (sv rfl (gt rfl (fun _=>rfl) (gt rfl (vb rfl rfl rfl) (sa rfl rfl rfl (sv rfl (gt rfl (fun _=>rfl) (gp rfl (A1f rfl) (fun _=>rfl) (gt rfl (vl rfl G_hit rfl) (gt rfl (fun w6=>(N1 (A6 w6))) (gt rfl (fun w7=>(A1p (A6 w7) (A6 w7) rfl)) (sa rfl rfl rfl (sv rfl (gt rfl (fun w8=>(B5 rfl G_hit rfl rfl)) (gt rfl (fun _=>rfl) (bs h fun v1 hv1 h=> ?_)))))))))))))))))))))
 refine U3 _ (bo v1) (A1f rfl) (fun w10=>⟨_,[(.d (.agg (A7h p1))),(di p3)],_,_,(by simp only [A6 w10];rfl),rfl,A3,B5n _ _ _ (E2 w10 hv1),(.inl rfl)⟩) ?_
 refine sa rfl rfl rfl (sv rfl (gp rfl (A1f rfl) (fun _=>rfl) (gt rfl (vl rfl G_hit rfl) (gt rfl (fun _=>rfl) (bs h fun v2 hv2 h=>gt rfl (fun w14=>(L4 (A6 w14) (A6 w14) (E2 w14 hv2) rfl)) (gt rfl (fun w15=>(F0 (A6 w15) (E2 w15 hv2) rfl rfl)) (gt rfl (fun _=>rfl) (gt rfl (fun _=>rfl) (bs h fun v3 hv3 h=> ?_)))))))))
 refine U3 _ (bo v3) (A1f rfl) (fun w18=>⟨_,[(.d (.agg [(i64 v2.Offset),(.list (List.map A9f v2.Phases))])),(di p3),(di p4)],_,_,(by simp only [A6 w18];rfl),rfl,A3,B57 _ _ _ _ (E2 w18 hv3),(.inl rfl)⟩) ?_
 refine sa rfl rfl rfl (sv rfl (A2 (B4 ?_)))
 cases h
 exact A9 (.inr rfl) (B7 (B6 rfl) I8) (.refl _)
noncomputable def A55 (p1:Part)(p2:Int):Option Bool:=
  some (p1.Lane_==p2)
theorem B7l (p1:Part)(p2:Int)(r:Bool)(h:A55 p1 p2=some r):PCall Tryz.prog 221 [(.agg (A74 p1)),(.bp [(i64 p2)] 0)] (bo r):=by
 refine C1 (fk Tryz.func221 Tryz.ntmps221 m0 (by with_unfolding_all rfl)) (nl rfl) ?_
 unfold A55 at h
 refine B0 (s0:=⟨T [(0,(.d _)),(1,(.d _))],G []⟩) (sbr rfl rfl) ?_
 refine lr (fun u1 hu1=>sn rfl rfl (sv rfl (A2 (lr (fun u2 hu2=>sp rfl rfl (sl rfl G_hit rfl (sv rfl (sv rfl (sv rfl (A2 (B4 ?_)))))))))))
 cases h
 exact A9 (.inr rfl) (B7 (B6 rfl) I8) (.refl _)
noncomputable def H7 (p1:(List Part))(p2:Int)(x1:Int):Option (Stp Int (Sum Unit Int)):=
  cond (decide (x1< (p1.length:Int))) ((G8 p1 x1).bind fun v1=>(A55 v1 p2).bind fun v2=>cond v2 (some (.out (.inr x1))) (some (.go (w64 (x1+1))))) (some (.out (.inl ())))
noncomputable def J3 (p1:(List Part))(p2:Int):Option Int:=
  thenS (loop (H7 p1 p2) 0) (fun _=>some (-1)) (fun r=>some r)
theorem A2q (p1:(List Part))(p2:Int)(r:Int)(h:J3 p1 p2=some r):PCall Tryz.prog 220 [(.list (List.map A74 p1)),(.fn (.func 221) [] [(.bp [(i64 p2)] 0)])] (i64 r):=by
 refine C1 (fk Tryz.func220 Tryz.ntmps220 m0 (by with_unfolding_all rfl)) (nl rfl) ?_
 unfold J3 at h
 refine B0 (s0:=⟨T [(0,(.d _)),(1,(.d _))],G []⟩) (sbr rfl rfl) ?_
 refine lr (fun u1 hu1=>sv rfl (A2 (A7 (lr (fun u2 hu2=>sv rfl (sd rfl (N1 rfl) (sv rfl (A2 (js h fun z1 hz1 h=>I5 (fun s=> ∃(y1:Unit) (g1:Unit),z1= .inl y1∧Sb ⟨T [],G []⟩ s) ?_ ?_)))))))))
 refine A8 (J4 (H7 p1 p2) (fun (x1:Int) (g2:Unit)=>⟨T [(0,(dl A74 p1)),(1,(.d (.fn (.func 221) [] [(.bp [(i64 p2)] 0)]))),(7,(di (p1.length:Int))),(8,(di x1))],G []⟩) 0 () _ hz1 (sbr rfl rfl) ?_)
 intro x1 g2 z2 hz2 ez2
 unfold H7 at hz2
 refine lr (fun u3 hu3=>sv rfl (A2 (A7 (cc rfl hz2 (fun c1 hz2=> ?_) (fun c1 hz2=> ?_)))))
 refine B2 (A7 (A8 (lr (fun u4 hu4=>sv rfl (sv rfl (A2 (lr (fun u5 hu5=>sv rfl (sv rfl (sv rfl (bs hz2 fun v1 hv1 hz2=>sd rfl (L4 rfl rfl hv1 rfl) (sd rfl (F0 rfl hv1 rfl rfl) (bs hz2 fun v2 hv2 hz2=>B3 rfl rfl A3 (B7l _ _ _ hv2) (.inl rfl) (A2 (cc rfl hz2 (fun c2 hz2=> ?_) (fun c2 hz2=> ?_))))))))))))))))
 refine lr (fun u6 hu6=>sv rfl (sv rfl (A2 (B4 ?_))))
 cases hz2
 obtain rfl:=ez2 _ rfl
 refine ⟨nofun,I4 ?_⟩
 rw [Sum.elim_inr]at h
 cases h
 exact A9 (.inr rfl) (B7 (B6 rfl) I8) (.refl _)
 refine B2 (M0 (B8 fun u7 hu7=>sv rfl (sv rfl (A2 (K4 ?_)))))
 cases hz2
 exact ⟨rfl,(),(sbr rfl rfl)⟩
 refine E1 rfl ?_
 cases hz2
 obtain rfl:=ez2 _ rfl
 refine ⟨nofun,C9 rfl (l_j ?_)⟩
 exact ⟨_,(),rfl,(sbr rfl rfl)⟩
 rintro _ ⟨y1,g1,rfl,q1⟩
 rw [Sum.elim_inl]at h
 refine B0 q1 (lr (fun u8 hu8=>sv rfl (A2 (B4 ?_))))
 cases h
 exact A9 (.inr rfl) (B7 (B6 rfl) I8) (.refl _)
noncomputable def A96 (p1:Map)(p2:Agent)(p3:Int)(p4:Int):Option Int:=
  (A5k p1 p2.Route p3).bind fun v1=>cond (decide (v1<0)) (some 0) ((G8 p1.Zones p3).bind fun v2=>((cond (decide (v2.Signal_>0)) (A9q p1 (w64 (v2.Signal_ - 1)) v1 p4) (some default))).bind fun v3=>cond ((decide (v2.Signal_>0))&&v3) (some 2) (cond (decide (v2.Signal_>0)) (some 0) ((J3 v2.Parts v1).bind fun v4=>(G8 v2.Parts v4).bind fun v5=>some v5.Rank)))
theorem B6n (p1:Map)(p2:Agent)(p3:Int)(p4:Int)(r:Int)(h:A96 p1 p2 p3 p4=some r):PCall Tryz.prog 173 [(.agg (A7h p1)),(.agg (C0 p2)),(i64 p3),(i64 p4)] (i64 r):=by
 refine C1 (fk Tryz.func173 Tryz.ntmps173 m0 (by with_unfolding_all rfl)) (nl rfl) ?_
 unfold A96 at h
 refine B0 (s0:=⟨T [(0,(.d _)),(1,(.d _)),(2,(.d _)),(3,(.d _))],G []⟩) (sbr rfl rfl) ?_
 refine lr (fun u1 hu1=>sn rfl rfl (sn rfl rfl (sv rfl (A2 (lr (fun u2 hu2=>sd rfl (B5 rfl (gq rfl) rfl rfl) (sp rfl rfl (sl rfl G_hit rfl (sv rfl (bs h fun v1 hv1 h=>B3 rfl rfl A3 (B12 _ _ _ _ hv1) (.inl rfl) (sn rfl rfl (sst rfl G_hit [(di v1)] rfl (A2 (A7 (lr (fun u3 hu3=>sl rfl G_hit rfl (sv rfl (A2 (cc rfl h (fun c1 h=> ?_) (fun c1 h=> ?_))))))))))))))))))))
 refine lr (fun u4 hu4=>sv rfl (A2 (B4 ?_)))
 cases h
 exact A9 (.inr rfl) (B7 (B6 rfl) I8) (.refl _)
 refine B2 (lr (fun u5 hu5=>sp rfl rfl (sl rfl (gq rfl) rfl (sv rfl (bs h fun v2 hv2 h=>sd rfl (L4 rfl rfl hv2 rfl) (sd rfl (F0 rfl hv2 rfl rfl) (sn rfl rfl (sst rfl G_hit [(dl A74 v2.Parts),(di v2.Signal_)] rfl (A2 (A7 (A8 (A7 (B0 (s0:=⟨T [(3,(.d _)),(4,(.ptr _ _)),(9,(.ptr _ _)),(10,(.ptr _ _))],G [((4,u1),some (.box 33 _)),((9,u2),some (.box 3 _)),((10,u5),some (.box 117 _))]⟩) (sbr rfl rfl) ?_)))))))))))))
 refine B8 fun u6 hu6=>sp rfl rfl (sl rfl (gq rfl) rfl (sv rfl (sv rfl (gt rfl (fun w1=>(B5 rfl G_hit rfl rfl)) (gp rfl (A1f rfl) (fun _=>rfl) (gt rfl (vl rfl (gq rfl) rfl) (gt rfl (vb rfl rfl rfl) (gt rfl (fun w5=>(S9 rfl (gq rfl) rfl)) (gt rfl (fun _=>rfl) (bs h fun v3 hv3 h=> ?_))))))))))
 refine U3 _ (bo v3) (A1f rfl) (fun w7=>⟨_,[(.d (.agg (A7h p1))),(di (w64 (v2.Signal_ - 1))),(di v1),(di p4)],_,_,(by simp only [A6 w7];rfl),rfl,A3,C17 _ _ _ _ _ (E2 w7 hv3),(.inl rfl)⟩) ?_
 refine sa rfl rfl rfl (sv rfl (A2 (cc rfl h (fun c2 h=> ?_) (fun c2 h=> ?_))))
 refine lr (fun u7 hu7=>sv rfl (A2 (B4 ?_)))
 cases h
 exact A9 (.inr rfl) (B7 (B6 rfl) I8) (.refl _)
 refine lr (fun u8 hu8=>sp rfl rfl (sl rfl (gq rfl) rfl (sv rfl (sv rfl (A2 (cc rfl h (fun c3 h=> ?_) (fun c3 h=> ?_)))))))
 refine A7 (B0 (s0:=⟨T [],G []⟩) (sbr rfl rfl) ?_)
 refine B8 fun u9 hu9=>sv rfl (A2 (B4 ?_))
 cases h
 exact A9 (.inr rfl) (B7 (B6 rfl) I8) (.refl _)
 refine B2 (M0 (A7 (B0 (s0:=⟨T [(9,(.ptr _ _)),(10,(.ptr _ _))],G [((9,u2),some (.box 3 _)),((10,u5),some (.box 117 _))]⟩) (sbr rfl rfl) ?_)))
 refine O4 rfl fun u10 hu10=>sp rfl rfl (sl rfl (gq rfl) rfl (sp rfl rfl (sl rfl (gq rfl) rfl (D8 (.fn _ _ _) rfl rfl (bs h fun v4 hv4 h=>B3 rfl (rD (C2 (C13 D3 (C2 (A22 G_hit (rD D3)) D3)) D3)) A3 (A2q _ _ _ hv4) (.inr rfl) (bs h fun v5 hv5 h=>sd rfl (L4 rfl rfl hv5 rfl) (sv rfl (sd rfl (N2 rfl hv5 rfl) (sv rfl (A2 (B4 ?_)))))))))))
 cases h
 exact A9 (.inr rfl) (B7 (B6 rfl) I8) (.refl _)
noncomputable def V1 (p1:WorldScene)(x1:(Int× (List Stay)))(v1:Agent)(x2:(Int× (List Stay))):Option (Stp (Int× (List Stay)) (List Stay)):=
  cond (decide (x2.1< (p1.m.Zones.length:Int))) ((P5 (WorldScene.mk p1.m p1.before (State.mk p1.after.Tick p1.after.Agents x2.2) p1.acts p1.crashes) x1.1 x2.1).bind fun v2=>cond (!v2) (some (.go ((w64 (x2.1+1)),x2.2))) ((B9 p1.before.In (Stay.mk x1.1 x2.1 p1.before.Tick 0)).bind fun v3=>(cond v3.2 ((G8 p1.before.In v3.1).bind fun v4=>some v4) ((A96 p1.m v1 x2.1 p1.before.Tick).bind fun v5=>some (Stay.mk x1.1 x2.1 p1.before.Tick v5))).bind fun y2=>(B2d x2.2 [y2]).bind fun v6=>some (.go ((w64 (x2.1+1)),v6)))) (some (.out x2.2))
noncomputable def V2 (p1:WorldScene)(x1:(Int× (List Stay))):Option (Stp (Int× (List Stay)) WorldScene):=
  cond (decide (x1.1< (p1.before.Agents.length:Int))) ((G8 p1.before.Agents x1.1).bind fun v1=>(loop (V1 p1 x1 v1) (0,x1.2)).bind fun y1=>some (.go ((w64 (x1.1+1)),y1))) (some (.out ((WorldScene.mk p1.m p1.before (State.mk p1.after.Tick p1.after.Agents x1.2) p1.acts p1.crashes))))
noncomputable def A0d (p1:WorldScene):Option WorldScene:=
  loop (V2 p1) (0,[])
theorem B3k (p1:WorldScene)(r:WorldScene)(h:A0d p1=some r):MCall Tryz.prog 80 [(.ptr (900000,0) 0)] [(.box 135 (R5 p1))] (.d (.tup [])) [some (.box 135 (R5 r))] []:=by
 refine B5l (fk Tryz.func80 Tryz.ntmps80 (fun r=>if r==13 then [1007]else []) (by with_unfolding_all rfl)) rfl (nl rfl) ?_
 unfold A0d at h
 refine B0 (s0:=⟨T [(0,(.ptr _ _))],G [((900000,0),some (.box 135 _))]⟩) (sbr rfl rfl) ?_
 refine lr (fun u1 hu1=>sp rfl rfl (sp rfl rfl (sp rfl rfl (sp rfl rfl (sst rfl G_hit ((R5 p1).set 10 (.d .nilS)) rfl (A2 (lr (fun u2 hu2=>sp rfl rfl (sp rfl rfl (sp rfl rfl (sp rfl rfl (sl rfl G_hit rfl (sd rfl (N1 rfl) (sv rfl (A2 (A8 (J4 (V2 p1) (fun (x1:(Int× (List Stay))) (g1:Nat)=>⟨T [(0,(.ptr (900000,0) 0)),(16,(dl C0 p1.before.Agents)),(17,(di (p1.before.Agents.length:Int))),(18,(di x1.1))],G [((900000,0),some (.box 135 ((R5 p1).set 10 (oS x1.2 (85,g1))))),((85,g1),oB 127 4 I9 x1.2)]⟩) (0,[]) 0 _ h (F7 ⟨.of rfl, .of rfl, .of rfl, .of rfl,trivial⟩ (A5 G_hit (.of rfl) (A73 trivial))) ?_)))))))))))))))))
 intro x1 g1 z1 hz1 ez1
 unfold V2 at hz1
 refine lr (fun u3 hu3=>sv rfl (A2 (A7 (cc rfl hz1 (fun c1 hz1=> ?_) (fun c1 hz1=> ?_)))))
 refine B2 (A7 (A8 (lr (fun u4 hu4=>sv rfl (bs hz1 fun v1 hv1 hz1=>sd rfl (L4 rfl rfl hv1 rfl) (sd rfl (F0 rfl hv1 rfl rfl) (sn rfl rfl (sv rfl (sst rfl G_hit (A0n v1) rfl (A2 (lr (fun u5 hu5=>sp rfl rfl (sp rfl rfl (sp rfl rfl (sp rfl rfl (sl rfl (gq rfl) rfl (sd rfl (N1 rfl) (sv rfl (A2 (bs hz1 fun y1 hy1 hz1=>I5 (fun s=> ∃g2:Nat,Sb ⟨T [(0,(.ptr (900000,0) 0)),(16,(dl C0 p1.before.Agents)),(17,(di (p1.before.Agents.length:Int))),(18,(di x1.1))],G [((900000,0),some (.box 135 ((R5 p1).set 10 (oS y1 (85,g2))))),((85,g2),oB 127 4 I9 y1)]⟩ s) ?_ ?_))))))))))))))))))))
 refine A8 (J4 (V1 p1 x1 v1) (fun (x2:(Int× (List Stay))) (g3:Nat)=>⟨T [(0,(.ptr (900000,0) 0)),(2,(di x1.1)),(3,(.ptr (3,u4) 0)),(16,(dl C0 p1.before.Agents)),(17,(di (p1.before.Agents.length:Int))),(18,(di x1.1)),(28,(di (p1.m.Zones.length:Int))),(29,(di x2.1))],G [((900000,0),some (.box 135 ((R5 p1).set 10 (oS x2.2 (85,g3))))),((3,u4),some (.box 45 (A0n v1))),((85,g3),oB 127 4 I9 x2.2)]⟩) (0,x1.2) g1 _ hy1 (F7 ⟨.of rfl, .of rfl, .of rfl, .of rfl, .of rfl, .of rfl, .of rfl, .of rfl,trivial⟩ (sg rfl (A5 G_hit (.of rfl) (B1 (gq rfl) trivial)))) ?_)
 intro x2 g3 z2 hz2 ez2
 unfold V1 at hz2
 refine lr (fun u6 hu6=>sv rfl (A2 (A7 (cc rfl hz2 (fun c2 hz2=> ?_) (fun c2 hz2=> ?_)))))
 refine B2 (A7 (A8 (lr (fun u7 hu7=>sv rfl (sv rfl (A2 (A7 (lr (fun u8 hu8=>sp rfl rfl (sv rfl (sv rfl (bs hz2 fun v2 hv2 hz2=>B3 rfl (C2 (A22 G_hit (rD (rD (rD (rD (rD (rD (rD (rD (rD (rD (C2 (A5v (gq rfl)) (rD (rD D3)))))))))))))) (rD (rD D3))) (.cons (DLe.bp (ca rfl (ca rfl (ca rfl (ca rfl (ca rfl (ca rfl (ca rfl (ca rfl (ca rfl (ca rfl (.cons ⟨A5u,rfl⟩ (cz rfl))))))))))))) (.cons (.refl _) A3)) (X4 _ _ _ _ hv2) (.inr rfl) (D8 (.d (bo (!v2))) rfl rfl (A2 (cc rfl hz2 (fun c3 hz2=> ?_) (fun c3 hz2=> ?_))))))))))))))))
 refine C05 rfl (B8 fun u9 hu9=>sv rfl (sv rfl (A2 (K4 ?_))))
 cases hz2
 exact ⟨rfl,g3,(F7 ⟨.of rfl, .of rfl, .of rfl, .of rfl, .of rfl, .of rfl, .of rfl, .of rfl,trivial⟩ (A5 G_hit (.of rfl) (sg rfl (B1 (gq rfl) trivial))))⟩
 refine B2 (lr (fun u10 hu10=>sv rfl (sv rfl (sp rfl rfl (sp rfl rfl (sp rfl rfl (sp rfl rfl (sl rfl G_hit rfl (sv rfl (sn rfl rfl (sst rfl G_hit [(di x1.1),(di x2.1),(di p1.before.Tick),(di 0)] rfl (A2 (A7 (A7 (B0 (s0:=⟨T [(0,(.ptr (900000,0) 0)),(2,(di x1.1)),(3,(.ptr (3,u4) 0)),(4,(di x2.1)),(5,(.ptr (5,u10) 0)),(16,(dl C0 p1.before.Agents)),(17,(di (p1.before.Agents.length:Int))),(18,(di x1.1)),(28,(di (p1.m.Zones.length:Int))),(29,(di x2.1))],G [((900000,0),some (.box 135 ((R5 p1).set 10 (oS x2.2 (85,g3))))),((85,g3),oB 127 4 I9 x2.2),((3,u4),some (.box 45 (A0n v1))),((5,u10),some (.box 127 [(di x1.1),(di x2.1),(di p1.before.Tick),(di 0)]))]⟩) (F7 ⟨.of rfl, .of rfl, .of rfl, .of rfl, .of rfl, .of rfl, .of rfl, .of rfl, .of rfl, .of rfl,trivial⟩ (sg rfl (B1 (gq rfl) (sg rfl (A5 G_hit (.of rfl) trivial))))) ?_)))))))))))))))
 refine O4 rfl fun u11 hu11=>sp rfl rfl (sp rfl rfl (sp rfl rfl (sp rfl rfl (sl rfl G_hit rfl (sd rfl (B5 rfl (gq rfl) rfl rfl) (bs hz2 fun v3 hv3 hz2=>B3 rfl rfl A3 (K5 _ _ _ hv3) (.inl rfl) (sv rfl (sv rfl (sv rfl (sv rfl (sv rfl (A2 (A7 (B0 (s0:=⟨T [(0,(.ptr (900000,0) 0)),(2,(di x1.1)),(3,(.ptr (3,u4) 0)),(4,(di x2.1)),(5,(.ptr (5,u10) 0)),(6,(di v3.1)),(7,(.d (bo v3.2))),(16,(dl C0 p1.before.Agents)),(17,(di (p1.before.Agents.length:Int))),(18,(di x1.1)),(28,(di (p1.m.Zones.length:Int))),(29,(di x2.1))],G [((900000,0),some (.box 135 ((R5 p1).set 10 (oS x2.2 (85,g3))))),((85,g3),oB 127 4 I9 x2.2),((3,u4),some (.box 45 (A0n v1))),((5,u10),some (.box 127 [(di x1.1),(di x2.1),(di p1.before.Tick),(di 0)]))]⟩) (F7 ⟨.of rfl, .of rfl, .of rfl, .of rfl, .of rfl, .of rfl, .of rfl, .of rfl, .of rfl, .of rfl, .of rfl, .of rfl,trivial⟩ (A5 G_hit (.of rfl) (B1 (gq rfl) (sg rfl (sg rfl trivial))))) ?_))))))))))))))
 refine B8 fun u12 hu12=>sv rfl (A2 (bs hz2 fun y2 hy2 hz2=>I5 (fun s=> ∃g4:Unit,Sb ⟨T [(0,(.ptr (900000,0) 0)),(2,(di x1.1)),(3,(.ptr (3,u4) 0)),(5,(.ptr (5,u10) 0)),(16,(dl C0 p1.before.Agents)),(17,(di (p1.before.Agents.length:Int))),(18,(di x1.1)),(28,(di (p1.m.Zones.length:Int))),(29,(di x2.1))],G [((900000,0),some (.box 135 ((R5 p1).set 10 (oS x2.2 (85,g3))))),((3,u4),some (.box 45 (A0n v1))),((5,u10),some (.box 127 (B8j y2))),((85,g3),oB 127 4 I9 x2.2)]⟩ s) ?_ ?_))
 refine cc rfl hy2 (fun c4 hy2=> ?_) (fun c4 hy2=> ?_)
 refine B8 fun u13 hu13=>sp rfl rfl (sp rfl rfl (sp rfl rfl (sp rfl rfl (sl rfl G_hit rfl (sv rfl (bs hy2 fun v4 hv4 hy2=>sd rfl (L4 rfl rfl hv4 rfl) (sd rfl (F0 rfl hv4 rfl rfl) (sst rfl (gq rfl) (B8j v4) rfl (A2 ?_)))))))))
 obtain rfl:=(Option.some.inj hy2)
 exact l_j ⟨(),(F7 ⟨.of rfl, .of rfl, .of rfl, .of rfl, .of rfl, .of rfl, .of rfl, .of rfl, .of rfl,trivial⟩ (sg rfl (sg rfl (A5 G_hit (.of rfl) (B1 (gq rfl) trivial)))))⟩
 refine O4 rfl fun u14 hu14=>sp rfl rfl (sp rfl rfl (sp rfl rfl (sd rfl (B5 rfl G_hit rfl rfl) (sd rfl (B5 rfl (gq rfl) rfl rfl) (sv rfl (sp rfl rfl (sp rfl rfl (sp rfl rfl (sp rfl rfl (sl rfl G_hit rfl (bs hy2 fun v5 hv5 hy2=>B3 rfl rfl A3 (B6n _ _ _ _ _ hv5) (.inl rfl) (sp rfl rfl (sst rfl (gq rfl) [(di x1.1),(di x2.1),(di p1.before.Tick),(di v5)] rfl (A2 ?_))))))))))))))
 cases hy2
 exact l_j ⟨(),(F7 ⟨.of rfl, .of rfl, .of rfl, .of rfl, .of rfl, .of rfl, .of rfl, .of rfl, .of rfl,trivial⟩ (sg rfl (sg rfl (A5 G_hit (.of rfl) (B1 (gq rfl) trivial)))))⟩
 rintro _ ⟨g4,q1⟩
 refine B0 q1 (O4 rfl fun u15 hu15=>sp rfl rfl (sp rfl rfl (sp rfl rfl (sp rfl rfl (sp rfl rfl (D8 (oS x2.2 (85,g3)) rfl (S9 rfl G_hit rfl) (sd rfl (B5 rfl (gq rfl) rfl rfl) (D8 (dl I9 [y2]) rfl rfl (bs hz2 fun v6 hv6 hz2=>A13 I9 (85,g3) x2.2 y2 [] _ (T7 (fun _=>rfl)) rfl (gq rfl) hv6 (sp rfl rfl (sp rfl rfl (sp rfl rfl (sst rfl (gq rfl) ((R5 p1).set 10 (.sl (85,u15))) rfl (A2 (M0 (B0 (s0:=⟨T [(0,(.ptr _ _)),(2,(.d _)),(3,(.ptr _ _)),(16,(.d _)),(17,(.d _)),(18,(.d _)),(28,(.d _)),(29,(.d _))],G [((900000,0),some (.box 135 _)),((85,u15),some _),((3,u4),some (.box 45 _))]⟩) (sbr rfl rfl) ?_))))))))))))))))
 refine B8 fun u16 hu16=>sv rfl (sv rfl (A2 (K4 ?_)))
 cases hz2
 exact ⟨rfl,u15,(F7 ⟨.of rfl, .of rfl, .of rfl, .of rfl, .of rfl, .of rfl, .of rfl, .of rfl,trivial⟩ (A5 G_hit (.box (cv (cv (cv (cv (cv (cv (cv (cv (cv (cv (.cons (.of (B2i (A4p hv6)).symm) cw)))))))))))) (sg rfl (A5f (gq rfl) trivial))))⟩
 refine E1 rfl ?_
 cases hz2
 obtain rfl:=ez2 _ rfl
 refine ⟨nofun,C9 rfl (l_j ?_)⟩
 exact ⟨g3,(F7 ⟨.of rfl, .of rfl, .of rfl, .of rfl,trivial⟩ (A5 G_hit (.of rfl) (B1 (gq rfl) trivial)))⟩
 rintro _ ⟨g2,q2⟩
 refine M0 (B0 q2 (B8 fun u17 hu17=>sv rfl (sv rfl (A2 (K4 ?_)))))
 cases hz1
 exact ⟨rfl,g2,(F7 ⟨.of rfl, .of rfl, .of rfl, .of rfl,trivial⟩ (A5 G_hit (.of rfl) (B1 (gq rfl) trivial)))⟩
 refine E1 rfl ?_
 cases hz1
 obtain rfl:=ez1 _ rfl
 refine ⟨nofun,C9 rfl (K4 ?_)⟩
 exact C0a (.inl rfl) [(85,g1)] C0b (.refl _) ⟨⟨_,_,_,G_hit,(C90 rfl A2m),(rD (rD (rD (rD (rD (rD (rD (rD (rD (rD (C2 (A5v (D4o (.head _) (gq rfl))) (rD (rD D3))))))))))))),(.cons (.refl _) (.cons (.refl _) (.cons (.refl _) (.cons (.refl _) (.cons (.refl _) (.cons (.refl _) (.cons (.refl _) (.cons (.refl _) (.cons (.refl _) (.cons (.refl _) (.cons A5u (.cons (.refl _) A3)))))))))))),rfl⟩,trivial⟩
noncomputable def B8b (s:State)(i:Nat):Nat→Nat→Option (List (Int×Int))
  |0,_=>some []
  |k+1,j=>(A3v s i).bind fun a=>(A3v s j).bind fun b=>(B8b s i k (j+1)).bind fun l=>some (cond (a&&b) (((i:Int),(j:Int))::l) l)
noncomputable def C0n (s:State)(n:Nat):Nat→Nat→Option (List (Int×Int))
  |0,_=>some []
  |k+1,i=>(B8b s i (n - (i+1)) (i+1)).bind fun a=>(C0n s n k (i+1)).bind fun b=>some (a++b)
noncomputable def C1v (s:State):Option (List (Int×Int)):=if s.Agents.length≤1000000 then C0n s s.Agents.length s.Agents.length 0 else none
abbrev C5h (a:Int×Int):List D:= [i64 a.1,i64 a.2]
def B5o (kb ks:Key)(s:State)(h:I7):Prop:=h kb=some (.box 133 [.ptr ks 0])∧∃c0 c1 c2 c3 c4 c8 c9 c10 c11 c12,h ks=some (.box 135 [c0,c1,c2,c3,c4, .d (i64 s.Tick), .d (.list (List.map C0 s.Agents)), .d (.list (List.map I9 s.In)),c8,c9,c10,c11,c12])
theorem C1w {s:State}{L:List (Int×Int)}(h:C1v s=some L)(kb ks:Key):D4b Tryz.prog (.fn (.func 174) [] [.ptr kb 0]) (B5o kb ks s) (L.map C5h):=by
  unfold C1v at h
  split at h
  case isFalse=>cases h
  rename_i hlen
  refine ⟨174,[],[.ptr kb 0],rfl,?_⟩
  intro k h0 Inv Stop hi0 hcan hy
  refine C2c (fk Tryz.func174 Tryz.ntmps174 (fun r=>if r==6 then [18]else []) (by with_unfolding_all rfl)) (by simp) (D2h ?_)
  obtain ⟨g0,S0,i0,c0⟩:=hcan 0 h0 hi0
  have hLm:(L.map C5h).length=L.length:=List.length_map ..
  rw [hLm]
  refine B0 (s0:=⟨T [(0, .yld k),(1, .ptr kb 0)],g0⟩) ⟨fun i=> ?_,S0.h⟩ ?_
  ·match i with
   |0=>exact .refl _
   |1=>exact .refl _
   |n+2=>exact .any _
  have c0':=c0
  obtain ⟨e1,a0,a1,a2,a3,a4,a8,a9,a10,a11,a12,e2⟩:=c0'
  refine A7 ?_
  refine B54 fun u hu=> ?_
  refine C8 (.ptr ks 0) rfl (S9 rfl e1 rfl) ?_
  refine C8 (.ptr ks 0) rfl rfl ?_
  refine C8 (.ptr ks 5) rfl rfl ?_
  refine C8 (.ptr ks 6) rfl rfl ?_
  refine C8 (.d (.list (List.map C0 s.Agents))) rfl (S9 rfl e2 rfl) ?_
  refine C8 (.d (i64 s.Agents.length)) rfl (N1 (f:=C0) rfl) ?_
  refine C8 (.d (i64 0)) rfl rfl ?_
  refine A21 ?_
  refine A8 ?_
  refine C97 (α:=Nat×Nat×I7) (fun x=>⟨T [(0, .yld k),(1, .ptr kb 0),(10, .d (i64 s.Agents.length)),(11, .d (i64 (x.1:Int)))],x.2.2⟩) (fun x=>s.Agents.length - x.1)
    (fun x=>Inv x.2.1 x.2.2∧B5o kb ks s x.2.2∧x.1≤s.Agents.length∧x.2.1≤L.length∧C0n s s.Agents.length (s.Agents.length - x.1) x.1=some (L.drop x.2.1)) (0,0,g0) ⟨i0,c0,Nat.zero_le _,Nat.zero_le _,h⟩ (B89 ⟨rfl,rfl,rfl,rfl,trivial⟩ fun _ _ h=>h) ?_
  rintro ⟨i,pos,hh⟩ ⟨hinv,hrq,hi,hpos,hgo⟩
  dsimp only at hinv hrq hi hpos hgo ⊢
  refine A7 ?_
  refine B54 fun u hu=> ?_
  refine C8 (.d (bo (decide ((i:Int)< (s.Agents.length:Int))))) rfl rfl ?_
  refine A21 ?_
  refine A7 ?_
  refine C8l (decide ((i:Int)< (s.Agents.length:Int))) rfl (fun hlt=> ?_) (fun hlt=> ?_)
  ·refine B2 ?_
   have hlt:i<s.Agents.length:=by simpa using hlt
   have hw1: ∀n:Nat,n≤1000000→IntKind.i64.wrap ((n:Int)+1)=((n+1:Nat):Int):=fun n hn=>(Go.IntWalk.i64_in _ (by omega)).trans (by omega)
   obtain ⟨m,hm⟩: ∃m,s.Agents.length - i=m+1:=⟨s.Agents.length - i - 1,by omega⟩
   rw [hm,C0n]at hgo
   obtain ⟨l1,hl1,hgo⟩:=bind_some hgo
   obtain ⟨l2,hl2,hgo⟩:=bind_some hgo
   have hgo:l1++l2=L.drop pos:=Option.some.inj hgo
   refine A7 ?_
   refine A8 ?_
   refine A7 ?_
   refine B54 fun u hu=> ?_
   refine C8 (.d (i64 i)) rfl rfl ?_
   refine C8 (.d (i64 i)) rfl rfl ?_
   refine A21 ?_
   refine A7 ?_
   refine B54 fun u hu=> ?_
   refine C8 (.d (i64 i)) rfl rfl ?_
   refine C8 (.d (i64 ((i+1:Nat):Int))) rfl (by rw [← hw1 i (by omega)];rfl) ?_
   refine C8 (.d (i64 ((i+1:Nat):Int))) rfl rfl ?_
   refine A21 ?_
   refine A8 ?_
   refine C97 (α:=Nat×Nat×I7) (fun x=>⟨T [(0, .yld k),(1, .ptr kb 0),(3, .d (i64 (i:Int))),(4, .d (i64 (x.1:Int))),(10, .d (i64 s.Agents.length)),(11, .d (i64 (i:Int)))],x.2.2⟩) (fun x=>s.Agents.length - x.1)
     (fun x=>Inv x.2.1 x.2.2∧B5o kb ks s x.2.2∧x.1≤s.Agents.length∧x.2.1≤L.length∧∃l,B8b s i (s.Agents.length - x.1) x.1=some l∧l++l2=L.drop x.2.1) (i+1,pos,hh) ⟨hinv,hrq,hlt,hpos,l1,hl1,hgo⟩ (B89 ⟨rfl,rfl,rfl,rfl,rfl,rfl,trivial⟩ fun _ _ h=>h) ?_
   rintro ⟨j,pos,hh⟩ ⟨hinv,hrq,hj,hpos,l,hl,hgo⟩
   dsimp only at hinv hrq hj hpos hl hgo ⊢
   have hrq':=hrq
   obtain ⟨e1,a0,a1,a2,a3,a4,a8,a9,a10,a11,a12,e2⟩:=hrq'
   refine A7 ?_
   refine A7 ?_
   refine B54 fun u hu=> ?_
   refine C8 (.d (i64 j)) rfl rfl ?_
   refine C8 (.ptr ks 0) rfl (S9 rfl e1 rfl) ?_
   refine C8 (.ptr ks 0) rfl rfl ?_
   refine C8 (.ptr ks 5) rfl rfl ?_
   refine C8 (.ptr ks 6) rfl rfl ?_
   refine C8 (.d (.list (List.map C0 s.Agents))) rfl (S9 rfl e2 rfl) ?_
   refine C8 (.d (i64 s.Agents.length)) rfl (N1 (f:=C0) rfl) ?_
   refine C8 (.d (bo (decide ((j:Int)< (s.Agents.length:Int))))) rfl rfl ?_
   refine A21 ?_
   refine C8l (decide ((j:Int)< (s.Agents.length:Int))) rfl (fun hjl=> ?_) (fun hjl=> ?_)
   ·refine B2 ?_
    have hjl:j<s.Agents.length:=by simpa using hjl
    obtain ⟨m',hm'⟩: ∃m',s.Agents.length - j=m'+1:=⟨s.Agents.length - j - 1,by omega⟩
    rw [hm',B8b]at hl
    obtain ⟨a,ha,hl⟩:=bind_some hl
    obtain ⟨b,hb,hl⟩:=bind_some hl
    obtain ⟨l',hl',hl⟩:=bind_some hl
    have hl:cond (a&&b) (((i:Int),(j:Int))::l') l'=l:=Option.some.inj hl
    have hm1:s.Agents.length - (j+1)=m':=by omega
    -- what a round leaves
    have hend: ∀(p':Nat) (h':I7),Inv p' h'→B5o kb ks s h'→p'≤L.length→l'++l2=L.drop p'→∃y:Nat×Nat×I7,(Inv y.2.1 y.2.2∧B5o kb ks s y.2.2∧y.1≤s.Agents.length∧y.2.1≤L.length∧∃l,B8b s i (s.Agents.length - y.1) y.1=some l∧l++l2=L.drop y.2.1)∧s.Agents.length - y.1<s.Agents.length - j∧y=(j+1,p',h'):=fun p' h' q1 q2 q3 q4=>⟨(j+1,p',h'),⟨q1,q2,hjl,q3,l',by dsimp only;rw [hm1];exact hl',q4⟩,by dsimp only;omega,rfl⟩
    refine A7 ?_
    refine A8 ?_
    refine A7 ?_
    refine B54 fun u hu=> ?_
    refine C8 (.ptr ks 0) rfl (S9 rfl e1 rfl) ?_
    refine C8 (.ptr ks 0) rfl rfl ?_
    refine C8 (.ptr ks 5) rfl rfl ?_
    refine C8 (.d (.agg [i64 s.Tick, .list (List.map C0 s.Agents), .list (List.map I9 s.In)])) rfl (B5 rfl e2 rfl rfl) ?_
    refine C8 (.d (i64 i)) rfl rfl ?_
    refine B7f rfl rfl (A7i s i _ ha) (.inl rfl) ?_
    refine C8 (.d (bo a)) rfl rfl ?_
    cases a with
    |false=>
     iterate 6 (refine C95 rfl rfl ?_)
     refine C8 (.d (bo false)) rfl rfl ?_
     refine C8 (.d (bo false)) rfl rfl ?_
     iterate 5 (refine C95 rfl rfl ?_)
     refine C8 (.d (bo false)) rfl rfl ?_
     refine A21 ?_
     refine B3v rfl (B2 (M0 ?_))
     refine B54 fun u hu=> ?_
     refine C8 (.d (i64 j)) rfl rfl ?_
     refine C8 (.d (i64 ((j+1:Nat):Int))) rfl (by rw [← hw1 j (by omega)];rfl) ?_
     refine C8 (.d (i64 ((j+1:Nat):Int))) rfl rfl ?_
     refine A21 ?_
     obtain ⟨y,y1,y2,rfl⟩:=hend pos hh hinv hrq hpos (by rw [← hgo,← hl];rfl)
     exact K4 ⟨_,y1,y2,B89 ⟨rfl,rfl,rfl,rfl,rfl,rfl,trivial⟩ fun _ _ h=>h⟩
    |true=>
     refine B8i rfl ?_
     refine C8 (.ptr ks 0) rfl (S9 rfl e1 rfl) ?_
     refine B8i rfl ?_
     refine C8 (.ptr ks 0) rfl rfl ?_
     refine B8i rfl ?_
     refine C8 (.ptr ks 5) rfl rfl ?_
     refine B8i rfl ?_
     refine C8 (.d (.agg [i64 s.Tick, .list (List.map C0 s.Agents), .list (List.map I9 s.In)])) rfl (B5 rfl e2 rfl rfl) ?_
     refine B8i rfl ?_
     refine C8 (.d (i64 j)) rfl rfl ?_
     refine B8i rfl ?_
     refine B7f rfl rfl (A7i s j _ hb) (.inl rfl) ?_
     refine C8 (.d (bo b)) rfl rfl ?_
     refine C8 (.d (bo b)) rfl rfl ?_
     cases b with
     |false=>
      iterate 5 (refine C95 rfl rfl ?_)
      refine C8 (.d (bo false)) rfl rfl ?_
      refine A21 ?_
      refine B3v rfl (B2 (M0 ?_))
      refine B54 fun u hu=> ?_
      refine C8 (.d (i64 j)) rfl rfl ?_
      refine C8 (.d (i64 ((j+1:Nat):Int))) rfl (by rw [← hw1 j (by omega)];rfl) ?_
      refine C8 (.d (i64 ((j+1:Nat):Int))) rfl rfl ?_
      refine A21 ?_
      obtain ⟨y,y1,y2,rfl⟩:=hend pos hh hinv hrq hpos (by rw [← hgo,← hl];rfl)
      exact K4 ⟨_,y1,y2,B89 ⟨rfl,rfl,rfl,rfl,rfl,rfl,trivial⟩ fun _ _ h=>h⟩
     |true=>
      have hcons:((i:Int),(j:Int))::(l'++l2)=L.drop pos:=by rw [← hgo,← hl];rfl
      have hLi:(L.map C5h)[pos]? =some (C5h ((i:Int),(j:Int))):=by
        have:=congrArg (fun z=>z[0]?) hcons
        rw [List.getElem?_map]
        simp at this
        rw [← this];rfl
      have hLd:L.drop (pos+1)=l'++l2:=by
        have:=congrArg (fun z=>z.drop 1) hcons
        simpa using this.symm
      have hplt:pos+1≤L.length:=by
        have:=congrArg List.length hcons
        simp at this
        omega
      refine B8i rfl ?_
      refine C8 (.yld k) rfl rfl ?_
      refine B8i rfl ?_
      refine C8 (.d (i64 i)) rfl rfl ?_
      refine B8i rfl ?_
      refine C8 (.d (i64 j)) rfl rfl ?_
      refine B8i rfl ?_
      refine C96 k ((C5h ((i:Int),(j:Int))).map .d) rfl rfl ?_
      refine (hy pos hh _ hLi hinv).mono ?_
      rintro v' h' (⟨rfl,hin⟩|⟨rfl,hst⟩)
      ·obtain ⟨h1,S1,i1,q1⟩:=hcan _ _ hin
       refine ⟨h1,S1,fun u4 hu4=> ?_⟩
       refine B8i rfl ?_
       refine C8 (.d (bo false)) rfl rfl ?_
       refine C8 (.d (bo false)) rfl rfl ?_
       refine A21 ?_
       refine B3v rfl (B2 (M0 ?_))
       refine B54 fun u hu=> ?_
       refine C8 (.d (i64 j)) rfl rfl ?_
       refine C8 (.d (i64 ((j+1:Nat):Int))) rfl (by rw [← hw1 j (by omega)];rfl) ?_
       refine C8 (.d (i64 ((j+1:Nat):Int))) rfl rfl ?_
       refine A21 ?_
       obtain ⟨y,y1,y2,rfl⟩:=hend (pos+1) h1 i1 q1 hplt hLd.symm
       exact K4 ⟨_,y1,y2,B89 ⟨rfl,rfl,rfl,rfl,rfl,rfl,trivial⟩ fun _ _ h=>h⟩
      ·refine ⟨h',Sb.refl _,fun u4 hu4=> ?_⟩
       refine B8i rfl ?_
       refine C8 (.d (bo true)) rfl rfl ?_
       refine C8 (.d (bo true)) rfl rfl ?_
       refine A21 ?_
       refine B7g rfl ?_
       refine B4 (I4 (I4 ?_))
       exact ⟨Or.inr rfl,AV.tup [],rfl,Or.inr hst⟩
   ·refine E1 rfl ?_
    have hjn:j=s.Agents.length:=by
      have: ¬((j:Int)< (s.Agents.length:Int)):=by simpa using hjl
      omega
    subst hjn
    rw [Nat.sub_self,B8b]at hl
    cases hl
    refine C9 (r':= [.b 1, .c _]) rfl (M0 ?_)
    refine B54 fun u hu=> ?_
    refine C8 (.d (i64 ((i+1:Nat):Int))) rfl (by rw [← hw1 i (by omega)];rfl) ?_
    refine C8 (.d (i64 ((i+1:Nat):Int))) rfl rfl ?_
    refine A21 ?_
    refine K4 ⟨(i+1,pos,hh),⟨hinv,hrq,hlt,hpos,?_⟩,by dsimp only;omega,B89 ⟨rfl,rfl,rfl,rfl,trivial⟩ fun _ _ h=>h⟩
    dsimp only
    rw [show s.Agents.length - (i+1)=m by omega,hl2]
    exact congrArg some hgo
  ·refine E1 rfl ?_
   have hin:i=s.Agents.length:=by
     have: ¬((i:Int)< (s.Agents.length:Int)):=by simpa using hlt
     omega
   subst hin
   rw [Nat.sub_self,C0n]at hgo
   have h1:L.drop pos= []:=(Option.some.inj hgo).symm
   have h2:=List.drop_eq_nil_iff.1 h1
   have h3:pos=L.length:=by omega
   subst h3
   refine C9 (r':= []) rfl (K4 ?_)
   exact ⟨.inl rfl,AV.tup [],rfl, .inl hinv⟩
noncomputable def W3 (p1:WorldSpan)(p2:Int):Option WorldSpan:=
  some (WorldSpan.mk (w64 (p1.from_ - p2)) (w64 (p1.to - p2)))
theorem A3h (p1:WorldSpan)(p2:Int)(r:WorldSpan)(h:W3 p1 p2=some r):PCall Tryz.prog 141 [(.agg [(i64 p1.from_),(i64 p1.to)]),(i64 p2)] (.agg [(i64 r.from_),(i64 r.to)]):=by
 refine C1 (fk Tryz.func141 Tryz.ntmps141 m0 (by with_unfolding_all rfl)) (nl rfl) ?_
 unfold W3 at h
 refine B0 (s0:=⟨T [(0,(.d _)),(1,(.d _))],G []⟩) (sbr rfl rfl) ?_
 refine lr (fun u1 hu1=>sn rfl rfl (sn rfl rfl (A2 (lr (fun u2 hu2=>sp rfl rfl (sl rfl (gq rfl) rfl (sv rfl (sv rfl (sp rfl rfl (sl rfl (gq rfl) rfl (sv rfl (sv rfl (sv rfl (sst rfl G_hit [(di (w64 (p1.from_ - p2))),(di (w64 (p1.to - p2)))] rfl (A2 (B4 ?_))))))))))))))))
 cases h
 exact A9 (.inr rfl) (B7 (N5 rfl G_hit (nl rfl) rfl) I8) (.refl _)
noncomputable def A3z (p1:Map)(p2:Int):Option Int:=
  (B2n p1 p2).bind fun v1=>cond (!v1) (some 0) ((A5s p1 p2).bind fun v2=>some v2)
theorem A9r (p1:Map)(p2:Int)(r:Int)(h:A3z p1 p2=some r):PCall Tryz.prog 143 [(.agg (A7h p1)),(i64 p2)] (i64 r):=by
 refine C1 (fk Tryz.func143 Tryz.ntmps143 m0 (by with_unfolding_all rfl)) (nl rfl) ?_
 unfold A3z at h
 refine B0 (s0:=⟨T [(0,(.d _)),(1,(.d _))],G []⟩) (sbr rfl rfl) ?_
 refine lr (fun u1 hu1=>sn rfl rfl (sv rfl (A2 (A7 (lr (fun u2 hu2=>sd rfl (B5 rfl G_hit rfl rfl) (sv rfl (bs h fun v1 hv1 h=>B3 rfl rfl A3 (B5n _ _ _ hv1) (.inl rfl) (D8 (.d (bo (!v1))) rfl rfl (A2 (cc rfl h (fun c1 h=> ?_) (fun c1 h=> ?_))))))))))))
 refine lr (fun u3 hu3=>sv rfl (A2 (B4 ?_)))
 cases h
 exact A9 (.inr rfl) (B7 (B6 rfl) I8) (.refl _)
 refine B2 (lr (fun u4 hu4=>sd rfl (B5 rfl G_hit rfl rfl) (sv rfl (bs h fun v2 hv2 h=>B3 rfl rfl A3 (A8p _ _ _ hv2) (.inl rfl) (sv rfl (A2 (B4 ?_)))))))
 cases h
 exact A9 (.inr rfl) (B7 (B6 rfl) I8) (.refl _)
noncomputable def A34 (p1:WorldSpan)(p2:WorldSpan):Option WorldSpan:=
  some (WorldSpan.mk (mm2 true p1.from_ p2.from_) (mm2 false p1.to p2.to))
theorem B22 (p1:WorldSpan)(p2:WorldSpan)(r:WorldSpan)(h:A34 p1 p2=some r):PCall Tryz.prog 142 [(.agg [(i64 p1.from_),(i64 p1.to)]),(.agg [(i64 p2.from_),(i64 p2.to)])] (.agg [(i64 r.from_),(i64 r.to)]):=by
 refine C1 (fk Tryz.func142 Tryz.ntmps142 m0 (by with_unfolding_all rfl)) (nl rfl) ?_
 unfold A34 at h
 refine B0 (s0:=⟨T [(0,(.d _)),(1,(.d _))],G []⟩) (sbr rfl rfl) ?_
 refine lr (fun u1 hu1=>sn rfl rfl (sn rfl rfl (sn rfl rfl (A2 (lr (fun u2 hu2=>sp rfl rfl (sl rfl (gq rfl) rfl (sp rfl rfl (sl rfl (gq rfl) rfl (sv rfl (sp rfl rfl (sl rfl (gq rfl) rfl (sp rfl rfl (sl rfl (gq rfl) rfl (sv rfl (sv rfl (sst rfl G_hit [(di (mm2 true p1.from_ p2.from_)),(di (mm2 false p1.to p2.to))] rfl (A2 (B4 ?_)))))))))))))))))))
 cases h
 exact A9 (.inr rfl) (B7 (N5 rfl G_hit (nl rfl) rfl) I8) (.refl _)
noncomputable def A0y (p1:WorldSpan):Option Bool:=
  some (decide (p1.from_>p1.to))
theorem A9s (p1:WorldSpan)(r:Bool)(h:A0y p1=some r):PCall Tryz.prog 144 [(.agg [(i64 p1.from_),(i64 p1.to)])] (bo r):=by
 refine C1 (fk Tryz.func144 Tryz.ntmps144 m0 (by with_unfolding_all rfl)) (nl rfl) ?_
 unfold A0y at h
 refine B0 (s0:=⟨T [(0,(.d _))],G []⟩) (sbr rfl rfl) ?_
 refine lr (fun u1 hu1=>sn rfl rfl (sv rfl (A2 (lr (fun u2 hu2=>sp rfl rfl (sl rfl G_hit rfl (sp rfl rfl (sl rfl G_hit rfl (sv rfl (sv rfl (A2 (B4 ?_))))))))))))
 cases h
 exact A9 (.inr rfl) (B7 (B6 rfl) I8) (.refl _)
noncomputable def A6c (p1:Map)(p2:Agent)(v2:(List Int))(x1:((List Span)×Int)):Option (Stp ((List Span)×Int) (List Span)):=
  cond (decide (x1.2< (v2.length:Int))) ((G8 v2 x1.2).bind fun v3=>(G8 p2.Route x1.2).bind fun v4=>(A33 p2).bind fun v5=>(W3 v5 v3).bind fun v6=>(A3z p1 v4).bind fun v7=>(A34 v6 (WorldSpan.mk 0 v7)).bind fun v8=>(A0y v8).bind fun v9=>cond (!v9) ((B2d x1.1 [(Span.mk v4 v8.from_ v8.to)]).bind fun v10=>some (.go (v10,(w64 (x1.2+1))))) (some (.go (x1.1,(w64 (x1.2+1)))))) (some (.out x1.1))
noncomputable def A97 (p1:Map)(p2:Agent):Option (List Span):=
  (A79 p2).bind fun v1=>cond (!v1) (some []) ((A3t p1 p2.Route).bind fun v2=>(loop (A6c p1 p2 v2) ([],0)).bind fun y1=>some y1)
theorem B6o (p1:Map)(p2:Agent)(r:(List Span))(h:A97 p1 p2=some r):PCall Tryz.prog 67 [(.agg (A7h p1)),(.agg (C0 p2))] (.list (List.map A9g r)):=by
 refine C1 (fk Tryz.func67 Tryz.ntmps67 (fun r=>if r==10 then [1007]else []) (by with_unfolding_all rfl)) (nl rfl) ?_
 unfold A97 at h
 refine B0 (s0:=⟨T [(0,(.d _)),(1,(.d _))],G []⟩) (sbr rfl rfl) ?_
 refine lr (fun u1 hu1=>sn rfl rfl (sn rfl rfl (sv rfl (A2 (A7 (lr (fun u2 hu2=>sd rfl (B5 rfl G_hit rfl rfl) (bs h fun v1 hv1 h=>B3 rfl rfl A3 (B2m _ _ hv1) (.inl rfl) (D8 (.d (bo (!v1))) rfl rfl (A2 (cc rfl h (fun c1 h=> ?_) (fun c1 h=> ?_))))))))))))
 refine lr (fun u3 hu3=>sv rfl (A2 (B4 ?_)))
 cases h
 exact A9 (.inr rfl) (B7 (B6 rfl) I8) DLe.nil
 refine B2 (lr (fun u4 hu4=>sv rfl (A2 (A7 (lr (fun u5 hu5=>sd rfl (B5 rfl (gq rfl) rfl rfl) (sp rfl rfl (sl rfl G_hit rfl (bs h fun v2 hv2 h=>B3 rfl rfl A3 (A9n _ _ _ hv2) (.inl rfl) (sd rfl (N1 rfl) (sv rfl (A2 (bs h fun y1 hy1 h=>I5 (fun s=> ∃g1:Nat,Sb ⟨T [(5,(oS y1 (48,g1)))],G [((48,g1),oB 93 3 A9g y1)]⟩ s) ?_ ?_)))))))))))))
 refine A8 (J4 (A6c p1 p2 v2) (fun (x1:((List Span)×Int)) (g2:Nat)=>⟨T [(2,(.ptr (2,u1) 0)),(3,(.ptr (3,u1) 0)),(5,(oS x1.1 (48,g2))),(16,(dl A4 v2)),(17,(di (v2.length:Int))),(18,(di x1.2))],G [((2,u1),some (.box 33 (Y2 p1))),((3,u1),some (.box 45 (A0n p2))),((48,g2),oB 93 3 A9g x1.1)]⟩) ([],0) 0 _ hy1 (F7 ⟨.of rfl, .of rfl, .of rfl, .of rfl, .of rfl, .of rfl,trivial⟩ (sg rfl (A5 G_hit (.of rfl) (A73 trivial)))) ?_)
 intro x1 g2 z1 hz1 ez1
 unfold A6c at hz1
 refine lr (fun u6 hu6=>sv rfl (A2 (A7 (cc rfl hz1 (fun c2 hz1=> ?_) (fun c2 hz1=> ?_)))))
 refine B2 (A7 (A8 (lr (fun u7 hu7=>sv rfl (bs hz1 fun v3 hv3 hz1=>sd rfl (L4 rfl rfl hv3 rfl) (sd rfl (N2 rfl hv3 rfl) (sv rfl (sv rfl (A2 (lr (fun u8 hu8=>sp rfl rfl (sl rfl (gq rfl) rfl (sv rfl (bs hz1 fun v4 hv4 hz1=>sd rfl (L4 rfl rfl hv4 rfl) (sd rfl (N2 rfl hv4 rfl) (sv rfl (A2 (A7 (O4 rfl fun u9 hu9=>sd rfl (B5 rfl (gq rfl) rfl rfl) (bs hz1 fun v5 hv5 hz1=>B3 rfl rfl A3 (A4c _ _ hv5) (.inl rfl) (sv rfl (bs hz1 fun v6 hv6 hz1=>B3 rfl rfl A3 (A3h _ _ _ hv6) (.inl rfl) (sd rfl (B5 rfl G_hit rfl rfl) (sv rfl (bs hz1 fun v7 hv7 hz1=>B3 rfl rfl A3 (A9r _ _ _ hv7) (.inl rfl) (sv rfl (bs hz1 fun v8 hv8 hz1=>B3 rfl rfl A3 (B22 _ _ _ hv8) (.inl rfl) (sn rfl rfl (sst rfl G_hit [(di v8.from_),(di v8.to)] rfl (A2 (A7 (B0 (s0:=⟨T [(2,(.ptr (2,u1) 0)),(3,(.ptr (3,u1) 0)),(5,(oS x1.1 (48,g2))),(8,(di v4)),(9,(.ptr (9,u9) 0)),(16,(dl A4 v2)),(17,(di (v2.length:Int))),(18,(di x1.2))],G [((2,u1),some (.box 33 (Y2 p1))),((3,u1),some (.box 45 (A0n p2))),((48,g2),oB 93 3 A9g x1.1),((9,u9),some (.box 191 [(di v8.from_),(di v8.to)]))]⟩) (F7 ⟨.of rfl, .of rfl, .of rfl, .of rfl, .of rfl, .of rfl, .of rfl, .of rfl,trivial⟩ (sg rfl (sg rfl (B1 (gq rfl) (A5 G_hit (.of rfl) trivial))))) ?_))))))))))))))))))))))))))))))))
 refine B8 fun u10 hu10=>sd rfl (B5 rfl (gq rfl) rfl rfl) (bs hz1 fun v9 hv9 hz1=>B3 rfl rfl A3 (A9s _ _ hv9) (.inl rfl) (D8 (.d (bo (!v9))) rfl rfl (A2 (cc rfl hz1 (fun c3 hz1=> ?_) (fun c3 hz1=> ?_)))))
 refine B8 fun u11 hu11=>D8 (oS x1.1 (48,g2)) rfl rfl (sv rfl (sp rfl rfl (sl rfl (gq rfl) rfl (sp rfl rfl (sl rfl (gq rfl) rfl (sv rfl (D8 (dl A9g [(Span.mk v4 v8.from_ v8.to)]) rfl rfl (bs hz1 fun v10 hv10 hz1=>A13 A9g (48,g2) x1.1 (Span.mk v4 v8.from_ v8.to) [] _ (T7 (fun _=>rfl)) rfl (gq rfl) hv10 (ss rfl (A2 (M0 (B0 (s0:=⟨T [(2,(.ptr _ _)),(3,(.ptr _ _)),(5,(.sl _)),(16,(.d _)),(17,(.d _)),(18,(.d _))],G [((2,u1),some (.box 33 _)),((3,u1),some (.box 45 _)),((48,u11),some _)]⟩) (sbr rfl rfl) ?_))))))))))))
 refine B8 fun u12 hu12=>sv rfl (sv rfl (A2 (K4 ?_)))
 cases hz1
 exact ⟨rfl,u11,(F7 ⟨.of rfl, .of rfl,(.of (B2i (A4p hv10)).symm), .of rfl, .of rfl, .of rfl,trivial⟩ (A5 G_hit (.of rfl) (sg rfl (A5f (gq rfl) trivial))))⟩
 refine B2 (M0 (B8 fun u13 hu13=>sv rfl (sv rfl (A2 (K4 ?_)))))
 cases hz1
 exact ⟨rfl,g2,(F7 ⟨.of rfl, .of rfl, .of rfl, .of rfl, .of rfl, .of rfl,trivial⟩ (A5 G_hit (.of rfl) (sg rfl (B1 (gq rfl) trivial))))⟩
 refine E1 rfl ?_
 cases hz1
 obtain rfl:=ez1 _ rfl
 refine ⟨nofun,C9 rfl (l_j ?_)⟩
 exact ⟨g2,(F7 ⟨.of rfl,trivial⟩ (B1 (gq rfl) trivial))⟩
 rintro _ ⟨g1,q1⟩
 refine B0 q1 (lr (fun u14 hu14=>D8 (oS y1 (48,g1)) rfl rfl (D8 (oS y1 (48,g1)) rfl rfl (A2 (B4 ?_)))))
 cases h
 exact A9 (.inr rfl) (B7 (B6 rfl) (A5v G_hit)) A5u
noncomputable def Y9 (p1:Span)(p2:Span):Option Bool:=
  ((cond (p2.Lane_==p1.Lane_) (A34 (WorldSpan.mk p2.From p2.To) (WorldSpan.mk p1.From p1.To)) (some default))).bind fun v1=>((cond (p2.Lane_==p1.Lane_) (A0y v1) (some default))).bind fun v2=>some ((p2.Lane_==p1.Lane_)&& (!v2))
theorem B2o (p1:Span)(p2:Span)(r:Bool)(h:Y9 p1 p2=some r):PCall Tryz.prog 147 [(.agg (A9g p1)),(.bp (A9g p2) 0)] (bo r):=by
 refine C1 (fk Tryz.func147 Tryz.ntmps147 m0 (by with_unfolding_all rfl)) (nl rfl) ?_
 unfold Y9 at h
 refine B0 (s0:=⟨T [(0,(.d _)),(1,(.d _))],G []⟩) (sbr rfl rfl) ?_
 refine lr (fun u1 hu1=>sn rfl rfl (sv rfl (A2 (lr (fun u2 hu2=>sv rfl (sv rfl (sp rfl rfl (sl rfl G_hit rfl (sv rfl (sv rfl (gt rfl (fun _=>rfl) ?_)))))))))))
 refine gt rfl (fun w2=>(by simp only [A6 w2];rfl)) ?_
 refine gt rfl (fun _=>rfl) ?_
 refine gt rfl (fun w4=>(by simp only [A6 w4];rfl)) ?_
 refine gt rfl (fun w5=>(by simp only [A6 w5];rfl)) ?_
 refine gp rfl (A1f rfl) (fun _=>rfl) (gt rfl (vl rfl G_hit rfl) (gp rfl (A1f rfl) (fun _=>rfl) (gt rfl (vl rfl G_hit rfl) ?_)))
 refine gt rfl (fun w10=>(by simp only [A6 w10];rfl)) ?_
 refine bs h fun v1 hv1 h=> ?_
 refine U3 _ (.agg [(i64 v1.from_),(i64 v1.to)]) (A1f rfl) (fun w11=>⟨_,[(.d (.agg [(i64 p2.From),(i64 p2.To)])),(.d (.agg [(i64 p1.From),(i64 p1.To)]))],_,_,(by simp only [A6 w11];rfl),rfl,A3,B22 _ _ _ (E2 w11 hv1),(.inl rfl)⟩) ?_
 refine bs h fun v2 hv2 h=> ?_
 refine U3 _ (bo v2) (A1f rfl) (fun w12=>⟨_,[(.d (.agg [(i64 v1.from_),(i64 v1.to)]))],_,_,(by simp only [A6 w12];rfl),rfl,A3,A9s _ _ (E2 w12 hv2),(.inl rfl)⟩) ?_
 refine A0o _ (.d (bo (!v2))) rfl (A1f rfl) (fun w13=>(by simp only [A6 w13];rfl)) ?_
 refine sa rfl rfl rfl (sv rfl (A2 (B4 ?_)))
 cases h
 exact A9 (.inr rfl) (B7 (B6 rfl) I8) (.refl _)
noncomputable def E4 (p1:(List Span))(p2:Span)(x1:Int):Option (Stp Int (Sum Unit Int)):=
  cond (decide (x1< (p1.length:Int))) ((G8 p1 x1).bind fun v1=>(Y9 v1 p2).bind fun v2=>cond v2 (some (.out (.inr x1))) (some (.go (w64 (x1+1))))) (some (.out (.inl ())))
noncomputable def F5 (p1:(List Span))(p2:Span):Option Int:=
  thenS (loop (E4 p1 p2) 0) (fun _=>some (-1)) (fun r=>some r)
theorem A0q (p1:(List Span))(p2:Span)(r:Int)(h:F5 p1 p2=some r):PCall Tryz.prog 208 [(.list (List.map A9g p1)),(.fn (.func 147) [] [(.bp (A9g p2) 0)])] (i64 r):=by
 refine C1 (fk Tryz.func208 Tryz.ntmps208 m0 (by with_unfolding_all rfl)) (nl rfl) ?_
 unfold F5 at h
 refine B0 (s0:=⟨T [(0,(.d _)),(1,(.d _))],G []⟩) (sbr rfl rfl) ?_
 refine lr (fun u1 hu1=>sv rfl (A2 (A7 (lr (fun u2 hu2=>sv rfl (sd rfl (N1 rfl) (sv rfl (A2 (js h fun z1 hz1 h=>I5 (fun s=> ∃(y1:Unit) (g1:Unit),z1= .inl y1∧Sb ⟨T [],G []⟩ s) ?_ ?_)))))))))
 refine A8 (J4 (E4 p1 p2) (fun (x1:Int) (g2:Unit)=>⟨T [(0,(dl A9g p1)),(1,(.d (.fn (.func 147) [] [(.bp (A9g p2) 0)]))),(7,(di (p1.length:Int))),(8,(di x1))],G []⟩) 0 () _ hz1 (sbr rfl rfl) ?_)
 intro x1 g2 z2 hz2 ez2
 unfold E4 at hz2
 refine lr (fun u3 hu3=>sv rfl (A2 (A7 (cc rfl hz2 (fun c1 hz2=> ?_) (fun c1 hz2=> ?_)))))
 refine B2 (A7 (A8 (lr (fun u4 hu4=>sv rfl (sv rfl (A2 (lr (fun u5 hu5=>sv rfl (sv rfl (sv rfl (bs hz2 fun v1 hv1 hz2=>sd rfl (L4 rfl rfl hv1 rfl) (sd rfl (F0 rfl hv1 rfl rfl) (bs hz2 fun v2 hv2 hz2=>B3 rfl rfl A3 (B2o _ _ _ hv2) (.inl rfl) (A2 (cc rfl hz2 (fun c2 hz2=> ?_) (fun c2 hz2=> ?_))))))))))))))))
 refine lr (fun u6 hu6=>sv rfl (sv rfl (A2 (B4 ?_))))
 cases hz2
 obtain rfl:=ez2 _ rfl
 refine ⟨nofun,I4 ?_⟩
 rw [Sum.elim_inr]at h
 cases h
 exact A9 (.inr rfl) (B7 (B6 rfl) I8) (.refl _)
 refine B2 (M0 (B8 fun u7 hu7=>sv rfl (sv rfl (A2 (K4 ?_)))))
 cases hz2
 exact ⟨rfl,(),(sbr rfl rfl)⟩
 refine E1 rfl ?_
 cases hz2
 obtain rfl:=ez2 _ rfl
 refine ⟨nofun,C9 rfl (l_j ?_)⟩
 exact ⟨_,(),rfl,(sbr rfl rfl)⟩
 rintro _ ⟨y1,g1,rfl,q1⟩
 rw [Sum.elim_inl]at h
 refine B0 q1 (lr (fun u8 hu8=>sv rfl (A2 (B4 ?_))))
 cases h
 exact A9 (.inr rfl) (B7 (B6 rfl) I8) (.refl _)
noncomputable def E5 (p1:(List Span))(p2:Span):Option Bool:=
  (F5 p1 p2).bind fun v1=>some (decide (v1≥0))
theorem Z8 (p1:(List Span))(p2:Span)(r:Bool)(h:E5 p1 p2=some r):PCall Tryz.prog 145 [(.list (List.map A9g p1)),(.fn (.func 147) [] [(.bp (A9g p2) 0)])] (bo r):=by
 refine C1 (fk Tryz.func145 Tryz.ntmps145 m0 (by with_unfolding_all rfl)) (nl rfl) ?_
 unfold E5 at h
 refine B0 (s0:=⟨T [(0,(.d _)),(1,(.d _))],G []⟩) (sbr rfl rfl) ?_
 refine lr (fun u1 hu1=>sv rfl (A2 (lr (fun u2 hu2=>sv rfl (sv rfl (bs h fun v1 hv1 h=>B3 rfl rfl A3 (A0q _ _ _ hv1) (.inl rfl) (sv rfl (sv rfl (A2 (B4 ?_))))))))))
 cases h
 exact A9 (.inr rfl) (B7 (B6 rfl) I8) (.refl _)
noncomputable def A16 (p1:Span)(p2:(List Span)):Option Bool:=
  (E5 p2 p1).bind fun v1=>some v1
theorem B42 (p1:Span)(p2:(List Span))(r:Bool)(h:A16 p1 p2=some r):PCall Tryz.prog 146 [(.agg (A9g p1)),(.bp [(.list (List.map A9g p2))] 0)] (bo r):=by
 refine C1 (fk Tryz.func146 Tryz.ntmps146 m0 (by with_unfolding_all rfl)) (nl rfl) ?_
 unfold A16 at h
 refine B0 (s0:=⟨T [(0,(.d _)),(1,(.d _))],G []⟩) (sbr rfl rfl) ?_
 refine lr (fun u1 hu1=>sn rfl rfl (sv rfl (A2 (lr (fun u2 hu2=>sv rfl (D8 (.fn _ _ _) rfl rfl (bs h fun v1 hv1 h=>B3 rfl (rD (C2 (C13 D3 (C2 (A22 G_hit (rD (rD (rD D3)))) D3)) D3)) A3 (Z8 _ _ _ hv1) (.inr rfl) (sv rfl (A2 (B4 ?_))))))))))
 cases h
 exact A9 (.inr rfl) (B7 (B6 rfl) I8) (.refl _)
noncomputable def F3 (p1:(List Span))(p2:(List Span))(x1:Int):Option (Stp Int (Sum Unit Int)):=
  cond (decide (x1< (p1.length:Int))) ((G8 p1 x1).bind fun v1=>(A16 v1 p2).bind fun v2=>cond v2 (some (.out (.inr x1))) (some (.go (w64 (x1+1))))) (some (.out (.inl ())))
noncomputable def G7 (p1:(List Span))(p2:(List Span)):Option Int:=
  thenS (loop (F3 p1 p2) 0) (fun _=>some (-1)) (fun r=>some r)
theorem A1k (p1:(List Span))(p2:(List Span))(r:Int)(h:G7 p1 p2=some r):PCall Tryz.prog 208 [(.list (List.map A9g p1)),(.fn (.func 146) [] [(.bp [(.list (List.map A9g p2))] 0)])] (i64 r):=by
 refine C1 (fk Tryz.func208 Tryz.ntmps208 m0 (by with_unfolding_all rfl)) (nl rfl) ?_
 unfold G7 at h
 refine B0 (s0:=⟨T [(0,(.d _)),(1,(.d _))],G []⟩) (sbr rfl rfl) ?_
 refine lr (fun u1 hu1=>sv rfl (A2 (A7 (lr (fun u2 hu2=>sv rfl (sd rfl (N1 rfl) (sv rfl (A2 (js h fun z1 hz1 h=>I5 (fun s=> ∃(y1:Unit) (g1:Unit),z1= .inl y1∧Sb ⟨T [],G []⟩ s) ?_ ?_)))))))))
 refine A8 (J4 (F3 p1 p2) (fun (x1:Int) (g2:Unit)=>⟨T [(0,(dl A9g p1)),(1,(.d (.fn (.func 146) [] [(.bp [(.list (List.map A9g p2))] 0)]))),(7,(di (p1.length:Int))),(8,(di x1))],G []⟩) 0 () _ hz1 (sbr rfl rfl) ?_)
 intro x1 g2 z2 hz2 ez2
 unfold F3 at hz2
 refine lr (fun u3 hu3=>sv rfl (A2 (A7 (cc rfl hz2 (fun c1 hz2=> ?_) (fun c1 hz2=> ?_)))))
 refine B2 (A7 (A8 (lr (fun u4 hu4=>sv rfl (sv rfl (A2 (lr (fun u5 hu5=>sv rfl (sv rfl (sv rfl (bs hz2 fun v1 hv1 hz2=>sd rfl (L4 rfl rfl hv1 rfl) (sd rfl (F0 rfl hv1 rfl rfl) (bs hz2 fun v2 hv2 hz2=>B3 rfl rfl A3 (B42 _ _ _ hv2) (.inl rfl) (A2 (cc rfl hz2 (fun c2 hz2=> ?_) (fun c2 hz2=> ?_))))))))))))))))
 refine lr (fun u6 hu6=>sv rfl (sv rfl (A2 (B4 ?_))))
 cases hz2
 obtain rfl:=ez2 _ rfl
 refine ⟨nofun,I4 ?_⟩
 rw [Sum.elim_inr]at h
 cases h
 exact A9 (.inr rfl) (B7 (B6 rfl) I8) (.refl _)
 refine B2 (M0 (B8 fun u7 hu7=>sv rfl (sv rfl (A2 (K4 ?_)))))
 cases hz2
 exact ⟨rfl,(),(sbr rfl rfl)⟩
 refine E1 rfl ?_
 cases hz2
 obtain rfl:=ez2 _ rfl
 refine ⟨nofun,C9 rfl (l_j ?_)⟩
 exact ⟨_,(),rfl,(sbr rfl rfl)⟩
 rintro _ ⟨y1,g1,rfl,q1⟩
 rw [Sum.elim_inl]at h
 refine B0 q1 (lr (fun u8 hu8=>sv rfl (A2 (B4 ?_))))
 cases h
 exact A9 (.inr rfl) (B7 (B6 rfl) I8) (.refl _)
noncomputable def F4 (p1:(List Span))(p2:(List Span)):Option Bool:=
  (G7 p1 p2).bind fun v1=>some (decide (v1≥0))
theorem A0i (p1:(List Span))(p2:(List Span))(r:Bool)(h:F4 p1 p2=some r):PCall Tryz.prog 145 [(.list (List.map A9g p1)),(.fn (.func 146) [] [(.bp [(.list (List.map A9g p2))] 0)])] (bo r):=by
 refine C1 (fk Tryz.func145 Tryz.ntmps145 m0 (by with_unfolding_all rfl)) (nl rfl) ?_
 unfold F4 at h
 refine B0 (s0:=⟨T [(0,(.d _)),(1,(.d _))],G []⟩) (sbr rfl rfl) ?_
 refine lr (fun u1 hu1=>sv rfl (A2 (lr (fun u2 hu2=>sv rfl (sv rfl (bs h fun v1 hv1 h=>B3 rfl rfl A3 (A1k _ _ _ hv1) (.inl rfl) (sv rfl (sv rfl (A2 (B4 ?_))))))))))
 cases h
 exact A9 (.inr rfl) (B7 (B6 rfl) I8) (.refl _)
noncomputable def A56 (p1:Map)(p2:Agent)(p3:Agent):Option Bool:=
  (A97 p1 p3).bind fun v1=>(A97 p1 p2).bind fun v2=>(F4 v2 v1).bind fun v3=>some v3
theorem B7m (p1:Map)(p2:Agent)(p3:Agent)(r:Bool)(h:A56 p1 p2 p3=some r):PCall Tryz.prog 68 [(.agg (A7h p1)),(.agg (C0 p2)),(.agg (C0 p3))] (bo r):=by
 refine C1 (fk Tryz.func68 Tryz.ntmps68 m0 (by with_unfolding_all rfl)) (nl rfl) ?_
 unfold A56 at h
 refine B0 (s0:=⟨T [(0,(.d _)),(1,(.d _)),(2,(.d _))],G []⟩) (sbr rfl rfl) ?_
 refine lr (fun u1 hu1=>sn rfl rfl (sn rfl rfl (sn rfl rfl (sv rfl (A2 (lr (fun u2 hu2=>sd rfl (B5 rfl (gq rfl) rfl rfl) (sd rfl (B5 rfl G_hit rfl rfl) (bs h fun v1 hv1 h=>B3 rfl rfl A3 (B6o _ _ _ hv1) (.inl rfl) (sn rfl rfl (sst rfl G_hit [(dl A9g v1)] rfl (A2 (lr (fun u3 hu3=>sd rfl (B5 rfl (gq rfl) rfl rfl) (sd rfl (B5 rfl (gq rfl) rfl rfl) (bs h fun v2 hv2 h=>B3 rfl rfl A3 (B6o _ _ _ hv2) (.inl rfl) (D8 (.fn _ _ _) rfl rfl (bs h fun v3 hv3 h=>B3 rfl (rD (C2 (C13 D3 (C2 (A22 G_hit (rD D3)) D3)) D3)) A3 (A0i _ _ _ hv3) (.inr rfl) (sv rfl (A2 (B4 ?_)))))))))))))))))))))
 cases h
 exact A9 (.inr rfl) (B7 (B6 rfl) I8) (.refl _)
noncomputable def V4 (p1:WorldScene)(p2:Int)(p3:Int)(p4:Int):Option Bool:=
  (P5 p1 p2 p4).bind fun v1=>((cond v1 (P5 p1 p3 p4) (some default))).bind fun v2=>((cond (v1&&v2) (G8 p1.before.Agents p2) (some default))).bind fun v3=>((cond (v1&&v2) (A5k p1.m v3.Route p4) (some default))).bind fun v4=>((cond (v1&&v2) (G8 p1.before.Agents p3) (some default))).bind fun v5=>((cond (v1&&v2) (A5k p1.m v5.Route p4) (some default))).bind fun v6=>some ((v1&&v2)&& (v4 !=v6))
theorem A70 (p1:WorldScene)(p2:Int)(p3:Int)(p4:Int)(r:Bool)(h:V4 p1 p2 p3 p4=some r):PCall Tryz.prog 82 [(.bp (A9h p1) 0),(i64 p2),(i64 p3),(i64 p4)] (bo r):=by
 refine C1 (fk Tryz.func82 Tryz.ntmps82 m0 (by with_unfolding_all rfl)) (nl rfl) ?_
 unfold V4 at h
 refine B0 (s0:=⟨T [(0,(.d _)),(1,(.d _)),(2,(.d _)),(3,(.d _))],G []⟩) (sbr rfl rfl) ?_
 refine lr (fun u1 hu1=>sv rfl (A2 (A7 (O4 rfl fun u2 hu2=>sv rfl (sv rfl (sv rfl (bs h fun v1 hv1 h=>B3 rfl rfl A3 (X4 _ _ _ _ hv1) (.inl rfl) (sv rfl (gt rfl (fun _=>rfl) (gt rfl (fun _=>rfl) (gt rfl (fun _=>rfl) (bs h fun v2 hv2 h=> ?_))))))))))))
 refine U3 v1 (bo v2) (A1f rfl) (fun w4=>⟨_,[(.d (.bp (A9h p1) 0)),(di p3),(di p4)],_,_,(by simp only [A6 w4];rfl),rfl,A3,X4 _ _ _ _ (E2 w4 hv2),(.inl rfl)⟩) ?_
 refine sa rfl rfl rfl (sv rfl (gt rfl (fun _=>rfl) ?_))
 refine gt rfl (fun w6=>(by simp only [A6 w6];rfl)) ?_
 refine gt rfl (fun w7=>(by simp only [A6 w7];rfl)) ?_
 refine gt rfl (fun w8=>(by simp only [A6 w8];rfl)) ?_
 refine gt rfl (fun _=>rfl) ?_
 refine gt rfl (fun w10=>(by simp only [A6 w10];rfl)) ?_
 refine gt rfl (fun w11=>(by simp only [A6 w11];rfl)) ?_
 refine gt rfl (fun w12=>(by simp only [A6 w12];rfl)) ?_
 refine gt rfl (fun w13=>(by simp only [A6 w13];rfl)) ?_
 refine gt rfl (fun _=>rfl) (bs h fun v3 hv3 h=>gt rfl (fun w15=>(L4 (A6 w15) (A6 w15) (E2 w15 hv3) rfl)) ?_)
 refine gt rfl (fun w16=>(by simp only [A6 w16];rfl)) ?_
 refine gt rfl (fun w17=>(N2 (A6 w17) (E2 w17 hv3) rfl)) (gt rfl (fun _=>rfl) (bs h fun v4 hv4 h=> ?_))
 refine U3 _ (i64 v4) (A1f rfl) (fun w19=>⟨_,[(.d (.agg (A7h p1.m))),(dl A4 v3.Route),(di p4)],_,_,(by simp only [A6 w19];rfl),rfl,A3,B12 _ _ _ _ (E2 w19 hv4),(.inl rfl)⟩) ?_
 refine gt rfl (fun _=>rfl) ?_
 refine gt rfl (fun w21=>(by simp only [A6 w21];rfl)) ?_
 refine gt rfl (fun w22=>(by simp only [A6 w22];rfl)) ?_
 refine gt rfl (fun w23=>(by simp only [A6 w23];rfl)) ?_
 refine gt rfl (fun _=>rfl) ?_
 refine gt rfl (fun w25=>(by simp only [A6 w25];rfl)) ?_
 refine gt rfl (fun w26=>(by simp only [A6 w26];rfl)) ?_
 refine gt rfl (fun w27=>(by simp only [A6 w27];rfl)) ?_
 refine gt rfl (fun w28=>(by simp only [A6 w28];rfl)) ?_
 refine gt rfl (fun _=>rfl) (bs h fun v5 hv5 h=>gt rfl (fun w30=>(L4 (A6 w30) (A6 w30) (E2 w30 hv5) rfl)) ?_)
 refine gt rfl (fun w31=>(by simp only [A6 w31];rfl)) ?_
 refine gt rfl (fun w32=>(N2 (A6 w32) (E2 w32 hv5) rfl)) (gt rfl (fun _=>rfl) (bs h fun v6 hv6 h=> ?_))
 refine U3 _ (i64 v6) (A1f rfl) (fun w34=>⟨_,[(.d (.agg (A7h p1.m))),(dl A4 v5.Route),(di p4)],_,_,(by simp only [A6 w34];rfl),rfl,A3,B12 _ _ _ _ (E2 w34 hv6),(.inl rfl)⟩) ?_
 refine gt rfl (fun w35=>(A1p (A6 w35) (A6 w35) rfl)) (sa rfl rfl rfl (sv rfl (A2 (B4 ?_))))
 cases h
 exact A9 (.inr rfl) (B7 (B6 rfl) I8) (.refl _)
noncomputable def A7v (p1:Map)(v5:WorldScene)(a1:(Int×Int))(x2:Int):Option (Stp Int (Sum Unit (State×Int))):=
  cond (decide (x2< (p1.Zones.length:Int))) ((V4 v5 a1.1 a1.2 x2).bind fun v10=>cond v10 (some (.out (.inr ((State.mk 0 [] []),12)))) (some (.go (w64 (x2+1))))) (some (.out (.inl ())))
noncomputable def A7w (p1:Map)(p2:(List Agent))(v5:WorldScene)(x1:Unit)(a1:(Int×Int)):Option (Stp Unit (Sum Unit (State×Int))):=
  (G8 p2 a1.1).bind fun v7=>(G8 p2 a1.2).bind fun v8=>(A56 p1 v7 v8).bind fun v9=>cond v9 (some (.out (.inr ((State.mk 0 [] []),12)))) (thenS (loop (A7v p1 v5 a1) 0) (fun _=>some (.go ())) (fun r=>some (.out (.inr r))))
noncomputable def B0q:Option Unit:=
  some ()
noncomputable def B43 (p1:Map)(p2:(List Agent)):Option (State×Int):=
  (A91 (State.mk 0 p2 [])).bind fun v1=>(A5j p1 v1).bind fun v2=>cond (v2 !=0) (some ((State.mk 0 [] []),v2)) ((H4 p2).bind fun v3=>cond v3 (some ((State.mk 0 [] []),10)) ((A91 v1).bind fun v4=>(A0d (WorldScene.mk p1 v1 v4 [] [])).bind fun v5=>(B0q).bind fun y1=>thenS ((C1v v5.before).bind fun v6=>loopL (A7w p1 p2 v5) (fun (x1:Unit)=> .inl ()) v6 ()) (fun _=>some (v5.after,0)) (fun r=>some r)))
theorem C4a (p1:Map)(p2:(List Agent))(r:(State×Int))(h:B43 p1 p2=some r):PCall Tryz.prog 27 [(.agg (A7h p1)),(.list (List.map C0 p2))] (.tup [(.agg (A9i r.1)),(i64 r.2)]):=by
 refine C1 (fk Tryz.func27 Tryz.ntmps27 (fun r=>if r==8 then [1008001]else if r==9 then [1]else []) (by with_unfolding_all rfl)) (nl rfl) ?_
 unfold B43 at h
 refine B0 (s0:=⟨T [(0,(.d _)),(1,(.d _))],G []⟩) (sbr rfl rfl) ?_
 refine lr (fun u1 hu1=>sn rfl rfl (sn rfl rfl (sn rfl rfl (sn rfl rfl (A2 (lr (fun u2 hu2=>sl rfl (gq rfl) rfl (sv rfl (bs h fun v1 hv1 h=>B3 rfl rfl (.cons (.agg (ca rfl (ca rfl (.cons ⟨DLe.nil,rfl⟩ .nil)))) .nil) (B6h _ _ hv1) (.inl rfl) (sn rfl rfl (sst rfl G_hit (L9 v1) rfl (A2 (A7 (lr (fun u3 hu3=>sd rfl (B5 rfl (gq rfl) rfl rfl) (sd rfl (B5 rfl G_hit rfl rfl) (bs h fun v2 hv2 h=>B3 rfl rfl A3 (B11 _ _ _ hv2) (.inl rfl) (sv rfl (A2 (lr (fun u4 hu4=>sv rfl (sv rfl (A2 (cc rfl h (fun c1 h=> ?_) (fun c1 h=> ?_)))))))))))))))))))))))))
 refine lr (fun u5 hu5=>sv rfl (sv rfl (sst rfl (gq rfl) [(di 0),(.d .nilS),(.d .nilS)] rfl (sst rfl (gq rfl) [(di v2)] rfl (A2 (B4 ?_))))))
 cases h
 exact A9 (.inr rfl) (B8g (N5 rfl (gq rfl) (nl rfl) rfl) (B6b rfl G_hit rfl) I8 I8) (.tup (.cons (.agg (ca rfl (.cons ⟨DLe.nil,rfl⟩ (.cons ⟨DLe.nil,rfl⟩ .nil)))) A3))
 refine B2 (A7 (lr (fun u6 hu6=>sl rfl (gq rfl) rfl (bs h fun v3 hv3 h=>B3 rfl rfl A3 (A1q _ _ hv3) (.inl rfl) (A2 (cc rfl h (fun c2 h=> ?_) (fun c2 h=> ?_)))))))
 refine A7 (B0 (s0:=⟨T [(4,(.ptr _ _)),(5,(.ptr _ _))],G [((4,u1),some (.box 25 _)),((5,u1),some (.box 36 _))]⟩) (sbr rfl rfl) ?_)
 refine B8 fun u7 hu7=>sv rfl (sst rfl G_hit [(di 0),(.d .nilS),(.d .nilS)] rfl (sst rfl (gq rfl) [(di 10)] rfl (A2 (B4 ?_))))
 cases h
 exact A9 (.inr rfl) (B8g (N5 rfl (gq rfl) (nl rfl) rfl) (B6b rfl G_hit rfl) I8 I8) (.tup (.cons (.agg (ca rfl (.cons ⟨DLe.nil,rfl⟩ (.cons ⟨DLe.nil,rfl⟩ .nil)))) A3))
 refine B2 (A7 (B0 (s0:=⟨T [(2,(.ptr _ _)),(3,(.ptr _ _)),(4,(.ptr _ _)),(5,(.ptr _ _)),(6,(.ptr _ _))],G [((2,u1),some (.box 33 _)),((3,u1),some (.box 22 _)),((4,u1),some (.box 25 _)),((5,u1),some (.box 36 _)),((6,u2),some (.box 25 _))]⟩) (sbr rfl rfl) ?_))
 refine O4 rfl fun u8 hu8=>sd rfl (B5 rfl G_hit rfl rfl) (sd rfl (B5 rfl (gq rfl) rfl rfl) (sd rfl (B5 rfl (gq rfl) rfl rfl) (bs h fun v4 hv4 h=>B3 rfl rfl A3 (B6h _ _ hv4) (.inl rfl) (sv rfl (sn rfl rfl (sn rfl rfl (sst rfl G_hit [(.ptr (30,u8) 0)] rfl (A2 (lr (fun u9 hu9=>sp rfl (S9 rfl G_hit rfl) (bs h fun v5 hv5 h=>C7n (v:= .d (.tup [])) (us:= [(30,u8)]) (C9h (B3k _ _ hv5) [(30,u8)] [(30,u8)] _ (((30,u8),some (.box 135 (R5 v5)))::_) rfl A9e (A06 (D44 (A1 rfl (A1 rfl G_hit)) rfl) B6f) (A61 (A1 rfl (A1 rfl G_hit)) A60) ⟨⟨_,(A1 rfl (A1 rfl G_hit)), .box (.cons (.of rfl) (.cons (.of rfl) (.cons (.of rfl) (.cons (.of rfl) (.cons (.of rfl) (.cons (.of rfl) (.cons (.of rfl) (.cons (.of rfl) (.cons (.of rfl) (.cons (.of rfl) (.cons (.of rfl) (.cons (DLe.d DLe.nil) (.cons (DLe.d DLe.nil) .nil)))))))))))))⟩,trivial⟩ (fun _ h=>h) nd1 rfl rfl rfl) (A2 (A7 (A7 (B0 (s0:=⟨T [(2,(.ptr _ _)),(3,(.ptr _ _)),(4,(.ptr _ _)),(5,(.ptr _ _)),(8,(.ptr _ _))],G [((2,u1),some (.box 33 _)),((3,u1),some (.box 22 _)),((4,u1),some (.box 25 _)),((5,u1),some (.box 36 _)),((8,u8),some (.box 133 _)),((30,u8),some (.box 135 _))]⟩) (sbr rfl rfl) ?_)))))))))))))))
 refine B8 fun u10 hu10=>sp rfl (S9 rfl (gq rfl) rfl) (bs h fun y1 hy1 h=>C0e (fk Tryz.func81 Tryz.ntmps81 m0 (by with_unfolding_all rfl)) (fun (g1:Nat)=> [(2,(.ptr (2,u1) 0)),(3,(.ptr (3,u1) 0)),(4,(.ptr (4,u1) 0)),(5,(.ptr (5,u1) 0)),(8,(.ptr (8,u8) 0)),(34,(.fn (.func 174) [] [(.ptr (1,g1) 0)]))]) (fun (g1:Nat)=> [((2,u1),some (.box 33 (Y2 p1))),((3,u1),some (.box 22 [(dl C0 p2)])),((4,u1),some (.box 25 [(di 0),(.d .nilS),(.d .nilS)])),((5,u1),some (.box 36 [(di 0)])),((8,u8),some (.box 133 [(.ptr (30,u8) 0)])),((30,u8),some (.box 135 (R5 v5))),((1,g1),some (.box 133 [(.ptr (30,u8) 0)]))]) rfl (nl rfl) ?_ ?_)
 unfold B0q at hy1
 refine B0 (s0:=⟨T [(0,(.ptr _ _))],G [((30,u8),some (.box 135 _)),((2,u1),some (.box 33 _)),((3,u1),some (.box 22 _)),((4,u1),some (.box 25 _)),((5,u1),some (.box 36 _)),((8,u8),some (.box 133 _))]⟩) (sbr rfl rfl) ?_
 refine lr (fun u11 hu11=>sn rfl rfl (sv rfl (A2 (lr (fun u12 hu12=>D8 (.fn _ _ _) rfl rfl (D8 (.fn _ _ _) rfl rfl (A2 (B4 ?_))))))))
 cases hy1
 exact C5c (.inr rfl) (D0w (B6 rfl)) u11 ⟨.of rfl, .of rfl, .of rfl, .of rfl, .of rfl, .of rfl,trivial⟩ (sg rfl (sg rfl (sg rfl (sg rfl (sg rfl (sg rfl (A5 G_hit (.of rfl) trivial)))))))
 intro g1
 intro u13 hu13
 refine A2 (js h fun z1 hz1 h=>I5 (fun s=> ∃(y2:Unit) (g2:Unit),z1= .inl y2∧Sb ⟨T [(4,(.ptr (4,u1) 0)),(5,(.ptr (5,u1) 0)),(8,(.ptr (8,u8) 0))],G [((4,u1),some (.box 25 [(di 0),(.d .nilS),(.d .nilS)])),((5,u1),some (.box 36 [(di 0)])),((8,u8),some (.box 133 [(.ptr (30,u8) 0)])),((30,u8),some (.box 135 (R5 v5)))]⟩ s) ?_ ?_)
 refine A8 (bs hz1 fun v6 hv6 hz1=>B0 (s0:=⟨T [(2,(.ptr _ _)),(3,(.ptr _ _)),(4,(.ptr _ _)),(5,(.ptr _ _)),(8,(.ptr _ _)),(34,(.fn _ _ _))],G [((2,u1),some (.box 33 _)),((3,u1),some (.box 22 _)),((4,u1),some (.box 25 _)),((5,u1),some (.box 36 _)),((8,u8),some (.box 133 _)),((30,u8),some (.box 135 _)),((1,g1),some (.box 133 _))]⟩) (sbr rfl rfl) ?_)
 refine C6h (.fn (.func 174) [] [(.ptr (1,g1) 0)]) (B5o (1,g1) (30,u8) v5.before) C5h v6 (A7w p1 p2 v5) (fun (x1:Unit)=>(.inl ():Sum Unit (State×Int))) (fun (x1:Unit) (g3:Unit)=> [((2,u1),some (.box 33 (Y2 p1))),((3,u1),some (.box 22 [(dl C0 p2)])),((4,u1),some (.box 25 [(di 0),(.d .nilS),(.d .nilS)])),((5,u1),some (.box 36 [(di 0)])),((8,u8),some (.box 133 [(.ptr (30,u8) 0)])),((1,g1),some (.box 133 [(.ptr (30,u8) 0)])),((30,u8),some (.box 135 (R5 v5)))]) () () _ rfl (C1w hv6 _ _) (fun x1 g3 _ _=>⟨A1 rfl (gq rfl),_,_,_,_,_,_,_,_,_,_,A1 rfl (gq rfl)⟩) (fun _=>rfl) hz1 (sbr rfl rfl) nofun ?_ ?_
 intro u15 hu15 hku15
 refine ⟨fun x1 g3=>(A1 rfl (A1 rfl (A1 rfl (A1 rfl (A1 rfl (A1 rfl (A1 rfl rfl))))))),?_⟩
 intro r1 x1 g3 a1 z2 hrr1 hz2 ez2
 unfold A7w at hz2
 show AWL _ _ _ _ _ _ ⟨T [(36,(di a1.2)),(35,(di a1.1)),(2,(.ptr (2,u1) 0)),(3,(.ptr (3,u1) 0)),(4,(.ptr (4,u1) 0)),(5,(.ptr (5,u1) 0)),(8,(.ptr (8,u8) 0)),(34,(.fn (.func 174) [] [(.ptr (1,g1) 0)]))],G [((1000000,u15),some (.obj (T [(2,(.ptr (2,u1) 0)),(3,(.ptr (3,u1) 0)),(4,(.ptr (4,u1) 0)),(5,(.ptr (5,u1) 0)),(8,(.ptr (8,u8) 0)),(34,(.fn (.func 174) [] [(.ptr (1,g1) 0)]))]) r1)),((2,u1),some (.box 33 (Y2 p1))),((3,u1),some (.box 22 [(dl C0 p2)])),((4,u1),some (.box 25 [(di 0),(.d .nilS),(.d .nilS)])),((5,u1),some (.box 36 [(di 0)])),((8,u8),some (.box 133 [(.ptr (30,u8) 0)])),((1,g1),some (.box 133 [(.ptr (30,u8) 0)])),((30,u8),some (.box 135 (R5 v5)))]⟩
 refine lr (fun u16 hu16=>sv rfl (A2 (B8 fun u17 hu17=>sv rfl (A2 (l_j (C8q G_hit ?_))))))
 refine A8 (A7 (A7 (O4 rfl fun u18 hu18=>sd rfl (B5 rfl (gq rfl) rfl rfl) (sl rfl (gq rfl) rfl (sv rfl (bs hz2 fun v7 hv7 hz2=>sd rfl (L4 rfl rfl hv7 rfl) (sd rfl (F0 rfl hv7 rfl rfl) (sl rfl (gq rfl) rfl (sv rfl (bs hz2 fun v8 hv8 hz2=>sd rfl (L4 rfl rfl hv8 rfl) (sd rfl (F0 rfl hv8 rfl rfl) (bs hz2 fun v9 hv9 hz2=>B3 rfl rfl A3 (B7m _ _ _ _ hv9) (.inl rfl) (A2 (cc rfl hz2 (fun c3 hz2=> ?_) (fun c3 hz2=> ?_)))))))))))))))
 refine A7 (B0 (s0:=⟨T [(4,(.ptr _ _)),(5,(.ptr _ _))],G [((4,u1),some (.box 25 _)),((5,u1),some (.box 36 _)),((2,u1),some (.box 33 _)),((3,u1),some (.box 22 _)),((8,u8),some (.box 133 _)),((30,u8),some (.box 135 _)),((1,g1),some (.box 133 _)),((1000000,u15),some (.obj (T [(2,(.ptr (2,u1) 0)),(3,(.ptr (3,u1) 0)),(4,(.ptr (4,u1) 0)),(5,(.ptr (5,u1) 0)),(8,(.ptr (8,u8) 0)),(34,(.fn (.func 174) [] [(.ptr (1,g1) 0)]))]) {r1 with state:= .busy}))]⟩) (sbr rfl rfl) ?_)
 refine B8 fun u19 hu19=>sv rfl (sst rfl G_hit [(di 0),(.d .nilS),(.d .nilS)] rfl (sst rfl (gq rfl) [(di 12)] rfl (A2 (B4 ?_))))
 cases hz2
 obtain rfl:=ez2 _ rfl
 refine C8r (gq rfl) nofun (I4 ?_)
 rw [Sum.elim_inr]at h
 cases h
 exact A9 (.inr rfl) (B8g (N5 rfl (gq rfl) (nl rfl) rfl) (B6b rfl (gq rfl) rfl) I8 I8) (.tup (.cons (.agg (ca rfl (.cons ⟨DLe.nil,rfl⟩ (.cons ⟨DLe.nil,rfl⟩ .nil)))) A3))
 refine B2 (A7 (B0 (s0:=⟨T [(2,(.ptr _ _)),(4,(.ptr _ _)),(5,(.ptr _ _)),(8,(.ptr _ _)),(9,(.d _)),(10,(.d _))],G [((2,u1),some (.box 33 _)),((4,u1),some (.box 25 _)),((5,u1),some (.box 36 _)),((8,u8),some (.box 133 _)),((30,u8),some (.box 135 _)),((3,u1),some (.box 22 _)),((1,g1),some (.box 133 _)),((1000000,u15),some (.obj (T [(2,(.ptr (2,u1) 0)),(3,(.ptr (3,u1) 0)),(4,(.ptr (4,u1) 0)),(5,(.ptr (5,u1) 0)),(8,(.ptr (8,u8) 0)),(34,(.fn (.func 174) [] [(.ptr (1,g1) 0)]))]) {r1 with state:= .busy}))]⟩) (sbr rfl rfl) ?_))
 refine B8 fun u20 hu20=>sp rfl rfl (sl rfl G_hit rfl (sd rfl (N1 rfl) (sv rfl (A2 (js hz2 fun z3 hz3 hz2=>I5 (fun s=> ∃(y3:Unit) (g4:Unit),z3= .inl y3∧Sb ⟨T [],G [((2,u1),some (.box 33 (Y2 p1))),((3,u1),some (.box 22 [(dl C0 p2)])),((4,u1),some (.box 25 [(di 0),(.d .nilS),(.d .nilS)])),((5,u1),some (.box 36 [(di 0)])),((8,u8),some (.box 133 [(.ptr (30,u8) 0)])),((1,g1),some (.box 133 [(.ptr (30,u8) 0)])),((1000000,u15),some (.obj (T [(2,(.ptr (2,u1) 0)),(3,(.ptr (3,u1) 0)),(4,(.ptr (4,u1) 0)),(5,(.ptr (5,u1) 0)),(8,(.ptr (8,u8) 0)),(34,(.fn (.func 174) [] [(.ptr (1,g1) 0)]))]) {r1 with state:= .busy})),((30,u8),some (.box 135 (R5 v5)))]⟩ s) ?_ ?_)))))
 refine A8 (J4 (A7v p1 v5 a1) (fun (x2:Int) (g5:Unit)=>⟨T [(4,(.ptr (4,u1) 0)),(5,(.ptr (5,u1) 0)),(8,(.ptr (8,u8) 0)),(9,(di a1.1)),(10,(di a1.2)),(50,(di (p1.Zones.length:Int))),(51,(di x2))],G [((4,u1),some (.box 25 [(di 0),(.d .nilS),(.d .nilS)])),((5,u1),some (.box 36 [(di 0)])),((8,u8),some (.box 133 [(.ptr (30,u8) 0)])),((2,u1),some (.box 33 (Y2 p1))),((3,u1),some (.box 22 [(dl C0 p2)])),((1,g1),some (.box 133 [(.ptr (30,u8) 0)])),((1000000,u15),some (.obj (T [(2,(.ptr (2,u1) 0)),(3,(.ptr (3,u1) 0)),(4,(.ptr (4,u1) 0)),(5,(.ptr (5,u1) 0)),(8,(.ptr (8,u8) 0)),(34,(.fn (.func 174) [] [(.ptr (1,g1) 0)]))]) {r1 with state:= .busy})),((30,u8),some (.box 135 (R5 v5)))]⟩) 0 () _ hz3 (sbr rfl rfl) ?_)
 intro x2 g5 z4 hz4 ez4
 unfold A7v at hz4
 refine lr (fun u21 hu21=>sv rfl (A2 (A7 (cc rfl hz4 (fun c4 hz4=> ?_) (fun c4 hz4=> ?_)))))
 refine B2 (A7 (A8 (lr (fun u22 hu22=>sv rfl (sv rfl (A2 (lr (fun u23 hu23=>sp rfl (S9 rfl (gq rfl) rfl) (sv rfl (sv rfl (sv rfl (bs hz4 fun v10 hv10 hz4=>B3 rfl (C2 (A22 (gq rfl) (rD (rD (rD (rD (rD (rD (rD (rD (rD (rD (rD (rD (rD D3)))))))))))))) (rD (rD (rD D3)))) A3 (A70 _ _ _ _ _ hv10) (.inr rfl) (A2 (cc rfl hz4 (fun c5 hz4=> ?_) (fun c5 hz4=> ?_)))))))))))))))
 refine A7 (B0 (s0:=⟨T [(4,(.ptr _ _)),(5,(.ptr _ _))],G [((4,u1),some (.box 25 _)),((5,u1),some (.box 36 _)),((2,u1),some (.box 33 _)),((3,u1),some (.box 22 _)),((8,u8),some (.box 133 _)),((30,u8),some (.box 135 _)),((1,g1),some (.box 133 _)),((1000000,u15),some (.obj (T [(2,(.ptr (2,u1) 0)),(3,(.ptr (3,u1) 0)),(4,(.ptr (4,u1) 0)),(5,(.ptr (5,u1) 0)),(8,(.ptr (8,u8) 0)),(34,(.fn (.func 174) [] [(.ptr (1,g1) 0)]))]) {r1 with state:= .busy}))]⟩) (sbr rfl rfl) ?_)
 refine B8 fun u24 hu24=>sv rfl (sst rfl G_hit [(di 0),(.d .nilS),(.d .nilS)] rfl (sst rfl (gq rfl) [(di 12)] rfl (A2 (B4 ?_))))
 cases hz4
 obtain rfl:=ez4 _ rfl
 refine ⟨nofun,I4 ?_⟩
 rw [Sum.elim_inr]at hz2
 cases hz2
 obtain rfl:=ez2 _ rfl
 refine C8r (gq rfl) nofun (I4 ?_)
 rw [Sum.elim_inr]at h
 cases h
 exact A9 (.inr rfl) (B8g (N5 rfl (gq rfl) (nl rfl) rfl) (B6b rfl (gq rfl) rfl) I8 I8) (.tup (.cons (.agg (ca rfl (.cons ⟨DLe.nil,rfl⟩ (.cons ⟨DLe.nil,rfl⟩ .nil)))) A3))
 refine B2 (M0 (B0 (s0:=⟨T [(4,(.ptr _ _)),(5,(.ptr _ _)),(8,(.ptr _ _)),(9,(.d _)),(10,(.d _)),(50,(.d _)),(51,(.d _))],G [((4,u1),some (.box 25 _)),((5,u1),some (.box 36 _)),((8,u8),some (.box 133 _)),((30,u8),some (.box 135 _)),((2,u1),some (.box 33 _)),((3,u1),some (.box 22 _)),((1,g1),some (.box 133 _)),((1000000,u15),some (.obj (T [(2,(.ptr (2,u1) 0)),(3,(.ptr (3,u1) 0)),(4,(.ptr (4,u1) 0)),(5,(.ptr (5,u1) 0)),(8,(.ptr (8,u8) 0)),(34,(.fn (.func 174) [] [(.ptr (1,g1) 0)]))]) {r1 with state:= .busy}))]⟩) (sbr rfl rfl) ?_))
 refine B8 fun u25 hu25=>sv rfl (sv rfl (A2 (K4 ?_)))
 cases hz4
 exact ⟨rfl,(),(sbr rfl rfl)⟩
 refine E1 rfl ?_
 cases hz4
 obtain rfl:=ez4 _ rfl
 refine ⟨nofun,C9 rfl (l_j ?_)⟩
 exact ⟨_,(),rfl,(sbr rfl rfl)⟩
 rintro _ ⟨y3,g4,rfl,q1⟩
 rw [Sum.elim_inl]at hz2
 refine M0 (K4 ?_)
 cases hz2
 exact D2j q1 (gq rfl) () (A5 G_hit (.of rfl) (sg rfl (sg rfl (sg rfl (sg rfl (sg rfl (sg rfl trivial)))))))
 rintro x1 g3 _ rfl qx1
 refine M0 (l_j ?_)
 exact ⟨_,(),rfl,(Sb.after qx1 (sbr rfl rfl))⟩
 rintro _ ⟨y2,g2,rfl,q2⟩
 rw [Sum.elim_inl]at h
 refine B0 q2 (lr (fun u26 hu26=>sp rfl (S9 rfl (gq rfl) rfl) (sp rfl rfl (sp rfl rfl (sd rfl (B5 rfl (gq rfl) rfl rfl) (sst rfl G_hit (L9 v5.after) rfl (sst rfl (gq rfl) [(di 0)] rfl (A2 (B4 ?_)))))))))
 cases h
 exact A9 (.inr rfl) (B8g (N5 rfl (gq rfl) (nl rfl) rfl) (B6b rfl G_hit rfl) I8 I8) (.refl _)
noncomputable def A40 (p1:Int):Option Int:=
  (cond (decide (p1≥4294967296)) (some ((p1.fdiv (2^ (min (32:Int).toNat (IntKind.bits .u64)))),32)) (some (p1,0))).bind fun y1=>(cond (decide (y1.1≥65536)) (some ((y1.1.fdiv (2^ (min (16:Int).toNat (IntKind.bits .u64)))),(w64 (y1.2+16)))) (some (y1.1,y1.2))).bind fun y2=>cond (decide (y2.1≥256)) ((D33 (ByteArray.mk #[0,1,2,2,3,3,3,3,4,4,4,4,4,4,4,4,5,5,5,5,5,5,5,5,5,5,5,5,5,5,5,5,6,6,6,6,6,6,6,6,6,6,6,6,6,6,6,6,6,6,6,6,6,6,6,6,6,6,6,6,6,6,6,6,7,7,7,7,7,7,7,7,7,7,7,7,7,7,7,7,7,7,7,7,7,7,7,7,7,7,7,7,7,7,7,7,7,7,7,7,7,7,7,7,7,7,7,7,7,7,7,7,7,7,7,7,7,7,7,7,7,7,7,7,7,7,7,7,8,8,8,8,8,8,8,8,8,8,8,8,8,8,8,8,8,8,8,8,8,8,8,8,8,8,8,8,8,8,8,8,8,8,8,8,8,8,8,8,8,8,8,8,8,8,8,8,8,8,8,8,8,8,8,8,8,8,8,8,8,8,8,8,8,8,8,8,8,8,8,8,8,8,8,8,8,8,8,8,8,8,8,8,8,8,8,8,8,8,8,8,8,8,8,8,8,8,8,8,8,8,8,8,8,8,8,8,8,8,8,8,8,8,8,8,8,8,8,8,8,8,8,8,8,8,8,8]) (IntKind.wrap .u8 (y2.1.fdiv (2^ (min (8:Int).toNat (IntKind.bits .u64)))))).bind fun v1=>some (w64 ((w64 (y2.2+8))+ (w64 v1)))) ((D33 (ByteArray.mk #[0,1,2,2,3,3,3,3,4,4,4,4,4,4,4,4,5,5,5,5,5,5,5,5,5,5,5,5,5,5,5,5,6,6,6,6,6,6,6,6,6,6,6,6,6,6,6,6,6,6,6,6,6,6,6,6,6,6,6,6,6,6,6,6,7,7,7,7,7,7,7,7,7,7,7,7,7,7,7,7,7,7,7,7,7,7,7,7,7,7,7,7,7,7,7,7,7,7,7,7,7,7,7,7,7,7,7,7,7,7,7,7,7,7,7,7,7,7,7,7,7,7,7,7,7,7,7,7,8,8,8,8,8,8,8,8,8,8,8,8,8,8,8,8,8,8,8,8,8,8,8,8,8,8,8,8,8,8,8,8,8,8,8,8,8,8,8,8,8,8,8,8,8,8,8,8,8,8,8,8,8,8,8,8,8,8,8,8,8,8,8,8,8,8,8,8,8,8,8,8,8,8,8,8,8,8,8,8,8,8,8,8,8,8,8,8,8,8,8,8,8,8,8,8,8,8,8,8,8,8,8,8,8,8,8,8,8,8,8,8,8,8,8,8,8,8,8,8,8,8,8,8,8,8,8,8]) (IntKind.wrap .u8 y2.1)).bind fun v2=>some (w64 (y2.2+ (w64 v2))))
theorem B6p (p1:Int)(r:Int)(h:A40 p1=some r):PCall Tryz.prog 281 [(.v (.int .u64 p1))] (i64 r):=by
 refine C1 (fk Tryz.func281 Tryz.ntmps281 m0 (by with_unfolding_all rfl)) (nl rfl) ?_
 unfold A40 at h
 refine B0 (s0:=⟨T [(0,(.d _))],G []⟩) (sbr rfl rfl) ?_
 refine lr (fun u1 hu1=>sv rfl (A2 (A7 (lr (fun u2 hu2=>sv rfl (sv rfl (A2 (bs h fun y1 hy1 h=>I5 (fun s=> ∃g1:Unit,Sb ⟨T [(0,(.d (.v (.int .u64 y1.1)))),(2,(di y1.2))],G []⟩ s) ?_ ?_))))))))
 refine cc rfl hy1 (fun c1 hy1=> ?_) (fun c1 hy1=> ?_)
 refine lr (fun u3 hu3=>sv rfl (sv rfl (sv rfl (A2 (B8 fun u4 hu4=>sv rfl (A2 ?_))))))
 cases hy1
 exact l_j ⟨(),(sbr rfl rfl)⟩
 refine B2 ?_
 cases hy1
 exact l_j ⟨(),(sbr rfl rfl)⟩
 rintro _ ⟨g1,q1⟩
 refine B0 q1 (A7 (lr (fun u5 hu5=>sv rfl (sv rfl (A2 (bs h fun y2 hy2 h=>I5 (fun s=> ∃g2:Unit,Sb ⟨T [(0,(.d (.v (.int .u64 y2.1)))),(2,(di y2.2))],G []⟩ s) ?_ ?_))))))
 refine cc rfl hy2 (fun c2 hy2=> ?_) (fun c2 hy2=> ?_)
 refine lr (fun u6 hu6=>sv rfl (sv rfl (sv rfl (A2 (B8 fun u7 hu7=>sv rfl (sv rfl (sv rfl (A2 ?_))))))))
 cases hy2
 exact l_j ⟨(),(sbr rfl rfl)⟩
 refine B2 ?_
 cases hy2
 exact l_j ⟨(),(sbr rfl rfl)⟩
 rintro _ ⟨g2,q2⟩
 refine B0 q2 (A7 (lr (fun u8 hu8=>sv rfl (sv rfl (A2 (cc rfl h (fun c3 h=> ?_) (fun c3 h=> ?_)))))))
 refine lr (fun u9 hu9=>sv rfl (sv rfl (sv rfl (A2 (B8 fun u10 hu10=>sv rfl (sv rfl (sv rfl (A2 (lr (fun u11 hu11=>sv rfl (sv rfl (sv rfl (bs h fun v1 hv1 h=>sd rfl (D1k rfl rfl hv1) (sv rfl (sv rfl (sv rfl (A2 (B4 ?_))))))))))))))))))
 cases h
 exact A9 (.inr rfl) (B7 (B6 rfl) I8) (.refl _)
 refine B2 (lr (fun u12 hu12=>sv rfl (sv rfl (sv rfl (bs h fun v2 hv2 h=>sd rfl (D1k rfl rfl hv2) (sv rfl (sv rfl (sv rfl (A2 (B4 ?_))))))))))
 cases h
 exact A9 (.inr rfl) (B7 (B6 rfl) I8) (.refl _)
noncomputable def A4e (p1:Int):Option Int:=
  (A40 p1).bind fun v1=>some v1
theorem B3f (p1:Int)(r:Int)(h:A4e p1=some r):PCall Tryz.prog 267 [(.v (.int .u64 p1))] (i64 r):=by
 refine C1 (fk Tryz.func267 Tryz.ntmps267 m0 (by with_unfolding_all rfl)) (nl rfl) ?_
 unfold A4e at h
 refine B0 (s0:=⟨T [(0,(.d _))],G []⟩) (sbr rfl rfl) ?_
 refine lr (fun u1 hu1=>sv rfl (A2 (A7 (B3v rfl (B2 (lr (fun u2 hu2=>sv rfl (bs h fun v1 hv1 h=>B3 rfl rfl A3 (B6p _ _ hv1) (.inl rfl) (sv rfl (A2 (B4 ?_)))))))))))
 cases h
 exact A9 (.inr rfl) (B7 (B6 rfl) I8) (.refl _)
noncomputable def A57 (p1:Int)(p2:Int):Option Bool:=
  (W2 p1).bind fun v1=>((cond v1 (W2 p2) (some default))).bind fun v2=>some ((v1&& (!v2))||(decide (p1<p2)))
theorem B7n (p1:Int)(p2:Int)(r:Bool)(h:A57 p1 p2=some r):PCall Tryz.prog 277 [(i64 p1),(i64 p2)] (bo r):=by
 refine C1 (fk Tryz.func277 Tryz.ntmps277 m0 (by with_unfolding_all rfl)) (nl rfl) ?_
 unfold A57 at h
 refine B0 (s0:=⟨T [(0,(.d _)),(1,(.d _))],G []⟩) (sbr rfl rfl) ?_
 refine lr (fun u1 hu1=>sv rfl (A2 (lr (fun u2 hu2=>sv rfl (bs h fun v1 hv1 h=>B3 rfl rfl A3 (A3g _ _ hv1) (.inl rfl) (sv rfl (gt rfl (fun _=>rfl) (bs h fun v2 hv2 h=> ?_))))))))
 refine U3 v1 (bo v2) (A1f rfl) (fun w2=>⟨_,[(di p2)],_,_,(by simp only [A6 w2];rfl),rfl,A3,A3g _ _ (E2 w2 hv2),(.inl rfl)⟩) ?_
 refine A0o _ (.d (bo (!v2))) rfl (A1f rfl) (fun w3=>(by simp only [A6 w3];rfl)) ?_
 refine sa rfl rfl rfl (sv rfl (gf rfl (fun _=>rfl) (gf rfl (fun _=>rfl) (gf rfl (fun w6=>(A1p (A6 w6) (A6 w6) rfl)) (sd rfl (A8i rfl rfl (fun hc=>A6 (Y1 hc))) (sv rfl (A2 (B4 ?_))))))))
 cases h
 exact A9 (.inr rfl) (B7 (B6 rfl) I8) (.refl _)
noncomputable def J5 (p2:Int)(x2:(Int× (List Int))):Option (Stp (Int× (List Int)) (List Int)):=
  ((cond (decide (x2.1>p2)) (G8 x2.2 x2.1) (some default))).bind fun v1=>((cond (decide (x2.1>p2)) (G8 x2.2 (w64 (x2.1 - 1))) (some default))).bind fun v2=>((cond (decide (x2.1>p2)) (A57 v1 v2) (some default))).bind fun v3=>cond ((decide (x2.1>p2))&&v3) ((G8 x2.2 (w64 (x2.1 - 1))).bind fun v4=>(G8 x2.2 x2.1).bind fun v5=>(G8 x2.2 x2.1).bind fun v6=>(G8 (C1q x2.2 x2.1 v4) (w64 (x2.1 - 1))).bind fun v7=>some (.go ((w64 (x2.1 - 1)),(C1q (C1q x2.2 x2.1 v4) (w64 (x2.1 - 1)) v5)))) (some (.out x2.2))
noncomputable def J6 (p2:Int)(p3:Int)(x1:(Int× (List Int))):Option (Stp (Int× (List Int)) (List Int)):=
  cond (decide (x1.1<p3)) ((loop (J5 p2) (x1.1,x1.2)).bind fun y1=>some (.go ((w64 (x1.1+1)),y1))) (some (.out (x1.2)))
noncomputable def L5 (p1:(List Int))(p2:Int)(p3:Int):Option (List Int):=
  loop (J6 p2 p3) ((w64 (p2+1)),p1)
theorem A4f (p1:(List Int))(p2:Int)(p3:Int)(r:(List Int))(h:L5 p1 p2 p3=some r):MCall Tryz.prog 271 [(.sl (900000,0)),(di p2),(di p3)] [(.arr 2 1 (List.map A4 p1))] (.d (.tup [])) [some (.arr 2 1 (List.map A4 r))] []:=by
 refine B5l (fk Tryz.func271 Tryz.ntmps271 m0 (by with_unfolding_all rfl)) rfl (nl rfl) ?_
 unfold L5 at h
 refine B0 (s0:=⟨T [(0,(.sl _)),(1,(.d _)),(2,(.d _))],G [((900000,0),some _)]⟩) (sbr rfl rfl) ?_
 refine lr (fun u1 hu1=>sv rfl (sv rfl (sv rfl (A2 (A8 (J4 (J6 p2 p3) (fun (x1:(Int× (List Int))) (g1:Unit)=>⟨T [(0,(.sl (900000,0))),(1,(di p2)),(2,(di p3)),(6,(di x1.1))],G [((900000,0),some (.arr 2 1 (List.map A4 x1.2)))]⟩) ((w64 (p2+1)),p1) () _ h (sbr rfl rfl) ?_))))))
 intro x1 g1 z1 hz1 ez1
 unfold J6 at hz1
 refine A7 (lr (fun u2 hu2=>sv rfl (sv rfl (sv rfl (A2 (cc rfl hz1 (fun c1 hz1=> ?_) (fun c1 hz1=> ?_)))))))
 refine B2 (A7 (A8 (lr (fun u3 hu3=>sv rfl (sv rfl (A2 (bs hz1 fun y1 hy1 hz1=>I5 (fun s=> ∃g2:Unit,Sb ⟨T [(0,(.sl (900000,0))),(1,(di p2)),(2,(di p3)),(6,(di x1.1))],G [((900000,0),some (.arr 2 1 (List.map A4 y1)))]⟩ s) ?_ ?_)))))))
 refine A8 (J4 (J5 p2) (fun (x2:(Int× (List Int))) (g3:Unit)=>⟨T [(0,(.sl (900000,0))),(1,(di p2)),(2,(di p3)),(6,(di x1.1)),(7,(di x2.1))],G [((900000,0),some (.arr 2 1 (List.map A4 x2.2)))]⟩) (x1.1,x1.2) () _ hy1 (sbr rfl rfl) ?_)
 intro x2 g3 z2 hz2 ez2
 unfold J5 at hz2
 refine A7 (A7 (O4 rfl fun u4 hu4=>sv rfl (sv rfl (sv rfl (sv rfl (A0o _ (.sl _) rfl (A1f rfl) (fun _=>rfl) (gt rfl (fun _=>rfl) (bs hz2 fun v1 hv1 hz2=>A0o _ (.aptr _ _ _ _) rfl (A1f rfl) (fun w3=>(B1x (A6 w3) (A6 w3) G_hit (E2 w3 hv1))) (gt rfl (fun w4=>(C2g (A6 w4) G_hit (E2 w4 hv1) rfl)) (A0o _ (.sl _) rfl (A1f rfl) (fun _=>rfl) (gt rfl (fun _=>rfl) (gt rfl (vb rfl rfl rfl) (bs hz2 fun v2 hv2 hz2=>A0o _ (.aptr _ _ _ _) rfl (A1f rfl) (fun w8=>(B1x (A6 w8) (A6 w8) G_hit (E2 w8 hv2))) (gt rfl (fun w9=>(C2g (A6 w9) G_hit (E2 w9 hv2) rfl)) (bs hz2 fun v3 hv3 hz2=> ?_)))))))))))))))
 refine U3 _ (bo v3) (A1f rfl) (fun w10=>⟨_,[(di v1),(di v2)],_,_,(by simp only [A6 w10];rfl),rfl,A3,B7n _ _ _ (E2 w10 hv3),(.inl rfl)⟩) ?_
 refine sa rfl rfl rfl (A2 (cc rfl hz2 (fun c2 hz2=> ?_) (fun c2 hz2=> ?_)))
 refine B2 (A7 (A8 (O4 rfl fun u5 hu5=>ss rfl (sv rfl (ss rfl (sv rfl (sv rfl (ss rfl (sv rfl (sv rfl (bs hz2 fun v4 hv4 hz2=>D8 (.aptr _ _ _ _) rfl (B1x rfl rfl G_hit hv4) (sd rfl (C2g rfl G_hit hv4 rfl) (ss rfl (sv rfl (bs hz2 fun v5 hv5 hz2=>D8 (.aptr _ _ _ _) rfl (B1x rfl rfl G_hit hv5) (sd rfl (C2g rfl G_hit hv5 rfl) (bs hz2 fun v6 hv6 hz2=>D8 (.aptr _ _ _ _) rfl (B1x rfl rfl G_hit hv6) (B6c A4 _ _ _ (x2.1) _ v4 [(i64 v4)] rfl rfl rfl G_hit hv6 (nl rfl) rfl (bs hz2 fun v7 hv7 hz2=>D8 (.aptr _ _ _ _) rfl (B1x rfl rfl G_hit hv7) (B6c A4 _ _ _ ((w64 (x2.1 - 1))) _ v5 [(i64 v5)] rfl rfl rfl G_hit hv7 (nl rfl) rfl (A2 (M0 (B0 (s0:=⟨T [(0,(.sl _)),(1,(.d _)),(2,(.d _)),(6,(.d _)),(7,(.d _))],G [((900000,0),some _)]⟩) (sbr rfl rfl) ?_)))))))))))))))))))))))
 refine B8 fun u6 hu6=>sv rfl (sv rfl (sv rfl (A2 (K4 ?_))))
 cases hz2
 exact ⟨rfl,(),(sbr rfl rfl)⟩
 refine E1 rfl ?_
 cases hz2
 obtain rfl:=ez2 _ rfl
 refine ⟨nofun,C9 rfl (l_j ?_)⟩
 exact ⟨(),(sbr rfl rfl)⟩
 rintro _ ⟨g2,q1⟩
 refine M0 (B0 q1 (B8 fun u7 hu7=>sv rfl (sv rfl (sv rfl (A2 (K4 ?_))))))
 cases hz1
 exact ⟨rfl,(),(sbr rfl rfl)⟩
 refine E1 rfl ?_
 cases hz1
 obtain rfl:=ez1 _ rfl
 refine ⟨nofun,C9 rfl (K4 ?_)⟩
 exact C0a (.inl rfl) [] C0b (.refl _) ⟨⟨G_hit,A2m⟩,trivial⟩
noncomputable def N6 (p1:(List Int))(x1:(Int×Int×Int×Bool×Bool)):Option (Stp (Int×Int×Int×Bool×Bool) (List Int)):=
  cond (decide ((w64 (x1.2.1 - x1.1))≤12)) ((L5 p1 x1.1 x1.2.1).bind fun v1=>some (.out (v1))) (cond (x1.2.2.1==0) (none) ((cond (!x1.2.2.2.1) (none) (some ())).bind fun _=>none))
noncomputable def Q0 (p1:(List Int))(p2:Int)(p3:Int)(p4:Int):Option (List Int):=
  loop (N6 p1) (p2,p3,p4,true,true)
theorem A6w (p1:(List Int))(p2:Int)(p3:Int)(p4:Int)(r:(List Int))(h:Q0 p1 p2 p3 p4=some r):MCall Tryz.prog 266 [(.sl (900000,0)),(di p2),(di p3),(di p4)] [(.arr 2 1 (List.map A4 p1))] (.d (.tup [])) [some (.arr 2 1 (List.map A4 r))] []:=by
 refine B5l (fk Tryz.func266 Tryz.ntmps266 (fun r=>if r==4 then [1004003]else []) (by with_unfolding_all rfl)) rfl (nl rfl) ?_
 unfold Q0 at h
 refine B0 (s0:=⟨T [(0,(.sl _)),(1,(.d _)),(2,(.d _)),(3,(.d _))],G [((900000,0),some _)]⟩) (sbr rfl rfl) ?_
 refine lr (fun u1 hu1=>sv rfl (A2 (lr (fun u2 hu2=>sv rfl (A2 (A8 (J4 (N6 p1) (fun (x1:(Int×Int×Int×Bool×Bool)) (g1:Unit)=>⟨T [(0,(.sl (900000,0))),(1,(di x1.1)),(2,(di x1.2.1)),(3,(di x1.2.2.1)),(8,(.d (bo x1.2.2.2.1))),(9,(.d (bo x1.2.2.2.2)))],G [((900000,0),some (.arr 2 1 (List.map A4 p1)))]⟩) (p2,p3,p4,true,true) () _ h (sbr rfl rfl) ?_)))))))
 intro x1 g1 z1 hz1 ez1
 unfold N6 at hz1
 refine A8 (lr (fun u3 hu3=>sv rfl (sv rfl (sv rfl (sv rfl (A2 (A7 (lr (fun u4 hu4=>sv rfl (sv rfl (A2 (cc rfl hz1 (fun c1 hz1=> ?_) (fun c1 hz1=> ?_)))))))))))))
 refine lr (fun u5 hu5=>ss rfl (sv rfl (sv rfl (bs hz1 fun v1 hv1 hz1=>C7n (v:= .d (.tup [])) (us:= [(900000,0)]) (C9h (A4f _ _ _ _ hv1) [(900000,0)] [(900000,0)] _ (((900000,0),some (.arr 2 1 (List.map A4 v1)))::_) rfl A9e (A06 C3z (A06 C6b (A06 C6b B6f))) (A61 G_hit A60) ⟨⟨_,G_hit, .of rfl⟩,trivial⟩ (fun _ h=>h) nd1 rfl rfl rfl) (A2 (B4 ?_))))))
 cases hz1
 obtain rfl:=ez1 _ rfl
 refine ⟨nofun,I4 ?_⟩
 exact C0a (.inr rfl) [] C0b (.refl _) ⟨⟨G_hit,A2m⟩,trivial⟩
 refine B2 (A7 (lr (fun u6 hu6=>sv rfl (sv rfl (A2 (cc rfl hz1 (fun c2 hz1=> ?_) (fun c2 hz1=> ?_)))))))
 refine lr (fun u7 hu7=>ss rfl (sv rfl (sv rfl ?_)))
 cases hz1
 refine B2 (A7 (lr (fun u8 hu8=>sv rfl (D8 (.d (bo (!x1.2.2.2.1))) rfl rfl (A2 (bs hz1 fun y1 hy1 hz1=>I5 (fun s=> ∃g2:Unit,Sb ⟨T [(0,(.sl (900000,0))),(1,(di x1.1)),(2,(di x1.2.1)),(3,(di x1.2.2.1)),(8,(.d (bo x1.2.2.2.1))),(9,(.d (bo x1.2.2.2.2))),(10,(di (w64 (x1.2.1 - x1.1))))],G [((900000,0),some (.arr 2 1 (List.map A4 p1)))]⟩ s) ?_ ?_))))))
 refine cc rfl hy1 (fun c3 hy1=> ?_) (fun c3 hy1=> ?_)
 refine lr (fun u9 hu9=>ss rfl (sv rfl (sv rfl ?_)))
 cases hy1
 refine B2 ?_
 cases hy1
 exact l_j ⟨(),(sbr rfl rfl)⟩
 rintro _ ⟨g2,q1⟩
 refine B0 q1 (lr (fun u10 hu10=>ss rfl (sv rfl (sv rfl ?_))))
 cases hz1
noncomputable def T0 (p1:(List Int)):Option (List Int):=
  (A4e (IntKind.wrap .u64 (p1.length:Int))).bind fun v1=>(Q0 p1 0 (p1.length:Int) v1).bind fun v2=>some v2
theorem A8q (p1:(List Int))(r:(List Int))(h:T0 p1=some r):MCall Tryz.prog 252 [(.sl (900000,0))] [(.arr 2 1 (List.map A4 p1))] (.d (.tup [])) [some (.arr 2 1 (List.map A4 r))] []:=by
 refine B5l (fk Tryz.func252 Tryz.ntmps252 (fun r=>if r==1 then [1001005]else []) (by with_unfolding_all rfl)) rfl (nl rfl) ?_
 unfold T0 at h
 refine B0 (s0:=⟨T [(0,(.sl _))],G [((900000,0),some _)]⟩) (sbr rfl rfl) ?_
 refine lr (fun u1 hu1=>ss rfl (sd rfl (D1i (f:=A4) rfl G_hit) (sv rfl (A2 (B8 fun u2 hu2=>ss rfl (sv rfl (sv rfl (sv rfl (bs h fun v1 hv1 h=>B3 rfl rfl A3 (B3f _ _ hv1) (.inl rfl) (bs h fun v2 hv2 h=>C7n (v:= .d (.tup [])) (us:= [(900000,0)]) (C9h (A6w _ _ _ _ _ hv2) [(900000,0)] [(900000,0)] _ (((900000,0),some (.arr 2 1 (List.map A4 v2)))::_) rfl A9e (A06 C3z (A06 C6b (A06 C6b (A06 C6b B6f)))) (A61 G_hit A60) ⟨⟨_,G_hit, .of rfl⟩,trivial⟩ (fun _ h=>h) nd1 rfl rfl rfl) (A2 (K4 ?_))))))))))))
 obtain rfl:=(Option.some.inj h)
 exact C0a (.inl rfl) [] C0b (.refl _) ⟨⟨G_hit,A2m⟩,trivial⟩
end Go.Abs.World
