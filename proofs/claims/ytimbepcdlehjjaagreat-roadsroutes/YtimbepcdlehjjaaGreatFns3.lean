/-
  The functions, part 3.
-/
import Derived.Test.YtimbepcdlehjjaaGreatFns2
set_option maxRecDepth 20000
set_option maxHeartbeats 4000000
set_option linter.unusedVariables false
namespace Go.Abs.Roadsz
open Go Go.Abs Go.Proofs
attribute [local irreducible] A01 C73 AWL
noncomputable def A28 (p1:Map)(p2:(List Int)):Option Int:=
  (Y3 p1 p2).bind fun v1=>some v1.length
theorem B2k (p1:Map)(p2:(List Int))(r:Int)(h:A28 p1 p2=some r):PCall Tryz.prog 38 [(.agg (A0s p1)),(.list (List.map A5 p2))] (i64 r):=by
 refine E1 (fk Tryz.func38 Tryz.ntmps38 m0 (by with_unfolding_all rfl)) (nl rfl) ?_
 unfold A28 at h
 refine A9 (s0:=⟨T [(0,(.d _)),(1,(.d _))],G []⟩) (sbr rfl rfl) ?_
 refine lr (fun u1 hu1=>sn rfl rfl (sv rfl (A3 (lr (fun u2 hu2=>sd rfl (B9 rfl G_hit rfl rfl) (sv rfl (bs h fun v1 hv1 h=>C4 rfl rfl A4 (A3j _ _ _ hv1) (.inl rfl) (sv rfl (sv rfl (A3 (B5 ?_)))))))))))
 cases h
 exact B0 (.inr rfl) (C1 (B4 rfl) I6) (.refl _)
noncomputable def A72 (p1:Map)(p2:(List Int)):Option (List Int):=
  (Y3 p1 p2).bind fun v1=>some v1.starts
theorem B7p (p1:Map)(p2:(List Int))(r:(List Int))(h:A72 p1 p2=some r):PCall Tryz.prog 41 [(.agg (A0s p1)),(.list (List.map A5 p2))] (.list (List.map A5 r)):=by
 refine E1 (fk Tryz.func41 Tryz.ntmps41 m0 (by with_unfolding_all rfl)) (nl rfl) ?_
 unfold A72 at h
 refine A9 (s0:=⟨T [(0,(.d _)),(1,(.d _))],G []⟩) (sbr rfl rfl) ?_
 refine lr (fun u1 hu1=>sn rfl rfl (sv rfl (A3 (lr (fun u2 hu2=>sd rfl (B9 rfl G_hit rfl rfl) (sv rfl (bs h fun v1 hv1 h=>C4 rfl rfl A4 (A3j _ _ _ hv1) (.inl rfl) (sv rfl (sv rfl (A3 (B5 ?_)))))))))))
 cases h
 exact B0 (.inr rfl) (C1 (B4 rfl) I6) (.refl _)
noncomputable def A2z (p1:(List Int))(p2:(List Int))(x1:Int):Option (Stp Int (Sum Unit Bool)):=
  cond ((decide (x1< (p1.length:Int)))&& (decide (x1< (p2.length:Int)))) ((F3 p1 x1).bind fun v1=>(F3 p2 x1).bind fun v2=>cond (v1 !=v2) (some (.out (.inr false))) (some (.go (w64 (x1+1))))) (some (.out (.inl ())))
noncomputable def A5q (p1:(List Int))(p2:(List Int)):Option Bool:=
  thenS (loop (A2z p1 p2) 0) (fun _=>some ((p1.length:Int)==(p2.length:Int))) (fun r=>some r)
theorem B5y (p1:(List Int))(p2:(List Int))(r:Bool)(h:A5q p1 p2=some r):PCall Tryz.prog 40 [(.list (List.map A5 p1)),(.list (List.map A5 p2))] (bo r):=by
 refine E1 (fk Tryz.func40 Tryz.ntmps40 m0 (by with_unfolding_all rfl)) (nl rfl) ?_
 unfold A5q at h
 refine A9 (s0:=⟨T [(0,(.d _)),(1,(.d _))],G []⟩) (sbr rfl rfl) ?_
 refine lr (fun u1 hu1=>sv rfl (A3 (A7 (lr (fun u2 hu2=>sv rfl (A3 (js h fun z1 hz1 h=>F2 (fun s=> ∃(y1:Unit) (g1:Unit),z1= .inl y1∧Sb ⟨T [(0,(dl A5 p1)),(1,(dl A5 p2))],G []⟩ s) ?_ ?_)))))))
 refine A8 (F0 (A2z p1 p2) (fun (x1:Int) (g2:Unit)=>⟨T [(0,(dl A5 p1)),(1,(dl A5 p2)),(5,(di x1))],G []⟩) 0 () _ hz1 (sbr rfl rfl) ?_)
 intro x1 g2 z2 hz2 ez2
 unfold A2z at hz2
 refine A7 (lr (fun u3 hu3=>sv rfl (sv rfl (sd rfl (F1 rfl) (sv rfl (sv rfl (gt rfl (fun _=>rfl) (gt rfl (fun _=>rfl) (gt rfl (fun w3=>(F1 (A6 w3))) (gt rfl (fun w4=>(A1q (A6 w4) (A6 w4) rfl)) (sa rfl rfl rfl (A3 (cc rfl hz2 (fun c1 hz2=> ?_) (fun c1 hz2=> ?_))))))))))))))
 refine B3 (A7 (A8 (A7 (N6 rfl fun u4 hu4=>sv rfl (sv rfl (bs hz2 fun v1 hv1 hz2=>sd rfl (G6 rfl rfl hv1 rfl) (sd rfl (E9 rfl hv1 rfl) (sv rfl (sv rfl (bs hz2 fun v2 hv2 hz2=>sd rfl (G6 rfl rfl hv2 rfl) (sd rfl (E9 rfl hv2 rfl) (sv rfl (A3 (cc rfl hz2 (fun c2 hz2=> ?_) (fun c2 hz2=> ?_)))))))))))))))
 refine lr (fun u5 hu5=>sv rfl (A3 (B5 ?_)))
 cases hz2
 obtain rfl:=ez2 _ rfl
 refine ⟨nofun,F8 ?_⟩
 rw [Sum.elim_inr]at h
 cases h
 exact B0 (.inr rfl) (C1 (B4 rfl) I6) (.refl _)
 refine B3 (H9 (B8 fun u6 hu6=>sv rfl (sv rfl (sv rfl (A3 (H4 ?_))))))
 cases hz2
 exact ⟨rfl,(),(sbr rfl rfl)⟩
 refine C6 rfl ?_
 cases hz2
 obtain rfl:=ez2 _ rfl
 refine ⟨nofun,C2 rfl (l_j ?_)⟩
 exact ⟨_,(),rfl,(sbr rfl rfl)⟩
 rintro _ ⟨y1,g1,rfl,q1⟩
 rw [Sum.elim_inl]at h
 refine A9 q1 (lr (fun u7 hu7=>sv rfl (sd rfl (F1 rfl) (sv rfl (sd rfl (F1 rfl) (sv rfl (sv rfl (A3 (B5 ?_)))))))))
 cases h
 exact B0 (.inr rfl) (C1 (B4 rfl) I6) (.refl _)
noncomputable def A29 (p1:Int):Option Bool:=
  some (p1 !=p1)
theorem A90 (p1:Int)(r:Bool)(h:A29 p1=some r):PCall Tryz.prog 226 [(i64 p1)] (bo r):=by
 refine E1 (fk Tryz.func226 Tryz.ntmps226 m0 (by with_unfolding_all rfl)) (nl rfl) ?_
 unfold A29 at h
 refine A9 (s0:=⟨T [(0,(.d _))],G []⟩) (sbr rfl rfl) ?_
 refine lr (fun u1 hu1=>sv rfl (A3 (lr (fun u2 hu2=>sv rfl (sv rfl (sv rfl (sv rfl (A3 (B5 ?_)))))))))
 cases h
 exact B0 (.inr rfl) (C1 (B4 rfl) I6) (.refl _)
noncomputable def A2a (p1:Int)(p2:Int):Option Int:=
  (A29 p1).bind fun v1=>(A29 p2).bind fun v2=>cond v1 (cond v2 (some 0) (some (-1))) (cond v2 (some 1) (cond (decide (p1<p2)) (some (-1)) (cond (decide (p1>p2)) (some 1) (some 0))))
theorem B2l (p1:Int)(p2:Int)(r:Int)(h:A2a p1 p2=some r):PCall Tryz.prog 143 [(i64 p1),(i64 p2)] (i64 r):=by
 refine E1 (fk Tryz.func143 Tryz.ntmps143 m0 (by with_unfolding_all rfl)) (nl rfl) ?_
 unfold A2a at h
 refine A9 (s0:=⟨T [(0,(.d _)),(1,(.d _))],G []⟩) (sbr rfl rfl) ?_
 refine lr (fun u1 hu1=>sv rfl (A3 (lr (fun u2 hu2=>sv rfl (bs h fun v1 hv1 h=>C4 rfl rfl A4 (A90 _ _ hv1) (.inl rfl) (sv rfl (A3 (lr (fun u3 hu3=>sv rfl (bs h fun v2 hv2 h=>C4 rfl rfl A4 (A90 _ _ hv2) (.inl rfl) (sv rfl (A3 (A7 (lr (fun u4 hu4=>sv rfl (A3 (cc rfl h (fun c1 h=> ?_) (fun c1 h=> ?_))))))))))))))))))
 refine A7 (lr (fun u5 hu5=>sv rfl (A3 (cc rfl h (fun c2 h=> ?_) (fun c2 h=> ?_)))))
 refine lr (fun u6 hu6=>sv rfl (A3 (B5 ?_)))
 cases h
 exact B0 (.inr rfl) (C1 (B4 rfl) I6) (.refl _)
 refine B3 (lr (fun u7 hu7=>sv rfl (A3 (B5 ?_))))
 cases h
 exact B0 (.inr rfl) (C1 (B4 rfl) I6) (.refl _)
 refine B3 (A7 (lr (fun u8 hu8=>sv rfl (A3 (cc rfl h (fun c3 h=> ?_) (fun c3 h=> ?_))))))
 refine lr (fun u9 hu9=>sv rfl (A3 (B5 ?_)))
 cases h
 exact B0 (.inr rfl) (C1 (B4 rfl) I6) (.refl _)
 refine B3 (A7 (lr (fun u10 hu10=>sv rfl (sv rfl (sv rfl (A3 (cc rfl h (fun c4 h=> ?_) (fun c4 h=> ?_))))))))
 refine lr (fun u11 hu11=>sv rfl (A3 (B5 ?_)))
 cases h
 exact B0 (.inr rfl) (C1 (B4 rfl) I6) (.refl _)
 refine B3 (A7 (lr (fun u12 hu12=>sv rfl (sv rfl (sv rfl (A3 (cc rfl h (fun c5 h=> ?_) (fun c5 h=> ?_))))))))
 refine lr (fun u13 hu13=>sv rfl (A3 (B5 ?_)))
 cases h
 exact B0 (.inr rfl) (C1 (B4 rfl) I6) (.refl _)
 refine B3 (lr (fun u14 hu14=>sv rfl (A3 (B5 ?_))))
 cases h
 exact B0 (.inr rfl) (C1 (B4 rfl) I6) (.refl _)
noncomputable def A4d (p1:Int):Option Bool:=
  some (p1 !=p1)
theorem B0x (p1:Int)(r:Bool)(h:A4d p1=some r):PCall Tryz.prog 227 [(i64 p1)] (bo r):=by
 refine E1 (fk Tryz.func227 Tryz.ntmps227 m0 (by with_unfolding_all rfl)) (nl rfl) ?_
 unfold A4d at h
 refine A9 (s0:=⟨T [(0,(.d _))],G []⟩) (sbr rfl rfl) ?_
 refine lr (fun u1 hu1=>sv rfl (A3 (lr (fun u2 hu2=>sv rfl (sv rfl (sv rfl (sv rfl (A3 (B5 ?_)))))))))
 cases h
 exact B0 (.inr rfl) (C1 (B4 rfl) I6) (.refl _)
noncomputable def A3w (p1:Int)(p2:Int):Option Int:=
  (A4d p1).bind fun v1=>(A4d p2).bind fun v2=>cond v1 (cond v2 (some 0) (some (-1))) (cond v2 (some 1) (cond (decide (p1<p2)) (some (-1)) (cond (decide (p1>p2)) (some 1) (some 0))))
theorem B4c (p1:Int)(p2:Int)(r:Int)(h:A3w p1 p2=some r):PCall Tryz.prog 144 [(i64 p1),(i64 p2)] (i64 r):=by
 refine E1 (fk Tryz.func144 Tryz.ntmps144 m0 (by with_unfolding_all rfl)) (nl rfl) ?_
 unfold A3w at h
 refine A9 (s0:=⟨T [(0,(.d _)),(1,(.d _))],G []⟩) (sbr rfl rfl) ?_
 refine lr (fun u1 hu1=>sv rfl (A3 (lr (fun u2 hu2=>sv rfl (bs h fun v1 hv1 h=>C4 rfl rfl A4 (B0x _ _ hv1) (.inl rfl) (sv rfl (A3 (lr (fun u3 hu3=>sv rfl (bs h fun v2 hv2 h=>C4 rfl rfl A4 (B0x _ _ hv2) (.inl rfl) (sv rfl (A3 (A7 (lr (fun u4 hu4=>sv rfl (A3 (cc rfl h (fun c1 h=> ?_) (fun c1 h=> ?_))))))))))))))))))
 refine A7 (lr (fun u5 hu5=>sv rfl (A3 (cc rfl h (fun c2 h=> ?_) (fun c2 h=> ?_)))))
 refine lr (fun u6 hu6=>sv rfl (A3 (B5 ?_)))
 cases h
 exact B0 (.inr rfl) (C1 (B4 rfl) I6) (.refl _)
 refine B3 (lr (fun u7 hu7=>sv rfl (A3 (B5 ?_))))
 cases h
 exact B0 (.inr rfl) (C1 (B4 rfl) I6) (.refl _)
 refine B3 (A7 (lr (fun u8 hu8=>sv rfl (A3 (cc rfl h (fun c3 h=> ?_) (fun c3 h=> ?_))))))
 refine lr (fun u9 hu9=>sv rfl (A3 (B5 ?_)))
 cases h
 exact B0 (.inr rfl) (C1 (B4 rfl) I6) (.refl _)
 refine B3 (A7 (lr (fun u10 hu10=>sv rfl (sv rfl (sv rfl (A3 (cc rfl h (fun c4 h=> ?_) (fun c4 h=> ?_))))))))
 refine lr (fun u11 hu11=>sv rfl (A3 (B5 ?_)))
 cases h
 exact B0 (.inr rfl) (C1 (B4 rfl) I6) (.refl _)
 refine B3 (A7 (lr (fun u12 hu12=>sv rfl (sv rfl (sv rfl (A3 (cc rfl h (fun c5 h=> ?_) (fun c5 h=> ?_))))))))
 refine lr (fun u13 hu13=>sv rfl (A3 (B5 ?_)))
 cases h
 exact B0 (.inr rfl) (C1 (B4 rfl) I6) (.refl _)
 refine B3 (lr (fun u14 hu14=>sv rfl (A3 (B5 ?_))))
 cases h
 exact B0 (.inr rfl) (C1 (B4 rfl) I6) (.refl _)
noncomputable def A1m (p1:(List Int))(x1:Int):Option (Stp Int (Sum Unit Int)):=
  cond (decide (x1< (p1.length:Int))) ((F3 p1 x1).bind fun v1=>cond (v1 !=0) (some (.out (.inr v1))) (some (.go (w64 (x1+1))))) (some (.out (.inl ())))
noncomputable def A9r (p1:(List Int)):Option Int:=
  thenS (loop (A1m p1) 0) (fun _=>some 0) (fun r=>some r)
theorem C0n (p1:(List Int))(r:Int)(h:A9r p1=some r):PCall Tryz.prog 142 [(.list (List.map A5 p1))] (i64 r):=by
 refine E1 (fk Tryz.func142 Tryz.ntmps142 m0 (by with_unfolding_all rfl)) (nl rfl) ?_
 unfold A9r at h
 refine A9 (s0:=⟨T [(0,(.d _))],G []⟩) (sbr rfl rfl) ?_
 refine lr (fun u1 hu1=>sv rfl (A3 (lr (fun u2 hu2=>sv rfl (A3 (A7 (lr (fun u3 hu3=>sv rfl (sd rfl (F1 rfl) (sv rfl (A3 (js h fun z1 hz1 h=>F2 (fun s=> ∃(y1:Unit) (g1:Unit),z1= .inl y1∧Sb ⟨T [(3,(di 0))],G []⟩ s) ?_ ?_))))))))))))
 refine A8 (F0 (A1m p1) (fun (x1:Int) (g2:Unit)=>⟨T [(3,(di 0)),(6,(dl A5 p1)),(7,(di (p1.length:Int))),(8,(di x1))],G []⟩) 0 () _ hz1 (sbr rfl rfl) ?_)
 intro x1 g2 z2 hz2 ez2
 unfold A1m at hz2
 refine lr (fun u4 hu4=>sv rfl (A3 (A7 (cc rfl hz2 (fun c1 hz2=> ?_) (fun c1 hz2=> ?_)))))
 refine B3 (A7 (A8 (lr (fun u5 hu5=>bs hz2 fun v1 hv1 hz2=>sd rfl (G6 rfl rfl hv1 rfl) (sd rfl (E9 rfl hv1 rfl) (sv rfl (A3 (lr (fun u6 hu6=>sv rfl (sv rfl (sv rfl (A3 (cc rfl hz2 (fun c2 hz2=> ?_) (fun c2 hz2=> ?_))))))))))))))
 refine lr (fun u7 hu7=>sv rfl (sv rfl (A3 (B5 ?_))))
 cases hz2
 obtain rfl:=ez2 _ rfl
 refine ⟨nofun,F8 ?_⟩
 rw [Sum.elim_inr]at h
 cases h
 exact B0 (.inr rfl) (C1 (B4 rfl) I6) (.refl _)
 refine B3 (H9 (B8 fun u8 hu8=>sv rfl (sv rfl (A3 (H4 ?_)))))
 cases hz2
 exact ⟨rfl,(),(sbr rfl rfl)⟩
 refine C6 rfl ?_
 cases hz2
 obtain rfl:=ez2 _ rfl
 refine ⟨nofun,C2 rfl (l_j ?_)⟩
 exact ⟨_,(),rfl,(sbr rfl rfl)⟩
 rintro _ ⟨y1,g1,rfl,q1⟩
 rw [Sum.elim_inl]at h
 refine A9 q1 (lr (fun u9 hu9=>sv rfl (sv rfl (A3 (B5 ?_)))))
 cases h
 exact B0 (.inr rfl) (C1 (B4 rfl) I6) (.refl _)
noncomputable def A0p (p1:Pass)(p2:Pass):Option Int:=
  (A2a p1.From p2.From).bind fun v1=>(A3w p1.Zone_ p2.Zone_).bind fun v2=>(A9r [v1,v2]).bind fun v3=>some v3
theorem A4e (p1:Pass)(p2:Pass)(r:Int)(h:A0p p1 p2=some r):PCall Tryz.prog 141 [(.agg (J1 p1)),(.agg (J1 p2))] (i64 r):=by
 refine E1 (fk Tryz.func141 Tryz.ntmps141 (fun r=>if r==1 then [1010]else []) (by with_unfolding_all rfl)) (nl rfl) ?_
 unfold A0p at h
 refine A9 (s0:=⟨T [(0,(.d _)),(1,(.d _))],G []⟩) (sbr rfl rfl) ?_
 refine lr (fun u1 hu1=>sn rfl rfl (sn rfl rfl (sv rfl (A3 (A7 (N6 rfl fun u2 hu2=>sp rfl rfl (sl rfl (gq rfl) rfl (sp rfl rfl (sl rfl G_hit rfl (bs h fun v1 hv1 h=>C4 rfl rfl A4 (B2l _ _ _ hv1) (.inl rfl) (sp rfl rfl (sl rfl (gq rfl) rfl (sp rfl rfl (sl rfl G_hit rfl (bs h fun v2 hv2 h=>C4 rfl rfl A4 (B4c _ _ _ hv2) (.inl rfl) (F4 (dl A5 [v1,v2]) rfl rfl (bs h fun v3 hv3 h=>C4 rfl rfl A4 (C0n _ _ hv3) (.inl rfl) (sv rfl (A3 (B5 ?_))))))))))))))))))))
 cases h
 exact B0 (.inr rfl) (C1 (B4 rfl) I6) (.refl _)
noncomputable def B7 (p2:Int)(x2:(Int× (List Pass))):Option (Stp (Int× (List Pass)) (List Pass)):=
  ((cond (decide (x2.1>p2)) (F3 x2.2 x2.1) (some default))).bind fun v1=>((cond (decide (x2.1>p2)) (F3 x2.2 (w64 (x2.1 - 1))) (some default))).bind fun v2=>((cond (decide (x2.1>p2)) (A0p v1 v2) (some default))).bind fun v3=>cond ((decide (x2.1>p2))&& (decide (v3<0))) ((F3 x2.2 (w64 (x2.1 - 1))).bind fun v4=>(F3 x2.2 x2.1).bind fun v5=>(F3 x2.2 x2.1).bind fun v6=>(F3 (B2y x2.2 x2.1 v4) (w64 (x2.1 - 1))).bind fun v7=>some (.go ((w64 (x2.1 - 1)),(B2y (B2y x2.2 x2.1 v4) (w64 (x2.1 - 1)) v5)))) (some (.out x2.2))
noncomputable def D1 (p2:Int)(p3:Int)(x1:(Int× (List Pass))):Option (Stp (Int× (List Pass)) (List Pass)):=
  cond (decide (x1.1<p3)) ((loop (B7 p2) (x1.1,x1.2)).bind fun y1=>some (.go ((w64 (x1.1+1)),y1))) (some (.out (x1.2)))
noncomputable def C5 (p1:(List Pass))(p2:Int)(p3:Int):Option (List Pass):=
  loop (D1 p2 p3) ((w64 (p2+1)),p1)
theorem P9 (p1:(List Pass))(p2:Int)(p3:Int)(r:(List Pass))(h:C5 p1 p2 p3=some r):MCall Tryz.prog 264 [(.sl (900000,0)),(di p2),(di p3),(.d (.fn (.func 141) [] []))] [(.arr 95 4 (List.map J1 p1))] (.d (.tup [])) [some (.arr 95 4 (List.map J1 r))] []:=by
 refine A95 (fk Tryz.func264 Tryz.ntmps264 m0 (by with_unfolding_all rfl)) rfl (nl rfl) ?_
 unfold C5 at h
 refine A9 (s0:=⟨T [(0,(.sl _)),(1,(.d _)),(2,(.d _)),(3,(.d _))],G [((900000,0),some _)]⟩) (sbr rfl rfl) ?_
 refine lr (fun u1 hu1=>sv rfl (sv rfl (sv rfl (A3 (A8 (F0 (D1 p2 p3) (fun (x1:(Int× (List Pass))) (g1:Unit)=>⟨T [(0,(.sl (900000,0))),(1,(di p2)),(2,(di p3)),(3,(.d (.fn (.func 141) [] []))),(8,(di x1.1))],G [((900000,0),some (.arr 95 4 (List.map J1 x1.2)))]⟩) ((w64 (p2+1)),p1) () _ h (sbr rfl rfl) ?_))))))
 intro x1 g1 z1 hz1 ez1
 unfold D1 at hz1
 refine A7 (lr (fun u2 hu2=>sv rfl (sv rfl (sv rfl (A3 (cc rfl hz1 (fun c1 hz1=> ?_) (fun c1 hz1=> ?_)))))))
 refine B3 (A7 (A8 (lr (fun u3 hu3=>sv rfl (sv rfl (A3 (bs hz1 fun y1 hy1 hz1=>F2 (fun s=> ∃g2:Unit,Sb ⟨T [(0,(.sl (900000,0))),(1,(di p2)),(2,(di p3)),(3,(.d (.fn (.func 141) [] []))),(8,(di x1.1))],G [((900000,0),some (.arr 95 4 (List.map J1 y1)))]⟩ s) ?_ ?_)))))))
 refine A8 (F0 (B7 p2) (fun (x2:(Int× (List Pass))) (g3:Unit)=>⟨T [(0,(.sl (900000,0))),(1,(di p2)),(2,(di p3)),(3,(.d (.fn (.func 141) [] []))),(8,(di x1.1)),(9,(di x2.1))],G [((900000,0),some (.arr 95 4 (List.map J1 x2.2)))]⟩) (x1.1,x1.2) () _ hy1 (sbr rfl rfl) ?_)
 intro x2 g3 z2 hz2 ez2
 unfold B7 at hz2
 refine A7 (A7 (N6 rfl fun u4 hu4=>sv rfl (sv rfl (sv rfl (sv rfl (gt rfl (fun _=>rfl) (X7 _ (.sl _) rfl (A4y rfl) (fun _=>rfl) (gt rfl (fun _=>rfl) (bs hz2 fun v1 hv1 hz2=>X7 _ (.aptr _ _ _ _) rfl (A4y rfl) (fun w4=>(A2j (A6 w4) (A6 w4) G_hit (E8 w4 hv1))) (gt rfl (fun w5=>(A13 (A6 w5) G_hit (E8 w5 hv1) rfl rfl)) (X7 _ (.sl _) rfl (A4y rfl) (fun _=>rfl) (gt rfl (fun _=>rfl) (gt rfl (vb rfl rfl rfl) (bs hz2 fun v2 hv2 hz2=>X7 _ (.aptr _ _ _ _) rfl (A4y rfl) (fun w9=>(A2j (A6 w9) (A6 w9) G_hit (E8 w9 hv2))) (gt rfl (fun w10=>(A13 (A6 w10) G_hit (E8 w10 hv2) rfl rfl)) (bs hz2 fun v3 hv3 hz2=> ?_))))))))))))))))
 refine U1 _ (i64 v3) (A4y rfl) (fun w11=>⟨_,[(.d (.agg (J1 v1))),(.d (.agg (J1 v2)))],_,_,(by simp only [A6 w11];rfl),rfl,A4,A4e _ _ _ (E8 w11 hv3),(.inl rfl)⟩) ?_
 refine gt rfl (vb rfl rfl rfl) (sa rfl rfl rfl (A3 (cc rfl hz2 (fun c2 hz2=> ?_) (fun c2 hz2=> ?_))))
 refine B3 (A7 (A8 (A9 (s0:=⟨T [(0,(.sl _)),(1,(.d _)),(2,(.d _)),(3,(.d _)),(8,(.d _)),(9,(.d _))],G [((900000,0),some _)]⟩) (sbr rfl rfl) ?_)))
 refine N6 rfl fun u5 hu5=>ss rfl (sv rfl (ss rfl (sv rfl (sv rfl (ss rfl (sv rfl (sv rfl (bs hz2 fun v4 hv4 hz2=>F4 (.aptr _ _ _ _) rfl (A2j rfl rfl G_hit hv4) (sd rfl (A13 rfl G_hit hv4 rfl rfl) (ss rfl (sv rfl (bs hz2 fun v5 hv5 hz2=>F4 (.aptr _ _ _ _) rfl (A2j rfl rfl G_hit hv5) (sd rfl (A13 rfl G_hit hv5 rfl rfl) (bs hz2 fun v6 hv6 hz2=>F4 (.aptr _ _ _ _) rfl (A2j rfl rfl G_hit hv6) (A6f J1 _ _ _ (x2.1) _ v4 (J1 v4) rfl rfl rfl G_hit hv6 (nl rfl) rfl (bs hz2 fun v7 hv7 hz2=>F4 (.aptr _ _ _ _) rfl (A2j rfl rfl G_hit hv7) (A6f J1 _ _ _ ((w64 (x2.1 - 1))) _ v5 (J1 v5) rfl rfl rfl G_hit hv7 (nl rfl) rfl (A3 (H9 (A9 (s0:=⟨T [(0,(.sl _)),(1,(.d _)),(2,(.d _)),(3,(.d _)),(8,(.d _)),(9,(.d _))],G [((900000,0),some _)]⟩) (sbr rfl rfl) ?_))))))))))))))))))))
 refine B8 fun u6 hu6=>sv rfl (sv rfl (sv rfl (A3 (H4 ?_))))
 cases hz2
 exact ⟨rfl,(),(sbr rfl rfl)⟩
 refine C6 rfl ?_
 cases hz2
 obtain rfl:=ez2 _ rfl
 refine ⟨nofun,C2 rfl (l_j ?_)⟩
 exact ⟨(),(sbr rfl rfl)⟩
 rintro _ ⟨g2,q1⟩
 refine H9 (A9 q1 (B8 fun u7 hu7=>sv rfl (sv rfl (sv rfl (A3 (H4 ?_))))))
 cases hz1
 exact ⟨rfl,(),(sbr rfl rfl)⟩
 refine C6 rfl ?_
 cases hz1
 obtain rfl:=ez1 _ rfl
 refine ⟨nofun,C2 rfl (H4 ?_)⟩
 exact A8y (.inl rfl) [] B43 (.refl _) ⟨⟨G_hit,L0⟩,trivial⟩
noncomputable def D8 (p2:Int)(p3:Int)(p4:Int)(x1:(Int× (List Pass))):Option (Stp (Int× (List Pass)) (List Pass)):=
  cond (decide (x1.1<p4)) ((F3 x1.2 (w64 (p3+x1.1))).bind fun v1=>(F3 x1.2 (w64 (p2+x1.1))).bind fun v2=>(F3 x1.2 (w64 (p2+x1.1))).bind fun v3=>(F3 (B2y x1.2 (w64 (p2+x1.1)) v1) (w64 (p3+x1.1))).bind fun v4=>some (.go ((w64 (x1.1+1)),(B2y (B2y x1.2 (w64 (p2+x1.1)) v1) (w64 (p3+x1.1)) v2)))) (some (.out (x1.2)))
noncomputable def D2 (p1:(List Pass))(p2:Int)(p3:Int)(p4:Int):Option (List Pass):=
  loop (D8 p2 p3 p4) (0,p1)
theorem L5 (p1:(List Pass))(p2:Int)(p3:Int)(p4:Int)(r:(List Pass))(h:D2 p1 p2 p3 p4=some r):MCall Tryz.prog 290 [(.sl (900000,0)),(di p2),(di p3),(di p4),(.d (.fn (.func 141) [] []))] [(.arr 95 4 (List.map J1 p1))] (.d (.tup [])) [some (.arr 95 4 (List.map J1 r))] []:=by
 refine A95 (fk Tryz.func290 Tryz.ntmps290 m0 (by with_unfolding_all rfl)) rfl (nl rfl) ?_
 unfold D2 at h
 refine A9 (s0:=⟨T [(0,(.sl _)),(1,(.d _)),(2,(.d _)),(3,(.d _)),(4,(.d _))],G [((900000,0),some _)]⟩) (sbr rfl rfl) ?_
 refine lr (fun u1 hu1=>sv rfl (A3 (A8 (F0 (D8 p2 p3 p4) (fun (x1:(Int× (List Pass))) (g1:Unit)=>⟨T [(0,(.sl (900000,0))),(1,(di p2)),(2,(di p3)),(3,(di p4)),(10,(di x1.1))],G [((900000,0),some (.arr 95 4 (List.map J1 x1.2)))]⟩) (0,p1) () _ h (sbr rfl rfl) ?_))))
 intro x1 g1 z1 hz1 ez1
 unfold D8 at hz1
 refine A7 (lr (fun u2 hu2=>sv rfl (sv rfl (sv rfl (A3 (cc rfl hz1 (fun c1 hz1=> ?_) (fun c1 hz1=> ?_)))))))
 refine B3 (A7 (A8 (N6 rfl fun u3 hu3=>ss rfl (sv rfl (sv rfl (sv rfl (ss rfl (sv rfl (sv rfl (sv rfl (ss rfl (sv rfl (sv rfl (sv rfl (bs hz1 fun v1 hv1 hz1=>F4 (.aptr _ _ _ _) rfl (A2j rfl rfl G_hit hv1) (sd rfl (A13 rfl G_hit hv1 rfl rfl) (ss rfl (sv rfl (sv rfl (sv rfl (bs hz1 fun v2 hv2 hz1=>F4 (.aptr _ _ _ _) rfl (A2j rfl rfl G_hit hv2) (sd rfl (A13 rfl G_hit hv2 rfl rfl) (bs hz1 fun v3 hv3 hz1=>F4 (.aptr _ _ _ _) rfl (A2j rfl rfl G_hit hv3) (A6f J1 _ _ _ ((w64 (p2+x1.1))) _ v1 (J1 v1) rfl rfl rfl G_hit hv3 (nl rfl) rfl (bs hz1 fun v4 hv4 hz1=>F4 (.aptr _ _ _ _) rfl (A2j rfl rfl G_hit hv4) (A6f J1 _ _ _ ((w64 (p3+x1.1))) _ v2 (J1 v2) rfl rfl rfl G_hit hv4 (nl rfl) rfl (A3 (H9 (A9 (s0:=⟨T [(0,(.sl _)),(1,(.d _)),(2,(.d _)),(3,(.d _)),(10,(.d _))],G [((900000,0),some _)]⟩) (sbr rfl rfl) ?_)))))))))))))))))))))))))))))
 refine B8 fun u4 hu4=>sv rfl (sv rfl (sv rfl (A3 (H4 ?_))))
 cases hz1
 exact ⟨rfl,(),(sbr rfl rfl)⟩
 refine C6 rfl ?_
 cases hz1
 obtain rfl:=ez1 _ rfl
 refine ⟨nofun,C2 rfl (H4 ?_)⟩
 exact A8y (.inl rfl) [] B43 (.refl _) ⟨⟨G_hit,L0⟩,trivial⟩
noncomputable def E0 (p3:Int)(x1:(Int×Int× (List Pass))):Option (Stp (Int×Int× (List Pass)) (Int× (List Pass))):=
  cond (x1.1 !=x1.2.1) (cond (decide (x1.1>x1.2.1)) ((D2 x1.2.2 (w64 (p3 - x1.1)) p3 x1.2.1).bind fun v1=>some (.go ((w64 (x1.1 - x1.2.1)),x1.2.1,v1))) ((D2 x1.2.2 (w64 (p3 - x1.1)) (w64 ((w64 (p3+x1.2.1)) - x1.1)) x1.1).bind fun v2=>some (.go (x1.1,(w64 (x1.2.1 - x1.1)),v2)))) (some (.out (x1.1,x1.2.2)))
noncomputable def G2 (p1:(List Pass))(p2:Int)(p3:Int)(p4:Int):Option (List Pass):=
  (loop (E0 p3) ((w64 (p3 - p2)),(w64 (p4 - p3)),p1)).bind fun y1=>(D2 y1.2 (w64 (p3 - y1.1)) p3 y1.1).bind fun v3=>some v3
theorem A2b (p1:(List Pass))(p2:Int)(p3:Int)(p4:Int)(r:(List Pass))(h:G2 p1 p2 p3 p4=some r):MCall Tryz.prog 274 [(.sl (900000,0)),(di p2),(di p3),(di p4),(.d (.fn (.func 141) [] []))] [(.arr 95 4 (List.map J1 p1))] (.d (.tup [])) [some (.arr 95 4 (List.map J1 r))] []:=by
 refine A95 (fk Tryz.func274 Tryz.ntmps274 (fun r=>if r==4 then [1004007]else if r==6 then [1006011]else if r==8 then [1008007]else []) (by with_unfolding_all rfl)) rfl (nl rfl) ?_
 unfold G2 at h
 refine A9 (s0:=⟨T [(0,(.sl _)),(1,(.d _)),(2,(.d _)),(3,(.d _)),(4,(.d _))],G [((900000,0),some _)]⟩) (sbr rfl rfl) ?_
 refine lr (fun u1 hu1=>sv rfl (sv rfl (sv rfl (sv rfl (A3 (lr (fun u2 hu2=>sv rfl (sv rfl (sv rfl (sv rfl (A3 (A7 (bs h fun y1 hy1 h=>F2 (fun s=> ∃g1:Unit,Sb ⟨T [(0,(.sl (900000,0))),(2,(di p3)),(4,(.d (.fn (.func 141) [] []))),(10,(di y1.1))],G [((900000,0),some (.arr 95 4 (List.map J1 y1.2)))]⟩ s) ?_ ?_)))))))))))))
 refine A8 (F0 (E0 p3) (fun (x1:(Int×Int× (List Pass))) (g2:Unit)=>⟨T [(0,(.sl (900000,0))),(2,(di p3)),(4,(.d (.fn (.func 141) [] []))),(10,(di x1.1)),(11,(di x1.2.1))],G [((900000,0),some (.arr 95 4 (List.map J1 x1.2.2)))]⟩) ((w64 (p3 - p2)),(w64 (p4 - p3)),p1) () _ hy1 (sbr rfl rfl) ?_)
 intro x1 g2 z1 hz1 ez1
 unfold E0 at hz1
 refine A7 (lr (fun u3 hu3=>sv rfl (sv rfl (sv rfl (A3 (cc rfl hz1 (fun c1 hz1=> ?_) (fun c1 hz1=> ?_)))))))
 refine B3 (A8 (lr (fun u4 hu4=>sv rfl (sv rfl (sv rfl (A3 (cc rfl hz1 (fun c2 hz1=> ?_) (fun c2 hz1=> ?_))))))))
 refine lr (fun u5 hu5=>ss rfl (sv rfl (sv rfl (sv rfl (sv rfl (sv rfl (sv rfl (bs hz1 fun v1 hv1 hz1=>C1z (v:= .d (.tup [])) (us:= [(900000,0)]) (C2r (L5 _ _ _ _ _ hv1) [(900000,0)] [(900000,0)] _ (((900000,0),some (.arr 95 4 (List.map J1 v1)))::_) rfl A4l (F9 B5v (F9 A8m (F9 A8m (F9 A8m (F9 A8m A5j))))) (V3 G_hit A21) ⟨⟨_,G_hit, .of rfl⟩,trivial⟩ (fun _ h=>h) nd1 rfl rfl rfl) (A3 (B8 fun u6 hu6=>sv rfl (sv rfl (sv rfl (sv rfl (A3 (H9 (H4 ?_))))))))))))))))
 cases hz1
 exact ⟨rfl,(),(sbr rfl rfl)⟩
 refine lr (fun u7 hu7=>ss rfl (sv rfl (sv rfl (sv rfl (sv rfl (sv rfl (sv rfl (sv rfl (sv rfl (sv rfl (sv rfl (bs hz1 fun v2 hv2 hz1=>C1z (v:= .d (.tup [])) (us:= [(900000,0)]) (C2r (L5 _ _ _ _ _ hv2) [(900000,0)] [(900000,0)] _ (((900000,0),some (.arr 95 4 (List.map J1 v2)))::_) rfl A4l (F9 B5v (F9 A8m (F9 A8m (F9 A8m (F9 A8m A5j))))) (V3 G_hit A21) ⟨⟨_,G_hit, .of rfl⟩,trivial⟩ (fun _ h=>h) nd1 rfl rfl rfl) (A3 (A9 (s0:=⟨T [(0,(.sl _)),(2,(.d _)),(4,(.d _)),(10,(.d _)),(11,(.d _))],G [((900000,0),some _)]⟩) (sbr rfl rfl) ?_))))))))))))))
 refine B8 fun u8 hu8=>sv rfl (sv rfl (sv rfl (sv rfl (A3 (H9 (H4 ?_))))))
 cases hz1
 exact ⟨rfl,(),(sbr rfl rfl)⟩
 refine C6 rfl ?_
 cases hz1
 obtain rfl:=ez1 _ rfl
 refine ⟨nofun,C2 rfl (l_j ?_)⟩
 exact ⟨(),(sbr rfl rfl)⟩
 rintro _ ⟨g1,q1⟩
 refine A9 q1 (B8 fun u9 hu9=>ss rfl (sv rfl (sv rfl (sv rfl (sv rfl (sv rfl (sv rfl (bs h fun v3 hv3 h=>C1z (v:= .d (.tup [])) (us:= [(900000,0)]) (C2r (L5 _ _ _ _ _ hv3) [(900000,0)] [(900000,0)] _ (((900000,0),some (.arr 95 4 (List.map J1 v3)))::_) rfl A4l (F9 B5v (F9 A8m (F9 A8m (F9 A8m (F9 A8m A5j))))) (V3 G_hit A21) ⟨⟨_,G_hit, .of rfl⟩,trivial⟩ (fun _ h=>h) nd1 rfl rfl rfl) (A3 (H4 ?_))))))))))
 cases h
 exact A8y (.inl rfl) [] B43 (.refl _) ⟨⟨G_hit,L0⟩,trivial⟩
noncomputable def D6 (p1:(List Pass))(p2:Int)(p3:Int)(p4:Int)(x5:(Int×Int)):Option (Stp (Int×Int) Int):=
  cond (decide (x5.1<x5.2)) ((F3 p1 (w64 ((w64 ((w64 ((w64 ((IntKind.wrap .u64 (w64 (p2+p4))).fdiv (2^ (min (1:Int).toNat (IntKind.bits .u64)))))+p3)) - 1)) - (w64 ((IntKind.wrap .u64 (w64 (x5.1+x5.2))).fdiv (2^ (min (1:Int).toNat (IntKind.bits .u64)))))))).bind fun v15=>(F3 p1 (w64 ((IntKind.wrap .u64 (w64 (x5.1+x5.2))).fdiv (2^ (min (1:Int).toNat (IntKind.bits .u64)))))).bind fun v16=>(A0p v15 v16).bind fun v17=>cond (!(decide (v17<0))) (some (.go ((w64 ((w64 ((IntKind.wrap .u64 (w64 (x5.1+x5.2))).fdiv (2^ (min (1:Int).toNat (IntKind.bits .u64)))))+1)),x5.2))) (some (.go (x5.1,(w64 ((IntKind.wrap .u64 (w64 (x5.1+x5.2))).fdiv (2^ (min (1:Int).toNat (IntKind.bits .u64))))))))) (some (.out x5.1))
noncomputable def E3 (y3:Int)(x4:(Int× (List Pass))):Option (Stp (Int× (List Pass)) (List Pass)):=
  cond (decide (x4.1>y3)) ((F3 x4.2 (w64 (x4.1 - 1))).bind fun v11=>(F3 x4.2 x4.1).bind fun v12=>(F3 x4.2 x4.1).bind fun v13=>(F3 (B2y x4.2 x4.1 v11) (w64 (x4.1 - 1))).bind fun v14=>some (.go ((w64 (x4.1 - 1)),(B2y (B2y x4.2 x4.1 v11) (w64 (x4.1 - 1)) v12)))) (some (.out x4.2))
noncomputable def E4 (p1:(List Pass))(p3:Int)(x3:(Int×Int)):Option (Stp (Int×Int) Int):=
  cond (decide (x3.1<x3.2)) ((F3 p1 p3).bind fun v8=>(F3 p1 (w64 ((IntKind.wrap .u64 (w64 (x3.1+x3.2))).fdiv (2^ (min (1:Int).toNat (IntKind.bits .u64)))))).bind fun v9=>(A0p v8 v9).bind fun v10=>cond (!(decide (v10<0))) (some (.go ((w64 ((w64 ((IntKind.wrap .u64 (w64 (x3.1+x3.2))).fdiv (2^ (min (1:Int).toNat (IntKind.bits .u64)))))+1)),x3.2))) (some (.go (x3.1,(w64 ((IntKind.wrap .u64 (w64 (x3.1+x3.2))).fdiv (2^ (min (1:Int).toNat (IntKind.bits .u64))))))))) (some (.out x3.1))
noncomputable def D7 (y1:Int)(x2:(Int× (List Pass))):Option (Stp (Int× (List Pass)) (List Pass)):=
  cond (decide (x2.1< (w64 (y1 - 1)))) ((F3 x2.2 (w64 (x2.1+1))).bind fun v4=>(F3 x2.2 x2.1).bind fun v5=>(F3 x2.2 x2.1).bind fun v6=>(F3 (B2y x2.2 x2.1 v4) (w64 (x2.1+1))).bind fun v7=>some (.go ((w64 (x2.1+1)),(B2y (B2y x2.2 x2.1 v4) (w64 (x2.1+1)) v5)))) (some (.out x2.2))
noncomputable def E5 (p1:(List Pass))(p2:Int)(x1:(Int×Int)):Option (Stp (Int×Int) Int):=
  cond (decide (x1.1<x1.2)) ((F3 p1 (w64 ((IntKind.wrap .u64 (w64 (x1.1+x1.2))).fdiv (2^ (min (1:Int).toNat (IntKind.bits .u64)))))).bind fun v1=>(F3 p1 p2).bind fun v2=>(A0p v1 v2).bind fun v3=>cond (decide (v3<0)) (some (.go ((w64 ((w64 ((IntKind.wrap .u64 (w64 (x1.1+x1.2))).fdiv (2^ (min (1:Int).toNat (IntKind.bits .u64)))))+1)),x1.2))) (some (.go (x1.1,(w64 ((IntKind.wrap .u64 (w64 (x1.1+x1.2))).fdiv (2^ (min (1:Int).toNat (IntKind.bits .u64))))))))) (some (.out x1.1))
noncomputable def C0 (rc:((List Pass)→Int→Int→Int→Option (List Pass)))(p1:(List Pass))(p2:Int)(p3:Int)(p4:Int):Option (List Pass):=
  cond ((w64 (p3 - p2))==1) ((loop (E5 p1 p2) (p3,p4)).bind fun y1=>(loop (D7 y1) (p2,p1)).bind fun y2=>some y2) (cond ((w64 (p4 - p3))==1) ((loop (E4 p1 p3) (p2,p3)).bind fun y3=>(loop (E3 y3) (p3,p1)).bind fun y4=>some y4) ((cond (decide (p3>(w64 ((IntKind.wrap .u64 (w64 (p2+p4))).fdiv (2^ (min (1:Int).toNat (IntKind.bits .u64))))))) (some ((w64 ((w64 ((w64 ((IntKind.wrap .u64 (w64 (p2+p4))).fdiv (2^ (min (1:Int).toNat (IntKind.bits .u64)))))+p3)) - p4)),(w64 ((IntKind.wrap .u64 (w64 (p2+p4))).fdiv (2^ (min (1:Int).toNat (IntKind.bits .u64))))))) (some (p2,p3))).bind fun y5=>(loop (D6 p1 p2 p3 p4) (y5.1,y5.2)).bind fun y6=>(cond ((decide (y6<p3))&& (decide (p3< (w64 ((w64 ((w64 ((IntKind.wrap .u64 (w64 (p2+p4))).fdiv (2^ (min (1:Int).toNat (IntKind.bits .u64)))))+p3)) - y6))))) ((G2 p1 y6 p3 (w64 ((w64 ((w64 ((IntKind.wrap .u64 (w64 (p2+p4))).fdiv (2^ (min (1:Int).toNat (IntKind.bits .u64)))))+p3)) - y6))).bind fun v18=>some v18) (some p1)).bind fun y7=>(cond ((decide (p2<y6))&& (decide (y6< (w64 ((IntKind.wrap .u64 (w64 (p2+p4))).fdiv (2^ (min (1:Int).toNat (IntKind.bits .u64)))))))) ((rc y7 p2 y6 (w64 ((IntKind.wrap .u64 (w64 (p2+p4))).fdiv (2^ (min (1:Int).toNat (IntKind.bits .u64)))))).bind fun v19=>some v19) (some y7)).bind fun y8=>cond ((decide ((w64 ((IntKind.wrap .u64 (w64 (p2+p4))).fdiv (2^ (min (1:Int).toNat (IntKind.bits .u64)))))< (w64 ((w64 ((w64 ((IntKind.wrap .u64 (w64 (p2+p4))).fdiv (2^ (min (1:Int).toNat (IntKind.bits .u64)))))+p3)) - y6))))&& (decide ((w64 ((w64 ((w64 ((IntKind.wrap .u64 (w64 (p2+p4))).fdiv (2^ (min (1:Int).toNat (IntKind.bits .u64)))))+p3)) - y6))<p4))) ((rc y8 (w64 ((IntKind.wrap .u64 (w64 (p2+p4))).fdiv (2^ (min (1:Int).toNat (IntKind.bits .u64))))) (w64 ((w64 ((w64 ((IntKind.wrap .u64 (w64 (p2+p4))).fdiv (2^ (min (1:Int).toNat (IntKind.bits .u64)))))+p3)) - y6)) p4).bind fun v20=>some v20) (some y8)))
noncomputable def H8:Nat→(List Pass)→Int→Int→Int→Option (List Pass)
  |0=>fun _ _ _ _=>none
  |n+1=>C0 (H8 n)
noncomputable def I5:(List Pass)→Int→Int→Int→Option (List Pass):=H8 100
theorem A1a (rc:((List Pass)→Int→Int→Int→Option (List Pass)))(rc_ok: ∀(p1:(List Pass)) (p2:Int) (p3:Int) (p4:Int) (r:(List Pass)),rc p1 p2 p3 p4=some r→MCall Tryz.prog 265 [(.sl (900000,0)),(di p2),(di p3),(di p4),(.d (.fn (.func 141) [] []))] [(.arr 95 4 (List.map J1 p1))] (.d (.tup [])) [some (.arr 95 4 (List.map J1 r))] [])(p1:(List Pass))(p2:Int)(p3:Int)(p4:Int)(r:(List Pass))(h:C0 rc p1 p2 p3 p4=some r):MCall Tryz.prog 265 [(.sl (900000,0)),(di p2),(di p3),(di p4),(.d (.fn (.func 141) [] []))] [(.arr 95 4 (List.map J1 p1))] (.d (.tup [])) [some (.arr 95 4 (List.map J1 r))] []:=by
 refine A95 (fk Tryz.func265 Tryz.ntmps265 (fun r=>if r==40 then [1040005]else if r==42 then [1042005]else if r==44 then [1044005]else []) (by with_unfolding_all rfl)) rfl (nl rfl) ?_
 unfold C0 at h
 refine A9 (s0:=⟨T [(0,(.sl _)),(1,(.d _)),(2,(.d _)),(3,(.d _)),(4,(.d _))],G [((900000,0),some _)]⟩) (sbr rfl rfl) ?_
 refine A7 (lr (fun u1 hu1=>sv rfl (sv rfl (sv rfl (sv rfl (A3 (cc rfl h (fun c1 h=> ?_) (fun c1 h=> ?_))))))))
 refine lr (fun u2 hu2=>sv rfl (sv rfl (A3 (lr (fun u3 hu3=>sv rfl (sv rfl (A3 (A7 (bs h fun y1 hy1 h=>F2 (fun s=> ∃g1:Unit,Sb ⟨T [(0,(.sl (900000,0))),(1,(di p2)),(10,(di y1))],G [((900000,0),some (.arr 95 4 (List.map J1 p1)))]⟩ s) ?_ ?_)))))))))
 refine A8 (F0 (E5 p1 p2) (fun (x1:(Int×Int)) (g2:Unit)=>⟨T [(0,(.sl (900000,0))),(1,(di p2)),(4,(.d (.fn (.func 141) [] []))),(10,(di x1.1)),(11,(di x1.2))],G [((900000,0),some (.arr 95 4 (List.map J1 p1)))]⟩) (p3,p4) () _ hy1 (sbr rfl rfl) ?_)
 intro x1 g2 z1 hz1 ez1
 unfold E5 at hz1
 refine A7 (lr (fun u4 hu4=>sv rfl (sv rfl (sv rfl (A3 (cc rfl hz1 (fun c2 hz1=> ?_) (fun c2 hz1=> ?_)))))))
 refine B3 (A8 (lr (fun u5 hu5=>sv rfl (sv rfl (sv rfl (sv rfl (sv rfl (sv rfl (sv rfl (A3 (A7 (N6 rfl fun u6 hu6=>sv rfl (ss rfl (sv rfl (bs hz1 fun v1 hv1 hz1=>F4 (.aptr _ _ _ _) rfl (A2j rfl rfl G_hit hv1) (sd rfl (A13 rfl G_hit hv1 rfl rfl) (ss rfl (sv rfl (bs hz1 fun v2 hv2 hz1=>F4 (.aptr _ _ _ _) rfl (A2j rfl rfl G_hit hv2) (sd rfl (A13 rfl G_hit hv2 rfl rfl) (bs hz1 fun v3 hv3 hz1=>C4 rfl rfl A4 (A4e _ _ _ hv3) (.inl rfl) (sv rfl (A3 (cc rfl hz1 (fun c3 hz1=> ?_) (fun c3 hz1=> ?_)))))))))))))))))))))))))
 refine A9 (s0:=⟨T [(0,(.sl _)),(1,(.d _)),(4,(.d _)),(11,(.d _)),(12,(.d _))],G [((900000,0),some _)]⟩) (sbr rfl rfl) ?_
 refine B8 fun u7 hu7=>sv rfl (sv rfl (sv rfl (A3 (H9 (H4 ?_)))))
 cases hz1
 exact ⟨rfl,(),(sbr rfl rfl)⟩
 refine A9 (s0:=⟨T [(0,(.sl _)),(1,(.d _)),(4,(.d _)),(10,(.d _)),(12,(.d _))],G [((900000,0),some _)]⟩) (sbr rfl rfl) ?_
 refine B8 fun u8 hu8=>sv rfl (sv rfl (A3 (H9 (H4 ?_))))
 cases hz1
 exact ⟨rfl,(),(sbr rfl rfl)⟩
 refine C6 rfl ?_
 cases hz1
 obtain rfl:=ez1 _ rfl
 refine ⟨nofun,C2 rfl (l_j ?_)⟩
 exact ⟨(),(sbr rfl rfl)⟩
 rintro _ ⟨g1,q1⟩
 refine A9 q1 (A7 (lr (fun u9 hu9=>sv rfl (sv rfl (A3 (bs h fun y2 hy2 h=>F2 (fun s=> ∃g3:Unit,Sb ⟨T [(0,(.sl (900000,0)))],G [((900000,0),some (.arr 95 4 (List.map J1 y2)))]⟩ s) ?_ ?_))))))
 refine A8 (F0 (D7 y1) (fun (x2:(Int× (List Pass))) (g4:Unit)=>⟨T [(0,(.sl (900000,0))),(10,(di y1)),(13,(di x2.1))],G [((900000,0),some (.arr 95 4 (List.map J1 x2.2)))]⟩) (p2,p1) () _ hy2 (sbr rfl rfl) ?_)
 intro x2 g4 z2 hz2 ez2
 unfold D7 at hz2
 refine A7 (lr (fun u10 hu10=>sv rfl (sv rfl (sv rfl (sv rfl (A3 (cc rfl hz2 (fun c4 hz2=> ?_) (fun c4 hz2=> ?_))))))))
 refine B3 (A7 (A8 (N6 rfl fun u11 hu11=>ss rfl (sv rfl (ss rfl (sv rfl (sv rfl (ss rfl (sv rfl (sv rfl (bs hz2 fun v4 hv4 hz2=>F4 (.aptr _ _ _ _) rfl (A2j rfl rfl G_hit hv4) (sd rfl (A13 rfl G_hit hv4 rfl rfl) (ss rfl (sv rfl (bs hz2 fun v5 hv5 hz2=>F4 (.aptr _ _ _ _) rfl (A2j rfl rfl G_hit hv5) (sd rfl (A13 rfl G_hit hv5 rfl rfl) (bs hz2 fun v6 hv6 hz2=>F4 (.aptr _ _ _ _) rfl (A2j rfl rfl G_hit hv6) (A6f J1 _ _ _ (x2.1) _ v4 (J1 v4) rfl rfl rfl G_hit hv6 (nl rfl) rfl (bs hz2 fun v7 hv7 hz2=>F4 (.aptr _ _ _ _) rfl (A2j rfl rfl G_hit hv7) (A6f J1 _ _ _ ((w64 (x2.1+1))) _ v5 (J1 v5) rfl rfl rfl G_hit hv7 (nl rfl) rfl (A3 (H9 (A9 (s0:=⟨T [(0,(.sl _)),(10,(.d _)),(13,(.d _))],G [((900000,0),some _)]⟩) (sbr rfl rfl) ?_)))))))))))))))))))))))
 refine B8 fun u12 hu12=>sv rfl (sv rfl (sv rfl (A3 (H4 ?_))))
 cases hz2
 exact ⟨rfl,(),(sbr rfl rfl)⟩
 refine C6 rfl ?_
 cases hz2
 obtain rfl:=ez2 _ rfl
 refine ⟨nofun,C2 rfl (l_j ?_)⟩
 exact ⟨(),(sbr rfl rfl)⟩
 rintro _ ⟨g3,q2⟩
 refine A9 q2 (B5 ?_)
 cases h
 exact A8y (.inr rfl) [] B43 (.refl _) ⟨⟨G_hit,L0⟩,trivial⟩
 refine B3 (A7 (lr (fun u13 hu13=>sv rfl (sv rfl (sv rfl (sv rfl (A3 (cc rfl h (fun c5 h=> ?_) (fun c5 h=> ?_)))))))))
 refine lr (fun u14 hu14=>sv rfl (sv rfl (A3 (lr (fun u15 hu15=>sv rfl (sv rfl (A3 (A7 (bs h fun y3 hy3 h=>F2 (fun s=> ∃g5:Unit,Sb ⟨T [(0,(.sl (900000,0))),(2,(di p3)),(14,(di y3))],G [((900000,0),some (.arr 95 4 (List.map J1 p1)))]⟩ s) ?_ ?_)))))))))
 refine A8 (F0 (E4 p1 p3) (fun (x3:(Int×Int)) (g6:Unit)=>⟨T [(0,(.sl (900000,0))),(2,(di p3)),(4,(.d (.fn (.func 141) [] []))),(14,(di x3.1)),(15,(di x3.2))],G [((900000,0),some (.arr 95 4 (List.map J1 p1)))]⟩) (p2,p3) () _ hy3 (sbr rfl rfl) ?_)
 intro x3 g6 z3 hz3 ez3
 unfold E4 at hz3
 refine A7 (lr (fun u16 hu16=>sv rfl (sv rfl (sv rfl (A3 (cc rfl hz3 (fun c6 hz3=> ?_) (fun c6 hz3=> ?_)))))))
 refine B3 (A8 (lr (fun u17 hu17=>sv rfl (sv rfl (sv rfl (sv rfl (sv rfl (sv rfl (sv rfl (A3 (A7 (N6 rfl fun u18 hu18=>sv rfl (ss rfl (sv rfl (bs hz3 fun v8 hv8 hz3=>F4 (.aptr _ _ _ _) rfl (A2j rfl rfl G_hit hv8) (sd rfl (A13 rfl G_hit hv8 rfl rfl) (ss rfl (sv rfl (bs hz3 fun v9 hv9 hz3=>F4 (.aptr _ _ _ _) rfl (A2j rfl rfl G_hit hv9) (sd rfl (A13 rfl G_hit hv9 rfl rfl) (bs hz3 fun v10 hv10 hz3=>C4 rfl rfl A4 (A4e _ _ _ hv10) (.inl rfl) (sv rfl (F4 (.d (bo (!(decide (v10<0))))) rfl rfl (A3 (cc rfl hz3 (fun c7 hz3=> ?_) (fun c7 hz3=> ?_))))))))))))))))))))))))))
 refine A9 (s0:=⟨T [(0,(.sl _)),(2,(.d _)),(4,(.d _)),(15,(.d _)),(16,(.d _))],G [((900000,0),some _)]⟩) (sbr rfl rfl) ?_
 refine B8 fun u19 hu19=>sv rfl (sv rfl (sv rfl (A3 (H9 (H4 ?_)))))
 cases hz3
 exact ⟨rfl,(),(sbr rfl rfl)⟩
 refine A9 (s0:=⟨T [(0,(.sl _)),(2,(.d _)),(4,(.d _)),(14,(.d _)),(16,(.d _))],G [((900000,0),some _)]⟩) (sbr rfl rfl) ?_
 refine B8 fun u20 hu20=>sv rfl (sv rfl (A3 (H9 (H4 ?_))))
 cases hz3
 exact ⟨rfl,(),(sbr rfl rfl)⟩
 refine C6 rfl ?_
 cases hz3
 obtain rfl:=ez3 _ rfl
 refine ⟨nofun,C2 rfl (l_j ?_)⟩
 exact ⟨(),(sbr rfl rfl)⟩
 rintro _ ⟨g5,q3⟩
 refine A9 q3 (A7 (lr (fun u21 hu21=>sv rfl (sv rfl (A3 (bs h fun y4 hy4 h=>F2 (fun s=> ∃g7:Unit,Sb ⟨T [(0,(.sl (900000,0)))],G [((900000,0),some (.arr 95 4 (List.map J1 y4)))]⟩ s) ?_ ?_))))))
 refine A8 (F0 (E3 y3) (fun (x4:(Int× (List Pass))) (g8:Unit)=>⟨T [(0,(.sl (900000,0))),(14,(di y3)),(17,(di x4.1))],G [((900000,0),some (.arr 95 4 (List.map J1 x4.2)))]⟩) (p3,p1) () _ hy4 (sbr rfl rfl) ?_)
 intro x4 g8 z4 hz4 ez4
 unfold E3 at hz4
 refine A7 (lr (fun u22 hu22=>sv rfl (sv rfl (sv rfl (A3 (cc rfl hz4 (fun c8 hz4=> ?_) (fun c8 hz4=> ?_)))))))
 refine B3 (A7 (A8 (N6 rfl fun u23 hu23=>ss rfl (sv rfl (ss rfl (sv rfl (sv rfl (ss rfl (sv rfl (sv rfl (bs hz4 fun v11 hv11 hz4=>F4 (.aptr _ _ _ _) rfl (A2j rfl rfl G_hit hv11) (sd rfl (A13 rfl G_hit hv11 rfl rfl) (ss rfl (sv rfl (bs hz4 fun v12 hv12 hz4=>F4 (.aptr _ _ _ _) rfl (A2j rfl rfl G_hit hv12) (sd rfl (A13 rfl G_hit hv12 rfl rfl) (bs hz4 fun v13 hv13 hz4=>F4 (.aptr _ _ _ _) rfl (A2j rfl rfl G_hit hv13) (A6f J1 _ _ _ (x4.1) _ v11 (J1 v11) rfl rfl rfl G_hit hv13 (nl rfl) rfl (bs hz4 fun v14 hv14 hz4=>F4 (.aptr _ _ _ _) rfl (A2j rfl rfl G_hit hv14) (A6f J1 _ _ _ ((w64 (x4.1 - 1))) _ v12 (J1 v12) rfl rfl rfl G_hit hv14 (nl rfl) rfl (A3 (H9 (A9 (s0:=⟨T [(0,(.sl _)),(14,(.d _)),(17,(.d _))],G [((900000,0),some _)]⟩) (sbr rfl rfl) ?_)))))))))))))))))))))))
 refine B8 fun u24 hu24=>sv rfl (sv rfl (sv rfl (A3 (H4 ?_))))
 cases hz4
 exact ⟨rfl,(),(sbr rfl rfl)⟩
 refine C6 rfl ?_
 cases hz4
 obtain rfl:=ez4 _ rfl
 refine ⟨nofun,C2 rfl (l_j ?_)⟩
 exact ⟨(),(sbr rfl rfl)⟩
 rintro _ ⟨g7,q4⟩
 refine A9 q4 (B5 ?_)
 cases h
 exact A8y (.inr rfl) [] B43 (.refl _) ⟨⟨G_hit,L0⟩,trivial⟩
 refine B3 (lr (fun u25 hu25=>sv rfl (sv rfl (sv rfl (sv rfl (sv rfl (sv rfl (sv rfl (A3 (lr (fun u26 hu26=>sv rfl (sv rfl (sv rfl (sv rfl (A3 (A7 (A9 (s0:=⟨T [(0,(.sl _)),(1,(.d _)),(2,(.d _)),(3,(.d _)),(4,(.d _)),(18,(.d _)),(19,(.d _))],G [((900000,0),some _)]⟩) (sbr rfl rfl) ?_)))))))))))))))))
 refine B8 fun u27 hu27=>sv rfl (sv rfl (A3 (A7 (lr (fun u28 hu28=>sv rfl (sv rfl (sv rfl (A3 (bs h fun y5 hy5 h=>F2 (fun s=> ∃g9:Unit,Sb ⟨T [(0,(.sl (900000,0))),(1,(di p2)),(2,(di p3)),(3,(di p4)),(4,(.d (.fn (.func 141) [] []))),(18,(di (w64 ((IntKind.wrap .u64 (w64 (p2+p4))).fdiv (2^ (min (1:Int).toNat (IntKind.bits .u64))))))),(19,(di (w64 ((w64 ((IntKind.wrap .u64 (w64 (p2+p4))).fdiv (2^ (min (1:Int).toNat (IntKind.bits .u64)))))+p3)))),(20,(di y5.1)),(21,(di y5.2))],G [((900000,0),some (.arr 95 4 (List.map J1 p1)))]⟩ s) ?_ ?_)))))))))
 refine cc rfl hy5 (fun c9 hy5=> ?_) (fun c9 hy5=> ?_)
 refine lr (fun u29 hu29=>sv rfl (sv rfl (sv rfl (sv rfl (A3 (B8 fun u30 hu30=>sv rfl (sv rfl (A3 ?_))))))))
 cases hy5
 exact l_j ⟨(),(sbr rfl rfl)⟩
 refine lr (fun u31 hu31=>sv rfl (sv rfl (A3 (B8 fun u32 hu32=>sv rfl (sv rfl (A3 ?_))))))
 cases hy5
 exact l_j ⟨(),(sbr rfl rfl)⟩
 rintro _ ⟨g9,q5⟩
 refine A9 q5 (lr (fun u33 hu33=>sv rfl (sv rfl (sv rfl (A3 (A7 (bs h fun y6 hy6 h=>F2 (fun s=> ∃g10:Unit,Sb ⟨T [(0,(.sl (900000,0))),(1,(di p2)),(2,(di p3)),(3,(di p4)),(4,(.d (.fn (.func 141) [] []))),(18,(di (w64 ((IntKind.wrap .u64 (w64 (p2+p4))).fdiv (2^ (min (1:Int).toNat (IntKind.bits .u64))))))),(19,(di (w64 ((w64 ((IntKind.wrap .u64 (w64 (p2+p4))).fdiv (2^ (min (1:Int).toNat (IntKind.bits .u64)))))+p3)))),(20,(di y6))],G [((900000,0),some (.arr 95 4 (List.map J1 p1)))]⟩ s) ?_ ?_)))))))
 refine A8 (F0 (D6 p1 p2 p3 p4) (fun (x5:(Int×Int)) (g11:Unit)=>⟨T [(0,(.sl (900000,0))),(1,(di p2)),(2,(di p3)),(3,(di p4)),(4,(.d (.fn (.func 141) [] []))),(18,(di (w64 ((IntKind.wrap .u64 (w64 (p2+p4))).fdiv (2^ (min (1:Int).toNat (IntKind.bits .u64))))))),(19,(di (w64 ((w64 ((IntKind.wrap .u64 (w64 (p2+p4))).fdiv (2^ (min (1:Int).toNat (IntKind.bits .u64)))))+p3)))),(20,(di x5.1)),(21,(di x5.2)),(22,(di (w64 ((w64 ((w64 ((IntKind.wrap .u64 (w64 (p2+p4))).fdiv (2^ (min (1:Int).toNat (IntKind.bits .u64)))))+p3)) - 1))))],G [((900000,0),some (.arr 95 4 (List.map J1 p1)))]⟩) (y5.1,y5.2) () _ hy6 (sbr rfl rfl) ?_)
 intro x5 g11 z5 hz5 ez5
 unfold D6 at hz5
 refine A7 (lr (fun u34 hu34=>sv rfl (sv rfl (sv rfl (A3 (cc rfl hz5 (fun c10 hz5=> ?_) (fun c10 hz5=> ?_)))))))
 refine B3 (A8 (lr (fun u35 hu35=>sv rfl (sv rfl (sv rfl (sv rfl (sv rfl (sv rfl (sv rfl (A3 (A7 (N6 rfl fun u36 hu36=>sv rfl (ss rfl (sv rfl (sv rfl (sv rfl (bs hz5 fun v15 hv15 hz5=>F4 (.aptr _ _ _ _) rfl (A2j rfl rfl G_hit hv15) (sd rfl (A13 rfl G_hit hv15 rfl rfl) (ss rfl (sv rfl (bs hz5 fun v16 hv16 hz5=>F4 (.aptr _ _ _ _) rfl (A2j rfl rfl G_hit hv16) (sd rfl (A13 rfl G_hit hv16 rfl rfl) (bs hz5 fun v17 hv17 hz5=>C4 rfl rfl A4 (A4e _ _ _ hv17) (.inl rfl) (sv rfl (F4 (.d (bo (!(decide (v17<0))))) rfl rfl (A3 (cc rfl hz5 (fun c11 hz5=> ?_) (fun c11 hz5=> ?_))))))))))))))))))))))))))))
 refine A9 (s0:=⟨T [(0,(.sl _)),(1,(.d _)),(2,(.d _)),(3,(.d _)),(4,(.d _)),(18,(.d _)),(19,(.d _)),(21,(.d _)),(22,(.d _)),(23,(.d _))],G [((900000,0),some _)]⟩) (sbr rfl rfl) ?_
 refine B8 fun u37 hu37=>sv rfl (sv rfl (sv rfl (A3 (H9 (H4 ?_)))))
 cases hz5
 exact ⟨rfl,(),(sbr rfl rfl)⟩
 refine A9 (s0:=⟨T [(0,(.sl _)),(1,(.d _)),(2,(.d _)),(3,(.d _)),(4,(.d _)),(18,(.d _)),(19,(.d _)),(20,(.d _)),(22,(.d _)),(23,(.d _))],G [((900000,0),some _)]⟩) (sbr rfl rfl) ?_
 refine B8 fun u38 hu38=>sv rfl (sv rfl (A3 (H9 (H4 ?_))))
 cases hz5
 exact ⟨rfl,(),(sbr rfl rfl)⟩
 refine C6 rfl ?_
 cases hz5
 obtain rfl:=ez5 _ rfl
 refine ⟨nofun,C2 rfl (l_j ?_)⟩
 exact ⟨(),(sbr rfl rfl)⟩
 rintro _ ⟨g10,q6⟩
 refine A9 q6 (lr (fun u39 hu39=>sv rfl (sv rfl (sv rfl (sv rfl (A3 (A7 (lr (fun u40 hu40=>sv rfl (sv rfl (sv rfl (sv rfl (gt rfl (fun _=>rfl) (gt rfl (fun _=>rfl) (gt rfl (fun w3=>(A1q (A6 w3) (A6 w3) rfl)) (sa rfl rfl rfl (A3 (bs h fun y7 hy7 h=>F2 (fun s=> ∃g12:Unit,Sb ⟨T [(0,(.sl (900000,0))),(1,(di p2)),(3,(di p4)),(4,(.d (.fn (.func 141) [] []))),(18,(di (w64 ((IntKind.wrap .u64 (w64 (p2+p4))).fdiv (2^ (min (1:Int).toNat (IntKind.bits .u64))))))),(20,(di y6)),(24,(di (w64 ((w64 ((w64 ((IntKind.wrap .u64 (w64 (p2+p4))).fdiv (2^ (min (1:Int).toNat (IntKind.bits .u64)))))+p3)) - y6))))],G [((900000,0),some (.arr 95 4 (List.map J1 y7)))]⟩ s) ?_ ?_))))))))))))))))))
 refine cc rfl hy7 (fun c12 hy7=> ?_) (fun c12 hy7=> ?_)
 refine B8 fun u41 hu41=>ss rfl (sv rfl (sv rfl (sv rfl (sv rfl (bs hy7 fun v18 hv18 hy7=>C1z (v:= .d (.tup [])) (us:= [(900000,0)]) (C2r (A2b _ _ _ _ _ hv18) [(900000,0)] [(900000,0)] _ (((900000,0),some (.arr 95 4 (List.map J1 v18)))::_) rfl A4l (F9 B5v (F9 A8m (F9 A8m (F9 A8m (F9 A8m A5j))))) (V3 G_hit A21) ⟨⟨_,G_hit, .of rfl⟩,trivial⟩ (fun _ h=>h) nd1 rfl rfl rfl) (A3 ?_))))))
 cases hy7
 exact l_j ⟨(),(sbr rfl rfl)⟩
 refine B3 ?_
 cases hy7
 exact l_j ⟨(),(sbr rfl rfl)⟩
 rintro _ ⟨g12,q7⟩
 refine A9 q7 (A7 (lr (fun u42 hu42=>sv rfl (sv rfl (sv rfl (sv rfl (gt rfl (fun _=>rfl) (gt rfl (fun _=>rfl) (gt rfl (fun w6=>(A1q (A6 w6) (A6 w6) rfl)) (sa rfl rfl rfl (A3 (bs h fun y8 hy8 h=>F2 (fun s=> ∃g13:Unit,Sb ⟨T [(0,(.sl (900000,0))),(3,(di p4)),(4,(.d (.fn (.func 141) [] []))),(18,(di (w64 ((IntKind.wrap .u64 (w64 (p2+p4))).fdiv (2^ (min (1:Int).toNat (IntKind.bits .u64))))))),(24,(di (w64 ((w64 ((w64 ((IntKind.wrap .u64 (w64 (p2+p4))).fdiv (2^ (min (1:Int).toNat (IntKind.bits .u64)))))+p3)) - y6))))],G [((900000,0),some (.arr 95 4 (List.map J1 y8)))]⟩ s) ?_ ?_))))))))))))
 refine cc rfl hy8 (fun c13 hy8=> ?_) (fun c13 hy8=> ?_)
 refine B8 fun u43 hu43=>ss rfl (sv rfl (sv rfl (sv rfl (sv rfl (bs hy8 fun v19 hv19 hy8=>C1z (v:= .d (.tup [])) (us:= [(900000,0)]) (C2r (rc_ok _ _ _ _ _ hv19) [(900000,0)] [(900000,0)] _ (((900000,0),some (.arr 95 4 (List.map J1 v19)))::_) rfl A4l (F9 B5v (F9 A8m (F9 A8m (F9 A8m (F9 A8m A5j))))) (V3 G_hit A21) ⟨⟨_,G_hit, .of rfl⟩,trivial⟩ (fun _ h=>h) nd1 rfl rfl rfl) (A3 ?_))))))
 cases hy8
 exact l_j ⟨(),(sbr rfl rfl)⟩
 refine B3 ?_
 cases hy8
 exact l_j ⟨(),(sbr rfl rfl)⟩
 rintro _ ⟨g13,q8⟩
 refine A9 q8 (lr (fun u44 hu44=>sv rfl (sv rfl (sv rfl (sv rfl (gt rfl (fun _=>rfl) (gt rfl (fun _=>rfl) (gt rfl (fun w9=>(A1q (A6 w9) (A6 w9) rfl)) (sa rfl rfl rfl (A3 (cc rfl h (fun c14 h=> ?_) (fun c14 h=> ?_))))))))))))
 refine B8 fun u45 hu45=>ss rfl (sv rfl (sv rfl (sv rfl (sv rfl (bs h fun v20 hv20 h=>C1z (v:= .d (.tup [])) (us:= [(900000,0)]) (C2r (rc_ok _ _ _ _ _ hv20) [(900000,0)] [(900000,0)] _ (((900000,0),some (.arr 95 4 (List.map J1 v20)))::_) rfl A4l (F9 B5v (F9 A8m (F9 A8m (F9 A8m (F9 A8m A5j))))) (V3 G_hit A21) ⟨⟨_,G_hit, .of rfl⟩,trivial⟩ (fun _ h=>h) nd1 rfl rfl rfl) (A3 (H4 ?_)))))))
 cases h
 exact A8y (.inl rfl) [] B43 (.refl _) ⟨⟨G_hit,L0⟩,trivial⟩
 refine B3 (H4 ?_)
 cases h
 exact A8y (.inl rfl) [] B43 (.refl _) ⟨⟨G_hit,L0⟩,trivial⟩
theorem R7: ∀(n:Nat) (p1:(List Pass)) (p2:Int) (p3:Int) (p4:Int) (r:(List Pass)) (h:H8 n p1 p2 p3 p4=some r),MCall Tryz.prog 265 [(.sl (900000,0)),(di p2),(di p3),(di p4),(.d (.fn (.func 141) [] []))] [(.arr 95 4 (List.map J1 p1))] (.d (.tup [])) [some (.arr 95 4 (List.map J1 r))] []
  |0,_,_,_,_,_,h=>nomatch h
  |n+1,_,_,_,_,_,h=>A1a (H8 n) (R7 n) _ _ _ _ _ h
theorem T3 (p1:(List Pass))(p2:Int)(p3:Int)(p4:Int)(r:(List Pass))(h:I5 p1 p2 p3 p4=some r):MCall Tryz.prog 265 [(.sl (900000,0)),(di p2),(di p3),(di p4),(.d (.fn (.func 141) [] []))] [(.arr 95 4 (List.map J1 p1))] (.d (.tup [])) [some (.arr 95 4 (List.map J1 r))] []:=R7 100 p1 p2 p3 p4 r h
noncomputable def C3 (p2:Int)(x2:(Int× (List Pass)))(x3:(Int×Int× (List Pass))):Option (Stp (Int×Int× (List Pass)) (Int× (List Pass))):=
  cond (decide (x3.2.1≤p2)) ((I5 x3.2.2 x3.1 (w64 (x3.1+x2.1)) x3.2.1).bind fun v3=>some (.go (x3.2.1,(w64 (x3.2.1+ (w64 (2*x2.1)))),v3))) (some (.out (x3.1,x3.2.2)))
noncomputable def D3 (p2:Int)(x2:(Int× (List Pass))):Option (Stp (Int× (List Pass)) (List Pass)):=
  cond (decide (x2.1<p2)) ((loop (C3 p2 x2) (0,(w64 (2*x2.1)),x2.2)).bind fun y2=>cond (decide ((w64 (y2.1+x2.1))<p2)) ((I5 y2.2 y2.1 (w64 (y2.1+x2.1)) p2).bind fun v4=>some (.go ((w64 (x2.1*2)),v4))) (some (.go ((w64 (x2.1*2)),y2.2)))) (some (.out (x2.2)))
noncomputable def D4 (p2:Int)(x1:(Int×Int× (List Pass))):Option (Stp (Int×Int× (List Pass)) (Int× (List Pass))):=
  cond (decide (x1.2.1≤p2)) ((C5 x1.2.2 x1.1 x1.2.1).bind fun v1=>some (.go (x1.2.1,(w64 (x1.2.1+20)),v1))) (some (.out (x1.1,x1.2.2)))
noncomputable def K5 (p1:(List Pass))(p2:Int):Option (List Pass):=
  (loop (D4 p2) (0,20,p1)).bind fun y1=>(C5 y1.2 y1.1 p2).bind fun v2=>loop (D3 p2) (20,v2)
theorem A2c (p1:(List Pass))(p2:Int)(r:(List Pass))(h:K5 p1 p2=some r):MCall Tryz.prog 225 [(.sl (900000,0)),(di p2),(.d (.fn (.func 141) [] []))] [(.arr 95 4 (List.map J1 p1))] (.d (.tup [])) [some (.arr 95 4 (List.map J1 r))] []:=by
 refine A95 (fk Tryz.func225 Tryz.ntmps225 (fun r=>if r==3 then [1003004]else if r==6 then [1006004]else if r==10 then [1010007]else if r==15 then [1015005]else []) (by with_unfolding_all rfl)) rfl (nl rfl) ?_
 unfold K5 at h
 refine A9 (s0:=⟨T [(0,(.sl _)),(1,(.d _)),(2,(.d _))],G [((900000,0),some _)]⟩) (sbr rfl rfl) ?_
 refine lr (fun u1 hu1=>sv rfl (A3 (lr (fun u2 hu2=>sv rfl (sv rfl (sv rfl (A3 (A7 (bs h fun y1 hy1 h=>F2 (fun s=> ∃g1:Unit,Sb ⟨T [(0,(.sl (900000,0))),(1,(di p2)),(2,(.d (.fn (.func 141) [] []))),(6,(di 20)),(7,(di y1.1))],G [((900000,0),some (.arr 95 4 (List.map J1 y1.2)))]⟩ s) ?_ ?_)))))))))
 refine A8 (F0 (D4 p2) (fun (x1:(Int×Int× (List Pass))) (g2:Unit)=>⟨T [(0,(.sl (900000,0))),(1,(di p2)),(2,(.d (.fn (.func 141) [] []))),(6,(di 20)),(7,(di x1.1)),(8,(di x1.2.1))],G [((900000,0),some (.arr 95 4 (List.map J1 x1.2.2)))]⟩) (0,20,p1) () _ hy1 (sbr rfl rfl) ?_)
 intro x1 g2 z1 hz1 ez1
 unfold D4 at hz1
 refine A7 (lr (fun u3 hu3=>sv rfl (sv rfl (sv rfl (A3 (cc rfl hz1 (fun c1 hz1=> ?_) (fun c1 hz1=> ?_)))))))
 refine B3 (A8 (lr (fun u4 hu4=>ss rfl (sv rfl (sv rfl (sv rfl (bs hz1 fun v1 hv1 hz1=>C1z (v:= .d (.tup [])) (us:= [(900000,0)]) (C2r (P9 _ _ _ _ hv1) [(900000,0)] [(900000,0)] _ (((900000,0),some (.arr 95 4 (List.map J1 v1)))::_) rfl A4l (F9 B5v (F9 A8m (F9 A8m (F9 A8m A5j)))) (V3 G_hit A21) ⟨⟨_,G_hit, .of rfl⟩,trivial⟩ (fun _ h=>h) nd1 rfl rfl rfl) (A3 (lr (fun u5 hu5=>sv rfl (sv rfl (A3 (B8 fun u6 hu6=>sv rfl (sv rfl (sv rfl (sv rfl (A3 (H9 (H4 ?_)))))))))))))))))))
 cases hz1
 exact ⟨rfl,(),(sbr rfl rfl)⟩
 refine C6 rfl ?_
 cases hz1
 obtain rfl:=ez1 _ rfl
 refine ⟨nofun,C2 rfl (l_j ?_)⟩
 exact ⟨(),(sbr rfl rfl)⟩
 rintro _ ⟨g1,q1⟩
 refine A9 q1 (lr (fun u7 hu7=>ss rfl (sv rfl (sv rfl (sv rfl (bs h fun v2 hv2 h=>C1z (v:= .d (.tup [])) (us:= [(900000,0)]) (C2r (P9 _ _ _ _ hv2) [(900000,0)] [(900000,0)] _ (((900000,0),some (.arr 95 4 (List.map J1 v2)))::_) rfl A4l (F9 B5v (F9 A8m (F9 A8m (F9 A8m A5j)))) (V3 G_hit A21) ⟨⟨_,G_hit, .of rfl⟩,trivial⟩ (fun _ h=>h) nd1 rfl rfl rfl) (A3 (A8 (F0 (D3 p2) (fun (x2:(Int× (List Pass))) (g3:Unit)=>⟨T [(0,(.sl (900000,0))),(1,(di p2)),(2,(.d (.fn (.func 141) [] []))),(6,(di x2.1))],G [((900000,0),some (.arr 95 4 (List.map J1 x2.2)))]⟩) (20,v2) () _ h (sbr rfl rfl) ?_)))))))))
 intro x2 g3 z2 hz2 ez2
 unfold D3 at hz2
 refine A7 (lr (fun u8 hu8=>sv rfl (sv rfl (sv rfl (A3 (cc rfl hz2 (fun c2 hz2=> ?_) (fun c2 hz2=> ?_)))))))
 refine B3 (A8 (lr (fun u9 hu9=>sv rfl (sv rfl (sv rfl (sv rfl (A3 (A7 (bs hz2 fun y2 hy2 hz2=>F2 (fun s=> ∃g4:Unit,Sb ⟨T [(0,(.sl (900000,0))),(1,(di p2)),(2,(.d (.fn (.func 141) [] []))),(6,(di x2.1)),(7,(di y2.1))],G [((900000,0),some (.arr 95 4 (List.map J1 y2.2)))]⟩ s) ?_ ?_)))))))))
 refine A8 (F0 (C3 p2 x2) (fun (x3:(Int×Int× (List Pass))) (g5:Unit)=>⟨T [(0,(.sl (900000,0))),(1,(di p2)),(2,(.d (.fn (.func 141) [] []))),(6,(di x2.1)),(7,(di x3.1)),(8,(di x3.2.1))],G [((900000,0),some (.arr 95 4 (List.map J1 x3.2.2)))]⟩) (0,(w64 (2*x2.1)),x2.2) () _ hy2 (sbr rfl rfl) ?_)
 intro x3 g5 z3 hz3 ez3
 unfold C3 at hz3
 refine A7 (lr (fun u10 hu10=>sv rfl (sv rfl (sv rfl (A3 (cc rfl hz3 (fun c3 hz3=> ?_) (fun c3 hz3=> ?_)))))))
 refine B3 (A8 (lr (fun u11 hu11=>ss rfl (sv rfl (sv rfl (sv rfl (sv rfl (sv rfl (sv rfl (bs hz3 fun v3 hv3 hz3=>C1z (v:= .d (.tup [])) (us:= [(900000,0)]) (C2r (T3 _ _ _ _ _ hv3) [(900000,0)] [(900000,0)] _ (((900000,0),some (.arr 95 4 (List.map J1 v3)))::_) rfl A4l (F9 B5v (F9 A8m (F9 A8m (F9 A8m (F9 A8m A5j))))) (V3 G_hit A21) ⟨⟨_,G_hit, .of rfl⟩,trivial⟩ (fun _ h=>h) nd1 rfl rfl rfl) (A3 (lr (fun u12 hu12=>sv rfl (sv rfl (A3 (B8 fun u13 hu13=>sv rfl (sv rfl (sv rfl (sv rfl (sv rfl (A3 (H9 (H4 ?_)))))))))))))))))))))))
 cases hz3
 exact ⟨rfl,(),(sbr rfl rfl)⟩
 refine C6 rfl ?_
 cases hz3
 obtain rfl:=ez3 _ rfl
 refine ⟨nofun,C2 rfl (l_j ?_)⟩
 exact ⟨(),(sbr rfl rfl)⟩
 rintro _ ⟨g4,q2⟩
 refine A9 q2 (A7 (lr (fun u14 hu14=>sv rfl (sv rfl (sv rfl (sv rfl (A3 (lr (fun u15 hu15=>sv rfl (sv rfl (sv rfl (A3 (cc rfl hz2 (fun c4 hz2=> ?_) (fun c4 hz2=> ?_))))))))))))))
 refine B8 fun u16 hu16=>ss rfl (sv rfl (sv rfl (sv rfl (sv rfl (bs hz2 fun v4 hv4 hz2=>C1z (v:= .d (.tup [])) (us:= [(900000,0)]) (C2r (T3 _ _ _ _ _ hv4) [(900000,0)] [(900000,0)] _ (((900000,0),some (.arr 95 4 (List.map J1 v4)))::_) rfl A4l (F9 B5v (F9 A8m (F9 A8m (F9 A8m (F9 A8m A5j))))) (V3 G_hit A21) ⟨⟨_,G_hit, .of rfl⟩,trivial⟩ (fun _ h=>h) nd1 rfl rfl rfl) (A3 (B8 fun u17 hu17=>sv rfl (sv rfl (sv rfl (A3 (H9 (H4 ?_))))))))))))
 cases hz2
 exact ⟨rfl,(),(sbr rfl rfl)⟩
 refine B3 (B8 fun u18 hu18=>sv rfl (sv rfl (sv rfl (A3 (H9 (H4 ?_))))))
 cases hz2
 exact ⟨rfl,(),(sbr rfl rfl)⟩
 refine C6 rfl ?_
 cases hz2
 obtain rfl:=ez2 _ rfl
 refine ⟨nofun,C2 rfl (H4 ?_)⟩
 exact A8y (.inl rfl) [] B43 (.refl _) ⟨⟨G_hit,L0⟩,trivial⟩
noncomputable def G3 (p1:(List Pass)):Option (List Pass):=
  (K5 p1 (p1.length:Int)).bind fun v1=>some v1
theorem A0z (p1:(List Pass))(r:(List Pass))(h:G3 p1=some r):MCall Tryz.prog 140 [(.sl (900000,0)),(.d (.fn (.func 141) [] []))] [(.arr 95 4 (List.map J1 p1))] (.d (.tup [])) [some (.arr 95 4 (List.map J1 r))] []:=by
 refine A95 (fk Tryz.func140 Tryz.ntmps140 (fun r=>if r==0 then [1000004]else []) (by with_unfolding_all rfl)) rfl (nl rfl) ?_
 unfold G3 at h
 refine A9 (s0:=⟨T [(0,(.sl _)),(1,(.d _))],G [((900000,0),some _)]⟩) (sbr rfl rfl) ?_
 refine B8 fun u1 hu1=>ss rfl (ss rfl (sd rfl (D18 (f:=J1) rfl G_hit) (sv rfl (bs h fun v1 hv1 h=>C1z (v:= .d (.tup [])) (us:= [(900000,0)]) (C2r (A2c _ _ _ hv1) [(900000,0)] [(900000,0)] _ (((900000,0),some (.arr 95 4 (List.map J1 v1)))::_) rfl A4l (F9 B5v (F9 A8m (F9 A8m A5j))) (V3 G_hit A21) ⟨⟨_,G_hit, .of rfl⟩,trivial⟩ (fun _ h=>h) nd1 rfl rfl rfl) (A3 (H4 ?_))))))
 cases h
 exact A8y (.inl rfl) [] B43 (.refl _) ⟨⟨G_hit,L0⟩,trivial⟩
noncomputable def K2 (p1:Int)(x2:Int):Option (Stp Int Unit):=
  ((cond (decide (x2>p1)) ((none:Option Unit)) (some default))).bind fun v1=>cond ((decide (x2>p1))&&false) (none) (some (.out ()))
noncomputable def K3 (p1:Int)(p2:Int)(x1:Int):Option (Stp Int Unit):=
  cond (decide (x1<p2)) ((loop (K2 p1) x1).bind fun _=>some (.go (w64 (x1+1)))) (some (.out (())))
noncomputable def E6 (p1:Int)(p2:Int):Option Unit:=
  loop (K3 p1 p2) (w64 (p1+1))
theorem Q0 (p1:Int)(p2:Int)(r:Unit)(h:E6 p1 p2=some r):PCall Tryz.prog 264 [.nilS,(i64 p1),(i64 p2),(.fn (.func 141) [] [])] (.tup []):=by
 refine E1 (fk Tryz.func264 Tryz.ntmps264 m0 (by with_unfolding_all rfl)) (nl rfl) ?_
 unfold E6 at h
 refine A9 (s0:=⟨T [(0,(.d _)),(1,(.d _)),(2,(.d _)),(3,(.d _))],G []⟩) (sbr rfl rfl) ?_
 refine lr (fun u1 hu1=>sv rfl (sv rfl (sv rfl (A3 (A8 (F0 (K3 p1 p2) (fun (x1:Int) (g1:Unit)=>⟨T [(0,(.d .nilS)),(1,(di p1)),(2,(di p2)),(3,(.d (.fn (.func 141) [] []))),(8,(di x1))],G []⟩) (w64 (p1+1)) () _ h (sbr rfl rfl) ?_))))))
 intro x1 g1 z1 hz1 ez1
 unfold K3 at hz1
 refine A7 (lr (fun u2 hu2=>sv rfl (sv rfl (sv rfl (A3 (cc rfl hz1 (fun c1 hz1=> ?_) (fun c1 hz1=> ?_)))))))
 refine B3 (A7 (A8 (lr (fun u3 hu3=>sv rfl (sv rfl (A3 (bs hz1 fun y1 hy1 hz1=>F2 (fun s=> ∃g2:Unit,Sb ⟨T [(0,(.d .nilS)),(1,(di p1)),(2,(di p2)),(3,(.d (.fn (.func 141) [] []))),(8,(di x1))],G []⟩ s) ?_ ?_)))))))
 refine A8 (F0 (K2 p1) (fun (x2:Int) (g3:Unit)=>⟨T [(0,(.d .nilS)),(1,(di p1)),(2,(di p2)),(3,(.d (.fn (.func 141) [] []))),(8,(di x1)),(9,(di x2))],G []⟩) x1 () _ hy1 (sbr rfl rfl) ?_)
 intro x2 g3 z2 hz2 ez2
 unfold K2 at hz2
 refine A7 (A7 (N6 rfl fun u4 hu4=>sv rfl (sv rfl (sv rfl (sv rfl (gt rfl (fun _=>rfl) (gt rfl (fun _=>rfl) (gt rfl (fun _=>rfl) (bs hz2 fun v1 hv1 hz2=>X7 _ (.d (.tup [])) rfl (A4y rfl) (fun w4=>nomatch E8 w4 hv1) (X7 _ (.d (.tup [])) rfl (A4y rfl) (fun w5=>nomatch E8 w5 hv1) (X7 _ (.d (.tup [])) rfl (A4y rfl) (fun w6=>nomatch E8 w6 hv1) (X7 _ (di 0) rfl (A4y rfl) (fun w7=>nomatch E8 w7 hv1) (X7 _ (di 0) rfl (A4y rfl) (fun w8=>nomatch E8 w8 hv1) (X7 _ (.d (.tup [])) rfl (A4y rfl) (fun w9=>nomatch E8 w9 hv1) (X7 _ (.d (.tup [])) rfl (A4y rfl) (fun w10=>nomatch E8 w10 hv1) (U1 _ (i64 0) (A4y rfl) (fun w11=>nomatch E8 w11 hv1) (X7 _ (.d (bo false)) rfl (A4y rfl) (fun w12=>nomatch E8 w12 hv1) (sa rfl rfl rfl (A3 (cc rfl hz2 (fun c2 hz2=> ?_) (fun c2 hz2=> ?_)))))))))))))))))))))
 refine B3 (A7 (A8 (A9 (s0:=⟨T [(0,(.d _)),(1,(.d _)),(2,(.d _)),(3,(.d _)),(8,(.d _)),(9,(.d _))],G []⟩) (sbr rfl rfl) ?_)))
 refine N6 rfl fun u5 hu5=>sv rfl (sv rfl (sv rfl (sv rfl (sv rfl (sv rfl (sv rfl (sv rfl ?_)))))))
 cases hz2
 refine C6 rfl ?_
 cases hz2
 obtain rfl:=ez2 _ rfl
 refine ⟨nofun,C2 rfl (l_j ?_)⟩
 exact ⟨(),(sbr rfl rfl)⟩
 rintro _ ⟨g2,q1⟩
 refine H9 (A9 q1 (B8 fun u6 hu6=>sv rfl (sv rfl (sv rfl (A3 (H4 ?_))))))
 cases hz1
 exact ⟨rfl,(),(sbr rfl rfl)⟩
 refine C6 rfl ?_
 cases hz1
 obtain rfl:=ez1 _ rfl
 refine ⟨nofun,C2 rfl (H4 ?_)⟩
 exact B0 (.inl rfl) rfl (.refl _)
noncomputable def N1 (p1:Int)(x3:(Int×Int)):Option (Stp (Int×Int) Int):=
  cond (decide (x3.2≤p1)) (none) (some (.out x3.1))
noncomputable def J6 (p1:Int)(x2:Int):Option (Stp Int Unit):=
  cond (decide (x2<p1)) ((loop (N1 p1) (0,(w64 (2*x2)))).bind fun y2=>cond (decide ((w64 (y2+x2))<p1)) (none) (some (.go (w64 (x2*2))))) (some (.out (())))
noncomputable def J7 (p1:Int)(x1:(Int×Int)):Option (Stp (Int×Int) Int):=
  cond (decide (x1.2≤p1)) ((E6 x1.1 x1.2).bind fun v1=>some (.go (x1.2,(w64 (x1.2+20))))) (some (.out x1.1))
noncomputable def K6 (p1:Int):Option Unit:=
  (loop (J7 p1) (0,20)).bind fun y1=>(E6 y1 p1).bind fun v2=>loop (J6 p1) 20
theorem A2d (p1:Int)(r:Unit)(h:K6 p1=some r):PCall Tryz.prog 225 [.nilS,(i64 p1),(.fn (.func 141) [] [])] (.tup []):=by
 refine E1 (fk Tryz.func225 Tryz.ntmps225 m0 (by with_unfolding_all rfl)) (nl rfl) ?_
 unfold K6 at h
 refine A9 (s0:=⟨T [(0,(.d _)),(1,(.d _)),(2,(.d _))],G []⟩) (sbr rfl rfl) ?_
 refine lr (fun u1 hu1=>sv rfl (A3 (lr (fun u2 hu2=>sv rfl (sv rfl (sv rfl (A3 (A7 (bs h fun y1 hy1 h=>F2 (fun s=> ∃g1:Unit,Sb ⟨T [(0,(.d .nilS)),(1,(di p1)),(2,(.d (.fn (.func 141) [] []))),(6,(di 20)),(7,(di y1))],G []⟩ s) ?_ ?_)))))))))
 refine A8 (F0 (J7 p1) (fun (x1:(Int×Int)) (g2:Unit)=>⟨T [(0,(.d .nilS)),(1,(di p1)),(2,(.d (.fn (.func 141) [] []))),(6,(di 20)),(7,(di x1.1)),(8,(di x1.2))],G []⟩) (0,20) () _ hy1 (sbr rfl rfl) ?_)
 intro x1 g2 z1 hz1 ez1
 unfold J7 at hz1
 refine A7 (lr (fun u3 hu3=>sv rfl (sv rfl (sv rfl (A3 (cc rfl hz1 (fun c1 hz1=> ?_) (fun c1 hz1=> ?_)))))))
 refine B3 (A8 (lr (fun u4 hu4=>sv rfl (sv rfl (sv rfl (sv rfl (bs hz1 fun v1 hv1 hz1=>C4 rfl rfl A4 (Q0 _ _ _ hv1) (.inl rfl) (A3 (lr (fun u5 hu5=>sv rfl (sv rfl (A3 (B8 fun u6 hu6=>sv rfl (sv rfl (sv rfl (sv rfl (A3 (H9 (H4 ?_)))))))))))))))))))
 cases hz1
 exact ⟨rfl,(),(sbr rfl rfl)⟩
 refine C6 rfl ?_
 cases hz1
 obtain rfl:=ez1 _ rfl
 refine ⟨nofun,C2 rfl (l_j ?_)⟩
 exact ⟨(),(sbr rfl rfl)⟩
 rintro _ ⟨g1,q1⟩
 refine A9 q1 (lr (fun u7 hu7=>sv rfl (sv rfl (sv rfl (sv rfl (bs h fun v2 hv2 h=>C4 rfl rfl A4 (Q0 _ _ _ hv2) (.inl rfl) (A3 (A8 (F0 (J6 p1) (fun (x2:Int) (g3:Unit)=>⟨T [(0,(.d .nilS)),(1,(di p1)),(2,(.d (.fn (.func 141) [] []))),(6,(di x2))],G []⟩) 20 () _ h (sbr rfl rfl) ?_)))))))))
 intro x2 g3 z2 hz2 ez2
 unfold J6 at hz2
 refine A7 (lr (fun u8 hu8=>sv rfl (sv rfl (sv rfl (A3 (cc rfl hz2 (fun c2 hz2=> ?_) (fun c2 hz2=> ?_)))))))
 refine B3 (A8 (lr (fun u9 hu9=>sv rfl (sv rfl (sv rfl (sv rfl (A3 (A7 (bs hz2 fun y2 hy2 hz2=>F2 (fun s=> ∃g4:Unit,Sb ⟨T [(0,(.d .nilS)),(1,(di p1)),(2,(.d (.fn (.func 141) [] []))),(6,(di x2)),(7,(di y2))],G []⟩ s) ?_ ?_)))))))))
 refine A8 (F0 (N1 p1) (fun (x3:(Int×Int)) (g5:Unit)=>⟨T [(0,(.d .nilS)),(1,(di p1)),(2,(.d (.fn (.func 141) [] []))),(6,(di x2)),(7,(di x3.1)),(8,(di x3.2))],G []⟩) (0,(w64 (2*x2))) () _ hy2 (sbr rfl rfl) ?_)
 intro x3 g5 z3 hz3 ez3
 unfold N1 at hz3
 refine A7 (lr (fun u10 hu10=>sv rfl (sv rfl (sv rfl (A3 (cc rfl hz3 (fun c3 hz3=> ?_) (fun c3 hz3=> ?_)))))))
 refine B3 (A8 (lr (fun u11 hu11=>sv rfl (sv rfl (sv rfl (sv rfl (sv rfl (sv rfl (sv rfl ?_)))))))))
 cases hz3
 refine C6 rfl ?_
 cases hz3
 obtain rfl:=ez3 _ rfl
 refine ⟨nofun,C2 rfl (l_j ?_)⟩
 exact ⟨(),(sbr rfl rfl)⟩
 rintro _ ⟨g4,q2⟩
 refine A9 q2 (A7 (lr (fun u12 hu12=>sv rfl (sv rfl (sv rfl (sv rfl (A3 (lr (fun u13 hu13=>sv rfl (sv rfl (sv rfl (A3 (cc rfl hz2 (fun c4 hz2=> ?_) (fun c4 hz2=> ?_))))))))))))))
 refine B8 fun u14 hu14=>sv rfl (sv rfl (sv rfl (sv rfl (sv rfl ?_))))
 cases hz2
 refine B3 (B8 fun u15 hu15=>sv rfl (sv rfl (sv rfl (A3 (H9 (H4 ?_))))))
 cases hz2
 exact ⟨rfl,(),(sbr rfl rfl)⟩
 refine C6 rfl ?_
 cases hz2
 obtain rfl:=ez2 _ rfl
 refine ⟨nofun,C2 rfl (H4 ?_)⟩
 exact B0 (.inl rfl) rfl (.refl _)
noncomputable def G4:Option Unit:=
  (K6 0).bind fun v1=>some ()
theorem A10 (r:Unit)(h:G4=some r):PCall Tryz.prog 140 [.nilS,(.fn (.func 141) [] [])] (.tup []):=by
 refine E1 (fk Tryz.func140 Tryz.ntmps140 m0 (by with_unfolding_all rfl)) (nl rfl) ?_
 unfold G4 at h
 refine A9 (s0:=⟨T [(0,(.d _)),(1,(.d _))],G []⟩) (sbr rfl rfl) ?_
 refine B8 fun u1 hu1=>sv rfl (sv rfl (sv rfl (sv rfl (bs h fun v1 hv1 h=>C4 rfl rfl A4 (A2d _ _ hv1) (.inl rfl) (A3 (H4 ?_))))))
 cases h
 exact B0 (.inl rfl) rfl (.refl _)
noncomputable def Y8 (v1:RoadsWay)(x1:((List Pass)×Int))(v2:Int)(x2:((List Pass)×Int))(v3:Zone)(x3:((List Pass)×Int)):Option (Stp ((List Pass)×Int) (List Pass)):=
  cond (decide (x3.2< (v3.Parts.length:Int))) ((F3 v3.Parts x3.2).bind fun v4=>cond (v4.Lane_==v2) ((F3 v1.starts x1.2).bind fun v5=>(F3 v1.starts x1.2).bind fun v6=>(B18 x3.1 [(Pass.mk x2.2 x3.2 (w64 (v5+v4.From)) (w64 (v6+v4.To)))]).bind fun v7=>some (.go (v7,(w64 (x3.2+1))))) (some (.go (x3.1,(w64 (x3.2+1)))))) (some (.out x3.1))
noncomputable def Y9 (p1:Map)(v1:RoadsWay)(x1:((List Pass)×Int))(v2:Int)(x2:((List Pass)×Int)):Option (Stp ((List Pass)×Int) (List Pass)):=
  cond (decide (x2.2< (p1.Zones.length:Int))) ((F3 p1.Zones x2.2).bind fun v3=>(loop (Y8 v1 x1 v2 x2 v3) (x2.1,0)).bind fun y3=>some (.go (y3,(w64 (x2.2+1))))) (some (.out x2.1))
noncomputable def T4 (p1:Map)(v1:RoadsWay)(x1:((List Pass)×Int)):Option (Stp ((List Pass)×Int) (List Pass)):=
  cond (decide (x1.2< (v1.lanes.length:Int))) ((F3 v1.lanes x1.2).bind fun v2=>(loop (Y9 p1 v1 x1 v2) (x1.1,0)).bind fun y2=>some (.go (y2,(w64 (x1.2+1))))) (some (.out x1.1))
noncomputable def A3x (p1:Map)(p2:(List Int)):Option (List Pass):=
  (Y3 p1 p2).bind fun v1=>(loop (T4 p1 v1) ([],0)).bind fun y1=>cond (List.isEmpty y1) ((G4).bind fun v9=>some []) ((G3 y1).bind fun v8=>some v8)
theorem B7q (p1:Map)(p2:(List Int))(r:(List Pass))(h:A3x p1 p2=some r):PCall Tryz.prog 44 [(.agg (A0s p1)),(.list (List.map A5 p2))] (.list (List.map J1 r)):=by
 refine E1 (fk Tryz.func44 Tryz.ntmps44 (fun r=>if r==13 then [1020]else if r==17 then [1017001]else []) (by with_unfolding_all rfl)) (nl rfl) ?_
 unfold A3x at h
 refine A9 (s0:=⟨T [(0,(.d _)),(1,(.d _))],G []⟩) (sbr rfl rfl) ?_
 refine lr (fun u1 hu1=>sn rfl rfl (sv rfl (A3 (lr (fun u2 hu2=>sd rfl (B9 rfl G_hit rfl rfl) (sv rfl (bs h fun v1 hv1 h=>C4 rfl rfl A4 (A3j _ _ _ hv1) (.inl rfl) (sn rfl rfl (sst rfl G_hit (W5 v1) rfl (A3 (lr (fun u3 hu3=>sv rfl (A3 (A7 (lr (fun u4 hu4=>sp rfl rfl (sl rfl G_hit rfl (sd rfl (F1 rfl) (sv rfl (A3 (bs h fun y1 hy1 h=>F2 (fun s=> ∃g1:Nat,Sb ⟨T [(6,(oS y1 (65,g1)))],G [((65,g1),oB 95 4 J1 y1)]⟩ s) ?_ ?_)))))))))))))))))))))
 refine A8 (F0 (T4 p1 v1) (fun (x1:((List Pass)×Int)) (g2:Nat)=>⟨T [(2,(.ptr (2,u1) 0)),(5,(.ptr (5,u2) 0)),(6,(oS x1.1 (65,g2))),(17,(dl A5 v1.lanes)),(18,(di (v1.lanes.length:Int))),(19,(di x1.2))],G [((2,u1),some (.box 27 (A09 p1))),((5,u2),some (.box 169 (W5 v1))),((65,g2),oB 95 4 J1 x1.1)]⟩) ([],0) 0 _ hy1 (J0 ⟨.of rfl, .of rfl, .of rfl, .of rfl, .of rfl, .of rfl,trivial⟩ (sg rfl (B6 G_hit (.of rfl) (A3f trivial)))) ?_)
 intro x1 g2 z1 hz1 ez1
 unfold T4 at hz1
 refine lr (fun u5 hu5=>sv rfl (A3 (A7 (cc rfl hz1 (fun c1 hz1=> ?_) (fun c1 hz1=> ?_)))))
 refine B3 (A7 (A8 (lr (fun u6 hu6=>sv rfl (bs hz1 fun v2 hv2 hz1=>sd rfl (G6 rfl rfl hv2 rfl) (sd rfl (E9 rfl hv2 rfl) (sv rfl (sv rfl (A3 (lr (fun u7 hu7=>sp rfl rfl (sl rfl G_hit rfl (sd rfl (F1 rfl) (sv rfl (A3 (bs hz1 fun y2 hy2 hz1=>F2 (fun s=> ∃g3:Nat,Sb ⟨T [(2,(.ptr (2,u1) 0)),(5,(.ptr (5,u2) 0)),(6,(oS y2 (65,g3))),(17,(dl A5 v1.lanes)),(18,(di (v1.lanes.length:Int))),(19,(di x1.2))],G [((2,u1),some (.box 27 (A09 p1))),((5,u2),some (.box 169 (W5 v1))),((65,g3),oB 95 4 J1 y2)]⟩ s) ?_ ?_))))))))))))))))
 refine A8 (F0 (Y9 p1 v1 x1 v2) (fun (x2:((List Pass)×Int)) (g4:Nat)=>⟨T [(2,(.ptr (2,u1) 0)),(5,(.ptr (5,u2) 0)),(6,(oS x2.1 (65,g4))),(7,(di x1.2)),(8,(di v2)),(17,(dl A5 v1.lanes)),(18,(di (v1.lanes.length:Int))),(19,(di x1.2)),(25,(dl A0g p1.Zones)),(26,(di (p1.Zones.length:Int))),(27,(di x2.2))],G [((2,u1),some (.box 27 (A09 p1))),((5,u2),some (.box 169 (W5 v1))),((65,g4),oB 95 4 J1 x2.1)]⟩) (x1.1,0) g2 _ hy2 (J0 ⟨.of rfl, .of rfl, .of rfl, .of rfl, .of rfl, .of rfl, .of rfl, .of rfl, .of rfl, .of rfl, .of rfl,trivial⟩ (B6 G_hit (.of rfl) (sg rfl (I7 (gq rfl) trivial)))) ?_)
 intro x2 g4 z2 hz2 ez2
 unfold Y9 at hz2
 refine lr (fun u8 hu8=>sv rfl (A3 (A7 (cc rfl hz2 (fun c2 hz2=> ?_) (fun c2 hz2=> ?_)))))
 refine B3 (A7 (A8 (lr (fun u9 hu9=>sv rfl (bs hz2 fun v3 hv3 hz2=>sd rfl (G6 rfl rfl hv3 rfl) (sd rfl (F7 rfl hv3 rfl rfl) (sn rfl rfl (sv rfl (sst rfl G_hit [(dl R3 v3.Parts),(di v3.Signal_)] rfl (A3 (lr (fun u10 hu10=>sp rfl rfl (sl rfl G_hit rfl (sd rfl (F1 rfl) (sv rfl (A3 (bs hz2 fun y3 hy3 hz2=>F2 (fun s=> ∃g5:Nat,Sb ⟨T [(2,(.ptr (2,u1) 0)),(5,(.ptr (5,u2) 0)),(6,(oS y3 (65,g5))),(7,(di x1.2)),(8,(di v2)),(17,(dl A5 v1.lanes)),(18,(di (v1.lanes.length:Int))),(19,(di x1.2)),(25,(dl A0g p1.Zones)),(26,(di (p1.Zones.length:Int))),(27,(di x2.2))],G [((2,u1),some (.box 27 (A09 p1))),((5,u2),some (.box 169 (W5 v1))),((65,g5),oB 95 4 J1 y3)]⟩ s) ?_ ?_)))))))))))))))))
 refine A8 (F0 (Y8 v1 x1 v2 x2 v3) (fun (x3:((List Pass)×Int)) (g6:Nat)=>⟨T [(2,(.ptr (2,u1) 0)),(5,(.ptr (5,u2) 0)),(6,(oS x3.1 (65,g6))),(7,(di x1.2)),(8,(di v2)),(9,(di x2.2)),(17,(dl A5 v1.lanes)),(18,(di (v1.lanes.length:Int))),(19,(di x1.2)),(25,(dl A0g p1.Zones)),(26,(di (p1.Zones.length:Int))),(27,(di x2.2)),(33,(dl R3 v3.Parts)),(34,(di (v3.Parts.length:Int))),(35,(di x3.2))],G [((2,u1),some (.box 27 (A09 p1))),((5,u2),some (.box 169 (W5 v1))),((65,g6),oB 95 4 J1 x3.1)]⟩) (x2.1,0) g4 _ hy3 (J0 ⟨.of rfl, .of rfl, .of rfl, .of rfl, .of rfl, .of rfl, .of rfl, .of rfl, .of rfl, .of rfl, .of rfl, .of rfl, .of rfl, .of rfl, .of rfl,trivial⟩ (sg rfl (sg rfl (I7 (gq rfl) trivial)))) ?_)
 intro x3 g6 z3 hz3 ez3
 unfold Y8 at hz3
 refine lr (fun u11 hu11=>sv rfl (A3 (A7 (cc rfl hz3 (fun c3 hz3=> ?_) (fun c3 hz3=> ?_)))))
 refine B3 (A7 (A8 (lr (fun u12 hu12=>sv rfl (bs hz3 fun v4 hv4 hz3=>sd rfl (G6 rfl rfl hv4 rfl) (sd rfl (F7 rfl hv4 rfl rfl) (sn rfl rfl (sv rfl (sst rfl G_hit (B10 v4) rfl (A3 (lr (fun u13 hu13=>sp rfl rfl (sl rfl G_hit rfl (sv rfl (sv rfl (A3 (cc rfl hz3 (fun c4 hz3=> ?_) (fun c4 hz3=> ?_))))))))))))))))))
 refine A9 (s0:=⟨T [(2,(.ptr (2,u1) 0)),(5,(.ptr (5,u2) 0)),(6,(oS x3.1 (65,g6))),(7,(di x1.2)),(8,(di v2)),(9,(di x2.2)),(11,(di x3.2)),(12,(.ptr (12,u12) 0)),(17,(dl A5 v1.lanes)),(18,(di (v1.lanes.length:Int))),(19,(di x1.2)),(25,(dl A0g p1.Zones)),(26,(di (p1.Zones.length:Int))),(27,(di x2.2)),(33,(dl R3 v3.Parts)),(34,(di (v3.Parts.length:Int))),(35,(di x3.2))],G [((2,u1),some (.box 27 (A09 p1))),((5,u2),some (.box 169 (W5 v1))),((65,g6),oB 95 4 J1 x3.1),((12,u12),some (.box 91 (B10 v4)))]⟩) (J0 ⟨.of rfl, .of rfl, .of rfl, .of rfl, .of rfl, .of rfl, .of rfl, .of rfl, .of rfl, .of rfl, .of rfl, .of rfl, .of rfl, .of rfl, .of rfl, .of rfl, .of rfl,trivial⟩ (sg rfl (sg rfl (I7 (gq rfl) (B6 G_hit (.of rfl) trivial))))) ?_
 refine N6 rfl fun u14 hu14=>F4 (oS x3.1 (65,g6)) rfl rfl (sv rfl (sv rfl (sp rfl rfl (sl rfl (gq rfl) rfl (sv rfl (bs hz3 fun v5 hv5 hz3=>sd rfl (G6 rfl rfl hv5 rfl) (sd rfl (E9 rfl hv5 rfl) (sp rfl rfl (sl rfl (gq rfl) rfl (sv rfl (sp rfl rfl (sl rfl (gq rfl) rfl (sv rfl (bs hz3 fun v6 hv6 hz3=>sd rfl (G6 rfl rfl hv6 rfl) (sd rfl (E9 rfl hv6 rfl) (sp rfl rfl (sl rfl (gq rfl) rfl (sv rfl (sv rfl (F4 (dl J1 [(Pass.mk x2.2 x3.2 (w64 (v5+v4.From)) (w64 (v6+v4.To)))]) rfl rfl (bs hz3 fun v7 hv7 hz3=>X6 J1 (65,g6) x3.1 (Pass.mk x2.2 x3.2 (w64 (v5+v4.From)) (w64 (v6+v4.To))) [] _ (S7 (fun _=>rfl)) rfl (gq rfl) hv7 (ss rfl (A3 (H9 (A9 (s0:=⟨T [(2,(.ptr _ _)),(5,(.ptr _ _)),(6,(.sl _)),(7,(.d _)),(8,(.d _)),(9,(.d _)),(17,(.d _)),(18,(.d _)),(19,(.d _)),(25,(.d _)),(26,(.d _)),(27,(.d _)),(33,(.d _)),(34,(.d _)),(35,(.d _))],G [((2,u1),some (.box 27 _)),((5,u2),some (.box 169 _)),((65,u14),some _)]⟩) (sbr rfl rfl) ?_)))))))))))))))))))))))))
 refine B8 fun u15 hu15=>sv rfl (sv rfl (A3 (H4 ?_)))
 cases hz3
 exact ⟨rfl,u14,(J0 ⟨.of rfl, .of rfl,(.of (A93 (A3e hv7)).symm), .of rfl, .of rfl, .of rfl, .of rfl, .of rfl, .of rfl, .of rfl, .of rfl, .of rfl, .of rfl, .of rfl, .of rfl,trivial⟩ (B6 G_hit (.of rfl) (sg rfl (A36 (gq rfl) trivial))))⟩
 refine B3 (H9 (A9 (s0:=⟨T [(2,(.ptr (2,u1) 0)),(5,(.ptr (5,u2) 0)),(6,(oS x3.1 (65,g6))),(7,(di x1.2)),(8,(di v2)),(9,(di x2.2)),(17,(dl A5 v1.lanes)),(18,(di (v1.lanes.length:Int))),(19,(di x1.2)),(25,(dl A0g p1.Zones)),(26,(di (p1.Zones.length:Int))),(27,(di x2.2)),(33,(dl R3 v3.Parts)),(34,(di (v3.Parts.length:Int))),(35,(di x3.2))],G [((2,u1),some (.box 27 (A09 p1))),((5,u2),some (.box 169 (W5 v1))),((65,g6),oB 95 4 J1 x3.1)]⟩) (J0 ⟨.of rfl, .of rfl, .of rfl, .of rfl, .of rfl, .of rfl, .of rfl, .of rfl, .of rfl, .of rfl, .of rfl, .of rfl, .of rfl, .of rfl, .of rfl,trivial⟩ (sg rfl (sg rfl (I7 (gq rfl) trivial)))) ?_))
 refine B8 fun u16 hu16=>sv rfl (sv rfl (A3 (H4 ?_)))
 cases hz3
 exact ⟨rfl,g6,(J0 ⟨.of rfl, .of rfl, .of rfl, .of rfl, .of rfl, .of rfl, .of rfl, .of rfl, .of rfl, .of rfl, .of rfl, .of rfl, .of rfl, .of rfl, .of rfl,trivial⟩ (B6 G_hit (.of rfl) (sg rfl (I7 (gq rfl) trivial))))⟩
 refine C6 rfl ?_
 cases hz3
 obtain rfl:=ez3 _ rfl
 refine ⟨nofun,C2 rfl (l_j ?_)⟩
 exact ⟨g6,(J0 ⟨.of rfl, .of rfl, .of rfl, .of rfl, .of rfl, .of rfl, .of rfl, .of rfl, .of rfl, .of rfl, .of rfl,trivial⟩ (B6 G_hit (.of rfl) (sg rfl (I7 (gq rfl) trivial))))⟩
 rintro _ ⟨g5,q1⟩
 refine H9 (A9 q1 (B8 fun u17 hu17=>sv rfl (sv rfl (A3 (H4 ?_)))))
 cases hz2
 exact ⟨rfl,g5,(J0 ⟨.of rfl, .of rfl, .of rfl, .of rfl, .of rfl, .of rfl, .of rfl, .of rfl, .of rfl, .of rfl, .of rfl,trivial⟩ (B6 G_hit (.of rfl) (sg rfl (I7 (gq rfl) trivial))))⟩
 refine C6 rfl ?_
 cases hz2
 obtain rfl:=ez2 _ rfl
 refine ⟨nofun,C2 rfl (l_j ?_)⟩
 exact ⟨g4,(J0 ⟨.of rfl, .of rfl, .of rfl, .of rfl, .of rfl, .of rfl,trivial⟩ (B6 G_hit (.of rfl) (sg rfl (I7 (gq rfl) trivial))))⟩
 rintro _ ⟨g3,q2⟩
 refine H9 (A9 q2 (B8 fun u18 hu18=>sv rfl (sv rfl (A3 (H4 ?_)))))
 cases hz1
 exact ⟨rfl,g3,(J0 ⟨.of rfl, .of rfl, .of rfl, .of rfl, .of rfl, .of rfl,trivial⟩ (B6 G_hit (.of rfl) (sg rfl (I7 (gq rfl) trivial))))⟩
 refine C6 rfl ?_
 cases hz1
 obtain rfl:=ez1 _ rfl
 refine ⟨nofun,C2 rfl (l_j ?_)⟩
 exact ⟨g2,(J0 ⟨.of rfl,trivial⟩ (I7 (gq rfl) trivial))⟩
 rintro _ ⟨g1,q3⟩
 refine A9 q3 (A7 ?_)
 rcases C83 h with ⟨e1,h⟩|⟨e1,h⟩
 refine A9 (s0:=⟨T [(6,(.d .nilS))],G []⟩) (J0 ⟨.of (D4t e1),trivial⟩ trivial) ?_
 refine B8 fun u22 hu22=>sv rfl (bs h fun v9 hv9 h=>C1z (v:= .d (.tup [])) (us:= []) (oc_f [] _ rfl rfl A4 (A10 _ hv9) rfl rfl) (A3 (lr (fun u23 hu23=>sv rfl (sv rfl (A3 (B5 ?_)))))))
 cases h
 exact B0 (.inr rfl) (C1 (B4 rfl) I6) DLe.nil
 refine A9 (s0:=⟨T [(6,(.sl (65,g1)))],G [((65,g1),some (.arr 95 4 (List.map J1 y1)))]⟩) (J0 ⟨.of (A93 e1),trivial⟩ (B6 (A7x G_hit e1) (.of rfl) trivial)) ?_
 refine B8 fun u20 hu20=>ss rfl (bs h fun v8 hv8 h=>C1z (v:= .d (.tup [])) (us:= [(65,g1)]) (C2r (A0z _ _ hv8) [(65,g1)] [(65,g1)] _ (((65,g1),some (.arr 95 4 (List.map J1 v8)))::_) rfl A4l (F9 B5v (F9 A8m A5j)) (V3 G_hit A21) ⟨⟨_,G_hit, .of rfl⟩,trivial⟩ (fun _ h=>h) nd1 rfl rfl rfl) (A3 (lr (fun u21 hu21=>ss rfl (ss rfl (A3 (B5 ?_)))))))
 cases h
 exact B0 (.inr rfl) (C1 (B4 rfl) (C5u G_hit)) (.refl _)
noncomputable def R0 (x5:((List Pass)×Int)):Option (Stp ((List Pass)×Int) (List Pass)):=
  ((cond (decide (x5.2>0)) (F3 x5.1 x5.2) (some default))).bind fun v9=>((cond (decide (x5.2>0)) (F3 x5.1 (w64 (x5.2 - 1))) (some default))).bind fun v10=>((cond ((decide (x5.2>0))&& (!(decide (v9.From<v10.From)))) (F3 x5.1 x5.2) (some default))).bind fun v11=>((cond ((decide (x5.2>0))&& (!(decide (v9.From<v10.From)))) (F3 x5.1 (w64 (x5.2 - 1))) (some default))).bind fun v12=>((cond (((decide (x5.2>0))&& (!(decide (v9.From<v10.From))))&& (v11.From==v12.From)) (F3 x5.1 x5.2) (some default))).bind fun v13=>((cond (((decide (x5.2>0))&& (!(decide (v9.From<v10.From))))&& (v11.From==v12.From)) (F3 x5.1 (w64 (x5.2 - 1))) (some default))).bind fun v14=>cond ((decide (x5.2>0))&& ((decide (v9.From<v10.From))||((v11.From==v12.From)&& (decide (v13.Zone_<v14.Zone_))))) ((F3 x5.1 (w64 (x5.2 - 1))).bind fun v15=>(F3 x5.1 x5.2).bind fun v16=>(F3 x5.1 x5.2).bind fun v17=>(F3 (B2y x5.1 x5.2 v15) (w64 (x5.2 - 1))).bind fun v18=>some (.go ((B2y (B2y x5.1 x5.2 v15) (w64 (x5.2 - 1)) v16),(w64 (x5.2 - 1))))) (some (.out x5.1))
noncomputable def Z0 (x4:((List Pass)×Int)):Option (Stp ((List Pass)×Int) (List Pass)):=
  cond (decide (x4.2< (x4.1.length:Int))) ((loop (R0) (x4.1,x4.2)).bind fun y5=>some (.go (y5,(w64 (x4.2+1))))) (some (.out x4.1))
noncomputable def Z1 (p1:Map)(p2:(List Int))(v1:(List Int))(x1:((List Pass)×Int))(x2:((List Pass)×Int))(x3:((List Pass)×Int)):Option (Stp ((List Pass)×Int) (List Pass)):=
  (F3 p1.Zones x2.2).bind fun v2=>cond (decide (x3.2< (v2.Parts.length:Int))) ((F3 p1.Zones x2.2).bind fun v3=>(F3 v3.Parts x3.2).bind fun v4=>(F3 p2 x1.2).bind fun v5=>cond (v4.Lane_==v5) ((F3 v1 x1.2).bind fun v6=>(F3 v1 x1.2).bind fun v7=>(B18 x3.1 [(Pass.mk x2.2 x3.2 (w64 (v6+v4.From)) (w64 (v7+v4.To)))]).bind fun v8=>some (.go (v8,(w64 (x3.2+1))))) (some (.go (x3.1,(w64 (x3.2+1)))))) (some (.out x3.1))
noncomputable def Z2 (p1:Map)(p2:(List Int))(v1:(List Int))(x1:((List Pass)×Int))(x2:((List Pass)×Int)):Option (Stp ((List Pass)×Int) (List Pass)):=
  cond (decide (x2.2< (p1.Zones.length:Int))) ((loop (Z1 p1 p2 v1 x1 x2) (x2.1,0)).bind fun y3=>some (.go (y3,(w64 (x2.2+1))))) (some (.out x2.1))
noncomputable def V6 (p1:Map)(p2:(List Int))(v1:(List Int))(x1:((List Pass)×Int)):Option (Stp ((List Pass)×Int) (List Pass)):=
  cond (decide (x1.2< (v1.length:Int))) ((loop (Z2 p1 p2 v1 x1) (x1.1,0)).bind fun y2=>some (.go (y2,(w64 (x1.2+1))))) (some (.out x1.1))
noncomputable def A5c (p1:Map)(p2:(List Int)):Option (List Pass):=
  (A3v p1 p2).bind fun v1=>(loop (V6 p1 p2 v1) ([],0)).bind fun y1=>(loop (Z0) (y1,1)).bind fun y4=>some y4
theorem B7r (p1:Map)(p2:(List Int))(r:(List Pass))(h:A5c p1 p2=some r):PCall Tryz.prog 45 [(.agg (A0s p1)),(.list (List.map A5 p2))] (.list (List.map J1 r)):=by
 refine E1 (fk Tryz.func45 Tryz.ntmps45 (fun r=>if r==14 then [1018]else []) (by with_unfolding_all rfl)) (nl rfl) ?_
 unfold A5c at h
 refine A9 (s0:=⟨T [(0,(.d _)),(1,(.d _))],G []⟩) (sbr rfl rfl) ?_
 refine lr (fun u1 hu1=>sn rfl rfl (sv rfl (A3 (lr (fun u2 hu2=>sv rfl (A3 (lr (fun u3 hu3=>sd rfl (B9 rfl G_hit rfl rfl) (sv rfl (bs h fun v1 hv1 h=>C4 rfl rfl A4 (A89 _ _ _ hv1) (.inl rfl) (sv rfl (A3 (A7 (lr (fun u4 hu4=>sv rfl (A3 (bs h fun y1 hy1 h=>F2 (fun s=> ∃g1:Nat,Sb ⟨T [(5,(oS y1 (75,g1)))],G [((75,g1),oB 95 4 J1 y1)]⟩ s) ?_ ?_)))))))))))))))))
 refine A8 (F0 (V6 p1 p2 v1) (fun (x1:((List Pass)×Int)) (g2:Nat)=>⟨T [(1,(dl A5 p2)),(2,(.ptr (2,u1) 0)),(5,(oS x1.1 (75,g2))),(6,(dl A5 v1)),(7,(di x1.2))],G [((2,u1),some (.box 27 (A09 p1))),((75,g2),oB 95 4 J1 x1.1)]⟩) ([],0) 0 _ hy1 (J0 ⟨.of rfl, .of rfl, .of rfl, .of rfl, .of rfl,trivial⟩ (B6 G_hit (.of rfl) (A3f trivial))) ?_)
 intro x1 g2 z1 hz1 ez1
 unfold V6 at hz1
 refine A7 (lr (fun u5 hu5=>sv rfl (sv rfl (sd rfl (F1 rfl) (sv rfl (A3 (cc rfl hz1 (fun c1 hz1=> ?_) (fun c1 hz1=> ?_))))))))
 refine B3 (A7 (A8 (lr (fun u6 hu6=>sv rfl (A3 (bs hz1 fun y2 hy2 hz1=>F2 (fun s=> ∃g3:Nat,Sb ⟨T [(1,(dl A5 p2)),(2,(.ptr (2,u1) 0)),(5,(oS y2 (75,g3))),(6,(dl A5 v1)),(7,(di x1.2))],G [((2,u1),some (.box 27 (A09 p1))),((75,g3),oB 95 4 J1 y2)]⟩ s) ?_ ?_))))))
 refine A8 (F0 (Z2 p1 p2 v1 x1) (fun (x2:((List Pass)×Int)) (g4:Nat)=>⟨T [(1,(dl A5 p2)),(2,(.ptr (2,u1) 0)),(5,(oS x2.1 (75,g4))),(6,(dl A5 v1)),(7,(di x1.2)),(8,(di x2.2))],G [((2,u1),some (.box 27 (A09 p1))),((75,g4),oB 95 4 J1 x2.1)]⟩) (x1.1,0) g2 _ hy2 (J0 ⟨.of rfl, .of rfl, .of rfl, .of rfl, .of rfl, .of rfl,trivial⟩ (B6 G_hit (.of rfl) (I7 (gq rfl) trivial))) ?_)
 intro x2 g4 z2 hz2 ez2
 unfold Z2 at hz2
 refine A7 (lr (fun u7 hu7=>sv rfl (sp rfl rfl (sl rfl G_hit rfl (sd rfl (F1 rfl) (sv rfl (A3 (cc rfl hz2 (fun c2 hz2=> ?_) (fun c2 hz2=> ?_)))))))))
 refine B3 (A7 (A8 (lr (fun u8 hu8=>sv rfl (A3 (bs hz2 fun y3 hy3 hz2=>F2 (fun s=> ∃g5:Nat,Sb ⟨T [(1,(dl A5 p2)),(2,(.ptr (2,u1) 0)),(5,(oS y3 (75,g5))),(6,(dl A5 v1)),(7,(di x1.2)),(8,(di x2.2))],G [((2,u1),some (.box 27 (A09 p1))),((75,g5),oB 95 4 J1 y3)]⟩ s) ?_ ?_))))))
 refine A8 (F0 (Z1 p1 p2 v1 x1 x2) (fun (x3:((List Pass)×Int)) (g6:Nat)=>⟨T [(1,(dl A5 p2)),(2,(.ptr (2,u1) 0)),(5,(oS x3.1 (75,g6))),(6,(dl A5 v1)),(7,(di x1.2)),(8,(di x2.2)),(9,(di x3.2))],G [((2,u1),some (.box 27 (A09 p1))),((75,g6),oB 95 4 J1 x3.1)]⟩) (x2.1,0) g4 _ hy3 (J0 ⟨.of rfl, .of rfl, .of rfl, .of rfl, .of rfl, .of rfl, .of rfl,trivial⟩ (B6 G_hit (.of rfl) (I7 (gq rfl) trivial))) ?_)
 intro x3 g6 z3 hz3 ez3
 unfold Z1 at hz3
 refine A7 (lr (fun u9 hu9=>sv rfl (sp rfl rfl (sl rfl G_hit rfl (sv rfl (bs hz3 fun v2 hv2 hz3=>sd rfl (G6 rfl rfl hv2 rfl) (sv rfl (sd rfl (E9 rfl hv2 rfl) (sd rfl (F1 rfl) (sv rfl (A3 (cc rfl hz3 (fun c3 hz3=> ?_) (fun c3 hz3=> ?_)))))))))))))
 refine B3 (A7 (A8 (lr (fun u10 hu10=>sp rfl rfl (sl rfl G_hit rfl (sv rfl (bs hz3 fun v3 hv3 hz3=>sd rfl (G6 rfl rfl hv3 rfl) (sv rfl (sd rfl (E9 rfl hv3 rfl) (sv rfl (bs hz3 fun v4 hv4 hz3=>sd rfl (G6 rfl rfl hv4 rfl) (sd rfl (F7 rfl hv4 rfl rfl) (sn rfl rfl (sst rfl G_hit (B10 v4) rfl (A3 (A7 (A9 (s0:=⟨T [(1,(dl A5 p2)),(2,(.ptr (2,u1) 0)),(5,(oS x3.1 (75,g6))),(6,(dl A5 v1)),(7,(di x1.2)),(8,(di x2.2)),(9,(di x3.2)),(10,(.ptr (10,u10) 0))],G [((2,u1),some (.box 27 (A09 p1))),((75,g6),oB 95 4 J1 x3.1),((10,u10),some (.box 91 (B10 v4)))]⟩) (J0 ⟨.of rfl, .of rfl, .of rfl, .of rfl, .of rfl, .of rfl, .of rfl, .of rfl,trivial⟩ (sg rfl (I7 (gq rfl) (B6 G_hit (.of rfl) trivial)))) ?_)))))))))))))))))
 refine N6 rfl fun u11 hu11=>sp rfl rfl (sl rfl (gq rfl) rfl (sv rfl (sv rfl (bs hz3 fun v5 hv5 hz3=>sd rfl (G6 rfl rfl hv5 rfl) (sd rfl (E9 rfl hv5 rfl) (sv rfl (A3 (cc rfl hz3 (fun c4 hz3=> ?_) (fun c4 hz3=> ?_)))))))))
 refine N6 rfl fun u12 hu12=>F4 (oS x3.1 (75,g6)) rfl rfl (sv rfl (sv rfl (sv rfl (sv rfl (bs hz3 fun v6 hv6 hz3=>sd rfl (G6 rfl rfl hv6 rfl) (sd rfl (E9 rfl hv6 rfl) (sp rfl rfl (sl rfl (gq rfl) rfl (sv rfl (sv rfl (sv rfl (bs hz3 fun v7 hv7 hz3=>sd rfl (G6 rfl rfl hv7 rfl) (sd rfl (E9 rfl hv7 rfl) (sp rfl rfl (sl rfl (gq rfl) rfl (sv rfl (sv rfl (F4 (dl J1 [(Pass.mk x2.2 x3.2 (w64 (v6+v4.From)) (w64 (v7+v4.To)))]) rfl rfl (bs hz3 fun v8 hv8 hz3=>X6 J1 (75,g6) x3.1 (Pass.mk x2.2 x3.2 (w64 (v6+v4.From)) (w64 (v7+v4.To))) [] _ (S7 (fun _=>rfl)) rfl (gq rfl) hv8 (ss rfl (A3 (H9 (A9 (s0:=⟨T [(1,(.d _)),(2,(.ptr _ _)),(5,(.sl _)),(6,(.d _)),(7,(.d _)),(8,(.d _)),(9,(.d _))],G [((2,u1),some (.box 27 _)),((75,u12),some _)]⟩) (sbr rfl rfl) ?_)))))))))))))))))))))))
 refine B8 fun u13 hu13=>sv rfl (sv rfl (sv rfl (A3 (H4 ?_))))
 cases hz3
 exact ⟨rfl,u12,(J0 ⟨.of rfl, .of rfl,(.of (A93 (A3e hv8)).symm), .of rfl, .of rfl, .of rfl, .of rfl,trivial⟩ (B6 G_hit (.of rfl) (A36 (gq rfl) trivial)))⟩
 refine B3 (H9 (B8 fun u14 hu14=>sv rfl (sv rfl (sv rfl (A3 (H4 ?_))))))
 cases hz3
 exact ⟨rfl,g6,(J0 ⟨.of rfl, .of rfl, .of rfl, .of rfl, .of rfl, .of rfl, .of rfl,trivial⟩ (B6 G_hit (.of rfl) (I7 (gq rfl) trivial)))⟩
 refine C6 rfl ?_
 cases hz3
 obtain rfl:=ez3 _ rfl
 refine ⟨nofun,C2 rfl (l_j ?_)⟩
 exact ⟨g6,(J0 ⟨.of rfl, .of rfl, .of rfl, .of rfl, .of rfl, .of rfl,trivial⟩ (B6 G_hit (.of rfl) (I7 (gq rfl) trivial)))⟩
 rintro _ ⟨g5,q1⟩
 refine H9 (A9 q1 (B8 fun u15 hu15=>sv rfl (sv rfl (sv rfl (A3 (H4 ?_))))))
 cases hz2
 exact ⟨rfl,g5,(J0 ⟨.of rfl, .of rfl, .of rfl, .of rfl, .of rfl, .of rfl,trivial⟩ (B6 G_hit (.of rfl) (I7 (gq rfl) trivial)))⟩
 refine C6 rfl ?_
 cases hz2
 obtain rfl:=ez2 _ rfl
 refine ⟨nofun,C2 rfl (l_j ?_)⟩
 exact ⟨g4,(J0 ⟨.of rfl, .of rfl, .of rfl, .of rfl, .of rfl,trivial⟩ (B6 G_hit (.of rfl) (I7 (gq rfl) trivial)))⟩
 rintro _ ⟨g3,q2⟩
 refine H9 (A9 q2 (B8 fun u16 hu16=>sv rfl (sv rfl (sv rfl (A3 (H4 ?_))))))
 cases hz1
 exact ⟨rfl,g3,(J0 ⟨.of rfl, .of rfl, .of rfl, .of rfl, .of rfl,trivial⟩ (B6 G_hit (.of rfl) (I7 (gq rfl) trivial)))⟩
 refine C6 rfl ?_
 cases hz1
 obtain rfl:=ez1 _ rfl
 refine ⟨nofun,C2 rfl (l_j ?_)⟩
 exact ⟨g2,(J0 ⟨.of rfl,trivial⟩ (I7 (gq rfl) trivial))⟩
 rintro _ ⟨g1,q3⟩
 refine A9 q3 (A7 (lr (fun u17 hu17=>sv rfl (A3 (bs h fun y4 hy4 h=>F2 (fun s=> ∃g7:Nat,Sb ⟨T [(5,(oS y4 (75,g7)))],G [((75,g7),oB 95 4 J1 y4)]⟩ s) ?_ ?_)))))
 refine A8 (F0 (Z0) (fun (x4:((List Pass)×Int)) (g8:Nat)=>⟨T [(5,(oS x4.1 (75,g8))),(11,(di x4.2))],G [((75,g8),oB 95 4 J1 x4.1)]⟩) (y1,1) g1 _ hy4 (J0 ⟨.of rfl, .of rfl,trivial⟩ (I7 G_hit trivial)) ?_)
 intro x4 g8 z4 hz4 ez4
 unfold Z0 at hz4
 refine A7 (lr (fun u18 hu18=>sv rfl (F4 (oS x4.1 (75,g8)) rfl rfl (sd rfl (D4e (f:=J1) rfl G_hit) (sv rfl (A3 (cc rfl hz4 (fun c5 hz4=> ?_) (fun c5 hz4=> ?_))))))))
 refine B3 (A7 (A8 (lr (fun u19 hu19=>sv rfl (sv rfl (A3 (bs hz4 fun y5 hy5 hz4=>F2 (fun s=> ∃g9:Nat,Sb ⟨T [(5,(oS y5 (75,g9))),(11,(di x4.2))],G [((75,g9),oB 95 4 J1 y5)]⟩ s) ?_ ?_)))))))
 refine A8 (F0 (R0) (fun (x5:((List Pass)×Int)) (g10:Nat)=>⟨T [(5,(oS x5.1 (75,g10))),(11,(di x4.2)),(12,(di x5.2))],G [((75,g10),oB 95 4 J1 x5.1)]⟩) (x4.1,x4.2) g8 _ hy5 (J0 ⟨.of rfl, .of rfl, .of rfl,trivial⟩ (I7 G_hit trivial)) ?_)
 intro x5 g10 z5 hz5 ez5
 unfold R0 at hz5
 refine A7 (A7 (N6 rfl fun u20 hu20=>sv rfl (sv rfl (sv rfl (X7 _ (oS x5.1 (75,g10)) rfl (A4y rfl) (fun _=>rfl) (gt rfl (fun _=>rfl) (bs hz5 fun v9 hv9 hz5=>X7 _ (.aptr _ _ _ _) rfl (A4y rfl) (fun w3=>(B40 (A6 w3) (A6 w3) G_hit (E8 w3 hv9))) ?_)))))))
 refine X7 _ (.aptr _ _ _ _) rfl (A4y rfl) (fun w4=>(by simp only [A6 w4];rfl)) ?_
 refine gt rfl (fun w5=>(B53 (A6 w5) (A7x G_hit (A63 (E8 w5 hv9))) (E8 w5 hv9) rfl)) (X7 _ (oS x5.1 (75,g10)) rfl (A4y rfl) (fun _=>rfl) (gt rfl (fun _=>rfl) (gt rfl (vb rfl rfl rfl) (bs hz5 fun v10 hv10 hz5=>X7 _ (.aptr _ _ _ _) rfl (A4y rfl) (fun w9=>(B40 (A6 w9) (A6 w9) G_hit (E8 w9 hv10))) ?_))))
 refine X7 _ (.aptr _ _ _ _) rfl (A4y rfl) (fun w10=>(by simp only [A6 w10];rfl)) ?_
 refine gt rfl (fun w11=>(B53 (A6 w11) (A7x G_hit (A63 (E8 w11 hv10))) (E8 w11 hv10) rfl)) (gt rfl (fun w12=>(A1q (A6 w12) (A6 w12) rfl)) (gt rfl (fun w13=>(D5h (A6 w13))) (X7 _ (oS x5.1 (75,g10)) rfl (B41 rfl) (fun _=>rfl) (gv rfl (B41 rfl) (fun _=>rfl) (bs hz5 fun v11 hv11 hz5=>X7 _ (.aptr _ _ _ _) rfl (B41 rfl) (fun w16=>(B40 (A6 w16) (A6 w16) G_hit (E8 w16 hv11))) ?_)))))
 refine X7 _ (.aptr _ _ _ _) rfl (B41 rfl) (fun w17=>(by simp only [A6 w17];rfl)) ?_
 refine gv rfl (B41 rfl) (fun w18=>(B53 (A6 w18) (A7x G_hit (A63 (E8 w18 hv11))) (E8 w18 hv11) rfl)) (X7 _ (oS x5.1 (75,g10)) rfl (B41 rfl) (fun _=>rfl) (gv rfl (B41 rfl) (fun _=>rfl) (gv rfl (B41 rfl) (vb rfl rfl rfl) (bs hz5 fun v12 hv12 hz5=>X7 _ (.aptr _ _ _ _) rfl (B41 rfl) (fun w22=>(B40 (A6 w22) (A6 w22) G_hit (E8 w22 hv12))) ?_))))
 refine X7 _ (.aptr _ _ _ _) rfl (B41 rfl) (fun w23=>(by simp only [A6 w23];rfl)) ?_
 refine gv rfl (B41 rfl) (fun w24=>(B53 (A6 w24) (A7x G_hit (A63 (E8 w24 hv12))) (E8 w24 hv12) rfl)) (gv rfl (B41 rfl) (fun w25=>(A1q (A6 w25) (A6 w25) rfl)) (gv rfl (B41 rfl) (fun w26=>(D5h (A6 w26))) (X7 _ (oS x5.1 (75,g10)) rfl (A8n rfl) (fun _=>rfl) (gv rfl (A8n rfl) (fun _=>rfl) (bs hz5 fun v13 hv13 hz5=>X7 _ (.aptr _ _ _ _) rfl (A8n rfl) (fun w29=>(B40 (A6 w29) (A6 w29) G_hit (E8 w29 hv13))) ?_)))))
 refine X7 _ (.aptr _ _ _ _) rfl (A8n rfl) (fun w30=>(by simp only [A6 w30];rfl)) ?_
 refine gv rfl (A8n rfl) (fun w31=>(B53 (A6 w31) (A7x G_hit (A63 (E8 w31 hv13))) (E8 w31 hv13) rfl)) (X7 _ (oS x5.1 (75,g10)) rfl (A8n rfl) (fun _=>rfl) (gv rfl (A8n rfl) (fun _=>rfl) (gv rfl (A8n rfl) (vb rfl rfl rfl) (bs hz5 fun v14 hv14 hz5=>X7 _ (.aptr _ _ _ _) rfl (A8n rfl) (fun w35=>(B40 (A6 w35) (A6 w35) G_hit (E8 w35 hv14))) ?_))))
 refine X7 _ (.aptr _ _ _ _) rfl (A8n rfl) (fun w36=>(by simp only [A6 w36];rfl)) ?_
 refine gv rfl (A8n rfl) (fun w37=>(B53 (A6 w37) (A7x G_hit (A63 (E8 w37 hv14))) (E8 w37 hv14) rfl)) (gv rfl (A8n rfl) (fun w38=>(A1q (A6 w38) (A6 w38) rfl)) (gv rfl (B41 rfl) (fun w39=>(D2j (A6 w39) (fun hc=>A6 (D2k w39 hc)) rfl)) (gt rfl (fun w40=>(A4j (A6 w40) rfl (fun hc=>A6 (D2k w40 (R5 hc))))) (sa rfl rfl rfl (A3 (cc rfl hz5 (fun c6 hz5=> ?_) (fun c6 hz5=> ?_)))))))
 refine B3 (A7 (A8 (A9 (s0:=⟨T [(5,(oS x5.1 (75,g10))),(11,(di x4.2)),(12,(di x5.2))],G [((75,g10),oB 95 4 J1 x5.1)]⟩) (J0 ⟨.of rfl, .of rfl, .of rfl,trivial⟩ (I7 G_hit trivial)) ?_)))
 refine N6 rfl fun u21 hu21=>F4 (oS x5.1 (75,g10)) rfl rfl (sv rfl (F4 (oS x5.1 (75,g10)) rfl rfl (sv rfl (sv rfl (F4 (oS x5.1 (75,g10)) rfl rfl (sv rfl (sv rfl (bs hz5 fun v15 hv15 hz5=>F4 (.aptr _ _ _ _) rfl (B40 rfl rfl G_hit hv15) (sd rfl (A13 rfl (A7x G_hit (A63 hv15)) hv15 rfl rfl) (F4 (oS x5.1 (75,g10)) rfl rfl (sv rfl (bs hz5 fun v16 hv16 hz5=>F4 (.aptr _ _ _ _) rfl (B40 rfl rfl G_hit hv16) (sd rfl (A13 rfl (A7x G_hit (A63 hv16)) hv16 rfl rfl) (bs hz5 fun v17 hv17 hz5=>F4 (.aptr _ _ _ _) rfl (B40 rfl rfl G_hit hv17) ?_))))))))))))))
 rw [A93 (A63 hv17)]
 refine A6f J1 _ _ _ (x5.2) _ v15 (J1 v15) rfl rfl rfl (A7x G_hit (A63 hv17)) hv17 (nl rfl) rfl (bs hz5 fun v18 hv18 hz5=>F4 (.aptr _ _ _ _) rfl (A2j rfl rfl G_hit hv18) (A6f J1 _ _ _ ((w64 (x5.2 - 1))) _ v16 (J1 v16) rfl rfl rfl G_hit hv18 (nl rfl) rfl (A3 (H9 (B8 fun u22 hu22=>sv rfl (sv rfl (sv rfl (A3 (H4 ?_)))))))))
 cases hz5
 exact ⟨rfl,g10,(J0 ⟨(.of (A93 (C7p (C7p (A63 hv17)))).symm), .of rfl, .of rfl,trivial⟩ (A36 G_hit trivial))⟩
 refine C6 rfl ?_
 cases hz5
 obtain rfl:=ez5 _ rfl
 refine ⟨nofun,C2 rfl (l_j ?_)⟩
 exact ⟨g10,(J0 ⟨.of rfl, .of rfl,trivial⟩ (I7 G_hit trivial))⟩
 rintro _ ⟨g9,q4⟩
 refine H9 (A9 q4 (B8 fun u23 hu23=>sv rfl (sv rfl (sv rfl (A3 (H4 ?_))))))
 cases hz4
 exact ⟨rfl,g9,(J0 ⟨.of rfl, .of rfl,trivial⟩ (I7 G_hit trivial))⟩
 refine C6 rfl ?_
 cases hz4
 obtain rfl:=ez4 _ rfl
 refine ⟨nofun,C2 rfl (l_j ?_)⟩
 exact ⟨g8,(J0 ⟨.of rfl,trivial⟩ (I7 G_hit trivial))⟩
 rintro _ ⟨g7,q5⟩
 refine A9 q5 (lr (fun u24 hu24=>F4 (oS y4 (75,g7)) rfl rfl (F4 (oS y4 (75,g7)) rfl rfl (A3 (B5 ?_)))))
 cases h
 exact B0 (.inr rfl) (C1 (B4 rfl) (B1b G_hit)) B1a
noncomputable def A2e (p1:(List Pass))(p2:(List Pass))(x1:Int):Option (Stp Int (Sum Unit Bool)):=
  cond ((decide (x1< (p1.length:Int)))&& (decide (x1< (p2.length:Int)))) ((F3 p1 x1).bind fun v1=>(F3 p2 x1).bind fun v2=>cond (!(v1.Zone_==v2.Zone_&& (v1.Part_==v2.Part_&& (v1.From==v2.From&& (v1.To==v2.To&&true))))) (some (.out (.inr false))) (some (.go (w64 (x1+1))))) (some (.out (.inl ())))
noncomputable def A4t (p1:(List Pass))(p2:(List Pass)):Option Bool:=
  thenS (loop (A2e p1 p2) 0) (fun _=>some ((p1.length:Int)==(p2.length:Int))) (fun r=>some r)
theorem B56 (p1:(List Pass))(p2:(List Pass))(r:Bool)(h:A4t p1 p2=some r):PCall Tryz.prog 43 [(.list (List.map J1 p1)),(.list (List.map J1 p2))] (bo r):=by
 refine E1 (fk Tryz.func43 Tryz.ntmps43 m0 (by with_unfolding_all rfl)) (nl rfl) ?_
 unfold A4t at h
 refine A9 (s0:=⟨T [(0,(.d _)),(1,(.d _))],G []⟩) (sbr rfl rfl) ?_
 refine lr (fun u1 hu1=>sv rfl (A3 (A7 (lr (fun u2 hu2=>sv rfl (A3 (js h fun z1 hz1 h=>F2 (fun s=> ∃(y1:Unit) (g1:Unit),z1= .inl y1∧Sb ⟨T [(0,(dl J1 p1)),(1,(dl J1 p2))],G []⟩ s) ?_ ?_)))))))
 refine A8 (F0 (A2e p1 p2) (fun (x1:Int) (g2:Unit)=>⟨T [(0,(dl J1 p1)),(1,(dl J1 p2)),(5,(di x1))],G []⟩) 0 () _ hz1 (sbr rfl rfl) ?_)
 intro x1 g2 z2 hz2 ez2
 unfold A2e at hz2
 refine A7 (lr (fun u3 hu3=>sv rfl (sv rfl (sd rfl (F1 rfl) (sv rfl (sv rfl (gt rfl (fun _=>rfl) (gt rfl (fun _=>rfl) (gt rfl (fun w3=>(F1 (A6 w3))) (gt rfl (fun w4=>(A1q (A6 w4) (A6 w4) rfl)) (sa rfl rfl rfl (A3 (cc rfl hz2 (fun c1 hz2=> ?_) (fun c1 hz2=> ?_))))))))))))))
 refine B3 (A7 (A8 (A7 (N6 rfl fun u4 hu4=>sv rfl (sv rfl (bs hz2 fun v1 hv1 hz2=>sd rfl (G6 rfl rfl hv1 rfl) (sd rfl (F7 rfl hv1 rfl rfl) (sv rfl (sv rfl (bs hz2 fun v2 hv2 hz2=>sd rfl (G6 rfl rfl hv2 rfl) (sd rfl (F7 rfl hv2 rfl rfl) (F4 (.d (bo (!(v1.Zone_==v2.Zone_&& (v1.Part_==v2.Part_&& (v1.From==v2.From&& (v1.To==v2.To&&true))))))) rfl rfl (A3 (cc rfl hz2 (fun c2 hz2=> ?_) (fun c2 hz2=> ?_)))))))))))))))
 refine lr (fun u5 hu5=>sv rfl (A3 (B5 ?_)))
 cases hz2
 obtain rfl:=ez2 _ rfl
 refine ⟨nofun,F8 ?_⟩
 rw [Sum.elim_inr]at h
 cases h
 exact B0 (.inr rfl) (C1 (B4 rfl) I6) (.refl _)
 refine B3 (H9 (B8 fun u6 hu6=>sv rfl (sv rfl (sv rfl (A3 (H4 ?_))))))
 cases hz2
 exact ⟨rfl,(),(sbr rfl rfl)⟩
 refine C6 rfl ?_
 cases hz2
 obtain rfl:=ez2 _ rfl
 refine ⟨nofun,C2 rfl (l_j ?_)⟩
 exact ⟨_,(),rfl,(sbr rfl rfl)⟩
 rintro _ ⟨y1,g1,rfl,q1⟩
 rw [Sum.elim_inl]at h
 refine A9 q1 (lr (fun u7 hu7=>sv rfl (sd rfl (F1 rfl) (sv rfl (sd rfl (F1 rfl) (sv rfl (sv rfl (A3 (B5 ?_)))))))))
 cases h
 exact B0 (.inr rfl) (C1 (B4 rfl) I6) (.refl _)
noncomputable def A4f (p1:Int)(p2:Map)(p3:Int):Option Bool:=
  (F3 p2.Zones p3).bind fun v1=>(A23 v1 p1).bind fun v2=>some v2.2
theorem B2m (p1:Int)(p2:Map)(p3:Int)(r:Bool)(h:A4f p1 p2 p3=some r):PCall Tryz.prog 146 [(i64 p1),(.bp (A0s p2) 0),(.bp [(i64 p3)] 0)] (bo r):=by
 refine E1 (fk Tryz.func146 Tryz.ntmps146 m0 (by with_unfolding_all rfl)) (nl rfl) ?_
 unfold A4f at h
 refine A9 (s0:=⟨T [(0,(.d _)),(1,(.d _)),(2,(.d _))],G []⟩) (sbr rfl rfl) ?_
 refine lr (fun u1 hu1=>sv rfl (A3 (lr (fun u2 hu2=>sv rfl (sv rfl (sv rfl (bs h fun v1 hv1 h=>sd rfl (G6 rfl rfl hv1 rfl) (sd rfl (F7 rfl hv1 rfl rfl) (sv rfl (bs h fun v2 hv2 h=>C4 rfl rfl A4 (A5m _ _ _ hv2) (.inl rfl) (sv rfl (sv rfl (sv rfl (sn rfl rfl (sst rfl G_hit (B10 v2.1) rfl (sv rfl (A3 (lr (fun u3 hu3=>sv rfl (sv rfl (A3 (B5 ?_))))))))))))))))))))))
 cases h
 exact B0 (.inr rfl) (C1 (B4 rfl) I6) (.refl _)
noncomputable def I9 (p1:(List Int))(p2:Map)(p3:Int)(x1:Int):Option (Stp Int (Sum Unit Int)):=
  cond (decide (x1< (p1.length:Int))) ((F3 p1 x1).bind fun v1=>(A4f v1 p2 p3).bind fun v2=>cond v2 (some (.out (.inr x1))) (some (.go (w64 (x1+1))))) (some (.out (.inl ())))
noncomputable def J3 (p1:(List Int))(p2:Map)(p3:Int):Option Int:=
  thenS (loop (I9 p1 p2 p3) 0) (fun _=>some (-1)) (fun r=>some r)
theorem A2s (p1:(List Int))(p2:Map)(p3:Int)(r:Int)(h:J3 p1 p2 p3=some r):PCall Tryz.prog 145 [(.list (List.map A5 p1)),(.fn (.func 146) [] [(.bp (A0s p2) 0),(.bp [(i64 p3)] 0)])] (i64 r):=by
 refine E1 (fk Tryz.func145 Tryz.ntmps145 m0 (by with_unfolding_all rfl)) (nl rfl) ?_
 unfold J3 at h
 refine A9 (s0:=⟨T [(0,(.d _)),(1,(.d _))],G []⟩) (sbr rfl rfl) ?_
 refine lr (fun u1 hu1=>sv rfl (A3 (A7 (lr (fun u2 hu2=>sv rfl (sd rfl (F1 rfl) (sv rfl (A3 (js h fun z1 hz1 h=>F2 (fun s=> ∃(y1:Unit) (g1:Unit),z1= .inl y1∧Sb ⟨T [],G []⟩ s) ?_ ?_)))))))))
 refine A8 (F0 (I9 p1 p2 p3) (fun (x1:Int) (g2:Unit)=>⟨T [(0,(dl A5 p1)),(1,(.d (.fn (.func 146) [] [(.bp (A0s p2) 0),(.bp [(i64 p3)] 0)]))),(7,(di (p1.length:Int))),(8,(di x1))],G []⟩) 0 () _ hz1 (sbr rfl rfl) ?_)
 intro x1 g2 z2 hz2 ez2
 unfold I9 at hz2
 refine lr (fun u3 hu3=>sv rfl (A3 (A7 (cc rfl hz2 (fun c1 hz2=> ?_) (fun c1 hz2=> ?_)))))
 refine B3 (A7 (A8 (lr (fun u4 hu4=>sv rfl (sv rfl (A3 (lr (fun u5 hu5=>sv rfl (sv rfl (sv rfl (bs hz2 fun v1 hv1 hz2=>sd rfl (G6 rfl rfl hv1 rfl) (sd rfl (E9 rfl hv1 rfl) (bs hz2 fun v2 hv2 hz2=>C4 rfl rfl A4 (B2m _ _ _ _ hv2) (.inl rfl) (A3 (cc rfl hz2 (fun c2 hz2=> ?_) (fun c2 hz2=> ?_))))))))))))))))
 refine lr (fun u6 hu6=>sv rfl (sv rfl (A3 (B5 ?_))))
 cases hz2
 obtain rfl:=ez2 _ rfl
 refine ⟨nofun,F8 ?_⟩
 rw [Sum.elim_inr]at h
 cases h
 exact B0 (.inr rfl) (C1 (B4 rfl) I6) (.refl _)
 refine B3 (H9 (B8 fun u7 hu7=>sv rfl (sv rfl (A3 (H4 ?_)))))
 cases hz2
 exact ⟨rfl,(),(sbr rfl rfl)⟩
 refine C6 rfl ?_
 cases hz2
 obtain rfl:=ez2 _ rfl
 refine ⟨nofun,C2 rfl (l_j ?_)⟩
 exact ⟨_,(),rfl,(sbr rfl rfl)⟩
 rintro _ ⟨y1,g1,rfl,q1⟩
 rw [Sum.elim_inl]at h
 refine A9 q1 (lr (fun u8 hu8=>sv rfl (A3 (B5 ?_))))
 cases h
 exact B0 (.inr rfl) (C1 (B4 rfl) I6) (.refl _)
noncomputable def A8a (p1:Map)(p2:(List Int))(p3:Int):Option Int:=
  (Y3 p1 p2).bind fun v1=>cond ((decide (p3<0))||(decide (p3≥(p1.Zones.length:Int)))) (some (-1)) ((J3 v1.lanes p1 p3).bind fun v2=>some v2)
theorem B8z (p1:Map)(p2:(List Int))(p3:Int)(r:Int)(h:A8a p1 p2 p3=some r):PCall Tryz.prog 46 [(.agg (A0s p1)),(.list (List.map A5 p2)),(i64 p3)] (i64 r):=by
 refine E1 (fk Tryz.func46 Tryz.ntmps46 m0 (by with_unfolding_all rfl)) (nl rfl) ?_
 unfold A8a at h
 refine A9 (s0:=⟨T [(0,(.d _)),(1,(.d _)),(2,(.d _))],G []⟩) (sbr rfl rfl) ?_
 refine lr (fun u1 hu1=>sn rfl rfl (sn rfl rfl (sv rfl (A3 (lr (fun u2 hu2=>sd rfl (B9 rfl (gq rfl) rfl rfl) (sv rfl (bs h fun v1 hv1 h=>C4 rfl rfl A4 (A3j _ _ _ hv1) (.inl rfl) (sn rfl rfl (sst rfl G_hit (W5 v1) rfl (A3 (A7 (lr (fun u3 hu3=>sl rfl (gq rfl) rfl (sv rfl (sv rfl (gf rfl (fun w1=>(B75 rfl (gq rfl) rfl)) (gp rfl (A0f rfl) (fun _=>rfl) (gf rfl (vl rfl (gq rfl) rfl) (gf rfl (fun w4=>(F1 (A6 w4))) (gf rfl (fun w5=>(A1q (A6 w5) (A6 w5) rfl)) (sd rfl (A4j rfl rfl (fun hc=>A6 (R5 hc))) (A3 (cc rfl h (fun c1 h=> ?_) (fun c1 h=> ?_)))))))))))))))))))))))))
 refine A7 (A9 (s0:=⟨T [],G []⟩) (sbr rfl rfl) ?_)
 refine B8 fun u4 hu4=>sv rfl (A3 (B5 ?_))
 cases h
 exact B0 (.inr rfl) (C1 (B4 rfl) I6) (.refl _)
 refine B3 (A7 (A9 (s0:=⟨T [(3,(.ptr _ _)),(5,(.ptr _ _)),(7,(.ptr _ _))],G [((3,u1),some (.box 27 _)),((5,u1),some (.box 3 _)),((7,u2),some (.box 169 _))]⟩) (sbr rfl rfl) ?_))
 refine B8 fun u5 hu5=>sp rfl rfl (sl rfl (gq rfl) rfl (F4 (.fn _ _ _) rfl rfl (bs h fun v2 hv2 h=>C4 rfl (rD (Q5 (C3d N0 (Q5 (B0w G_hit (rD (rD (rD (rD (rD N0)))))) (Q5 (B0w (gq rfl) (rD N0)) N0))) N0)) A4 (A2s _ _ _ _ hv2) (.inr rfl) (sv rfl (A3 (B5 ?_))))))
 cases h
 exact B0 (.inr rfl) (C1 (B4 rfl) I6) (.refl _)
noncomputable def A2t (p1:Zone)(p2:Int)(x1:Int):Option (Stp Int (Sum Unit (Part×Bool))):=
  cond (decide (x1< (p1.Parts.length:Int))) ((F3 p1.Parts x1).bind fun v1=>cond (v1.Lane_==p2) ((F3 p1.Parts x1).bind fun v2=>some (.out (.inr (v2,true)))) (some (.go (w64 (x1+1))))) (some (.out (.inl ())))
noncomputable def B29 (p1:Zone)(p2:Int):Option (Part×Bool):=
  thenS (loop (A2t p1 p2) 0) (fun _=>some ((Part.mk 0 0 0 0),false)) (fun r=>some r)
theorem C0o (p1:Zone)(p2:Int)(r:(Part×Bool))(h:B29 p1 p2=some r):PCall Tryz.prog 148 [(.agg [(.list (List.map R3 p1.Parts)),(i64 p1.Signal_)]),(i64 p2)] (.tup [(.agg (R3 r.1)),(bo r.2)]):=by
 refine E1 (fk Tryz.func148 Tryz.ntmps148 m0 (by with_unfolding_all rfl)) (nl rfl) ?_
 unfold B29 at h
 refine A9 (s0:=⟨T [(0,(.d _)),(1,(.d _))],G []⟩) (sbr rfl rfl) ?_
 refine lr (fun u1 hu1=>sn rfl rfl (sn rfl rfl (sv rfl (A3 (A7 (lr (fun u2 hu2=>sv rfl (A3 (js h fun z1 hz1 h=>F2 (fun s=> ∃(y1:Unit) (g1:Unit),z1= .inl y1∧Sb ⟨T [(4,(.ptr (4,u1) 0))],G [((4,u1),some (.box 91 (zs 4)))]⟩ s) ?_ ?_)))))))))
 refine A8 (F0 (A2t p1 p2) (fun (x1:Int) (g2:Unit)=>⟨T [(1,(di p2)),(2,(.ptr (2,u1) 0)),(4,(.ptr (4,u1) 0)),(6,(di x1))],G [((2,u1),some (.box 45 [(dl R3 p1.Parts),(di p1.Signal_)])),((4,u1),some (.box 91 (zs 4)))]⟩) 0 () _ hz1 (sbr rfl rfl) ?_)
 intro x1 g2 z2 hz2 ez2
 unfold A2t at hz2
 refine A7 (lr (fun u3 hu3=>sv rfl (sp rfl rfl (sl rfl G_hit rfl (sd rfl (F1 rfl) (sv rfl (A3 (cc rfl hz2 (fun c1 hz2=> ?_) (fun c1 hz2=> ?_)))))))))
 refine B3 (A7 (A8 (lr (fun u4 hu4=>sp rfl rfl (sl rfl G_hit rfl (sv rfl (bs hz2 fun v1 hv1 hz2=>sd rfl (G6 rfl rfl hv1 rfl) (sv rfl (sd rfl (E9 rfl hv1 rfl) (sv rfl (sv rfl (A3 (cc rfl hz2 (fun c2 hz2=> ?_) (fun c2 hz2=> ?_))))))))))))))
 refine lr (fun u5 hu5=>sp rfl rfl (sl rfl G_hit rfl (sv rfl (bs hz2 fun v2 hv2 hz2=>sd rfl (G6 rfl rfl hv2 rfl) (sd rfl (F7 rfl hv2 rfl rfl) (sst rfl (gq rfl) (B10 v2) rfl (sv rfl (A3 (B5 ?_)))))))))
 cases hz2
 obtain rfl:=ez2 _ rfl
 refine ⟨nofun,F8 ?_⟩
 rw [Sum.elim_inr]at h
 cases h
 exact B0 (.inr rfl) (C5v (A2w rfl G_hit (nl rfl) rfl) (B4 rfl) I6 I6) (.refl _)
 refine B3 (H9 (B8 fun u6 hu6=>sv rfl (sv rfl (sv rfl (A3 (H4 ?_))))))
 cases hz2
 exact ⟨rfl,(),(sbr rfl rfl)⟩
 refine C6 rfl ?_
 cases hz2
 obtain rfl:=ez2 _ rfl
 refine ⟨nofun,C2 rfl (l_j ?_)⟩
 exact ⟨_,(),rfl,(sbr rfl rfl)⟩
 rintro _ ⟨y1,g1,rfl,q1⟩
 rw [Sum.elim_inl]at h
 refine A9 q1 (lr (fun u7 hu7=>sv rfl (sst rfl G_hit (zs 4) rfl (sv rfl (A3 (B5 ?_))))))
 cases h
 exact B0 (.inr rfl) (C5v (A2w rfl G_hit (nl rfl) rfl) (B4 rfl) I6 I6) (.refl _)
noncomputable def A4u (p1:Map)(p2:(List Int))(p3:Int)(x1:Int):Option (Stp Int (Sum Unit Int)):=
  cond (decide (x1< (p2.length:Int))) ((F3 p1.Zones p3).bind fun v2=>(F3 p2 x1).bind fun v3=>(B29 v2 v3).bind fun v4=>cond v4.2 (some (.out (.inr x1))) (some (.go (w64 (x1+1))))) (some (.out (.inl ())))
noncomputable def A8b (p1:Map)(p2:(List Int))(p3:Int):Option Int:=
  (W0 p1 p2).bind fun v1=>cond (((v1 !=0)||(decide (p3<0)))||(decide (p3≥(p1.Zones.length:Int)))) (some (-1)) (thenS (loop (A4u p1 p2 p3) 0) (fun _=>some (-1)) (fun r=>some r))
theorem B90 (p1:Map)(p2:(List Int))(p3:Int)(r:Int)(h:A8b p1 p2 p3=some r):PCall Tryz.prog 47 [(.agg (A0s p1)),(.list (List.map A5 p2)),(i64 p3)] (i64 r):=by
 refine E1 (fk Tryz.func47 Tryz.ntmps47 m0 (by with_unfolding_all rfl)) (nl rfl) ?_
 unfold A8b at h
 refine A9 (s0:=⟨T [(0,(.d _)),(1,(.d _)),(2,(.d _))],G []⟩) (sbr rfl rfl) ?_
 refine lr (fun u1 hu1=>sn rfl rfl (sv rfl (A3 (A7 (lr (fun u2 hu2=>sd rfl (B9 rfl G_hit rfl rfl) (sv rfl (bs h fun v1 hv1 h=>C4 rfl rfl A4 (A2r _ _ _ hv1) (.inl rfl) (sv rfl (sv rfl (gf rfl (fun _=>rfl) (gf rfl (vb rfl rfl rfl) (sd rfl (A4j rfl rfl (fun hc=>A6 (R5 hc))) (sv rfl (gf rfl (fun _=>rfl) (gp rfl (A0f rfl) (fun _=>rfl) (gf rfl (vl rfl G_hit rfl) (gf rfl (fun w6=>(F1 (A6 w6))) (gf rfl (fun w7=>(A1q (A6 w7) (A6 w7) rfl)) (sd rfl (A4j rfl rfl (fun hc=>A6 (R5 hc))) (A3 (cc rfl h (fun c1 h=> ?_) (fun c1 h=> ?_)))))))))))))))))))))))
 refine lr (fun u3 hu3=>sv rfl (A3 (B5 ?_)))
 cases h
 exact B0 (.inr rfl) (C1 (B4 rfl) I6) (.refl _)
 refine B3 (A7 (lr (fun u4 hu4=>sv rfl (A3 (js h fun z1 hz1 h=>F2 (fun s=> ∃(y1:Unit) (g1:Unit),z1= .inl y1∧Sb ⟨T [],G []⟩ s) ?_ ?_)))))
 refine A8 (F0 (A4u p1 p2 p3) (fun (x1:Int) (g2:Unit)=>⟨T [(1,(dl A5 p2)),(2,(di p3)),(3,(.ptr (3,u1) 0)),(7,(di x1))],G [((3,u1),some (.box 27 (A09 p1)))]⟩) 0 () _ hz1 (sbr rfl rfl) ?_)
 intro x1 g2 z2 hz2 ez2
 unfold A4u at hz2
 refine A7 (lr (fun u5 hu5=>sv rfl (sv rfl (sd rfl (F1 rfl) (sv rfl (A3 (cc rfl hz2 (fun c2 hz2=> ?_) (fun c2 hz2=> ?_))))))))
 refine B3 (A7 (A8 (A7 (N6 rfl fun u6 hu6=>sp rfl rfl (sl rfl G_hit rfl (sv rfl (bs hz2 fun v2 hv2 hz2=>sd rfl (G6 rfl rfl hv2 rfl) (sd rfl (F7 rfl hv2 rfl rfl) (sv rfl (sv rfl (bs hz2 fun v3 hv3 hz2=>sd rfl (G6 rfl rfl hv3 rfl) (sd rfl (E9 rfl hv3 rfl) (bs hz2 fun v4 hv4 hz2=>C4 rfl rfl A4 (C0o _ _ _ hv4) (.inl rfl) (sv rfl (sv rfl (sv rfl (sn rfl rfl (sst rfl G_hit (B10 v4.1) rfl (sv rfl (A3 (A7 (A9 (s0:=⟨T [(1,(.d _)),(2,(.d _)),(3,(.ptr _ _)),(7,(.d _)),(9,(.d _))],G [((3,u1),some (.box 27 _))]⟩) (sbr rfl rfl) ?_))))))))))))))))))))))
 refine B8 fun u7 hu7=>sv rfl (A3 (cc rfl hz2 (fun c3 hz2=> ?_) (fun c3 hz2=> ?_)))
 refine lr (fun u8 hu8=>sv rfl (sv rfl (A3 (B5 ?_))))
 cases hz2
 obtain rfl:=ez2 _ rfl
 refine ⟨nofun,F8 ?_⟩
 rw [Sum.elim_inr]at h
 cases h
 exact B0 (.inr rfl) (C1 (B4 rfl) I6) (.refl _)
 refine B3 (H9 (B8 fun u9 hu9=>sv rfl (sv rfl (sv rfl (A3 (H4 ?_))))))
 cases hz2
 exact ⟨rfl,(),(sbr rfl rfl)⟩
 refine C6 rfl ?_
 cases hz2
 obtain rfl:=ez2 _ rfl
 refine ⟨nofun,C2 rfl (l_j ?_)⟩
 exact ⟨_,(),rfl,(sbr rfl rfl)⟩
 rintro _ ⟨y1,g1,rfl,q1⟩
 rw [Sum.elim_inl]at h
 refine A9 q1 (lr (fun u10 hu10=>sv rfl (A3 (B5 ?_))))
 cases h
 exact B0 (.inr rfl) (C1 (B4 rfl) I6) (.refl _)
noncomputable def A3y (p1:(List Int))(p2:(List Int))(x1:Int):Option (Stp Int (Sum Unit Bool)):=
  cond ((decide (x1< (p1.length:Int)))&& (decide (x1< (p2.length:Int)))) ((F3 p1 x1).bind fun v1=>(F3 p2 x1).bind fun v2=>cond (v1 !=v2) (some (.out (.inr false))) (some (.go (w64 (x1+1))))) (some (.out (.inl ())))
noncomputable def A73 (p1:(List Int))(p2:(List Int)):Option Bool:=
  thenS (loop (A3y p1 p2) 0) (fun _=>some ((p1.length:Int)==(p2.length:Int))) (fun r=>some r)
theorem B7s (p1:(List Int))(p2:(List Int))(r:Bool)(h:A73 p1 p2=some r):PCall Tryz.prog 48 [(.list (List.map A5 p1)),(.list (List.map A5 p2))] (bo r):=by
 refine E1 (fk Tryz.func48 Tryz.ntmps48 m0 (by with_unfolding_all rfl)) (nl rfl) ?_
 unfold A73 at h
 refine A9 (s0:=⟨T [(0,(.d _)),(1,(.d _))],G []⟩) (sbr rfl rfl) ?_
 refine lr (fun u1 hu1=>sv rfl (A3 (A7 (lr (fun u2 hu2=>sv rfl (A3 (js h fun z1 hz1 h=>F2 (fun s=> ∃(y1:Unit) (g1:Unit),z1= .inl y1∧Sb ⟨T [(0,(dl A5 p1)),(1,(dl A5 p2))],G []⟩ s) ?_ ?_)))))))
 refine A8 (F0 (A3y p1 p2) (fun (x1:Int) (g2:Unit)=>⟨T [(0,(dl A5 p1)),(1,(dl A5 p2)),(5,(di x1))],G []⟩) 0 () _ hz1 (sbr rfl rfl) ?_)
 intro x1 g2 z2 hz2 ez2
 unfold A3y at hz2
 refine A7 (lr (fun u3 hu3=>sv rfl (sv rfl (sd rfl (F1 rfl) (sv rfl (sv rfl (gt rfl (fun _=>rfl) (gt rfl (fun _=>rfl) (gt rfl (fun w3=>(F1 (A6 w3))) (gt rfl (fun w4=>(A1q (A6 w4) (A6 w4) rfl)) (sa rfl rfl rfl (A3 (cc rfl hz2 (fun c1 hz2=> ?_) (fun c1 hz2=> ?_))))))))))))))
 refine B3 (A7 (A8 (A7 (N6 rfl fun u4 hu4=>sv rfl (sv rfl (bs hz2 fun v1 hv1 hz2=>sd rfl (G6 rfl rfl hv1 rfl) (sd rfl (E9 rfl hv1 rfl) (sv rfl (sv rfl (bs hz2 fun v2 hv2 hz2=>sd rfl (G6 rfl rfl hv2 rfl) (sd rfl (E9 rfl hv2 rfl) (sv rfl (A3 (cc rfl hz2 (fun c2 hz2=> ?_) (fun c2 hz2=> ?_)))))))))))))))
 refine lr (fun u5 hu5=>sv rfl (A3 (B5 ?_)))
 cases hz2
 obtain rfl:=ez2 _ rfl
 refine ⟨nofun,F8 ?_⟩
 rw [Sum.elim_inr]at h
 cases h
 exact B0 (.inr rfl) (C1 (B4 rfl) I6) (.refl _)
 refine B3 (H9 (B8 fun u6 hu6=>sv rfl (sv rfl (sv rfl (A3 (H4 ?_))))))
 cases hz2
 exact ⟨rfl,(),(sbr rfl rfl)⟩
 refine C6 rfl ?_
 cases hz2
 obtain rfl:=ez2 _ rfl
 refine ⟨nofun,C2 rfl (l_j ?_)⟩
 exact ⟨_,(),rfl,(sbr rfl rfl)⟩
 rintro _ ⟨y1,g1,rfl,q1⟩
 rw [Sum.elim_inl]at h
 refine A9 q1 (lr (fun u7 hu7=>sv rfl (sd rfl (F1 rfl) (sv rfl (sd rfl (F1 rfl) (sv rfl (sv rfl (A3 (B5 ?_)))))))))
 cases h
 exact B0 (.inr rfl) (C1 (B4 rfl) I6) (.refl _)
noncomputable def A4g (p1:Map)(p2:(List Int))(p3:Int)(p4:Int):Option Bool:=
  (B1f p1).bind fun v1=>cond ((!v1)||(decide ((p2.length:Int)>10))) ((A3p).bind fun v2=>some v2) ((B18 ([]:List Int) p2).bind fun v3=>(A0w p1 v3 p3).bind fun v4=>(A52 p1 p2 p3).bind fun v5=>(V9 p1 v3).bind fun v6=>(W0 p1 p2).bind fun v7=>((cond (!((((v6 !=v7)||(v4.1 !=v5.1))||(v4.2.1 !=v5.2.1))||(!(v4.2.2==v5.2.2)))) (A28 p1 v3) (some default))).bind fun v8=>((cond (!((((v6 !=v7)||(v4.1 !=v5.1))||(v4.2.1 !=v5.2.1))||(!(v4.2.2==v5.2.2)))) (A0r p1 p2) (some default))).bind fun v9=>cond (((((v6 !=v7)||(v4.1 !=v5.1))||(v4.2.1 !=v5.2.1))||(!(v4.2.2==v5.2.2)))||(v8 !=v9)) (some false) ((A72 p1 v3).bind fun v10=>(A3v p1 p2).bind fun v11=>(A5q v10 v11).bind fun v12=>((cond (!(!v12)) (A3x p1 v3) (some default))).bind fun v13=>((cond (!(!v12)) (A5c p1 p2) (some default))).bind fun v14=>((cond (!(!v12)) (A4t v13 v14) (some default))).bind fun v15=>cond ((!v12)||(!v15)) (some false) ((A8a p1 v3 p4).bind fun v16=>(A8b p1 p2 p4).bind fun v17=>((cond (v16==v17) (A73 v3 p2) (some default))).bind fun v18=>((cond ((v16==v17)&&v18) (A3p) (some default))).bind fun v19=>some (((v16==v17)&&v18)&&v19))))
theorem B2n (p1:Map)(p2:(List Int))(p3:Int)(p4:Int)(r:Bool)(h:A4g p1 p2 p3 p4=some r):PCall Tryz.prog 9 [(.agg (A0s p1)),(.list (List.map A5 p2)),(i64 p3),(i64 p4)] (bo r):=by
 refine E1 (fk Tryz.func9 Tryz.ntmps9 m0 (by with_unfolding_all rfl)) (nl rfl) ?_
 unfold A4g at h
 refine A9 (s0:=⟨T [(0,(.d _)),(1,(.d _)),(2,(.d _)),(3,(.d _))],G []⟩) (sbr rfl rfl) ?_
 refine lr (fun u1 hu1=>sn rfl rfl (sv rfl (A3 (A7 (lr (fun u2 hu2=>sd rfl (B9 rfl G_hit rfl rfl) (bs h fun v1 hv1 h=>C4 rfl rfl A4 (C27 _ _ hv1) (.inl rfl) (F4 (.d (bo (!v1))) rfl rfl (sv rfl (gf rfl (fun _=>rfl) (gf rfl (fun w2=>(F1 (A6 w2))) (gf rfl (vb rfl rfl rfl) (sd rfl (A4j rfl rfl (fun hc=>A6 (R5 hc))) (A3 (cc rfl h (fun c1 h=> ?_) (fun c1 h=> ?_))))))))))))))))
 refine lr (fun u3 hu3=>bs h fun v2 hv2 h=>C4 rfl rfl A4 (B32 _ hv2) (.inl rfl) (sv rfl (A3 (B5 ?_))))
 cases h
 exact B0 (.inr rfl) (C1 (B4 rfl) I6) (.refl _)
 refine B3 (lr (fun u4 hu4=>D4b (.sl _) (.arr 3 1 (List.map A5 ([]:List Int))) rfl rfl (sv rfl (bs h fun v3 hv3 h=>C4i A5 _ _ _ _ (S7 (fun _=>rfl)) rfl G_hit hv3 (ss rfl (A3 (lr (fun u5 hu5=>sd rfl (B9 rfl (gq rfl) rfl rfl) (ss rfl (sv rfl (bs h fun v4 hv4 h=>C4 rfl (rD (Q5 (C5u G_hit) (rD N0))) A4 (B31 _ _ _ _ hv4) (.inr rfl) (sv rfl (sv rfl (sv rfl (sv rfl (sv rfl (sv rfl (sv rfl (A3 (A7 (A9 (s0:=⟨T [(1,(.d _)),(2,(.d _)),(3,(.d _)),(4,(.ptr _ _)),(9,(.sl _)),(10,(.d _)),(11,(.d _)),(12,(.d _))],G [((4,u1),some (.box 27 _)),((27,u4),some _)]⟩) (sbr rfl rfl) ?_)))))))))))))))))))))
 refine B8 fun u6 hu6=>sd rfl (B9 rfl G_hit rfl rfl) (sv rfl (sv rfl (bs h fun v5 hv5 h=>C4 rfl rfl A4 (B8y _ _ _ _ hv5) (.inl rfl) (sv rfl (sv rfl (sv rfl (sv rfl (sv rfl (sv rfl (sv rfl (A3 (A7 (A7 (N6 rfl fun u7 hu7=>sd rfl (B9 rfl G_hit rfl rfl) (ss rfl (bs h fun v6 hv6 h=>C4 rfl (rD (Q5 (C5u (gq rfl)) N0)) A4 (A81 _ _ _ hv6) (.inr rfl) (sd rfl (B9 rfl G_hit rfl rfl) (sv rfl (bs h fun v7 hv7 h=>C4 rfl rfl A4 (A2r _ _ _ hv7) (.inl rfl) (sv rfl (sv rfl (gf rfl (fun _=>rfl) (gf rfl (fun _=>rfl) (gf rfl (fun w6=>(A1q (A6 w6) (A6 w6) rfl)) (sd rfl (A4j rfl rfl (fun hc=>A6 (R5 hc))) (sv rfl (gf rfl (fun _=>rfl) (gf rfl (fun _=>rfl) (gf rfl (fun w9=>(A1q (A6 w9) (A6 w9) rfl)) (sd rfl (A4j rfl rfl (fun hc=>A6 (R5 hc))) (sv rfl (gf rfl (fun _=>rfl) (gf rfl (fun _=>rfl) ?_)))))))))))))))))))))))))))))))))
 refine X7 _ (.d (bo (!(v4.2.2==v5.2.2)))) rfl (A0f rfl) (fun w12=>(by simp only [A6 w12];rfl)) ?_
 refine sd rfl (A4j rfl rfl (fun hc=>A6 (R5 hc))) (sv rfl (gf rfl (fun w13=>(B9 rfl G_hit rfl rfl)) (X7 _ (.sl _) rfl (A0f rfl) (fun _=>rfl) (bs h fun v8 hv8 h=> ?_))))
 refine U1 _ (i64 v8) (A0f rfl) (fun w15=>⟨_,[(.d (.agg (A0s p1))),(.sl (27,u4))],_,_,(by simp only [A6 w15];rfl),(rD (Q5 (C5u (gq rfl)) N0)),A4,B2k _ _ _ (E8 w15 hv8),(.inr rfl)⟩) ?_
 refine gf rfl (fun w16=>(B9 rfl G_hit rfl rfl)) (gf rfl (fun _=>rfl) (bs h fun v9 hv9 h=> ?_))
 refine U1 _ (i64 v9) (A0f rfl) (fun w18=>⟨_,[(.d (.agg (A0s p1))),(dl A5 p2)],_,_,(by simp only [A6 w18];rfl),rfl,A4,A7m _ _ _ (E8 w18 hv9),(.inl rfl)⟩) ?_
 refine gf rfl (fun w19=>(A1q (A6 w19) (A6 w19) rfl)) (sd rfl (A4j rfl rfl (fun hc=>A6 (R5 hc))) (A3 (cc rfl h (fun c2 h=> ?_) (fun c2 h=> ?_))))
 refine A7 (A9 (s0:=⟨T [],G []⟩) (sbr rfl rfl) ?_)
 refine B8 fun u8 hu8=>sv rfl (A3 (B5 ?_))
 cases h
 exact B0 (.inr rfl) (C1 (B4 rfl) I6) (.refl _)
 refine B3 (A7 (A7 (A9 (s0:=⟨T [(1,(.d _)),(3,(.d _)),(4,(.ptr _ _)),(9,(.sl _))],G [((4,u1),some (.box 27 _)),((27,u4),some _)]⟩) (sbr rfl rfl) ?_)))
 refine l_fr [(27,u4)] [(1,(dl A5 p2)),(3,(di p4)),(4,(.ptr (4,u1) 0)),(9,(dl A5 v3))] [((4,u1),some (.box 27 (A09 p1)))] ⟨D2v rfl,D2v rfl,D2v rfl,(fr_d (C5u (D4m (.head _) (gq rfl))) (.refl _)),trivial⟩ (D4p G_hit (D2w (C4r rfl) D4q) trivial) (N6 rfl fun u9 hu9=>sd rfl (B9 rfl G_hit rfl rfl) (sv rfl (bs h fun v10 hv10 h=>C4 rfl rfl A4 (B7p _ _ _ hv10) (.inl rfl) (sd rfl (B9 rfl G_hit rfl rfl) (sv rfl (bs h fun v11 hv11 h=>C4 rfl rfl A4 (A89 _ _ _ hv11) (.inl rfl) (bs h fun v12 hv12 h=>C4 rfl rfl A4 (B5y _ _ _ hv12) (.inl rfl) (F4 (.d (bo (!v12))) rfl rfl (sv rfl (gf rfl (fun w20=>(B9 rfl G_hit rfl rfl)) (gf rfl (fun _=>rfl) (bs h fun v13 hv13 h=> ?_))))))))))))
 refine U1 _ (.list (List.map J1 v13)) (A0f rfl) (fun w22=>⟨_,[(.d (.agg (A0s p1))),(dl A5 v3)],_,_,(by simp only [A6 w22];rfl),rfl,A4,B7q _ _ _ (E8 w22 hv13),(.inl rfl)⟩) ?_
 refine gf rfl (fun w23=>(B9 rfl G_hit rfl rfl)) (gf rfl (fun _=>rfl) (bs h fun v14 hv14 h=> ?_))
 refine U1 _ (.list (List.map J1 v14)) (A0f rfl) (fun w25=>⟨_,[(.d (.agg (A0s p1))),(dl A5 p2)],_,_,(by simp only [A6 w25];rfl),rfl,A4,B7r _ _ _ (E8 w25 hv14),(.inl rfl)⟩) ?_
 refine bs h fun v15 hv15 h=> ?_
 refine U1 _ (bo v15) (A0f rfl) (fun w26=>⟨_,[(dl J1 v13),(dl J1 v14)],_,_,(by simp only [A6 w26];rfl),rfl,A4,B56 _ _ _ (E8 w26 hv15),(.inl rfl)⟩) ?_
 refine X7 _ (.d (bo (!v15))) rfl (A0f rfl) (fun w27=>(by simp only [A6 w27];rfl)) ?_
 refine sd rfl (A4j rfl rfl (fun hc=>A6 (R5 hc))) (A3 (cc rfl h (fun c3 h=> ?_) (fun c3 h=> ?_)))
 refine A7 (A9 (s0:=⟨T [],G []⟩) (sbr rfl rfl) ?_)
 refine B8 fun u10 hu10=>sv rfl (A3 (B5 ?_))
 cases h
 exact B0 (.inr rfl) (C1 (B4 rfl) I6) (.refl _)
 refine B3 (A7 (A9 (s0:=⟨T [(1,(.d _)),(3,(.d _)),(4,(.ptr _ _)),(9,(.d _))],G [((4,u1),some (.box 27 _))]⟩) (sbr rfl rfl) ?_))
 refine N6 rfl fun u11 hu11=>sd rfl (B9 rfl G_hit rfl rfl) (sv rfl (sv rfl (bs h fun v16 hv16 h=>C4 rfl rfl A4 (B8z _ _ _ _ hv16) (.inl rfl) (sd rfl (B9 rfl G_hit rfl rfl) (sv rfl (sv rfl (bs h fun v17 hv17 h=>C4 rfl rfl A4 (B90 _ _ _ _ hv17) (.inl rfl) (sv rfl (sv rfl (gt rfl (fun _=>rfl) (gt rfl (fun _=>rfl) (bs h fun v18 hv18 h=> ?_))))))))))))
 refine U1 _ (bo v18) (A4y rfl) (fun w30=>⟨_,[(dl A5 v3),(dl A5 p2)],_,_,(by simp only [A6 w30];rfl),rfl,A4,B7s _ _ _ (E8 w30 hv18),(.inl rfl)⟩) ?_
 refine sa rfl rfl rfl (sv rfl (bs h fun v19 hv19 h=>U1 _ (bo v19) (A4y rfl) (fun w31=>⟨_,_,_,_,rfl,rfl,A4,B32 _ (E8 w31 hv19),(.inl rfl)⟩) (sa rfl rfl rfl (sv rfl (A3 (B5 ?_))))))
 cases h
 exact B0 (.inr rfl) (C1 (B4 rfl) I6) (.refl _)
end Go.Abs.Roadsz
