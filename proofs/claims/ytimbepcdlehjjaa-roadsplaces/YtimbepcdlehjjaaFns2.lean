/-
  The functions, part 2.
-/
import Derived.Test.YtimbepcdlehjjaaFns1
set_option maxRecDepth 20000
set_option maxHeartbeats 4000000
set_option linter.unusedVariables false
namespace Go.Abs.Roads
open Go Go.Abs Go.Proofs
attribute [local irreducible] X5 B6m AWL
noncomputable def A0o (p1:(List Int))(x1:Int):Option (Stp Int (Sum Unit Int)):=
  cond (decide (x1< (p1.length:Int))) ((F3 p1 x1).bind fun v1=>cond (v1 !=0) (some (.out (.inr v1))) (some (.go (w64 (x1+1))))) (some (.out (.inl ())))
noncomputable def A7u (p1:(List Int)):Option Int:=
  thenS (loop (A0o p1) 0) (fun _=>some 0) (fun r=>some r)
theorem B7m (p1:(List Int))(r:Int)(h:A7u p1=some r):PCall Try.prog 68 [(.list (List.map A5 p1))] (i64 r):=by
 refine G2 (fk Try.func68 Try.ntmps68 m0 (by with_unfolding_all rfl)) (nl rfl) ?_
 unfold A7u at h
 refine A9 (s0:=⟨T [(0,(.d _))],G []⟩) (sbr rfl rfl) ?_
 refine lr (fun u1 hu1=>sv rfl (A3 (lr (fun u2 hu2=>sv rfl (A3 (A8 (lr (fun u3 hu3=>sv rfl (sd rfl (K5 rfl) (sv rfl (A3 (js h fun z1 hz1 h=>H8 (fun s=> ∃(y1:Unit) (g1:Unit),z1= .inl y1∧Sb ⟨T [(3,(di 0))],G []⟩ s) ?_ ?_))))))))))))
 refine A7 (I0 (A0o p1) (fun (x1:Int) (g2:Unit)=>⟨T [(3,(di 0)),(6,(dl A5 p1)),(7,(di (p1.length:Int))),(8,(di x1))],G []⟩) 0 () _ hz1 (sbr rfl rfl) ?_)
 intro x1 g2 z2 hz2 ez2
 unfold A0o at hz2
 refine lr (fun u4 hu4=>sv rfl (A3 (A8 (cc rfl hz2 (fun c1 hz2=> ?_) (fun c1 hz2=> ?_)))))
 refine B3 (A8 (A7 (lr (fun u5 hu5=>bs hz2 fun v1 hv1 hz2=>sd rfl (J8 rfl rfl hv1 rfl) (sd rfl (F4 rfl hv1 rfl) (sv rfl (A3 (lr (fun u6 hu6=>sv rfl (sv rfl (sv rfl (A3 (cc rfl hz2 (fun c2 hz2=> ?_) (fun c2 hz2=> ?_))))))))))))))
 refine lr (fun u7 hu7=>sv rfl (sv rfl (A3 (D5 ?_))))
 cases hz2
 obtain rfl:=ez2 _ rfl
 refine ⟨nofun,J9 ?_⟩
 rw [Sum.elim_inr]at h
 cases h
 exact B0 (.inr rfl) (E4 (E1 rfl) N9) (.refl _)
 refine B3 (I5 (D1 fun u8 hu8=>sv rfl (sv rfl (A3 (J2 ?_)))))
 cases hz2
 exact ⟨rfl,(),(sbr rfl rfl)⟩
 refine E5 rfl ?_
 cases hz2
 obtain rfl:=ez2 _ rfl
 refine ⟨nofun,E3 rfl (l_j ?_)⟩
 exact ⟨_,(),rfl,(sbr rfl rfl)⟩
 rintro _ ⟨y1,g1,rfl,q1⟩
 rw [Sum.elim_inl]at h
 refine A9 q1 (lr (fun u9 hu9=>sv rfl (sv rfl (A3 (D5 ?_)))))
 cases h
 exact B0 (.inr rfl) (E4 (E1 rfl) N9) (.refl _)
noncomputable def Z8 (p1:Pass)(p2:Pass):Option Int:=
  (A16 p1.From p2.From).bind fun v1=>(A2e p1.Zone_ p2.Zone_).bind fun v2=>(A7u [v1,v2]).bind fun v3=>some v3
theorem A30 (p1:Pass)(p2:Pass)(r:Int)(h:Z8 p1 p2=some r):PCall Try.prog 67 [(.agg (L0 p1)),(.agg (L0 p2))] (i64 r):=by
 refine G2 (fk Try.func67 Try.ntmps67 (fun r=>if r==1 then [1010]else []) (by with_unfolding_all rfl)) (nl rfl) ?_
 unfold Z8 at h
 refine A9 (s0:=⟨T [(0,(.d _)),(1,(.d _))],G []⟩) (sbr rfl rfl) ?_
 refine lr (fun u1 hu1=>sn rfl rfl (sn rfl rfl (sv rfl (A3 (A8 (Z6 rfl fun u2 hu2=>sp rfl rfl (sl rfl (gq rfl) rfl (sp rfl rfl (sl rfl G_hit rfl (bs h fun v1 hv1 h=>C9 rfl rfl A4 (B08 _ _ _ hv1) (.inl rfl) (sp rfl rfl (sl rfl (gq rfl) rfl (sp rfl rfl (sl rfl G_hit rfl (bs h fun v2 hv2 h=>C9 rfl rfl A4 (B1t _ _ _ hv2) (.inl rfl) (E2 (dl A5 [v1,v2]) rfl rfl (bs h fun v3 hv3 h=>C9 rfl rfl A4 (B7m _ _ hv3) (.inl rfl) (sv rfl (A3 (D5 ?_))))))))))))))))))))
 cases h
 exact B0 (.inr rfl) (E4 (E1 rfl) N9) (.refl _)
noncomputable def B4 (p2:Int)(x2:(Int× (List Pass))):Option (Stp (Int× (List Pass)) (List Pass)):=
  ((cond (decide (x2.1>p2)) (F3 x2.2 x2.1) (some default))).bind fun v1=>((cond (decide (x2.1>p2)) (F3 x2.2 (w64 (x2.1 - 1))) (some default))).bind fun v2=>((cond (decide (x2.1>p2)) (Z8 v1 v2) (some default))).bind fun v3=>cond ((decide (x2.1>p2))&& (decide (v3<0))) ((F3 x2.2 (w64 (x2.1 - 1))).bind fun v4=>(F3 x2.2 x2.1).bind fun v5=>(F3 x2.2 x2.1).bind fun v6=>(F3 (B01 x2.2 x2.1 v4) (w64 (x2.1 - 1))).bind fun v7=>some (.go ((w64 (x2.1 - 1)),(B01 (B01 x2.2 x2.1 v4) (w64 (x2.1 - 1)) v5)))) (some (.out x2.2))
noncomputable def C3 (p2:Int)(p3:Int)(x1:(Int× (List Pass))):Option (Stp (Int× (List Pass)) (List Pass)):=
  cond (decide (x1.1<p3)) ((loop (B4 p2) (x1.1,x1.2)).bind fun y1=>some (.go ((w64 (x1.1+1)),y1))) (some (.out (x1.2)))
noncomputable def B8 (p1:(List Pass))(p2:Int)(p3:Int):Option (List Pass):=
  loop (C3 p2 p3) ((w64 (p2+1)),p1)
theorem P2 (p1:(List Pass))(p2:Int)(p3:Int)(r:(List Pass))(h:B8 p1 p2 p3=some r):MCall Try.prog 123 [(.sl (900000,0)),(di p2),(di p3),(.d (.fn (.func 67) [] []))] [(.arr 66 4 (List.map L0 p1))] (.d (.tup [])) [some (.arr 66 4 (List.map L0 r))] []:=by
 refine A78 (fk Try.func123 Try.ntmps123 m0 (by with_unfolding_all rfl)) rfl (nl rfl) ?_
 unfold B8 at h
 refine A9 (s0:=⟨T [(0,(.sl _)),(1,(.d _)),(2,(.d _)),(3,(.d _))],G [((900000,0),some _)]⟩) (sbr rfl rfl) ?_
 refine lr (fun u1 hu1=>sv rfl (sv rfl (sv rfl (A3 (A7 (I0 (C3 p2 p3) (fun (x1:(Int× (List Pass))) (g1:Unit)=>⟨T [(0,(.sl (900000,0))),(1,(di p2)),(2,(di p3)),(3,(.d (.fn (.func 67) [] []))),(8,(di x1.1))],G [((900000,0),some (.arr 66 4 (List.map L0 x1.2)))]⟩) ((w64 (p2+1)),p1) () _ h (sbr rfl rfl) ?_))))))
 intro x1 g1 z1 hz1 ez1
 unfold C3 at hz1
 refine A8 (lr (fun u2 hu2=>sv rfl (sv rfl (sv rfl (A3 (cc rfl hz1 (fun c1 hz1=> ?_) (fun c1 hz1=> ?_)))))))
 refine B3 (A8 (A7 (lr (fun u3 hu3=>sv rfl (sv rfl (A3 (bs hz1 fun y1 hy1 hz1=>H8 (fun s=> ∃g2:Unit,Sb ⟨T [(0,(.sl (900000,0))),(1,(di p2)),(2,(di p3)),(3,(.d (.fn (.func 67) [] []))),(8,(di x1.1))],G [((900000,0),some (.arr 66 4 (List.map L0 y1)))]⟩ s) ?_ ?_)))))))
 refine A7 (I0 (B4 p2) (fun (x2:(Int× (List Pass))) (g3:Unit)=>⟨T [(0,(.sl (900000,0))),(1,(di p2)),(2,(di p3)),(3,(.d (.fn (.func 67) [] []))),(8,(di x1.1)),(9,(di x2.1))],G [((900000,0),some (.arr 66 4 (List.map L0 x2.2)))]⟩) (x1.1,x1.2) () _ hy1 (sbr rfl rfl) ?_)
 intro x2 g3 z2 hz2 ez2
 unfold B4 at hz2
 refine A8 (A8 (Z6 rfl fun u4 hu4=>sv rfl (sv rfl (sv rfl (sv rfl (gt rfl (fun _=>rfl) (A3b _ (.sl _) rfl (A62 rfl) (fun _=>rfl) (gt rfl (fun _=>rfl) (bs hz2 fun v1 hv1 hz2=>A3b _ (.aptr _ _ _ _) rfl (A62 rfl) (fun w4=>(A13 (A6 w4) (A6 w4) G_hit (G6 w4 hv1))) (gt rfl (fun w5=>(A10 (A6 w5) G_hit (G6 w5 hv1) rfl rfl)) (A3b _ (.sl _) rfl (A62 rfl) (fun _=>rfl) (gt rfl (fun _=>rfl) (gt rfl (vb rfl rfl rfl) (bs hz2 fun v2 hv2 hz2=>A3b _ (.aptr _ _ _ _) rfl (A62 rfl) (fun w9=>(A13 (A6 w9) (A6 w9) G_hit (G6 w9 hv2))) (gt rfl (fun w10=>(A10 (A6 w10) G_hit (G6 w10 hv2) rfl rfl)) (bs hz2 fun v3 hv3 hz2=> ?_))))))))))))))))
 refine A0v _ (i64 v3) (A62 rfl) (fun w11=>⟨_,[(.d (.agg (L0 v1))),(.d (.agg (L0 v2)))],_,_,(by simp only [A6 w11];rfl),rfl,A4,A30 _ _ _ (G6 w11 hv3),(.inl rfl)⟩) ?_
 refine gt rfl (vb rfl rfl rfl) (sa rfl rfl rfl (A3 (cc rfl hz2 (fun c2 hz2=> ?_) (fun c2 hz2=> ?_))))
 refine B3 (A8 (A7 (A9 (s0:=⟨T [(0,(.sl _)),(1,(.d _)),(2,(.d _)),(3,(.d _)),(8,(.d _)),(9,(.d _))],G [((900000,0),some _)]⟩) (sbr rfl rfl) ?_)))
 refine Z6 rfl fun u5 hu5=>ss rfl (sv rfl (ss rfl (sv rfl (sv rfl (ss rfl (sv rfl (sv rfl (bs hz2 fun v4 hv4 hz2=>E2 (.aptr _ _ _ _) rfl (A13 rfl rfl G_hit hv4) (sd rfl (A10 rfl G_hit hv4 rfl rfl) (ss rfl (sv rfl (bs hz2 fun v5 hv5 hz2=>E2 (.aptr _ _ _ _) rfl (A13 rfl rfl G_hit hv5) (sd rfl (A10 rfl G_hit hv5 rfl rfl) (bs hz2 fun v6 hv6 hz2=>E2 (.aptr _ _ _ _) rfl (A13 rfl rfl G_hit hv6) (A5u L0 _ _ _ (x2.1) _ v4 (L0 v4) rfl rfl rfl G_hit hv6 (nl rfl) rfl (bs hz2 fun v7 hv7 hz2=>E2 (.aptr _ _ _ _) rfl (A13 rfl rfl G_hit hv7) (A5u L0 _ _ _ ((w64 (x2.1 - 1))) _ v5 (L0 v5) rfl rfl rfl G_hit hv7 (nl rfl) rfl (A3 (I5 (A9 (s0:=⟨T [(0,(.sl _)),(1,(.d _)),(2,(.d _)),(3,(.d _)),(8,(.d _)),(9,(.d _))],G [((900000,0),some _)]⟩) (sbr rfl rfl) ?_))))))))))))))))))))
 refine D1 fun u6 hu6=>sv rfl (sv rfl (sv rfl (A3 (J2 ?_))))
 cases hz2
 exact ⟨rfl,(),(sbr rfl rfl)⟩
 refine E5 rfl ?_
 cases hz2
 obtain rfl:=ez2 _ rfl
 refine ⟨nofun,E3 rfl (l_j ?_)⟩
 exact ⟨(),(sbr rfl rfl)⟩
 rintro _ ⟨g2,q1⟩
 refine I5 (A9 q1 (D1 fun u7 hu7=>sv rfl (sv rfl (sv rfl (A3 (J2 ?_))))))
 cases hz1
 exact ⟨rfl,(),(sbr rfl rfl)⟩
 refine E5 rfl ?_
 cases hz1
 obtain rfl:=ez1 _ rfl
 refine ⟨nofun,E3 rfl (J2 ?_)⟩
 exact A70 (.inl rfl) [] B1p (.refl _) ⟨⟨G_hit,K3⟩,trivial⟩
noncomputable def D0 (p2:Int)(p3:Int)(p4:Int)(x1:(Int× (List Pass))):Option (Stp (Int× (List Pass)) (List Pass)):=
  cond (decide (x1.1<p4)) ((F3 x1.2 (w64 (p3+x1.1))).bind fun v1=>(F3 x1.2 (w64 (p2+x1.1))).bind fun v2=>(F3 x1.2 (w64 (p2+x1.1))).bind fun v3=>(F3 (B01 x1.2 (w64 (p2+x1.1)) v1) (w64 (p3+x1.1))).bind fun v4=>some (.go ((w64 (x1.1+1)),(B01 (B01 x1.2 (w64 (p2+x1.1)) v1) (w64 (p3+x1.1)) v2)))) (some (.out (x1.2)))
noncomputable def C4 (p1:(List Pass))(p2:Int)(p3:Int)(p4:Int):Option (List Pass):=
  loop (D0 p2 p3 p4) (0,p1)
theorem K6 (p1:(List Pass))(p2:Int)(p3:Int)(p4:Int)(r:(List Pass))(h:C4 p1 p2 p3 p4=some r):MCall Try.prog 146 [(.sl (900000,0)),(di p2),(di p3),(di p4),(.d (.fn (.func 67) [] []))] [(.arr 66 4 (List.map L0 p1))] (.d (.tup [])) [some (.arr 66 4 (List.map L0 r))] []:=by
 refine A78 (fk Try.func146 Try.ntmps146 m0 (by with_unfolding_all rfl)) rfl (nl rfl) ?_
 unfold C4 at h
 refine A9 (s0:=⟨T [(0,(.sl _)),(1,(.d _)),(2,(.d _)),(3,(.d _)),(4,(.d _))],G [((900000,0),some _)]⟩) (sbr rfl rfl) ?_
 refine lr (fun u1 hu1=>sv rfl (A3 (A7 (I0 (D0 p2 p3 p4) (fun (x1:(Int× (List Pass))) (g1:Unit)=>⟨T [(0,(.sl (900000,0))),(1,(di p2)),(2,(di p3)),(3,(di p4)),(10,(di x1.1))],G [((900000,0),some (.arr 66 4 (List.map L0 x1.2)))]⟩) (0,p1) () _ h (sbr rfl rfl) ?_))))
 intro x1 g1 z1 hz1 ez1
 unfold D0 at hz1
 refine A8 (lr (fun u2 hu2=>sv rfl (sv rfl (sv rfl (A3 (cc rfl hz1 (fun c1 hz1=> ?_) (fun c1 hz1=> ?_)))))))
 refine B3 (A8 (A7 (Z6 rfl fun u3 hu3=>ss rfl (sv rfl (sv rfl (sv rfl (ss rfl (sv rfl (sv rfl (sv rfl (ss rfl (sv rfl (sv rfl (sv rfl (bs hz1 fun v1 hv1 hz1=>E2 (.aptr _ _ _ _) rfl (A13 rfl rfl G_hit hv1) (sd rfl (A10 rfl G_hit hv1 rfl rfl) (ss rfl (sv rfl (sv rfl (sv rfl (bs hz1 fun v2 hv2 hz1=>E2 (.aptr _ _ _ _) rfl (A13 rfl rfl G_hit hv2) (sd rfl (A10 rfl G_hit hv2 rfl rfl) (bs hz1 fun v3 hv3 hz1=>E2 (.aptr _ _ _ _) rfl (A13 rfl rfl G_hit hv3) (A5u L0 _ _ _ ((w64 (p2+x1.1))) _ v1 (L0 v1) rfl rfl rfl G_hit hv3 (nl rfl) rfl (bs hz1 fun v4 hv4 hz1=>E2 (.aptr _ _ _ _) rfl (A13 rfl rfl G_hit hv4) (A5u L0 _ _ _ ((w64 (p3+x1.1))) _ v2 (L0 v2) rfl rfl rfl G_hit hv4 (nl rfl) rfl (A3 (I5 (A9 (s0:=⟨T [(0,(.sl _)),(1,(.d _)),(2,(.d _)),(3,(.d _)),(10,(.d _))],G [((900000,0),some _)]⟩) (sbr rfl rfl) ?_)))))))))))))))))))))))))))))
 refine D1 fun u4 hu4=>sv rfl (sv rfl (sv rfl (A3 (J2 ?_))))
 cases hz1
 exact ⟨rfl,(),(sbr rfl rfl)⟩
 refine E5 rfl ?_
 cases hz1
 obtain rfl:=ez1 _ rfl
 refine ⟨nofun,E3 rfl (J2 ?_)⟩
 exact A70 (.inl rfl) [] B1p (.refl _) ⟨⟨G_hit,K3⟩,trivial⟩
noncomputable def D3 (p3:Int)(x1:(Int×Int× (List Pass))):Option (Stp (Int×Int× (List Pass)) (Int× (List Pass))):=
  cond (x1.1 !=x1.2.1) (cond (decide (x1.1>x1.2.1)) ((C4 x1.2.2 (w64 (p3 - x1.1)) p3 x1.2.1).bind fun v1=>some (.go ((w64 (x1.1 - x1.2.1)),x1.2.1,v1))) ((C4 x1.2.2 (w64 (p3 - x1.1)) (w64 ((w64 (p3+x1.2.1)) - x1.1)) x1.1).bind fun v2=>some (.go (x1.1,(w64 (x1.2.1 - x1.1)),v2)))) (some (.out (x1.1,x1.2.2)))
noncomputable def E9 (p1:(List Pass))(p2:Int)(p3:Int)(p4:Int):Option (List Pass):=
  (loop (D3 p3) ((w64 (p3 - p2)),(w64 (p4 - p3)),p1)).bind fun y1=>(C4 y1.2 (w64 (p3 - y1.1)) p3 y1.1).bind fun v3=>some v3
theorem A17 (p1:(List Pass))(p2:Int)(p3:Int)(p4:Int)(r:(List Pass))(h:E9 p1 p2 p3 p4=some r):MCall Try.prog 133 [(.sl (900000,0)),(di p2),(di p3),(di p4),(.d (.fn (.func 67) [] []))] [(.arr 66 4 (List.map L0 p1))] (.d (.tup [])) [some (.arr 66 4 (List.map L0 r))] []:=by
 refine A78 (fk Try.func133 Try.ntmps133 (fun r=>if r==4 then [1004007]else if r==6 then [1006011]else if r==8 then [1008007]else []) (by with_unfolding_all rfl)) rfl (nl rfl) ?_
 unfold E9 at h
 refine A9 (s0:=⟨T [(0,(.sl _)),(1,(.d _)),(2,(.d _)),(3,(.d _)),(4,(.d _))],G [((900000,0),some _)]⟩) (sbr rfl rfl) ?_
 refine lr (fun u1 hu1=>sv rfl (sv rfl (sv rfl (sv rfl (A3 (lr (fun u2 hu2=>sv rfl (sv rfl (sv rfl (sv rfl (A3 (A8 (bs h fun y1 hy1 h=>H8 (fun s=> ∃g1:Unit,Sb ⟨T [(0,(.sl (900000,0))),(2,(di p3)),(4,(.d (.fn (.func 67) [] []))),(10,(di y1.1))],G [((900000,0),some (.arr 66 4 (List.map L0 y1.2)))]⟩ s) ?_ ?_)))))))))))))
 refine A7 (I0 (D3 p3) (fun (x1:(Int×Int× (List Pass))) (g2:Unit)=>⟨T [(0,(.sl (900000,0))),(2,(di p3)),(4,(.d (.fn (.func 67) [] []))),(10,(di x1.1)),(11,(di x1.2.1))],G [((900000,0),some (.arr 66 4 (List.map L0 x1.2.2)))]⟩) ((w64 (p3 - p2)),(w64 (p4 - p3)),p1) () _ hy1 (sbr rfl rfl) ?_)
 intro x1 g2 z1 hz1 ez1
 unfold D3 at hz1
 refine A8 (lr (fun u3 hu3=>sv rfl (sv rfl (sv rfl (A3 (cc rfl hz1 (fun c1 hz1=> ?_) (fun c1 hz1=> ?_)))))))
 refine B3 (A7 (lr (fun u4 hu4=>sv rfl (sv rfl (sv rfl (A3 (cc rfl hz1 (fun c2 hz1=> ?_) (fun c2 hz1=> ?_))))))))
 refine lr (fun u5 hu5=>ss rfl (sv rfl (sv rfl (sv rfl (sv rfl (sv rfl (sv rfl (bs hz1 fun v1 hv1 hz1=>B8v (v:= .d (.tup [])) (us:= [(900000,0)]) (B9s (K6 _ _ _ _ _ hv1) [(900000,0)] [(900000,0)] _ (((900000,0),some (.arr 66 4 (List.map L0 v1)))::_) rfl A35 (E8 B3f (E8 A6t (E8 A6t (E8 A6t (E8 A6t A41))))) (T8 G_hit A11) ⟨⟨_,G_hit, .of rfl⟩,trivial⟩ (fun _ h=>h) nd1 rfl rfl rfl) (A3 (D1 fun u6 hu6=>sv rfl (sv rfl (sv rfl (sv rfl (A3 (I5 (J2 ?_))))))))))))))))
 cases hz1
 exact ⟨rfl,(),(sbr rfl rfl)⟩
 refine lr (fun u7 hu7=>ss rfl (sv rfl (sv rfl (sv rfl (sv rfl (sv rfl (sv rfl (sv rfl (sv rfl (sv rfl (sv rfl (bs hz1 fun v2 hv2 hz1=>B8v (v:= .d (.tup [])) (us:= [(900000,0)]) (B9s (K6 _ _ _ _ _ hv2) [(900000,0)] [(900000,0)] _ (((900000,0),some (.arr 66 4 (List.map L0 v2)))::_) rfl A35 (E8 B3f (E8 A6t (E8 A6t (E8 A6t (E8 A6t A41))))) (T8 G_hit A11) ⟨⟨_,G_hit, .of rfl⟩,trivial⟩ (fun _ h=>h) nd1 rfl rfl rfl) (A3 (A9 (s0:=⟨T [(0,(.sl _)),(2,(.d _)),(4,(.d _)),(10,(.d _)),(11,(.d _))],G [((900000,0),some _)]⟩) (sbr rfl rfl) ?_))))))))))))))
 refine D1 fun u8 hu8=>sv rfl (sv rfl (sv rfl (sv rfl (A3 (I5 (J2 ?_))))))
 cases hz1
 exact ⟨rfl,(),(sbr rfl rfl)⟩
 refine E5 rfl ?_
 cases hz1
 obtain rfl:=ez1 _ rfl
 refine ⟨nofun,E3 rfl (l_j ?_)⟩
 exact ⟨(),(sbr rfl rfl)⟩
 rintro _ ⟨g1,q1⟩
 refine A9 q1 (D1 fun u9 hu9=>ss rfl (sv rfl (sv rfl (sv rfl (sv rfl (sv rfl (sv rfl (bs h fun v3 hv3 h=>B8v (v:= .d (.tup [])) (us:= [(900000,0)]) (B9s (K6 _ _ _ _ _ hv3) [(900000,0)] [(900000,0)] _ (((900000,0),some (.arr 66 4 (List.map L0 v3)))::_) rfl A35 (E8 B3f (E8 A6t (E8 A6t (E8 A6t (E8 A6t A41))))) (T8 G_hit A11) ⟨⟨_,G_hit, .of rfl⟩,trivial⟩ (fun _ h=>h) nd1 rfl rfl rfl) (A3 (J2 ?_))))))))))
 cases h
 exact A70 (.inl rfl) [] B1p (.refl _) ⟨⟨G_hit,K3⟩,trivial⟩
noncomputable def C7 (p1:(List Pass))(p2:Int)(p3:Int)(p4:Int)(x5:(Int×Int)):Option (Stp (Int×Int) Int):=
  cond (decide (x5.1<x5.2)) ((F3 p1 (w64 ((w64 ((w64 ((w64 ((IntKind.wrap .u64 (w64 (p2+p4))).fdiv (2^ (min (1:Int).toNat (IntKind.bits .u64)))))+p3)) - 1)) - (w64 ((IntKind.wrap .u64 (w64 (x5.1+x5.2))).fdiv (2^ (min (1:Int).toNat (IntKind.bits .u64)))))))).bind fun v15=>(F3 p1 (w64 ((IntKind.wrap .u64 (w64 (x5.1+x5.2))).fdiv (2^ (min (1:Int).toNat (IntKind.bits .u64)))))).bind fun v16=>(Z8 v15 v16).bind fun v17=>cond (!(decide (v17<0))) (some (.go ((w64 ((w64 ((IntKind.wrap .u64 (w64 (x5.1+x5.2))).fdiv (2^ (min (1:Int).toNat (IntKind.bits .u64)))))+1)),x5.2))) (some (.go (x5.1,(w64 ((IntKind.wrap .u64 (w64 (x5.1+x5.2))).fdiv (2^ (min (1:Int).toNat (IntKind.bits .u64))))))))) (some (.out x5.1))
noncomputable def D6 (y3:Int)(x4:(Int× (List Pass))):Option (Stp (Int× (List Pass)) (List Pass)):=
  cond (decide (x4.1>y3)) ((F3 x4.2 (w64 (x4.1 - 1))).bind fun v11=>(F3 x4.2 x4.1).bind fun v12=>(F3 x4.2 x4.1).bind fun v13=>(F3 (B01 x4.2 x4.1 v11) (w64 (x4.1 - 1))).bind fun v14=>some (.go ((w64 (x4.1 - 1)),(B01 (B01 x4.2 x4.1 v11) (w64 (x4.1 - 1)) v12)))) (some (.out x4.2))
noncomputable def D7 (p1:(List Pass))(p3:Int)(x3:(Int×Int)):Option (Stp (Int×Int) Int):=
  cond (decide (x3.1<x3.2)) ((F3 p1 p3).bind fun v8=>(F3 p1 (w64 ((IntKind.wrap .u64 (w64 (x3.1+x3.2))).fdiv (2^ (min (1:Int).toNat (IntKind.bits .u64)))))).bind fun v9=>(Z8 v8 v9).bind fun v10=>cond (!(decide (v10<0))) (some (.go ((w64 ((w64 ((IntKind.wrap .u64 (w64 (x3.1+x3.2))).fdiv (2^ (min (1:Int).toNat (IntKind.bits .u64)))))+1)),x3.2))) (some (.go (x3.1,(w64 ((IntKind.wrap .u64 (w64 (x3.1+x3.2))).fdiv (2^ (min (1:Int).toNat (IntKind.bits .u64))))))))) (some (.out x3.1))
noncomputable def C8 (y1:Int)(x2:(Int× (List Pass))):Option (Stp (Int× (List Pass)) (List Pass)):=
  cond (decide (x2.1< (w64 (y1 - 1)))) ((F3 x2.2 (w64 (x2.1+1))).bind fun v4=>(F3 x2.2 x2.1).bind fun v5=>(F3 x2.2 x2.1).bind fun v6=>(F3 (B01 x2.2 x2.1 v4) (w64 (x2.1+1))).bind fun v7=>some (.go ((w64 (x2.1+1)),(B01 (B01 x2.2 x2.1 v4) (w64 (x2.1+1)) v5)))) (some (.out x2.2))
noncomputable def D8 (p1:(List Pass))(p2:Int)(x1:(Int×Int)):Option (Stp (Int×Int) Int):=
  cond (decide (x1.1<x1.2)) ((F3 p1 (w64 ((IntKind.wrap .u64 (w64 (x1.1+x1.2))).fdiv (2^ (min (1:Int).toNat (IntKind.bits .u64)))))).bind fun v1=>(F3 p1 p2).bind fun v2=>(Z8 v1 v2).bind fun v3=>cond (decide (v3<0)) (some (.go ((w64 ((w64 ((IntKind.wrap .u64 (w64 (x1.1+x1.2))).fdiv (2^ (min (1:Int).toNat (IntKind.bits .u64)))))+1)),x1.2))) (some (.go (x1.1,(w64 ((IntKind.wrap .u64 (w64 (x1.1+x1.2))).fdiv (2^ (min (1:Int).toNat (IntKind.bits .u64))))))))) (some (.out x1.1))
noncomputable def B6 (rc:((List Pass)→Int→Int→Int→Option (List Pass)))(p1:(List Pass))(p2:Int)(p3:Int)(p4:Int):Option (List Pass):=
  cond ((w64 (p3 - p2))==1) ((loop (D8 p1 p2) (p3,p4)).bind fun y1=>(loop (C8 y1) (p2,p1)).bind fun y2=>some y2) (cond ((w64 (p4 - p3))==1) ((loop (D7 p1 p3) (p2,p3)).bind fun y3=>(loop (D6 y3) (p3,p1)).bind fun y4=>some y4) ((cond (decide (p3>(w64 ((IntKind.wrap .u64 (w64 (p2+p4))).fdiv (2^ (min (1:Int).toNat (IntKind.bits .u64))))))) (some ((w64 ((w64 ((w64 ((IntKind.wrap .u64 (w64 (p2+p4))).fdiv (2^ (min (1:Int).toNat (IntKind.bits .u64)))))+p3)) - p4)),(w64 ((IntKind.wrap .u64 (w64 (p2+p4))).fdiv (2^ (min (1:Int).toNat (IntKind.bits .u64))))))) (some (p2,p3))).bind fun y5=>(loop (C7 p1 p2 p3 p4) (y5.1,y5.2)).bind fun y6=>(cond ((decide (y6<p3))&& (decide (p3< (w64 ((w64 ((w64 ((IntKind.wrap .u64 (w64 (p2+p4))).fdiv (2^ (min (1:Int).toNat (IntKind.bits .u64)))))+p3)) - y6))))) ((E9 p1 y6 p3 (w64 ((w64 ((w64 ((IntKind.wrap .u64 (w64 (p2+p4))).fdiv (2^ (min (1:Int).toNat (IntKind.bits .u64)))))+p3)) - y6))).bind fun v18=>some v18) (some p1)).bind fun y7=>(cond ((decide (p2<y6))&& (decide (y6< (w64 ((IntKind.wrap .u64 (w64 (p2+p4))).fdiv (2^ (min (1:Int).toNat (IntKind.bits .u64)))))))) ((rc y7 p2 y6 (w64 ((IntKind.wrap .u64 (w64 (p2+p4))).fdiv (2^ (min (1:Int).toNat (IntKind.bits .u64)))))).bind fun v19=>some v19) (some y7)).bind fun y8=>cond ((decide ((w64 ((IntKind.wrap .u64 (w64 (p2+p4))).fdiv (2^ (min (1:Int).toNat (IntKind.bits .u64)))))< (w64 ((w64 ((w64 ((IntKind.wrap .u64 (w64 (p2+p4))).fdiv (2^ (min (1:Int).toNat (IntKind.bits .u64)))))+p3)) - y6))))&& (decide ((w64 ((w64 ((w64 ((IntKind.wrap .u64 (w64 (p2+p4))).fdiv (2^ (min (1:Int).toNat (IntKind.bits .u64)))))+p3)) - y6))<p4))) ((rc y8 (w64 ((IntKind.wrap .u64 (w64 (p2+p4))).fdiv (2^ (min (1:Int).toNat (IntKind.bits .u64))))) (w64 ((w64 ((w64 ((IntKind.wrap .u64 (w64 (p2+p4))).fdiv (2^ (min (1:Int).toNat (IntKind.bits .u64)))))+p3)) - y6)) p4).bind fun v20=>some v20) (some y8)))
noncomputable def F8:Nat→(List Pass)→Int→Int→Int→Option (List Pass)
  |0=>fun _ _ _ _=>none
  |n+1=>B6 (F8 n)
noncomputable def G7:(List Pass)→Int→Int→Int→Option (List Pass):=F8 100
theorem A0d (rc:((List Pass)→Int→Int→Int→Option (List Pass)))(rc_ok: ∀(p1:(List Pass)) (p2:Int) (p3:Int) (p4:Int) (r:(List Pass)),rc p1 p2 p3 p4=some r→MCall Try.prog 124 [(.sl (900000,0)),(di p2),(di p3),(di p4),(.d (.fn (.func 67) [] []))] [(.arr 66 4 (List.map L0 p1))] (.d (.tup [])) [some (.arr 66 4 (List.map L0 r))] [])(p1:(List Pass))(p2:Int)(p3:Int)(p4:Int)(r:(List Pass))(h:B6 rc p1 p2 p3 p4=some r):MCall Try.prog 124 [(.sl (900000,0)),(di p2),(di p3),(di p4),(.d (.fn (.func 67) [] []))] [(.arr 66 4 (List.map L0 p1))] (.d (.tup [])) [some (.arr 66 4 (List.map L0 r))] []:=by
 refine A78 (fk Try.func124 Try.ntmps124 (fun r=>if r==40 then [1040005]else if r==42 then [1042005]else if r==44 then [1044005]else []) (by with_unfolding_all rfl)) rfl (nl rfl) ?_
 unfold B6 at h
 refine A9 (s0:=⟨T [(0,(.sl _)),(1,(.d _)),(2,(.d _)),(3,(.d _)),(4,(.d _))],G [((900000,0),some _)]⟩) (sbr rfl rfl) ?_
 refine A8 (lr (fun u1 hu1=>sv rfl (sv rfl (sv rfl (sv rfl (A3 (cc rfl h (fun c1 h=> ?_) (fun c1 h=> ?_))))))))
 refine lr (fun u2 hu2=>sv rfl (sv rfl (A3 (lr (fun u3 hu3=>sv rfl (sv rfl (A3 (A8 (bs h fun y1 hy1 h=>H8 (fun s=> ∃g1:Unit,Sb ⟨T [(0,(.sl (900000,0))),(1,(di p2)),(10,(di y1))],G [((900000,0),some (.arr 66 4 (List.map L0 p1)))]⟩ s) ?_ ?_)))))))))
 refine A7 (I0 (D8 p1 p2) (fun (x1:(Int×Int)) (g2:Unit)=>⟨T [(0,(.sl (900000,0))),(1,(di p2)),(4,(.d (.fn (.func 67) [] []))),(10,(di x1.1)),(11,(di x1.2))],G [((900000,0),some (.arr 66 4 (List.map L0 p1)))]⟩) (p3,p4) () _ hy1 (sbr rfl rfl) ?_)
 intro x1 g2 z1 hz1 ez1
 unfold D8 at hz1
 refine A8 (lr (fun u4 hu4=>sv rfl (sv rfl (sv rfl (A3 (cc rfl hz1 (fun c2 hz1=> ?_) (fun c2 hz1=> ?_)))))))
 refine B3 (A7 (lr (fun u5 hu5=>sv rfl (sv rfl (sv rfl (sv rfl (sv rfl (sv rfl (sv rfl (A3 (A8 (Z6 rfl fun u6 hu6=>sv rfl (ss rfl (sv rfl (bs hz1 fun v1 hv1 hz1=>E2 (.aptr _ _ _ _) rfl (A13 rfl rfl G_hit hv1) (sd rfl (A10 rfl G_hit hv1 rfl rfl) (ss rfl (sv rfl (bs hz1 fun v2 hv2 hz1=>E2 (.aptr _ _ _ _) rfl (A13 rfl rfl G_hit hv2) (sd rfl (A10 rfl G_hit hv2 rfl rfl) (bs hz1 fun v3 hv3 hz1=>C9 rfl rfl A4 (A30 _ _ _ hv3) (.inl rfl) (sv rfl (A3 (cc rfl hz1 (fun c3 hz1=> ?_) (fun c3 hz1=> ?_)))))))))))))))))))))))))
 refine A9 (s0:=⟨T [(0,(.sl _)),(1,(.d _)),(4,(.d _)),(11,(.d _)),(12,(.d _))],G [((900000,0),some _)]⟩) (sbr rfl rfl) ?_
 refine D1 fun u7 hu7=>sv rfl (sv rfl (sv rfl (A3 (I5 (J2 ?_)))))
 cases hz1
 exact ⟨rfl,(),(sbr rfl rfl)⟩
 refine A9 (s0:=⟨T [(0,(.sl _)),(1,(.d _)),(4,(.d _)),(10,(.d _)),(12,(.d _))],G [((900000,0),some _)]⟩) (sbr rfl rfl) ?_
 refine D1 fun u8 hu8=>sv rfl (sv rfl (A3 (I5 (J2 ?_))))
 cases hz1
 exact ⟨rfl,(),(sbr rfl rfl)⟩
 refine E5 rfl ?_
 cases hz1
 obtain rfl:=ez1 _ rfl
 refine ⟨nofun,E3 rfl (l_j ?_)⟩
 exact ⟨(),(sbr rfl rfl)⟩
 rintro _ ⟨g1,q1⟩
 refine A9 q1 (A8 (lr (fun u9 hu9=>sv rfl (sv rfl (A3 (bs h fun y2 hy2 h=>H8 (fun s=> ∃g3:Unit,Sb ⟨T [(0,(.sl (900000,0)))],G [((900000,0),some (.arr 66 4 (List.map L0 y2)))]⟩ s) ?_ ?_))))))
 refine A7 (I0 (C8 y1) (fun (x2:(Int× (List Pass))) (g4:Unit)=>⟨T [(0,(.sl (900000,0))),(10,(di y1)),(13,(di x2.1))],G [((900000,0),some (.arr 66 4 (List.map L0 x2.2)))]⟩) (p2,p1) () _ hy2 (sbr rfl rfl) ?_)
 intro x2 g4 z2 hz2 ez2
 unfold C8 at hz2
 refine A8 (lr (fun u10 hu10=>sv rfl (sv rfl (sv rfl (sv rfl (A3 (cc rfl hz2 (fun c4 hz2=> ?_) (fun c4 hz2=> ?_))))))))
 refine B3 (A8 (A7 (Z6 rfl fun u11 hu11=>ss rfl (sv rfl (ss rfl (sv rfl (sv rfl (ss rfl (sv rfl (sv rfl (bs hz2 fun v4 hv4 hz2=>E2 (.aptr _ _ _ _) rfl (A13 rfl rfl G_hit hv4) (sd rfl (A10 rfl G_hit hv4 rfl rfl) (ss rfl (sv rfl (bs hz2 fun v5 hv5 hz2=>E2 (.aptr _ _ _ _) rfl (A13 rfl rfl G_hit hv5) (sd rfl (A10 rfl G_hit hv5 rfl rfl) (bs hz2 fun v6 hv6 hz2=>E2 (.aptr _ _ _ _) rfl (A13 rfl rfl G_hit hv6) (A5u L0 _ _ _ (x2.1) _ v4 (L0 v4) rfl rfl rfl G_hit hv6 (nl rfl) rfl (bs hz2 fun v7 hv7 hz2=>E2 (.aptr _ _ _ _) rfl (A13 rfl rfl G_hit hv7) (A5u L0 _ _ _ ((w64 (x2.1+1))) _ v5 (L0 v5) rfl rfl rfl G_hit hv7 (nl rfl) rfl (A3 (I5 (A9 (s0:=⟨T [(0,(.sl _)),(10,(.d _)),(13,(.d _))],G [((900000,0),some _)]⟩) (sbr rfl rfl) ?_)))))))))))))))))))))))
 refine D1 fun u12 hu12=>sv rfl (sv rfl (sv rfl (A3 (J2 ?_))))
 cases hz2
 exact ⟨rfl,(),(sbr rfl rfl)⟩
 refine E5 rfl ?_
 cases hz2
 obtain rfl:=ez2 _ rfl
 refine ⟨nofun,E3 rfl (l_j ?_)⟩
 exact ⟨(),(sbr rfl rfl)⟩
 rintro _ ⟨g3,q2⟩
 refine A9 q2 (D5 ?_)
 cases h
 exact A70 (.inr rfl) [] B1p (.refl _) ⟨⟨G_hit,K3⟩,trivial⟩
 refine B3 (A8 (lr (fun u13 hu13=>sv rfl (sv rfl (sv rfl (sv rfl (A3 (cc rfl h (fun c5 h=> ?_) (fun c5 h=> ?_)))))))))
 refine lr (fun u14 hu14=>sv rfl (sv rfl (A3 (lr (fun u15 hu15=>sv rfl (sv rfl (A3 (A8 (bs h fun y3 hy3 h=>H8 (fun s=> ∃g5:Unit,Sb ⟨T [(0,(.sl (900000,0))),(2,(di p3)),(14,(di y3))],G [((900000,0),some (.arr 66 4 (List.map L0 p1)))]⟩ s) ?_ ?_)))))))))
 refine A7 (I0 (D7 p1 p3) (fun (x3:(Int×Int)) (g6:Unit)=>⟨T [(0,(.sl (900000,0))),(2,(di p3)),(4,(.d (.fn (.func 67) [] []))),(14,(di x3.1)),(15,(di x3.2))],G [((900000,0),some (.arr 66 4 (List.map L0 p1)))]⟩) (p2,p3) () _ hy3 (sbr rfl rfl) ?_)
 intro x3 g6 z3 hz3 ez3
 unfold D7 at hz3
 refine A8 (lr (fun u16 hu16=>sv rfl (sv rfl (sv rfl (A3 (cc rfl hz3 (fun c6 hz3=> ?_) (fun c6 hz3=> ?_)))))))
 refine B3 (A7 (lr (fun u17 hu17=>sv rfl (sv rfl (sv rfl (sv rfl (sv rfl (sv rfl (sv rfl (A3 (A8 (Z6 rfl fun u18 hu18=>sv rfl (ss rfl (sv rfl (bs hz3 fun v8 hv8 hz3=>E2 (.aptr _ _ _ _) rfl (A13 rfl rfl G_hit hv8) (sd rfl (A10 rfl G_hit hv8 rfl rfl) (ss rfl (sv rfl (bs hz3 fun v9 hv9 hz3=>E2 (.aptr _ _ _ _) rfl (A13 rfl rfl G_hit hv9) (sd rfl (A10 rfl G_hit hv9 rfl rfl) (bs hz3 fun v10 hv10 hz3=>C9 rfl rfl A4 (A30 _ _ _ hv10) (.inl rfl) (sv rfl (E2 (.d (bo (!(decide (v10<0))))) rfl rfl (A3 (cc rfl hz3 (fun c7 hz3=> ?_) (fun c7 hz3=> ?_))))))))))))))))))))))))))
 refine A9 (s0:=⟨T [(0,(.sl _)),(2,(.d _)),(4,(.d _)),(15,(.d _)),(16,(.d _))],G [((900000,0),some _)]⟩) (sbr rfl rfl) ?_
 refine D1 fun u19 hu19=>sv rfl (sv rfl (sv rfl (A3 (I5 (J2 ?_)))))
 cases hz3
 exact ⟨rfl,(),(sbr rfl rfl)⟩
 refine A9 (s0:=⟨T [(0,(.sl _)),(2,(.d _)),(4,(.d _)),(14,(.d _)),(16,(.d _))],G [((900000,0),some _)]⟩) (sbr rfl rfl) ?_
 refine D1 fun u20 hu20=>sv rfl (sv rfl (A3 (I5 (J2 ?_))))
 cases hz3
 exact ⟨rfl,(),(sbr rfl rfl)⟩
 refine E5 rfl ?_
 cases hz3
 obtain rfl:=ez3 _ rfl
 refine ⟨nofun,E3 rfl (l_j ?_)⟩
 exact ⟨(),(sbr rfl rfl)⟩
 rintro _ ⟨g5,q3⟩
 refine A9 q3 (A8 (lr (fun u21 hu21=>sv rfl (sv rfl (A3 (bs h fun y4 hy4 h=>H8 (fun s=> ∃g7:Unit,Sb ⟨T [(0,(.sl (900000,0)))],G [((900000,0),some (.arr 66 4 (List.map L0 y4)))]⟩ s) ?_ ?_))))))
 refine A7 (I0 (D6 y3) (fun (x4:(Int× (List Pass))) (g8:Unit)=>⟨T [(0,(.sl (900000,0))),(14,(di y3)),(17,(di x4.1))],G [((900000,0),some (.arr 66 4 (List.map L0 x4.2)))]⟩) (p3,p1) () _ hy4 (sbr rfl rfl) ?_)
 intro x4 g8 z4 hz4 ez4
 unfold D6 at hz4
 refine A8 (lr (fun u22 hu22=>sv rfl (sv rfl (sv rfl (A3 (cc rfl hz4 (fun c8 hz4=> ?_) (fun c8 hz4=> ?_)))))))
 refine B3 (A8 (A7 (Z6 rfl fun u23 hu23=>ss rfl (sv rfl (ss rfl (sv rfl (sv rfl (ss rfl (sv rfl (sv rfl (bs hz4 fun v11 hv11 hz4=>E2 (.aptr _ _ _ _) rfl (A13 rfl rfl G_hit hv11) (sd rfl (A10 rfl G_hit hv11 rfl rfl) (ss rfl (sv rfl (bs hz4 fun v12 hv12 hz4=>E2 (.aptr _ _ _ _) rfl (A13 rfl rfl G_hit hv12) (sd rfl (A10 rfl G_hit hv12 rfl rfl) (bs hz4 fun v13 hv13 hz4=>E2 (.aptr _ _ _ _) rfl (A13 rfl rfl G_hit hv13) (A5u L0 _ _ _ (x4.1) _ v11 (L0 v11) rfl rfl rfl G_hit hv13 (nl rfl) rfl (bs hz4 fun v14 hv14 hz4=>E2 (.aptr _ _ _ _) rfl (A13 rfl rfl G_hit hv14) (A5u L0 _ _ _ ((w64 (x4.1 - 1))) _ v12 (L0 v12) rfl rfl rfl G_hit hv14 (nl rfl) rfl (A3 (I5 (A9 (s0:=⟨T [(0,(.sl _)),(14,(.d _)),(17,(.d _))],G [((900000,0),some _)]⟩) (sbr rfl rfl) ?_)))))))))))))))))))))))
 refine D1 fun u24 hu24=>sv rfl (sv rfl (sv rfl (A3 (J2 ?_))))
 cases hz4
 exact ⟨rfl,(),(sbr rfl rfl)⟩
 refine E5 rfl ?_
 cases hz4
 obtain rfl:=ez4 _ rfl
 refine ⟨nofun,E3 rfl (l_j ?_)⟩
 exact ⟨(),(sbr rfl rfl)⟩
 rintro _ ⟨g7,q4⟩
 refine A9 q4 (D5 ?_)
 cases h
 exact A70 (.inr rfl) [] B1p (.refl _) ⟨⟨G_hit,K3⟩,trivial⟩
 refine B3 (lr (fun u25 hu25=>sv rfl (sv rfl (sv rfl (sv rfl (sv rfl (sv rfl (sv rfl (A3 (lr (fun u26 hu26=>sv rfl (sv rfl (sv rfl (sv rfl (A3 (A8 (A9 (s0:=⟨T [(0,(.sl _)),(1,(.d _)),(2,(.d _)),(3,(.d _)),(4,(.d _)),(18,(.d _)),(19,(.d _))],G [((900000,0),some _)]⟩) (sbr rfl rfl) ?_)))))))))))))))))
 refine D1 fun u27 hu27=>sv rfl (sv rfl (A3 (A8 (lr (fun u28 hu28=>sv rfl (sv rfl (sv rfl (A3 (bs h fun y5 hy5 h=>H8 (fun s=> ∃g9:Unit,Sb ⟨T [(0,(.sl (900000,0))),(1,(di p2)),(2,(di p3)),(3,(di p4)),(4,(.d (.fn (.func 67) [] []))),(18,(di (w64 ((IntKind.wrap .u64 (w64 (p2+p4))).fdiv (2^ (min (1:Int).toNat (IntKind.bits .u64))))))),(19,(di (w64 ((w64 ((IntKind.wrap .u64 (w64 (p2+p4))).fdiv (2^ (min (1:Int).toNat (IntKind.bits .u64)))))+p3)))),(20,(di y5.1)),(21,(di y5.2))],G [((900000,0),some (.arr 66 4 (List.map L0 p1)))]⟩ s) ?_ ?_)))))))))
 refine cc rfl hy5 (fun c9 hy5=> ?_) (fun c9 hy5=> ?_)
 refine lr (fun u29 hu29=>sv rfl (sv rfl (sv rfl (sv rfl (A3 (D1 fun u30 hu30=>sv rfl (sv rfl (A3 ?_))))))))
 cases hy5
 exact l_j ⟨(),(sbr rfl rfl)⟩
 refine lr (fun u31 hu31=>sv rfl (sv rfl (A3 (D1 fun u32 hu32=>sv rfl (sv rfl (A3 ?_))))))
 cases hy5
 exact l_j ⟨(),(sbr rfl rfl)⟩
 rintro _ ⟨g9,q5⟩
 refine A9 q5 (lr (fun u33 hu33=>sv rfl (sv rfl (sv rfl (A3 (A8 (bs h fun y6 hy6 h=>H8 (fun s=> ∃g10:Unit,Sb ⟨T [(0,(.sl (900000,0))),(1,(di p2)),(2,(di p3)),(3,(di p4)),(4,(.d (.fn (.func 67) [] []))),(18,(di (w64 ((IntKind.wrap .u64 (w64 (p2+p4))).fdiv (2^ (min (1:Int).toNat (IntKind.bits .u64))))))),(19,(di (w64 ((w64 ((IntKind.wrap .u64 (w64 (p2+p4))).fdiv (2^ (min (1:Int).toNat (IntKind.bits .u64)))))+p3)))),(20,(di y6))],G [((900000,0),some (.arr 66 4 (List.map L0 p1)))]⟩ s) ?_ ?_)))))))
 refine A7 (I0 (C7 p1 p2 p3 p4) (fun (x5:(Int×Int)) (g11:Unit)=>⟨T [(0,(.sl (900000,0))),(1,(di p2)),(2,(di p3)),(3,(di p4)),(4,(.d (.fn (.func 67) [] []))),(18,(di (w64 ((IntKind.wrap .u64 (w64 (p2+p4))).fdiv (2^ (min (1:Int).toNat (IntKind.bits .u64))))))),(19,(di (w64 ((w64 ((IntKind.wrap .u64 (w64 (p2+p4))).fdiv (2^ (min (1:Int).toNat (IntKind.bits .u64)))))+p3)))),(20,(di x5.1)),(21,(di x5.2)),(22,(di (w64 ((w64 ((w64 ((IntKind.wrap .u64 (w64 (p2+p4))).fdiv (2^ (min (1:Int).toNat (IntKind.bits .u64)))))+p3)) - 1))))],G [((900000,0),some (.arr 66 4 (List.map L0 p1)))]⟩) (y5.1,y5.2) () _ hy6 (sbr rfl rfl) ?_)
 intro x5 g11 z5 hz5 ez5
 unfold C7 at hz5
 refine A8 (lr (fun u34 hu34=>sv rfl (sv rfl (sv rfl (A3 (cc rfl hz5 (fun c10 hz5=> ?_) (fun c10 hz5=> ?_)))))))
 refine B3 (A7 (lr (fun u35 hu35=>sv rfl (sv rfl (sv rfl (sv rfl (sv rfl (sv rfl (sv rfl (A3 (A8 (Z6 rfl fun u36 hu36=>sv rfl (ss rfl (sv rfl (sv rfl (sv rfl (bs hz5 fun v15 hv15 hz5=>E2 (.aptr _ _ _ _) rfl (A13 rfl rfl G_hit hv15) (sd rfl (A10 rfl G_hit hv15 rfl rfl) (ss rfl (sv rfl (bs hz5 fun v16 hv16 hz5=>E2 (.aptr _ _ _ _) rfl (A13 rfl rfl G_hit hv16) (sd rfl (A10 rfl G_hit hv16 rfl rfl) (bs hz5 fun v17 hv17 hz5=>C9 rfl rfl A4 (A30 _ _ _ hv17) (.inl rfl) (sv rfl (E2 (.d (bo (!(decide (v17<0))))) rfl rfl (A3 (cc rfl hz5 (fun c11 hz5=> ?_) (fun c11 hz5=> ?_))))))))))))))))))))))))))))
 refine A9 (s0:=⟨T [(0,(.sl _)),(1,(.d _)),(2,(.d _)),(3,(.d _)),(4,(.d _)),(18,(.d _)),(19,(.d _)),(21,(.d _)),(22,(.d _)),(23,(.d _))],G [((900000,0),some _)]⟩) (sbr rfl rfl) ?_
 refine D1 fun u37 hu37=>sv rfl (sv rfl (sv rfl (A3 (I5 (J2 ?_)))))
 cases hz5
 exact ⟨rfl,(),(sbr rfl rfl)⟩
 refine A9 (s0:=⟨T [(0,(.sl _)),(1,(.d _)),(2,(.d _)),(3,(.d _)),(4,(.d _)),(18,(.d _)),(19,(.d _)),(20,(.d _)),(22,(.d _)),(23,(.d _))],G [((900000,0),some _)]⟩) (sbr rfl rfl) ?_
 refine D1 fun u38 hu38=>sv rfl (sv rfl (A3 (I5 (J2 ?_))))
 cases hz5
 exact ⟨rfl,(),(sbr rfl rfl)⟩
 refine E5 rfl ?_
 cases hz5
 obtain rfl:=ez5 _ rfl
 refine ⟨nofun,E3 rfl (l_j ?_)⟩
 exact ⟨(),(sbr rfl rfl)⟩
 rintro _ ⟨g10,q6⟩
 refine A9 q6 (lr (fun u39 hu39=>sv rfl (sv rfl (sv rfl (sv rfl (A3 (A8 (lr (fun u40 hu40=>sv rfl (sv rfl (sv rfl (sv rfl (gt rfl (fun _=>rfl) (gt rfl (fun _=>rfl) (gt rfl (fun w3=>(A1w (A6 w3) (A6 w3) rfl)) (sa rfl rfl rfl (A3 (bs h fun y7 hy7 h=>H8 (fun s=> ∃g12:Unit,Sb ⟨T [(0,(.sl (900000,0))),(1,(di p2)),(3,(di p4)),(4,(.d (.fn (.func 67) [] []))),(18,(di (w64 ((IntKind.wrap .u64 (w64 (p2+p4))).fdiv (2^ (min (1:Int).toNat (IntKind.bits .u64))))))),(20,(di y6)),(24,(di (w64 ((w64 ((w64 ((IntKind.wrap .u64 (w64 (p2+p4))).fdiv (2^ (min (1:Int).toNat (IntKind.bits .u64)))))+p3)) - y6))))],G [((900000,0),some (.arr 66 4 (List.map L0 y7)))]⟩ s) ?_ ?_))))))))))))))))))
 refine cc rfl hy7 (fun c12 hy7=> ?_) (fun c12 hy7=> ?_)
 refine D1 fun u41 hu41=>ss rfl (sv rfl (sv rfl (sv rfl (sv rfl (bs hy7 fun v18 hv18 hy7=>B8v (v:= .d (.tup [])) (us:= [(900000,0)]) (B9s (A17 _ _ _ _ _ hv18) [(900000,0)] [(900000,0)] _ (((900000,0),some (.arr 66 4 (List.map L0 v18)))::_) rfl A35 (E8 B3f (E8 A6t (E8 A6t (E8 A6t (E8 A6t A41))))) (T8 G_hit A11) ⟨⟨_,G_hit, .of rfl⟩,trivial⟩ (fun _ h=>h) nd1 rfl rfl rfl) (A3 ?_))))))
 cases hy7
 exact l_j ⟨(),(sbr rfl rfl)⟩
 refine B3 ?_
 cases hy7
 exact l_j ⟨(),(sbr rfl rfl)⟩
 rintro _ ⟨g12,q7⟩
 refine A9 q7 (A8 (lr (fun u42 hu42=>sv rfl (sv rfl (sv rfl (sv rfl (gt rfl (fun _=>rfl) (gt rfl (fun _=>rfl) (gt rfl (fun w6=>(A1w (A6 w6) (A6 w6) rfl)) (sa rfl rfl rfl (A3 (bs h fun y8 hy8 h=>H8 (fun s=> ∃g13:Unit,Sb ⟨T [(0,(.sl (900000,0))),(3,(di p4)),(4,(.d (.fn (.func 67) [] []))),(18,(di (w64 ((IntKind.wrap .u64 (w64 (p2+p4))).fdiv (2^ (min (1:Int).toNat (IntKind.bits .u64))))))),(24,(di (w64 ((w64 ((w64 ((IntKind.wrap .u64 (w64 (p2+p4))).fdiv (2^ (min (1:Int).toNat (IntKind.bits .u64)))))+p3)) - y6))))],G [((900000,0),some (.arr 66 4 (List.map L0 y8)))]⟩ s) ?_ ?_))))))))))))
 refine cc rfl hy8 (fun c13 hy8=> ?_) (fun c13 hy8=> ?_)
 refine D1 fun u43 hu43=>ss rfl (sv rfl (sv rfl (sv rfl (sv rfl (bs hy8 fun v19 hv19 hy8=>B8v (v:= .d (.tup [])) (us:= [(900000,0)]) (B9s (rc_ok _ _ _ _ _ hv19) [(900000,0)] [(900000,0)] _ (((900000,0),some (.arr 66 4 (List.map L0 v19)))::_) rfl A35 (E8 B3f (E8 A6t (E8 A6t (E8 A6t (E8 A6t A41))))) (T8 G_hit A11) ⟨⟨_,G_hit, .of rfl⟩,trivial⟩ (fun _ h=>h) nd1 rfl rfl rfl) (A3 ?_))))))
 cases hy8
 exact l_j ⟨(),(sbr rfl rfl)⟩
 refine B3 ?_
 cases hy8
 exact l_j ⟨(),(sbr rfl rfl)⟩
 rintro _ ⟨g13,q8⟩
 refine A9 q8 (lr (fun u44 hu44=>sv rfl (sv rfl (sv rfl (sv rfl (gt rfl (fun _=>rfl) (gt rfl (fun _=>rfl) (gt rfl (fun w9=>(A1w (A6 w9) (A6 w9) rfl)) (sa rfl rfl rfl (A3 (cc rfl h (fun c14 h=> ?_) (fun c14 h=> ?_))))))))))))
 refine D1 fun u45 hu45=>ss rfl (sv rfl (sv rfl (sv rfl (sv rfl (bs h fun v20 hv20 h=>B8v (v:= .d (.tup [])) (us:= [(900000,0)]) (B9s (rc_ok _ _ _ _ _ hv20) [(900000,0)] [(900000,0)] _ (((900000,0),some (.arr 66 4 (List.map L0 v20)))::_) rfl A35 (E8 B3f (E8 A6t (E8 A6t (E8 A6t (E8 A6t A41))))) (T8 G_hit A11) ⟨⟨_,G_hit, .of rfl⟩,trivial⟩ (fun _ h=>h) nd1 rfl rfl rfl) (A3 (J2 ?_)))))))
 cases h
 exact A70 (.inl rfl) [] B1p (.refl _) ⟨⟨G_hit,K3⟩,trivial⟩
 refine B3 (J2 ?_)
 cases h
 exact A70 (.inl rfl) [] B1p (.refl _) ⟨⟨G_hit,K3⟩,trivial⟩
theorem Q8: ∀(n:Nat) (p1:(List Pass)) (p2:Int) (p3:Int) (p4:Int) (r:(List Pass)) (h:F8 n p1 p2 p3 p4=some r),MCall Try.prog 124 [(.sl (900000,0)),(di p2),(di p3),(di p4),(.d (.fn (.func 67) [] []))] [(.arr 66 4 (List.map L0 p1))] (.d (.tup [])) [some (.arr 66 4 (List.map L0 r))] []
  |0,_,_,_,_,_,h=>nomatch h
  |n+1,_,_,_,_,_,h=>A0d (F8 n) (Q8 n) _ _ _ _ _ h
theorem R9 (p1:(List Pass))(p2:Int)(p3:Int)(p4:Int)(r:(List Pass))(h:G7 p1 p2 p3 p4=some r):MCall Try.prog 124 [(.sl (900000,0)),(di p2),(di p3),(di p4),(.d (.fn (.func 67) [] []))] [(.arr 66 4 (List.map L0 p1))] (.d (.tup [])) [some (.arr 66 4 (List.map L0 r))] []:=Q8 100 p1 p2 p3 p4 r h
noncomputable def B7 (p2:Int)(x2:(Int× (List Pass)))(x3:(Int×Int× (List Pass))):Option (Stp (Int×Int× (List Pass)) (Int× (List Pass))):=
  cond (decide (x3.2.1≤p2)) ((G7 x3.2.2 x3.1 (w64 (x3.1+x2.1)) x3.2.1).bind fun v3=>some (.go (x3.2.1,(w64 (x3.2.1+ (w64 (2*x2.1)))),v3))) (some (.out (x3.1,x3.2.2)))
noncomputable def C5 (p2:Int)(x2:(Int× (List Pass))):Option (Stp (Int× (List Pass)) (List Pass)):=
  cond (decide (x2.1<p2)) ((loop (B7 p2 x2) (0,(w64 (2*x2.1)),x2.2)).bind fun y2=>cond (decide ((w64 (y2.1+x2.1))<p2)) ((G7 y2.2 y2.1 (w64 (y2.1+x2.1)) p2).bind fun v4=>some (.go ((w64 (x2.1*2)),v4))) (some (.go ((w64 (x2.1*2)),y2.2)))) (some (.out (x2.2)))
noncomputable def C6 (p2:Int)(x1:(Int×Int× (List Pass))):Option (Stp (Int×Int× (List Pass)) (Int× (List Pass))):=
  cond (decide (x1.2.1≤p2)) ((B8 x1.2.2 x1.1 x1.2.1).bind fun v1=>some (.go (x1.2.1,(w64 (x1.2.1+20)),v1))) (some (.out (x1.1,x1.2.2)))
noncomputable def J6 (p1:(List Pass))(p2:Int):Option (List Pass):=
  (loop (C6 p2) (0,20,p1)).bind fun y1=>(B8 y1.2 y1.1 p2).bind fun v2=>loop (C5 p2) (20,v2)
theorem A18 (p1:(List Pass))(p2:Int)(r:(List Pass))(h:J6 p1 p2=some r):MCall Try.prog 97 [(.sl (900000,0)),(di p2),(.d (.fn (.func 67) [] []))] [(.arr 66 4 (List.map L0 p1))] (.d (.tup [])) [some (.arr 66 4 (List.map L0 r))] []:=by
 refine A78 (fk Try.func97 Try.ntmps97 (fun r=>if r==3 then [1003004]else if r==6 then [1006004]else if r==10 then [1010007]else if r==15 then [1015005]else []) (by with_unfolding_all rfl)) rfl (nl rfl) ?_
 unfold J6 at h
 refine A9 (s0:=⟨T [(0,(.sl _)),(1,(.d _)),(2,(.d _))],G [((900000,0),some _)]⟩) (sbr rfl rfl) ?_
 refine lr (fun u1 hu1=>sv rfl (A3 (lr (fun u2 hu2=>sv rfl (sv rfl (sv rfl (A3 (A8 (bs h fun y1 hy1 h=>H8 (fun s=> ∃g1:Unit,Sb ⟨T [(0,(.sl (900000,0))),(1,(di p2)),(2,(.d (.fn (.func 67) [] []))),(6,(di 20)),(7,(di y1.1))],G [((900000,0),some (.arr 66 4 (List.map L0 y1.2)))]⟩ s) ?_ ?_)))))))))
 refine A7 (I0 (C6 p2) (fun (x1:(Int×Int× (List Pass))) (g2:Unit)=>⟨T [(0,(.sl (900000,0))),(1,(di p2)),(2,(.d (.fn (.func 67) [] []))),(6,(di 20)),(7,(di x1.1)),(8,(di x1.2.1))],G [((900000,0),some (.arr 66 4 (List.map L0 x1.2.2)))]⟩) (0,20,p1) () _ hy1 (sbr rfl rfl) ?_)
 intro x1 g2 z1 hz1 ez1
 unfold C6 at hz1
 refine A8 (lr (fun u3 hu3=>sv rfl (sv rfl (sv rfl (A3 (cc rfl hz1 (fun c1 hz1=> ?_) (fun c1 hz1=> ?_)))))))
 refine B3 (A7 (lr (fun u4 hu4=>ss rfl (sv rfl (sv rfl (sv rfl (bs hz1 fun v1 hv1 hz1=>B8v (v:= .d (.tup [])) (us:= [(900000,0)]) (B9s (P2 _ _ _ _ hv1) [(900000,0)] [(900000,0)] _ (((900000,0),some (.arr 66 4 (List.map L0 v1)))::_) rfl A35 (E8 B3f (E8 A6t (E8 A6t (E8 A6t A41)))) (T8 G_hit A11) ⟨⟨_,G_hit, .of rfl⟩,trivial⟩ (fun _ h=>h) nd1 rfl rfl rfl) (A3 (lr (fun u5 hu5=>sv rfl (sv rfl (A3 (D1 fun u6 hu6=>sv rfl (sv rfl (sv rfl (sv rfl (A3 (I5 (J2 ?_)))))))))))))))))))
 cases hz1
 exact ⟨rfl,(),(sbr rfl rfl)⟩
 refine E5 rfl ?_
 cases hz1
 obtain rfl:=ez1 _ rfl
 refine ⟨nofun,E3 rfl (l_j ?_)⟩
 exact ⟨(),(sbr rfl rfl)⟩
 rintro _ ⟨g1,q1⟩
 refine A9 q1 (lr (fun u7 hu7=>ss rfl (sv rfl (sv rfl (sv rfl (bs h fun v2 hv2 h=>B8v (v:= .d (.tup [])) (us:= [(900000,0)]) (B9s (P2 _ _ _ _ hv2) [(900000,0)] [(900000,0)] _ (((900000,0),some (.arr 66 4 (List.map L0 v2)))::_) rfl A35 (E8 B3f (E8 A6t (E8 A6t (E8 A6t A41)))) (T8 G_hit A11) ⟨⟨_,G_hit, .of rfl⟩,trivial⟩ (fun _ h=>h) nd1 rfl rfl rfl) (A3 (A7 (I0 (C5 p2) (fun (x2:(Int× (List Pass))) (g3:Unit)=>⟨T [(0,(.sl (900000,0))),(1,(di p2)),(2,(.d (.fn (.func 67) [] []))),(6,(di x2.1))],G [((900000,0),some (.arr 66 4 (List.map L0 x2.2)))]⟩) (20,v2) () _ h (sbr rfl rfl) ?_)))))))))
 intro x2 g3 z2 hz2 ez2
 unfold C5 at hz2
 refine A8 (lr (fun u8 hu8=>sv rfl (sv rfl (sv rfl (A3 (cc rfl hz2 (fun c2 hz2=> ?_) (fun c2 hz2=> ?_)))))))
 refine B3 (A7 (lr (fun u9 hu9=>sv rfl (sv rfl (sv rfl (sv rfl (A3 (A8 (bs hz2 fun y2 hy2 hz2=>H8 (fun s=> ∃g4:Unit,Sb ⟨T [(0,(.sl (900000,0))),(1,(di p2)),(2,(.d (.fn (.func 67) [] []))),(6,(di x2.1)),(7,(di y2.1))],G [((900000,0),some (.arr 66 4 (List.map L0 y2.2)))]⟩ s) ?_ ?_)))))))))
 refine A7 (I0 (B7 p2 x2) (fun (x3:(Int×Int× (List Pass))) (g5:Unit)=>⟨T [(0,(.sl (900000,0))),(1,(di p2)),(2,(.d (.fn (.func 67) [] []))),(6,(di x2.1)),(7,(di x3.1)),(8,(di x3.2.1))],G [((900000,0),some (.arr 66 4 (List.map L0 x3.2.2)))]⟩) (0,(w64 (2*x2.1)),x2.2) () _ hy2 (sbr rfl rfl) ?_)
 intro x3 g5 z3 hz3 ez3
 unfold B7 at hz3
 refine A8 (lr (fun u10 hu10=>sv rfl (sv rfl (sv rfl (A3 (cc rfl hz3 (fun c3 hz3=> ?_) (fun c3 hz3=> ?_)))))))
 refine B3 (A7 (lr (fun u11 hu11=>ss rfl (sv rfl (sv rfl (sv rfl (sv rfl (sv rfl (sv rfl (bs hz3 fun v3 hv3 hz3=>B8v (v:= .d (.tup [])) (us:= [(900000,0)]) (B9s (R9 _ _ _ _ _ hv3) [(900000,0)] [(900000,0)] _ (((900000,0),some (.arr 66 4 (List.map L0 v3)))::_) rfl A35 (E8 B3f (E8 A6t (E8 A6t (E8 A6t (E8 A6t A41))))) (T8 G_hit A11) ⟨⟨_,G_hit, .of rfl⟩,trivial⟩ (fun _ h=>h) nd1 rfl rfl rfl) (A3 (lr (fun u12 hu12=>sv rfl (sv rfl (A3 (D1 fun u13 hu13=>sv rfl (sv rfl (sv rfl (sv rfl (sv rfl (A3 (I5 (J2 ?_)))))))))))))))))))))))
 cases hz3
 exact ⟨rfl,(),(sbr rfl rfl)⟩
 refine E5 rfl ?_
 cases hz3
 obtain rfl:=ez3 _ rfl
 refine ⟨nofun,E3 rfl (l_j ?_)⟩
 exact ⟨(),(sbr rfl rfl)⟩
 rintro _ ⟨g4,q2⟩
 refine A9 q2 (A8 (lr (fun u14 hu14=>sv rfl (sv rfl (sv rfl (sv rfl (A3 (lr (fun u15 hu15=>sv rfl (sv rfl (sv rfl (A3 (cc rfl hz2 (fun c4 hz2=> ?_) (fun c4 hz2=> ?_))))))))))))))
 refine D1 fun u16 hu16=>ss rfl (sv rfl (sv rfl (sv rfl (sv rfl (bs hz2 fun v4 hv4 hz2=>B8v (v:= .d (.tup [])) (us:= [(900000,0)]) (B9s (R9 _ _ _ _ _ hv4) [(900000,0)] [(900000,0)] _ (((900000,0),some (.arr 66 4 (List.map L0 v4)))::_) rfl A35 (E8 B3f (E8 A6t (E8 A6t (E8 A6t (E8 A6t A41))))) (T8 G_hit A11) ⟨⟨_,G_hit, .of rfl⟩,trivial⟩ (fun _ h=>h) nd1 rfl rfl rfl) (A3 (D1 fun u17 hu17=>sv rfl (sv rfl (sv rfl (A3 (I5 (J2 ?_))))))))))))
 cases hz2
 exact ⟨rfl,(),(sbr rfl rfl)⟩
 refine B3 (D1 fun u18 hu18=>sv rfl (sv rfl (sv rfl (A3 (I5 (J2 ?_))))))
 cases hz2
 exact ⟨rfl,(),(sbr rfl rfl)⟩
 refine E5 rfl ?_
 cases hz2
 obtain rfl:=ez2 _ rfl
 refine ⟨nofun,E3 rfl (J2 ?_)⟩
 exact A70 (.inl rfl) [] B1p (.refl _) ⟨⟨G_hit,K3⟩,trivial⟩
noncomputable def F0 (p1:(List Pass)):Option (List Pass):=
  (J6 p1 (p1.length:Int)).bind fun v1=>some v1
theorem A04 (p1:(List Pass))(r:(List Pass))(h:F0 p1=some r):MCall Try.prog 66 [(.sl (900000,0)),(.d (.fn (.func 67) [] []))] [(.arr 66 4 (List.map L0 p1))] (.d (.tup [])) [some (.arr 66 4 (List.map L0 r))] []:=by
 refine A78 (fk Try.func66 Try.ntmps66 (fun r=>if r==0 then [1000004]else []) (by with_unfolding_all rfl)) rfl (nl rfl) ?_
 unfold F0 at h
 refine A9 (s0:=⟨T [(0,(.sl _)),(1,(.d _))],G [((900000,0),some _)]⟩) (sbr rfl rfl) ?_
 refine D1 fun u1 hu1=>ss rfl (ss rfl (sd rfl (C8c (f:=L0) rfl G_hit) (sv rfl (bs h fun v1 hv1 h=>B8v (v:= .d (.tup [])) (us:= [(900000,0)]) (B9s (A18 _ _ _ hv1) [(900000,0)] [(900000,0)] _ (((900000,0),some (.arr 66 4 (List.map L0 v1)))::_) rfl A35 (E8 B3f (E8 A6t (E8 A6t A41))) (T8 G_hit A11) ⟨⟨_,G_hit, .of rfl⟩,trivial⟩ (fun _ h=>h) nd1 rfl rfl rfl) (A3 (J2 ?_))))))
 cases h
 exact A70 (.inl rfl) [] B1p (.refl _) ⟨⟨G_hit,K3⟩,trivial⟩
noncomputable def J3 (p1:Int)(x2:Int):Option (Stp Int Unit):=
  ((cond (decide (x2>p1)) ((none:Option Unit)) (some default))).bind fun v1=>cond ((decide (x2>p1))&&false) (none) (some (.out ()))
noncomputable def J4 (p1:Int)(p2:Int)(x1:Int):Option (Stp Int Unit):=
  cond (decide (x1<p2)) ((loop (J3 p1) x1).bind fun _=>some (.go (w64 (x1+1)))) (some (.out (())))
noncomputable def D9 (p1:Int)(p2:Int):Option Unit:=
  loop (J4 p1 p2) (w64 (p1+1))
theorem P3 (p1:Int)(p2:Int)(r:Unit)(h:D9 p1 p2=some r):PCall Try.prog 123 [.nilS,(i64 p1),(i64 p2),(.fn (.func 67) [] [])] (.tup []):=by
 refine G2 (fk Try.func123 Try.ntmps123 m0 (by with_unfolding_all rfl)) (nl rfl) ?_
 unfold D9 at h
 refine A9 (s0:=⟨T [(0,(.d _)),(1,(.d _)),(2,(.d _)),(3,(.d _))],G []⟩) (sbr rfl rfl) ?_
 refine lr (fun u1 hu1=>sv rfl (sv rfl (sv rfl (A3 (A7 (I0 (J4 p1 p2) (fun (x1:Int) (g1:Unit)=>⟨T [(0,(.d .nilS)),(1,(di p1)),(2,(di p2)),(3,(.d (.fn (.func 67) [] []))),(8,(di x1))],G []⟩) (w64 (p1+1)) () _ h (sbr rfl rfl) ?_))))))
 intro x1 g1 z1 hz1 ez1
 unfold J4 at hz1
 refine A8 (lr (fun u2 hu2=>sv rfl (sv rfl (sv rfl (A3 (cc rfl hz1 (fun c1 hz1=> ?_) (fun c1 hz1=> ?_)))))))
 refine B3 (A8 (A7 (lr (fun u3 hu3=>sv rfl (sv rfl (A3 (bs hz1 fun y1 hy1 hz1=>H8 (fun s=> ∃g2:Unit,Sb ⟨T [(0,(.d .nilS)),(1,(di p1)),(2,(di p2)),(3,(.d (.fn (.func 67) [] []))),(8,(di x1))],G []⟩ s) ?_ ?_)))))))
 refine A7 (I0 (J3 p1) (fun (x2:Int) (g3:Unit)=>⟨T [(0,(.d .nilS)),(1,(di p1)),(2,(di p2)),(3,(.d (.fn (.func 67) [] []))),(8,(di x1)),(9,(di x2))],G []⟩) x1 () _ hy1 (sbr rfl rfl) ?_)
 intro x2 g3 z2 hz2 ez2
 unfold J3 at hz2
 refine A8 (A8 (Z6 rfl fun u4 hu4=>sv rfl (sv rfl (sv rfl (sv rfl (gt rfl (fun _=>rfl) (gt rfl (fun _=>rfl) (gt rfl (fun _=>rfl) (bs hz2 fun v1 hv1 hz2=>A3b _ (.d (.tup [])) rfl (A62 rfl) (fun w4=>nomatch G6 w4 hv1) (A3b _ (.d (.tup [])) rfl (A62 rfl) (fun w5=>nomatch G6 w5 hv1) (A3b _ (.d (.tup [])) rfl (A62 rfl) (fun w6=>nomatch G6 w6 hv1) (A3b _ (di 0) rfl (A62 rfl) (fun w7=>nomatch G6 w7 hv1) (A3b _ (di 0) rfl (A62 rfl) (fun w8=>nomatch G6 w8 hv1) (A3b _ (.d (.tup [])) rfl (A62 rfl) (fun w9=>nomatch G6 w9 hv1) (A3b _ (.d (.tup [])) rfl (A62 rfl) (fun w10=>nomatch G6 w10 hv1) (A0v _ (i64 0) (A62 rfl) (fun w11=>nomatch G6 w11 hv1) (A3b _ (.d (bo false)) rfl (A62 rfl) (fun w12=>nomatch G6 w12 hv1) (sa rfl rfl rfl (A3 (cc rfl hz2 (fun c2 hz2=> ?_) (fun c2 hz2=> ?_)))))))))))))))))))))
 refine B3 (A8 (A7 (A9 (s0:=⟨T [(0,(.d _)),(1,(.d _)),(2,(.d _)),(3,(.d _)),(8,(.d _)),(9,(.d _))],G []⟩) (sbr rfl rfl) ?_)))
 refine Z6 rfl fun u5 hu5=>sv rfl (sv rfl (sv rfl (sv rfl (sv rfl (sv rfl (sv rfl (sv rfl ?_)))))))
 cases hz2
 refine E5 rfl ?_
 cases hz2
 obtain rfl:=ez2 _ rfl
 refine ⟨nofun,E3 rfl (l_j ?_)⟩
 exact ⟨(),(sbr rfl rfl)⟩
 rintro _ ⟨g2,q1⟩
 refine I5 (A9 q1 (D1 fun u6 hu6=>sv rfl (sv rfl (sv rfl (A3 (J2 ?_))))))
 cases hz1
 exact ⟨rfl,(),(sbr rfl rfl)⟩
 refine E5 rfl ?_
 cases hz1
 obtain rfl:=ez1 _ rfl
 refine ⟨nofun,E3 rfl (J2 ?_)⟩
 exact B0 (.inl rfl) rfl (.refl _)
noncomputable def M3 (p1:Int)(x3:(Int×Int)):Option (Stp (Int×Int) Int):=
  cond (decide (x3.2≤p1)) (none) (some (.out x3.1))
noncomputable def I3 (p1:Int)(x2:Int):Option (Stp Int Unit):=
  cond (decide (x2<p1)) ((loop (M3 p1) (0,(w64 (2*x2)))).bind fun y2=>cond (decide ((w64 (y2+x2))<p1)) (none) (some (.go (w64 (x2*2))))) (some (.out (())))
noncomputable def I4 (p1:Int)(x1:(Int×Int)):Option (Stp (Int×Int) Int):=
  cond (decide (x1.2≤p1)) ((D9 x1.1 x1.2).bind fun v1=>some (.go (x1.2,(w64 (x1.2+20))))) (some (.out x1.1))
noncomputable def J7 (p1:Int):Option Unit:=
  (loop (I4 p1) (0,20)).bind fun y1=>(D9 y1 p1).bind fun v2=>loop (I3 p1) 20
theorem A19 (p1:Int)(r:Unit)(h:J7 p1=some r):PCall Try.prog 97 [.nilS,(i64 p1),(.fn (.func 67) [] [])] (.tup []):=by
 refine G2 (fk Try.func97 Try.ntmps97 m0 (by with_unfolding_all rfl)) (nl rfl) ?_
 unfold J7 at h
 refine A9 (s0:=⟨T [(0,(.d _)),(1,(.d _)),(2,(.d _))],G []⟩) (sbr rfl rfl) ?_
 refine lr (fun u1 hu1=>sv rfl (A3 (lr (fun u2 hu2=>sv rfl (sv rfl (sv rfl (A3 (A8 (bs h fun y1 hy1 h=>H8 (fun s=> ∃g1:Unit,Sb ⟨T [(0,(.d .nilS)),(1,(di p1)),(2,(.d (.fn (.func 67) [] []))),(6,(di 20)),(7,(di y1))],G []⟩ s) ?_ ?_)))))))))
 refine A7 (I0 (I4 p1) (fun (x1:(Int×Int)) (g2:Unit)=>⟨T [(0,(.d .nilS)),(1,(di p1)),(2,(.d (.fn (.func 67) [] []))),(6,(di 20)),(7,(di x1.1)),(8,(di x1.2))],G []⟩) (0,20) () _ hy1 (sbr rfl rfl) ?_)
 intro x1 g2 z1 hz1 ez1
 unfold I4 at hz1
 refine A8 (lr (fun u3 hu3=>sv rfl (sv rfl (sv rfl (A3 (cc rfl hz1 (fun c1 hz1=> ?_) (fun c1 hz1=> ?_)))))))
 refine B3 (A7 (lr (fun u4 hu4=>sv rfl (sv rfl (sv rfl (sv rfl (bs hz1 fun v1 hv1 hz1=>C9 rfl rfl A4 (P3 _ _ _ hv1) (.inl rfl) (A3 (lr (fun u5 hu5=>sv rfl (sv rfl (A3 (D1 fun u6 hu6=>sv rfl (sv rfl (sv rfl (sv rfl (A3 (I5 (J2 ?_)))))))))))))))))))
 cases hz1
 exact ⟨rfl,(),(sbr rfl rfl)⟩
 refine E5 rfl ?_
 cases hz1
 obtain rfl:=ez1 _ rfl
 refine ⟨nofun,E3 rfl (l_j ?_)⟩
 exact ⟨(),(sbr rfl rfl)⟩
 rintro _ ⟨g1,q1⟩
 refine A9 q1 (lr (fun u7 hu7=>sv rfl (sv rfl (sv rfl (sv rfl (bs h fun v2 hv2 h=>C9 rfl rfl A4 (P3 _ _ _ hv2) (.inl rfl) (A3 (A7 (I0 (I3 p1) (fun (x2:Int) (g3:Unit)=>⟨T [(0,(.d .nilS)),(1,(di p1)),(2,(.d (.fn (.func 67) [] []))),(6,(di x2))],G []⟩) 20 () _ h (sbr rfl rfl) ?_)))))))))
 intro x2 g3 z2 hz2 ez2
 unfold I3 at hz2
 refine A8 (lr (fun u8 hu8=>sv rfl (sv rfl (sv rfl (A3 (cc rfl hz2 (fun c2 hz2=> ?_) (fun c2 hz2=> ?_)))))))
 refine B3 (A7 (lr (fun u9 hu9=>sv rfl (sv rfl (sv rfl (sv rfl (A3 (A8 (bs hz2 fun y2 hy2 hz2=>H8 (fun s=> ∃g4:Unit,Sb ⟨T [(0,(.d .nilS)),(1,(di p1)),(2,(.d (.fn (.func 67) [] []))),(6,(di x2)),(7,(di y2))],G []⟩ s) ?_ ?_)))))))))
 refine A7 (I0 (M3 p1) (fun (x3:(Int×Int)) (g5:Unit)=>⟨T [(0,(.d .nilS)),(1,(di p1)),(2,(.d (.fn (.func 67) [] []))),(6,(di x2)),(7,(di x3.1)),(8,(di x3.2))],G []⟩) (0,(w64 (2*x2))) () _ hy2 (sbr rfl rfl) ?_)
 intro x3 g5 z3 hz3 ez3
 unfold M3 at hz3
 refine A8 (lr (fun u10 hu10=>sv rfl (sv rfl (sv rfl (A3 (cc rfl hz3 (fun c3 hz3=> ?_) (fun c3 hz3=> ?_)))))))
 refine B3 (A7 (lr (fun u11 hu11=>sv rfl (sv rfl (sv rfl (sv rfl (sv rfl (sv rfl (sv rfl ?_)))))))))
 cases hz3
 refine E5 rfl ?_
 cases hz3
 obtain rfl:=ez3 _ rfl
 refine ⟨nofun,E3 rfl (l_j ?_)⟩
 exact ⟨(),(sbr rfl rfl)⟩
 rintro _ ⟨g4,q2⟩
 refine A9 q2 (A8 (lr (fun u12 hu12=>sv rfl (sv rfl (sv rfl (sv rfl (A3 (lr (fun u13 hu13=>sv rfl (sv rfl (sv rfl (A3 (cc rfl hz2 (fun c4 hz2=> ?_) (fun c4 hz2=> ?_))))))))))))))
 refine D1 fun u14 hu14=>sv rfl (sv rfl (sv rfl (sv rfl (sv rfl ?_))))
 cases hz2
 refine B3 (D1 fun u15 hu15=>sv rfl (sv rfl (sv rfl (A3 (I5 (J2 ?_))))))
 cases hz2
 exact ⟨rfl,(),(sbr rfl rfl)⟩
 refine E5 rfl ?_
 cases hz2
 obtain rfl:=ez2 _ rfl
 refine ⟨nofun,E3 rfl (J2 ?_)⟩
 exact B0 (.inl rfl) rfl (.refl _)
noncomputable def F1:Option Unit:=
  (J7 0).bind fun v1=>some ()
theorem A05 (r:Unit)(h:F1=some r):PCall Try.prog 66 [.nilS,(.fn (.func 67) [] [])] (.tup []):=by
 refine G2 (fk Try.func66 Try.ntmps66 m0 (by with_unfolding_all rfl)) (nl rfl) ?_
 unfold F1 at h
 refine A9 (s0:=⟨T [(0,(.d _)),(1,(.d _))],G []⟩) (sbr rfl rfl) ?_
 refine D1 fun u1 hu1=>sv rfl (sv rfl (sv rfl (sv rfl (bs h fun v1 hv1 h=>C9 rfl rfl A4 (A19 _ _ hv1) (.inl rfl) (A3 (J2 ?_))))))
 cases h
 exact B0 (.inl rfl) rfl (.refl _)
noncomputable def W0 (v1:RoadsWay)(x1:((List Pass)×Int))(v2:Int)(x2:((List Pass)×Int))(v3:Zone)(x3:((List Pass)×Int)):Option (Stp ((List Pass)×Int) (List Pass)):=
  cond (decide (x3.2< (v3.Parts.length:Int))) ((F3 v3.Parts x3.2).bind fun v4=>cond (v4.Lane_==v2) ((F3 v1.starts x1.2).bind fun v5=>(F3 v1.starts x1.2).bind fun v6=>(B0m x3.1 [(Pass.mk x2.2 x3.2 (w64 (v5+v4.From)) (w64 (v6+v4.To)))]).bind fun v7=>some (.go (v7,(w64 (x3.2+1))))) (some (.go (x3.1,(w64 (x3.2+1)))))) (some (.out x3.1))
noncomputable def W1 (p1:Map)(v1:RoadsWay)(x1:((List Pass)×Int))(v2:Int)(x2:((List Pass)×Int)):Option (Stp ((List Pass)×Int) (List Pass)):=
  cond (decide (x2.2< (p1.Zones.length:Int))) ((F3 p1.Zones x2.2).bind fun v3=>(loop (W0 v1 x1 v2 x2 v3) (x2.1,0)).bind fun y3=>some (.go (y3,(w64 (x2.2+1))))) (some (.out x2.1))
noncomputable def W2 (p1:Map)(v1:RoadsWay)(x1:((List Pass)×Int)):Option (Stp ((List Pass)×Int) (List Pass)):=
  cond (decide (x1.2< (v1.lanes.length:Int))) ((F3 v1.lanes x1.2).bind fun v2=>(loop (W1 p1 v1 x1 v2) (x1.1,0)).bind fun y2=>some (.go (y2,(w64 (x1.2+1))))) (some (.out x1.1))
noncomputable def A56 (p1:Map)(p2:(List Int)):Option (List Pass):=
  (Z7 p1 p2).bind fun v1=>(loop (W2 p1 v1) ([],0)).bind fun y1=>cond (List.isEmpty y1) ((F1).bind fun v9=>some []) ((F0 y1).bind fun v8=>some v8)
theorem B55 (p1:Map)(p2:(List Int))(r:(List Pass))(h:A56 p1 p2=some r):PCall Try.prog 35 [(.agg (A27 p1)),(.list (List.map A5 p2))] (.list (List.map L0 r)):=by
 refine G2 (fk Try.func35 Try.ntmps35 (fun r=>if r==13 then [1020]else if r==17 then [1017001]else []) (by with_unfolding_all rfl)) (nl rfl) ?_
 unfold A56 at h
 refine A9 (s0:=⟨T [(0,(.d _)),(1,(.d _))],G []⟩) (sbr rfl rfl) ?_
 refine lr (fun u1 hu1=>sn rfl rfl (sv rfl (A3 (lr (fun u2 hu2=>sd rfl (E0 rfl G_hit rfl rfl) (sv rfl (bs h fun v1 hv1 h=>C9 rfl rfl A4 (A44 _ _ _ hv1) (.inl rfl) (sn rfl rfl (sst rfl G_hit (V6 v1) rfl (A3 (lr (fun u3 hu3=>sv rfl (A3 (A8 (lr (fun u4 hu4=>sp rfl rfl (sl rfl G_hit rfl (sd rfl (K5 rfl) (sv rfl (A3 (bs h fun y1 hy1 h=>H8 (fun s=> ∃g1:Nat,Sb ⟨T [(6,(oS y1 (65,g1)))],G [((65,g1),oB 66 4 L0 y1)]⟩ s) ?_ ?_)))))))))))))))))))))
 refine A7 (I0 (W2 p1 v1) (fun (x1:((List Pass)×Int)) (g2:Nat)=>⟨T [(2,(.ptr (2,u1) 0)),(5,(.ptr (5,u2) 0)),(6,(oS x1.1 (65,g2))),(17,(dl A5 v1.lanes)),(18,(di (v1.lanes.length:Int))),(19,(di x1.2))],G [((2,u1),some (.box 28 (A1v p1))),((5,u2),some (.box 92 (V6 v1))),((65,g2),oB 66 4 L0 x1.1)]⟩) ([],0) 0 _ hy1 (H9 ⟨.of rfl, .of rfl, .of rfl, .of rfl, .of rfl, .of rfl,trivial⟩ (sg rfl (B5 G_hit (.of rfl) (X6 trivial)))) ?_)
 intro x1 g2 z1 hz1 ez1
 unfold W2 at hz1
 refine lr (fun u5 hu5=>sv rfl (A3 (A8 (cc rfl hz1 (fun c1 hz1=> ?_) (fun c1 hz1=> ?_)))))
 refine B3 (A8 (A7 (lr (fun u6 hu6=>sv rfl (bs hz1 fun v2 hv2 hz1=>sd rfl (J8 rfl rfl hv2 rfl) (sd rfl (F4 rfl hv2 rfl) (sv rfl (sv rfl (A3 (lr (fun u7 hu7=>sp rfl rfl (sl rfl G_hit rfl (sd rfl (K5 rfl) (sv rfl (A3 (bs hz1 fun y2 hy2 hz1=>H8 (fun s=> ∃g3:Nat,Sb ⟨T [(2,(.ptr (2,u1) 0)),(5,(.ptr (5,u2) 0)),(6,(oS y2 (65,g3))),(17,(dl A5 v1.lanes)),(18,(di (v1.lanes.length:Int))),(19,(di x1.2))],G [((2,u1),some (.box 28 (A1v p1))),((5,u2),some (.box 92 (V6 v1))),((65,g3),oB 66 4 L0 y2)]⟩ s) ?_ ?_))))))))))))))))
 refine A7 (I0 (W1 p1 v1 x1 v2) (fun (x2:((List Pass)×Int)) (g4:Nat)=>⟨T [(2,(.ptr (2,u1) 0)),(5,(.ptr (5,u2) 0)),(6,(oS x2.1 (65,g4))),(7,(di x1.2)),(8,(di v2)),(17,(dl A5 v1.lanes)),(18,(di (v1.lanes.length:Int))),(19,(di x1.2)),(25,(dl U8 p1.Zones)),(26,(di (p1.Zones.length:Int))),(27,(di x2.2))],G [((2,u1),some (.box 28 (A1v p1))),((5,u2),some (.box 92 (V6 v1))),((65,g4),oB 66 4 L0 x2.1)]⟩) (x1.1,0) g2 _ hy2 (H9 ⟨.of rfl, .of rfl, .of rfl, .of rfl, .of rfl, .of rfl, .of rfl, .of rfl, .of rfl, .of rfl, .of rfl,trivial⟩ (B5 G_hit (.of rfl) (sg rfl (I9 (gq rfl) trivial)))) ?_)
 intro x2 g4 z2 hz2 ez2
 unfold W1 at hz2
 refine lr (fun u8 hu8=>sv rfl (A3 (A8 (cc rfl hz2 (fun c2 hz2=> ?_) (fun c2 hz2=> ?_)))))
 refine B3 (A8 (A7 (lr (fun u9 hu9=>sv rfl (bs hz2 fun v3 hv3 hz2=>sd rfl (J8 rfl rfl hv3 rfl) (sd rfl (N3 rfl hv3 rfl rfl) (sn rfl rfl (sv rfl (sst rfl G_hit [(dl R6 v3.Parts),(di v3.Signal_)] rfl (A3 (lr (fun u10 hu10=>sp rfl rfl (sl rfl G_hit rfl (sd rfl (K5 rfl) (sv rfl (A3 (bs hz2 fun y3 hy3 hz2=>H8 (fun s=> ∃g5:Nat,Sb ⟨T [(2,(.ptr (2,u1) 0)),(5,(.ptr (5,u2) 0)),(6,(oS y3 (65,g5))),(7,(di x1.2)),(8,(di v2)),(17,(dl A5 v1.lanes)),(18,(di (v1.lanes.length:Int))),(19,(di x1.2)),(25,(dl U8 p1.Zones)),(26,(di (p1.Zones.length:Int))),(27,(di x2.2))],G [((2,u1),some (.box 28 (A1v p1))),((5,u2),some (.box 92 (V6 v1))),((65,g5),oB 66 4 L0 y3)]⟩ s) ?_ ?_)))))))))))))))))
 refine A7 (I0 (W0 v1 x1 v2 x2 v3) (fun (x3:((List Pass)×Int)) (g6:Nat)=>⟨T [(2,(.ptr (2,u1) 0)),(5,(.ptr (5,u2) 0)),(6,(oS x3.1 (65,g6))),(7,(di x1.2)),(8,(di v2)),(9,(di x2.2)),(17,(dl A5 v1.lanes)),(18,(di (v1.lanes.length:Int))),(19,(di x1.2)),(25,(dl U8 p1.Zones)),(26,(di (p1.Zones.length:Int))),(27,(di x2.2)),(33,(dl R6 v3.Parts)),(34,(di (v3.Parts.length:Int))),(35,(di x3.2))],G [((2,u1),some (.box 28 (A1v p1))),((5,u2),some (.box 92 (V6 v1))),((65,g6),oB 66 4 L0 x3.1)]⟩) (x2.1,0) g4 _ hy3 (H9 ⟨.of rfl, .of rfl, .of rfl, .of rfl, .of rfl, .of rfl, .of rfl, .of rfl, .of rfl, .of rfl, .of rfl, .of rfl, .of rfl, .of rfl, .of rfl,trivial⟩ (sg rfl (sg rfl (I9 (gq rfl) trivial)))) ?_)
 intro x3 g6 z3 hz3 ez3
 unfold W0 at hz3
 refine lr (fun u11 hu11=>sv rfl (A3 (A8 (cc rfl hz3 (fun c3 hz3=> ?_) (fun c3 hz3=> ?_)))))
 refine B3 (A8 (A7 (lr (fun u12 hu12=>sv rfl (bs hz3 fun v4 hv4 hz3=>sd rfl (J8 rfl rfl hv4 rfl) (sd rfl (N3 rfl hv4 rfl rfl) (sn rfl rfl (sv rfl (sst rfl G_hit (B2r v4) rfl (A3 (lr (fun u13 hu13=>sp rfl rfl (sl rfl G_hit rfl (sv rfl (sv rfl (A3 (cc rfl hz3 (fun c4 hz3=> ?_) (fun c4 hz3=> ?_))))))))))))))))))
 refine A9 (s0:=⟨T [(2,(.ptr (2,u1) 0)),(5,(.ptr (5,u2) 0)),(6,(oS x3.1 (65,g6))),(7,(di x1.2)),(8,(di v2)),(9,(di x2.2)),(11,(di x3.2)),(12,(.ptr (12,u12) 0)),(17,(dl A5 v1.lanes)),(18,(di (v1.lanes.length:Int))),(19,(di x1.2)),(25,(dl U8 p1.Zones)),(26,(di (p1.Zones.length:Int))),(27,(di x2.2)),(33,(dl R6 v3.Parts)),(34,(di (v3.Parts.length:Int))),(35,(di x3.2))],G [((2,u1),some (.box 28 (A1v p1))),((5,u2),some (.box 92 (V6 v1))),((65,g6),oB 66 4 L0 x3.1),((12,u12),some (.box 71 (B2r v4)))]⟩) (H9 ⟨.of rfl, .of rfl, .of rfl, .of rfl, .of rfl, .of rfl, .of rfl, .of rfl, .of rfl, .of rfl, .of rfl, .of rfl, .of rfl, .of rfl, .of rfl, .of rfl, .of rfl,trivial⟩ (sg rfl (sg rfl (I9 (gq rfl) (B5 G_hit (.of rfl) trivial))))) ?_
 refine Z6 rfl fun u14 hu14=>E2 (oS x3.1 (65,g6)) rfl rfl (sv rfl (sv rfl (sp rfl rfl (sl rfl (gq rfl) rfl (sv rfl (bs hz3 fun v5 hv5 hz3=>sd rfl (J8 rfl rfl hv5 rfl) (sd rfl (F4 rfl hv5 rfl) (sp rfl rfl (sl rfl (gq rfl) rfl (sv rfl (sp rfl rfl (sl rfl (gq rfl) rfl (sv rfl (bs hz3 fun v6 hv6 hz3=>sd rfl (J8 rfl rfl hv6 rfl) (sd rfl (F4 rfl hv6 rfl) (sp rfl rfl (sl rfl (gq rfl) rfl (sv rfl (sv rfl (E2 (dl L0 [(Pass.mk x2.2 x3.2 (w64 (v5+v4.From)) (w64 (v6+v4.To)))]) rfl rfl (bs hz3 fun v7 hv7 hz3=>A02 L0 (65,g6) x3.1 (Pass.mk x2.2 x3.2 (w64 (v5+v4.From)) (w64 (v6+v4.To))) [] _ (U7 (fun _=>rfl)) rfl (gq rfl) hv7 (ss rfl (A3 (I5 (A9 (s0:=⟨T [(2,(.ptr _ _)),(5,(.ptr _ _)),(6,(.sl _)),(7,(.d _)),(8,(.d _)),(9,(.d _)),(17,(.d _)),(18,(.d _)),(19,(.d _)),(25,(.d _)),(26,(.d _)),(27,(.d _)),(33,(.d _)),(34,(.d _)),(35,(.d _))],G [((2,u1),some (.box 28 _)),((5,u2),some (.box 92 _)),((65,u14),some _)]⟩) (sbr rfl rfl) ?_)))))))))))))))))))))))))
 refine D1 fun u15 hu15=>sv rfl (sv rfl (A3 (J2 ?_)))
 cases hz3
 exact ⟨rfl,u14,(H9 ⟨.of rfl, .of rfl,(.of (A34 (A3l hv7)).symm), .of rfl, .of rfl, .of rfl, .of rfl, .of rfl, .of rfl, .of rfl, .of rfl, .of rfl, .of rfl, .of rfl, .of rfl,trivial⟩ (B5 G_hit (.of rfl) (sg rfl (R5 (gq rfl) trivial))))⟩
 refine B3 (I5 (A9 (s0:=⟨T [(2,(.ptr (2,u1) 0)),(5,(.ptr (5,u2) 0)),(6,(oS x3.1 (65,g6))),(7,(di x1.2)),(8,(di v2)),(9,(di x2.2)),(17,(dl A5 v1.lanes)),(18,(di (v1.lanes.length:Int))),(19,(di x1.2)),(25,(dl U8 p1.Zones)),(26,(di (p1.Zones.length:Int))),(27,(di x2.2)),(33,(dl R6 v3.Parts)),(34,(di (v3.Parts.length:Int))),(35,(di x3.2))],G [((2,u1),some (.box 28 (A1v p1))),((5,u2),some (.box 92 (V6 v1))),((65,g6),oB 66 4 L0 x3.1)]⟩) (H9 ⟨.of rfl, .of rfl, .of rfl, .of rfl, .of rfl, .of rfl, .of rfl, .of rfl, .of rfl, .of rfl, .of rfl, .of rfl, .of rfl, .of rfl, .of rfl,trivial⟩ (sg rfl (sg rfl (I9 (gq rfl) trivial)))) ?_))
 refine D1 fun u16 hu16=>sv rfl (sv rfl (A3 (J2 ?_)))
 cases hz3
 exact ⟨rfl,g6,(H9 ⟨.of rfl, .of rfl, .of rfl, .of rfl, .of rfl, .of rfl, .of rfl, .of rfl, .of rfl, .of rfl, .of rfl, .of rfl, .of rfl, .of rfl, .of rfl,trivial⟩ (B5 G_hit (.of rfl) (sg rfl (I9 (gq rfl) trivial))))⟩
 refine E5 rfl ?_
 cases hz3
 obtain rfl:=ez3 _ rfl
 refine ⟨nofun,E3 rfl (l_j ?_)⟩
 exact ⟨g6,(H9 ⟨.of rfl, .of rfl, .of rfl, .of rfl, .of rfl, .of rfl, .of rfl, .of rfl, .of rfl, .of rfl, .of rfl,trivial⟩ (B5 G_hit (.of rfl) (sg rfl (I9 (gq rfl) trivial))))⟩
 rintro _ ⟨g5,q1⟩
 refine I5 (A9 q1 (D1 fun u17 hu17=>sv rfl (sv rfl (A3 (J2 ?_)))))
 cases hz2
 exact ⟨rfl,g5,(H9 ⟨.of rfl, .of rfl, .of rfl, .of rfl, .of rfl, .of rfl, .of rfl, .of rfl, .of rfl, .of rfl, .of rfl,trivial⟩ (B5 G_hit (.of rfl) (sg rfl (I9 (gq rfl) trivial))))⟩
 refine E5 rfl ?_
 cases hz2
 obtain rfl:=ez2 _ rfl
 refine ⟨nofun,E3 rfl (l_j ?_)⟩
 exact ⟨g4,(H9 ⟨.of rfl, .of rfl, .of rfl, .of rfl, .of rfl, .of rfl,trivial⟩ (B5 G_hit (.of rfl) (sg rfl (I9 (gq rfl) trivial))))⟩
 rintro _ ⟨g3,q2⟩
 refine I5 (A9 q2 (D1 fun u18 hu18=>sv rfl (sv rfl (A3 (J2 ?_)))))
 cases hz1
 exact ⟨rfl,g3,(H9 ⟨.of rfl, .of rfl, .of rfl, .of rfl, .of rfl, .of rfl,trivial⟩ (B5 G_hit (.of rfl) (sg rfl (I9 (gq rfl) trivial))))⟩
 refine E5 rfl ?_
 cases hz1
 obtain rfl:=ez1 _ rfl
 refine ⟨nofun,E3 rfl (l_j ?_)⟩
 exact ⟨g2,(H9 ⟨.of rfl,trivial⟩ (I9 (gq rfl) trivial))⟩
 rintro _ ⟨g1,q3⟩
 refine A9 q3 (A8 ?_)
 rcases C55 h with ⟨e1,h⟩|⟨e1,h⟩
 refine A9 (s0:=⟨T [(6,(.d .nilS))],G []⟩) (H9 ⟨.of (D1j e1),trivial⟩ trivial) ?_
 refine D1 fun u22 hu22=>sv rfl (bs h fun v9 hv9 h=>B8v (v:= .d (.tup [])) (us:= []) (oc_f [] _ rfl rfl A4 (A05 _ hv9) rfl rfl) (A3 (lr (fun u23 hu23=>sv rfl (sv rfl (A3 (D5 ?_)))))))
 cases h
 exact B0 (.inr rfl) (E4 (E1 rfl) N9) DLe.nil
 refine A9 (s0:=⟨T [(6,(.sl (65,g1)))],G [((65,g1),some (.arr 66 4 (List.map L0 y1)))]⟩) (H9 ⟨.of (A34 e1),trivial⟩ (B5 (C9i G_hit e1) (.of rfl) trivial)) ?_
 refine D1 fun u20 hu20=>ss rfl (bs h fun v8 hv8 h=>B8v (v:= .d (.tup [])) (us:= [(65,g1)]) (B9s (A04 _ _ hv8) [(65,g1)] [(65,g1)] _ (((65,g1),some (.arr 66 4 (List.map L0 v8)))::_) rfl A35 (E8 B3f (E8 A6t A41)) (T8 G_hit A11) ⟨⟨_,G_hit, .of rfl⟩,trivial⟩ (fun _ h=>h) nd1 rfl rfl rfl) (A3 (lr (fun u21 hu21=>ss rfl (ss rfl (A3 (D5 ?_)))))))
 cases h
 exact B0 (.inr rfl) (E4 (E1 rfl) (D0y G_hit)) (.refl _)
noncomputable def A9c:Option Map:=
  (T4 1 1500 [] [0,0,100000,0]).bind fun v1=>(T4 1 1500 [] [50000,(-50000),50000,50000]).bind fun v2=>some (Map.mk 0 [v1,v2] [(Zone.mk [(Part.mk 0 48000 52000 1),(Part.mk 1 48000 52000 0)] 0)] [] [])
theorem B95 (r:Map)(h:A9c=some r):PCall Try.prog 49 [] (.agg (A27 r)):=by
 refine G2 (fk Try.func49 Try.ntmps49 (fun r=>if r==1 then [1000,1002,1004,1007,1009]else []) (by with_unfolding_all rfl)) (nl rfl) ?_
 unfold A9c at h
 refine A9 (s0:=⟨T [],G []⟩) (sbr rfl rfl) ?_
 refine lr (fun u1 hu1=>sn rfl rfl (A3 (lr (fun u2 hu2=>E2 (dl A5 [0,0,100000,0]) rfl rfl (bs h fun v1 hv1 h=>C9 rfl rfl (.cons (.refl _) (.cons (.refl _) (.cons DLe.nil A4))) (O6 _ _ _ _ _ hv1) (.inl rfl) (E2 (dl A5 [50000,(-50000),50000,50000]) rfl rfl (bs h fun v2 hv2 h=>C9 rfl rfl (.cons (.refl _) (.cons (.refl _) (.cons DLe.nil A4))) (O6 _ _ _ _ _ hv2) (.inl rfl) (E2 (dl A4k [v1,v2]) rfl (B90 A4k ([v1,v2]:List Lane) (fun _=>rfl) rfl rfl ⟨rfl,rfl,rfl,rfl,rfl,rfl,trivial⟩ (fun _=>rfl)) (sv rfl (sv rfl (E2 (dl R6 [(Part.mk 0 48000 52000 1),(Part.mk 1 48000 52000 0)]) rfl rfl (sv rfl (E2 (dl U8 [(Zone.mk [(Part.mk 0 48000 52000 1),(Part.mk 1 48000 52000 0)] 0)]) rfl rfl (sv rfl (sst rfl G_hit [(di 0),(dl A4k [v1,v2]),(dl U8 [(Zone.mk [(Part.mk 0 48000 52000 1),(Part.mk 1 48000 52000 0)] 0)]),(.d .nilS),(.d .nilS)] rfl (A3 (D5 ?_)))))))))))))))))
 cases h
 exact B0 (.inr rfl) (E4 (A1q rfl G_hit (nl rfl) rfl) N9) (.agg (ca rfl (ca rfl (ca rfl (.cons ⟨DLe.nil,rfl⟩ (.cons ⟨DLe.nil,rfl⟩ .nil))))))
noncomputable def A3c (p1:Part)(p2:Int):Option Bool:=
  some (p1.Lane_==p2)
theorem B2u (p1:Part)(p2:Int)(r:Bool)(h:A3c p1 p2=some r):PCall Try.prog 85 [(.agg (R6 p1)),(.bp [(i64 p2)] 0)] (bo r):=by
 refine G2 (fk Try.func85 Try.ntmps85 m0 (by with_unfolding_all rfl)) (nl rfl) ?_
 unfold A3c at h
 refine A9 (s0:=⟨T [(0,(.d _)),(1,(.d _))],G []⟩) (sbr rfl rfl) ?_
 refine lr (fun u1 hu1=>sn rfl rfl (sv rfl (A3 (lr (fun u2 hu2=>sp rfl rfl (sl rfl G_hit rfl (sv rfl (sv rfl (sv rfl (A3 (D5 ?_)))))))))))
 cases h
 exact B0 (.inr rfl) (E4 (E1 rfl) N9) (.refl _)
noncomputable def G9 (p1:(List Part))(p2:Int)(x1:Int):Option (Stp Int (Sum Unit Int)):=
  cond (decide (x1< (p1.length:Int))) ((F3 p1 x1).bind fun v1=>(A3c v1 p2).bind fun v2=>cond v2 (some (.out (.inr x1))) (some (.go (w64 (x1+1))))) (some (.out (.inl ())))
noncomputable def H6 (p1:(List Part))(p2:Int):Option Int:=
  thenS (loop (G9 p1 p2) 0) (fun _=>some (-1)) (fun r=>some r)
theorem A1l (p1:(List Part))(p2:Int)(r:Int)(h:H6 p1 p2=some r):PCall Try.prog 84 [(.list (List.map R6 p1)),(.fn (.func 85) [] [(.bp [(i64 p2)] 0)])] (i64 r):=by
 refine G2 (fk Try.func84 Try.ntmps84 m0 (by with_unfolding_all rfl)) (nl rfl) ?_
 unfold H6 at h
 refine A9 (s0:=⟨T [(0,(.d _)),(1,(.d _))],G []⟩) (sbr rfl rfl) ?_
 refine lr (fun u1 hu1=>sv rfl (A3 (A8 (lr (fun u2 hu2=>sv rfl (sd rfl (K5 rfl) (sv rfl (A3 (js h fun z1 hz1 h=>H8 (fun s=> ∃(y1:Unit) (g1:Unit),z1= .inl y1∧Sb ⟨T [],G []⟩ s) ?_ ?_)))))))))
 refine A7 (I0 (G9 p1 p2) (fun (x1:Int) (g2:Unit)=>⟨T [(0,(dl R6 p1)),(1,(.d (.fn (.func 85) [] [(.bp [(i64 p2)] 0)]))),(7,(di (p1.length:Int))),(8,(di x1))],G []⟩) 0 () _ hz1 (sbr rfl rfl) ?_)
 intro x1 g2 z2 hz2 ez2
 unfold G9 at hz2
 refine lr (fun u3 hu3=>sv rfl (A3 (A8 (cc rfl hz2 (fun c1 hz2=> ?_) (fun c1 hz2=> ?_)))))
 refine B3 (A8 (A7 (lr (fun u4 hu4=>sv rfl (sv rfl (A3 (lr (fun u5 hu5=>sv rfl (sv rfl (sv rfl (bs hz2 fun v1 hv1 hz2=>sd rfl (J8 rfl rfl hv1 rfl) (sd rfl (N3 rfl hv1 rfl rfl) (bs hz2 fun v2 hv2 hz2=>C9 rfl rfl A4 (B2u _ _ _ hv2) (.inl rfl) (A3 (cc rfl hz2 (fun c2 hz2=> ?_) (fun c2 hz2=> ?_))))))))))))))))
 refine lr (fun u6 hu6=>sv rfl (sv rfl (A3 (D5 ?_))))
 cases hz2
 obtain rfl:=ez2 _ rfl
 refine ⟨nofun,J9 ?_⟩
 rw [Sum.elim_inr]at h
 cases h
 exact B0 (.inr rfl) (E4 (E1 rfl) N9) (.refl _)
 refine B3 (I5 (D1 fun u7 hu7=>sv rfl (sv rfl (A3 (J2 ?_)))))
 cases hz2
 exact ⟨rfl,(),(sbr rfl rfl)⟩
 refine E5 rfl ?_
 cases hz2
 obtain rfl:=ez2 _ rfl
 refine ⟨nofun,E3 rfl (l_j ?_)⟩
 exact ⟨_,(),rfl,(sbr rfl rfl)⟩
 rintro _ ⟨y1,g1,rfl,q1⟩
 rw [Sum.elim_inl]at h
 refine A9 q1 (lr (fun u8 hu8=>sv rfl (A3 (D5 ?_))))
 cases h
 exact B0 (.inr rfl) (E4 (E1 rfl) N9) (.refl _)
noncomputable def A3v (p1:Zone)(p2:Int):Option (Part×Bool):=
  (H6 p1.Parts p2).bind fun v1=>cond (decide (v1<0)) (some ((Part.mk 0 0 0 0),false)) ((F3 p1.Parts v1).bind fun v2=>some (v2,true))
theorem A5w (p1:Zone)(p2:Int)(r:(Part×Bool))(h:A3v p1 p2=some r):PCall Try.prog 55 [(.agg [(.list (List.map R6 p1.Parts)),(i64 p1.Signal_)]),(i64 p2)] (.tup [(.agg (R6 r.1)),(bo r.2)]):=by
 refine G2 (fk Try.func55 Try.ntmps55 m0 (by with_unfolding_all rfl)) (nl rfl) ?_
 unfold A3v at h
 refine A9 (s0:=⟨T [(0,(.d _)),(1,(.d _))],G []⟩) (sbr rfl rfl) ?_
 refine lr (fun u1 hu1=>sn rfl rfl (sn rfl rfl (sn rfl rfl (sv rfl (A3 (lr (fun u2 hu2=>sp rfl rfl (sl rfl (gq rfl) rfl (E2 (.fn _ _ _) rfl rfl (bs h fun v1 hv1 h=>C9 rfl (rD (Q3 (C2v Q0 (Q3 (B0l (gq rfl) (rD Q0)) Q0)) Q0)) A4 (A1l _ _ _ hv1) (.inr rfl) (sv rfl (A3 (A8 (lr (fun u3 hu3=>sv rfl (sv rfl (A3 (cc rfl h (fun c1 h=> ?_) (fun c1 h=> ?_)))))))))))))))))))
 refine lr (fun u4 hu4=>sv rfl (sst rfl G_hit (zs 4) rfl (sv rfl (A3 (D5 ?_)))))
 cases h
 exact B0 (.inr rfl) (C9f (A1q rfl G_hit (nl rfl) rfl) (E1 rfl) N9 N9) (.refl _)
 refine B3 (lr (fun u5 hu5=>sp rfl rfl (sl rfl (gq rfl) rfl (sv rfl (bs h fun v2 hv2 h=>sd rfl (J8 rfl rfl hv2 rfl) (sd rfl (N3 rfl hv2 rfl rfl) (sst rfl G_hit (B2r v2) rfl (sv rfl (A3 (D5 ?_))))))))))
 cases h
 exact B0 (.inr rfl) (C9f (A1q rfl G_hit (nl rfl) rfl) (E1 rfl) N9 N9) (.refl _)
noncomputable def A2f (p1:Map)(p2:Zone)(v2:(List Int))(x1:Int):Option (Stp Int (Sum Unit Bool)):=
  cond (decide (x1< (v2.length:Int))) ((F3 v2 x1).bind fun v3=>(A3v p2 v3).bind fun v4=>((cond (!(!v4.2)) (Z9 p1 v3) (some default))).bind fun v5=>cond ((!v4.2)||(v4.1.To !=v5)) (some (.out (.inr false))) (some (.go (w64 (x1+1))))) (some (.out (.inl ())))
noncomputable def A3w (p1:Map)(p2:Zone)(p3:Int):Option Bool:=
  (A3v p2 p3).bind fun v1=>cond ((!v1.2)||(v1.1.From !=0)) (some false) ((A0n p1 p3).bind fun v2=>thenS (loop (A2f p1 p2 v2) 0) (fun _=>some true) (fun r=>some r))
theorem A9d (p1:Map)(p2:Zone)(p3:Int)(r:Bool)(h:A3w p1 p2 p3=some r):PCall Try.prog 110 [(.agg (A27 p1)),(.agg [(.list (List.map R6 p2.Parts)),(i64 p2.Signal_)]),(i64 p3)] (bo r):=by
 refine G2 (fk Try.func110 Try.ntmps110 m0 (by with_unfolding_all rfl)) (nl rfl) ?_
 unfold A3w at h
 refine A9 (s0:=⟨T [(0,(.d _)),(1,(.d _)),(2,(.d _))],G []⟩) (sbr rfl rfl) ?_
 refine lr (fun u1 hu1=>sn rfl rfl (sn rfl rfl (sv rfl (A3 (lr (fun u2 hu2=>sd rfl (E0 rfl G_hit rfl rfl) (sv rfl (bs h fun v1 hv1 h=>C9 rfl rfl A4 (A5w _ _ _ hv1) (.inl rfl) (sv rfl (sv rfl (sv rfl (sn rfl rfl (sst rfl G_hit (B2r v1.1) rfl (sv rfl (A3 (A8 (lr (fun u3 hu3=>sv rfl (E2 (.d (bo (!v1.2))) rfl rfl (sv rfl (gp rfl (A4i rfl) (fun _=>rfl) (gf rfl (vl rfl G_hit rfl) (gf rfl (vb rfl rfl rfl) (sd rfl (A7y rfl rfl (fun hc=>A6 (A1g hc))) (A3 (cc rfl h (fun c1 h=> ?_) (fun c1 h=> ?_)))))))))))))))))))))))))))
 refine A8 (A9 (s0:=⟨T [],G []⟩) (sbr rfl rfl) ?_)
 refine D1 fun u4 hu4=>sv rfl (A3 (D5 ?_))
 cases h
 exact B0 (.inr rfl) (E4 (E1 rfl) N9) (.refl _)
 refine B3 (A8 (A8 (A9 (s0:=⟨T [(2,(.d _)),(3,(.ptr _ _)),(4,(.ptr _ _))],G [((3,u1),some (.box 28 _)),((4,u1),some (.box 69 _))]⟩) (sbr rfl rfl) ?_)))
 refine D1 fun u5 hu5=>sd rfl (E0 rfl G_hit rfl rfl) (sv rfl (bs h fun v2 hv2 h=>C9 rfl rfl A4 (A69 _ _ _ hv2) (.inl rfl) (sd rfl (K5 rfl) (sv rfl (A3 (js h fun z1 hz1 h=>H8 (fun s=> ∃(y1:Unit) (g1:Unit),z1= .inl y1∧Sb ⟨T [],G []⟩ s) ?_ ?_))))))
 refine A7 (I0 (A2f p1 p2 v2) (fun (x1:Int) (g2:Unit)=>⟨T [(3,(.ptr (3,u1) 0)),(4,(.ptr (4,u1) 0)),(28,(dl A5 v2)),(29,(di (v2.length:Int))),(30,(di x1))],G [((3,u1),some (.box 28 (A1v p1))),((4,u1),some (.box 69 [(dl R6 p2.Parts),(di p2.Signal_)]))]⟩) 0 () _ hz1 (sbr rfl rfl) ?_)
 intro x1 g2 z2 hz2 ez2
 unfold A2f at hz2
 refine lr (fun u6 hu6=>sv rfl (A3 (A8 (cc rfl hz2 (fun c2 hz2=> ?_) (fun c2 hz2=> ?_)))))
 refine B3 (A8 (A7 (lr (fun u7 hu7=>bs hz2 fun v3 hv3 hz2=>sd rfl (J8 rfl rfl hv3 rfl) (sd rfl (F4 rfl hv3 rfl) (sv rfl (A3 (lr (fun u8 hu8=>sd rfl (E0 rfl (gq rfl) rfl rfl) (sv rfl (bs hz2 fun v4 hv4 hz2=>C9 rfl rfl A4 (A5w _ _ _ hv4) (.inl rfl) (sv rfl (sv rfl (sv rfl (sn rfl rfl (sst rfl G_hit (B2r v4.1) rfl (sv rfl (A3 (A8 (Z6 rfl fun u9 hu9=>sv rfl (E2 (.d (bo (!v4.2))) rfl rfl (sv rfl (gp rfl (A4i rfl) (fun _=>rfl) (gf rfl (vl rfl G_hit rfl) (gf rfl (fun w6=>(E0 rfl (gq rfl) rfl rfl)) (gf rfl (fun _=>rfl) (bs hz2 fun v5 hv5 hz2=> ?_)))))))))))))))))))))))))))
 refine A0v _ (i64 v5) (A4i rfl) (fun w8=>⟨_,[(.d (.agg (A27 p1))),(di v3)],_,_,(by simp only [A6 w8];rfl),rfl,A4,A2y _ _ _ (G6 w8 hv5),(.inl rfl)⟩) ?_
 refine gf rfl (fun w9=>(A1w (A6 w9) (A6 w9) rfl)) (sd rfl (A7y rfl rfl (fun hc=>A6 (A1g hc))) (A3 (cc rfl hz2 (fun c3 hz2=> ?_) (fun c3 hz2=> ?_))))
 refine A8 (A9 (s0:=⟨T [],G []⟩) (sbr rfl rfl) ?_)
 refine D1 fun u10 hu10=>sv rfl (A3 (D5 ?_))
 cases hz2
 obtain rfl:=ez2 _ rfl
 refine ⟨nofun,J9 ?_⟩
 rw [Sum.elim_inr]at h
 cases h
 exact B0 (.inr rfl) (E4 (E1 rfl) N9) (.refl _)
 refine B3 (I5 (A9 (s0:=⟨T [(3,(.ptr _ _)),(4,(.ptr _ _)),(28,(.d _)),(29,(.d _)),(30,(.d _))],G [((3,u1),some (.box 28 _)),((4,u1),some (.box 69 _))]⟩) (sbr rfl rfl) ?_))
 refine D1 fun u11 hu11=>sv rfl (sv rfl (A3 (J2 ?_)))
 cases hz2
 exact ⟨rfl,(),(sbr rfl rfl)⟩
 refine E5 rfl ?_
 cases hz2
 obtain rfl:=ez2 _ rfl
 refine ⟨nofun,E3 rfl (l_j ?_)⟩
 exact ⟨_,(),rfl,(sbr rfl rfl)⟩
 rintro _ ⟨y1,g1,rfl,q1⟩
 rw [Sum.elim_inl]at h
 refine A9 q1 (lr (fun u12 hu12=>sv rfl (A3 (D5 ?_))))
 cases h
 exact B0 (.inr rfl) (E4 (E1 rfl) N9) (.refl _)
noncomputable def A3d (x1:(Int× (Int×Int×Int×Int×Int×Int×Int×Int×Int×Int×Int×Int)))(v1:Lane)(x2:(Int× (Int×Int×Int×Int×Int×Int×Int×Int×Int×Int×Int×Int))):Option (Stp (Int× (Int×Int×Int×Int×Int×Int×Int×Int×Int×Int×Int×Int)) (Int×Int×Int×Int×Int×Int×Int×Int×Int×Int×Int×Int)):=
  cond (decide (x2.1< (v1.Next.length:Int))) ((F3 v1.Next x2.1).bind fun v2=>(F3 ([x2.2.1,x2.2.2.1,x2.2.2.2.1,x2.2.2.2.2.1,x2.2.2.2.2.2.1,x2.2.2.2.2.2.2.1,x2.2.2.2.2.2.2.2.1,x2.2.2.2.2.2.2.2.2.1,x2.2.2.2.2.2.2.2.2.2.1,x2.2.2.2.2.2.2.2.2.2.2.1,x2.2.2.2.2.2.2.2.2.2.2.2.1,x2.2.2.2.2.2.2.2.2.2.2.2.2]:List Int) x1.1).bind fun v3=>(F3 ([x2.2.1,x2.2.2.1,x2.2.2.2.1,x2.2.2.2.2.1,x2.2.2.2.2.2.1,x2.2.2.2.2.2.2.1,x2.2.2.2.2.2.2.2.1,x2.2.2.2.2.2.2.2.2.1,x2.2.2.2.2.2.2.2.2.2.1,x2.2.2.2.2.2.2.2.2.2.2.1,x2.2.2.2.2.2.2.2.2.2.2.2.1,x2.2.2.2.2.2.2.2.2.2.2.2.2]:List Int) v2).bind fun v4=>(D1z .u32 1 (IntKind.wrap .u64 v2)).bind fun v5=>(F3 ([x2.2.1,x2.2.2.1,x2.2.2.2.1,x2.2.2.2.2.1,x2.2.2.2.2.2.1,x2.2.2.2.2.2.2.1,x2.2.2.2.2.2.2.2.1,x2.2.2.2.2.2.2.2.2.1,x2.2.2.2.2.2.2.2.2.2.1,x2.2.2.2.2.2.2.2.2.2.2.1,x2.2.2.2.2.2.2.2.2.2.2.2.1,x2.2.2.2.2.2.2.2.2.2.2.2.2]:List Int) x1.1).bind fun v6=>(D0b ([x2.2.1,x2.2.2.1,x2.2.2.2.1,x2.2.2.2.2.1,x2.2.2.2.2.2.1,x2.2.2.2.2.2.2.1,x2.2.2.2.2.2.2.2.1,x2.2.2.2.2.2.2.2.2.1,x2.2.2.2.2.2.2.2.2.2.1,x2.2.2.2.2.2.2.2.2.2.2.1,x2.2.2.2.2.2.2.2.2.2.2.2.1,x2.2.2.2.2.2.2.2.2.2.2.2.2]:List Int) x1.1 (IntKind.wrap .u32 (((BitVec.ofInt (IntKind.bits .u32) v3|||(BitVec.ofInt (IntKind.bits .u32) (IntKind.wrap .u32 (((BitVec.ofInt (IntKind.bits .u32) v4|||(BitVec.ofInt (IntKind.bits .u32) v5)).toNat:Nat))))).toNat:Nat)))).bind fun v7=>some (.go ((w64 (x2.1+1)),((v7.getD 0 0),(v7.getD 1 0),(v7.getD 2 0),(v7.getD 3 0),(v7.getD 4 0),(v7.getD 5 0),(v7.getD 6 0),(v7.getD 7 0),(v7.getD 8 0),(v7.getD 9 0),(v7.getD 10 0),(v7.getD 11 0))))) (some (.out x2.2))
noncomputable def A3e (p1:Map)(x1:(Int× (Int×Int×Int×Int×Int×Int×Int×Int×Int×Int×Int×Int))):Option (Stp (Int× (Int×Int×Int×Int×Int×Int×Int×Int×Int×Int×Int×Int)) (Int×Int×Int×Int×Int×Int×Int×Int×Int×Int×Int×Int)):=
  cond (decide (x1.1≥0)) ((F3 p1.Lanes x1.1).bind fun v1=>(loop (A3d x1 v1) (0,x1.2)).bind fun y2=>some (.go ((w64 (x1.1 - 1)),y2))) (some (.out x1.2))
noncomputable def A6b (p1:Map):Option (Int×Int×Int×Int×Int×Int×Int×Int×Int×Int×Int×Int):=
  (loop (A3e p1) ((w64 ((p1.Lanes.length:Int) - 1)),(0,0,0,0,0,0,0,0,0,0,0,0))).bind fun y1=>some y1
theorem B62 (p1:Map)(r:(Int×Int×Int×Int×Int×Int×Int×Int×Int×Int×Int×Int))(h:A6b p1=some r):PCall Try.prog 57 [(.agg (A27 p1))] (.agg [(.v (.int .u32 r.1)),(.v (.int .u32 r.2.1)),(.v (.int .u32 r.2.2.1)),(.v (.int .u32 r.2.2.2.1)),(.v (.int .u32 r.2.2.2.2.1)),(.v (.int .u32 r.2.2.2.2.2.1)),(.v (.int .u32 r.2.2.2.2.2.2.1)),(.v (.int .u32 r.2.2.2.2.2.2.2.1)),(.v (.int .u32 r.2.2.2.2.2.2.2.2.1)),(.v (.int .u32 r.2.2.2.2.2.2.2.2.2.1)),(.v (.int .u32 r.2.2.2.2.2.2.2.2.2.2.1)),(.v (.int .u32 r.2.2.2.2.2.2.2.2.2.2.2))]):=by
 refine G2 (fk Try.func57 Try.ntmps57 m0 (by with_unfolding_all rfl)) (nl rfl) ?_
 unfold A6b at h
 refine A9 (s0:=⟨T [(0,(.d _))],G []⟩) (sbr rfl rfl) ?_
 refine lr (fun u1 hu1=>sn rfl rfl (sn rfl rfl (A3 (lr (fun u2 hu2=>sn rfl rfl (A3 (A8 (lr (fun u3 hu3=>sp rfl rfl (sl rfl (gq rfl) rfl (sd rfl (K5 rfl) (sv rfl (sv rfl (A3 (bs h fun y1 hy1 h=>H8 (fun s=> ∃g1:Unit,Sb ⟨T [(2,(.ptr (2,u1) 0)),(3,(.ptr (3,u2) 0))],G [((2,u1),some (.box 101 [(.d (.v (.int .u32 0))),(.d (.v (.int .u32 0))),(.d (.v (.int .u32 0))),(.d (.v (.int .u32 0))),(.d (.v (.int .u32 0))),(.d (.v (.int .u32 0))),(.d (.v (.int .u32 0))),(.d (.v (.int .u32 0))),(.d (.v (.int .u32 0))),(.d (.v (.int .u32 0))),(.d (.v (.int .u32 0))),(.d (.v (.int .u32 0)))])),((3,u2),some (.box 101 [(.d (.v (.int .u32 y1.1))),(.d (.v (.int .u32 y1.2.1))),(.d (.v (.int .u32 y1.2.2.1))),(.d (.v (.int .u32 y1.2.2.2.1))),(.d (.v (.int .u32 y1.2.2.2.2.1))),(.d (.v (.int .u32 y1.2.2.2.2.2.1))),(.d (.v (.int .u32 y1.2.2.2.2.2.2.1))),(.d (.v (.int .u32 y1.2.2.2.2.2.2.2.1))),(.d (.v (.int .u32 y1.2.2.2.2.2.2.2.2.1))),(.d (.v (.int .u32 y1.2.2.2.2.2.2.2.2.2.1))),(.d (.v (.int .u32 y1.2.2.2.2.2.2.2.2.2.2.1))),(.d (.v (.int .u32 y1.2.2.2.2.2.2.2.2.2.2.2)))]))]⟩ s) ?_ ?_)))))))))))))))
 refine A7 (I0 (A3e p1) (fun (x1:(Int× (Int×Int×Int×Int×Int×Int×Int×Int×Int×Int×Int×Int))) (g2:Unit)=>⟨T [(1,(.ptr (1,u1) 0)),(2,(.ptr (2,u1) 0)),(3,(.ptr (3,u2) 0)),(4,(di x1.1))],G [((1,u1),some (.box 28 (A1v p1))),((2,u1),some (.box 101 [(.d (.v (.int .u32 0))),(.d (.v (.int .u32 0))),(.d (.v (.int .u32 0))),(.d (.v (.int .u32 0))),(.d (.v (.int .u32 0))),(.d (.v (.int .u32 0))),(.d (.v (.int .u32 0))),(.d (.v (.int .u32 0))),(.d (.v (.int .u32 0))),(.d (.v (.int .u32 0))),(.d (.v (.int .u32 0))),(.d (.v (.int .u32 0)))])),((3,u2),some (.box 101 [(.d (.v (.int .u32 x1.2.1))),(.d (.v (.int .u32 x1.2.2.1))),(.d (.v (.int .u32 x1.2.2.2.1))),(.d (.v (.int .u32 x1.2.2.2.2.1))),(.d (.v (.int .u32 x1.2.2.2.2.2.1))),(.d (.v (.int .u32 x1.2.2.2.2.2.2.1))),(.d (.v (.int .u32 x1.2.2.2.2.2.2.2.1))),(.d (.v (.int .u32 x1.2.2.2.2.2.2.2.2.1))),(.d (.v (.int .u32 x1.2.2.2.2.2.2.2.2.2.1))),(.d (.v (.int .u32 x1.2.2.2.2.2.2.2.2.2.2.1))),(.d (.v (.int .u32 x1.2.2.2.2.2.2.2.2.2.2.2.1))),(.d (.v (.int .u32 x1.2.2.2.2.2.2.2.2.2.2.2.2)))]))]⟩) ((w64 ((p1.Lanes.length:Int) - 1)),(0,0,0,0,0,0,0,0,0,0,0,0)) () _ hy1 (sbr rfl rfl) ?_)
 intro x1 g2 z1 hz1 ez1
 unfold A3e at hz1
 refine A8 (lr (fun u4 hu4=>sv rfl (sv rfl (A3 (cc rfl hz1 (fun c1 hz1=> ?_) (fun c1 hz1=> ?_))))))
 refine B3 (A8 (A7 (lr (fun u5 hu5=>sp rfl rfl (sl rfl G_hit rfl (sv rfl (bs hz1 fun v1 hv1 hz1=>sd rfl (J8 rfl rfl hv1 rfl) (sv rfl (sd rfl (F4 rfl hv1 rfl) (sd rfl (K5 rfl) (sv rfl (A3 (bs hz1 fun y2 hy2 hz1=>H8 (fun s=> ∃g3:Unit,Sb ⟨T [(1,(.ptr (1,u1) 0)),(2,(.ptr (2,u1) 0)),(3,(.ptr (3,u2) 0)),(4,(di x1.1))],G [((1,u1),some (.box 28 (A1v p1))),((2,u1),some (.box 101 [(.d (.v (.int .u32 0))),(.d (.v (.int .u32 0))),(.d (.v (.int .u32 0))),(.d (.v (.int .u32 0))),(.d (.v (.int .u32 0))),(.d (.v (.int .u32 0))),(.d (.v (.int .u32 0))),(.d (.v (.int .u32 0))),(.d (.v (.int .u32 0))),(.d (.v (.int .u32 0))),(.d (.v (.int .u32 0))),(.d (.v (.int .u32 0)))])),((3,u2),some (.box 101 [(.d (.v (.int .u32 y2.1))),(.d (.v (.int .u32 y2.2.1))),(.d (.v (.int .u32 y2.2.2.1))),(.d (.v (.int .u32 y2.2.2.2.1))),(.d (.v (.int .u32 y2.2.2.2.2.1))),(.d (.v (.int .u32 y2.2.2.2.2.2.1))),(.d (.v (.int .u32 y2.2.2.2.2.2.2.1))),(.d (.v (.int .u32 y2.2.2.2.2.2.2.2.1))),(.d (.v (.int .u32 y2.2.2.2.2.2.2.2.2.1))),(.d (.v (.int .u32 y2.2.2.2.2.2.2.2.2.2.1))),(.d (.v (.int .u32 y2.2.2.2.2.2.2.2.2.2.2.1))),(.d (.v (.int .u32 y2.2.2.2.2.2.2.2.2.2.2.2)))]))]⟩ s) ?_ ?_)))))))))))))
 refine A7 (I0 (A3d x1 v1) (fun (x2:(Int× (Int×Int×Int×Int×Int×Int×Int×Int×Int×Int×Int×Int))) (g4:Unit)=>⟨T [(1,(.ptr (1,u1) 0)),(2,(.ptr (2,u1) 0)),(3,(.ptr (3,u2) 0)),(4,(di x1.1)),(20,(dl A5 v1.Next)),(21,(di (v1.Next.length:Int))),(22,(di x2.1))],G [((1,u1),some (.box 28 (A1v p1))),((2,u1),some (.box 101 [(.d (.v (.int .u32 0))),(.d (.v (.int .u32 0))),(.d (.v (.int .u32 0))),(.d (.v (.int .u32 0))),(.d (.v (.int .u32 0))),(.d (.v (.int .u32 0))),(.d (.v (.int .u32 0))),(.d (.v (.int .u32 0))),(.d (.v (.int .u32 0))),(.d (.v (.int .u32 0))),(.d (.v (.int .u32 0))),(.d (.v (.int .u32 0)))])),((3,u2),some (.box 101 [(.d (.v (.int .u32 x2.2.1))),(.d (.v (.int .u32 x2.2.2.1))),(.d (.v (.int .u32 x2.2.2.2.1))),(.d (.v (.int .u32 x2.2.2.2.2.1))),(.d (.v (.int .u32 x2.2.2.2.2.2.1))),(.d (.v (.int .u32 x2.2.2.2.2.2.2.1))),(.d (.v (.int .u32 x2.2.2.2.2.2.2.2.1))),(.d (.v (.int .u32 x2.2.2.2.2.2.2.2.2.1))),(.d (.v (.int .u32 x2.2.2.2.2.2.2.2.2.2.1))),(.d (.v (.int .u32 x2.2.2.2.2.2.2.2.2.2.2.1))),(.d (.v (.int .u32 x2.2.2.2.2.2.2.2.2.2.2.2.1))),(.d (.v (.int .u32 x2.2.2.2.2.2.2.2.2.2.2.2.2)))]))]⟩) (0,x1.2) () _ hy2 (sbr rfl rfl) ?_)
 intro x2 g4 z2 hz2 ez2
 unfold A3d at hz2
 refine lr (fun u6 hu6=>sv rfl (A3 (A8 (cc rfl hz2 (fun c2 hz2=> ?_) (fun c2 hz2=> ?_)))))
 refine B3 (A8 (A7 (lr (fun u7 hu7=>bs hz2 fun v2 hv2 hz2=>sd rfl (J8 rfl rfl hv2 rfl) (sd rfl (F4 rfl hv2 rfl) (sv rfl (A3 (Z6 rfl fun u8 hu8=>sv rfl (bs hz2 fun v3 hv3 hz2=>sp rfl (B4w rfl rfl hv3 rfl) (sd rfl (B7k (f:=fun x=>(.v (.int .u32 x))) rfl (gq rfl) hv3 rfl) (sv rfl (bs hz2 fun v4 hv4 hz2=>sp rfl (B4w rfl rfl hv4 rfl) (sd rfl (B7k (f:=fun x=>(.v (.int .u32 x))) rfl (gq rfl) hv4 rfl) (sv rfl (sv rfl (bs hz2 fun v5 hv5 hz2=>sd rfl (D2h rfl rfl hv5) (sv rfl (sv rfl (bs hz2 fun v6 hv6 hz2=>sp rfl (B4w rfl rfl hv6 rfl) (bs hz2 fun v7 hv7 hz2=>B10 _ _ _ _ _ rfl rfl rfl (gq rfl) (D2g (xs:=([x2.2.1,x2.2.2.1,x2.2.2.2.1,x2.2.2.2.2.1,x2.2.2.2.2.2.1,x2.2.2.2.2.2.2.1,x2.2.2.2.2.2.2.2.1,x2.2.2.2.2.2.2.2.2.1,x2.2.2.2.2.2.2.2.2.2.1,x2.2.2.2.2.2.2.2.2.2.2.1,x2.2.2.2.2.2.2.2.2.2.2.2.1,x2.2.2.2.2.2.2.2.2.2.2.2.2]:List Int)) hv7 rfl) [(.d (.v (.int .u32 (v7.getD 0 0)))),(.d (.v (.int .u32 (v7.getD 1 0)))),(.d (.v (.int .u32 (v7.getD 2 0)))),(.d (.v (.int .u32 (v7.getD 3 0)))),(.d (.v (.int .u32 (v7.getD 4 0)))),(.d (.v (.int .u32 (v7.getD 5 0)))),(.d (.v (.int .u32 (v7.getD 6 0)))),(.d (.v (.int .u32 (v7.getD 7 0)))),(.d (.v (.int .u32 (v7.getD 8 0)))),(.d (.v (.int .u32 (v7.getD 9 0)))),(.d (.v (.int .u32 (v7.getD 10 0)))),(.d (.v (.int .u32 (v7.getD 11 0))))] (D1i (fun x=>(.v (.int .u32 x))) 0 hv7) (A3 (I5 (A9 (s0:=⟨T [(1,(.ptr _ _)),(2,(.ptr _ _)),(3,(.ptr _ _)),(4,(.d _)),(20,(.d _)),(21,(.d _)),(22,(.d _))],G [((1,u1),some (.box 28 _)),((2,u1),some (.box 101 _)),((3,u2),some (.box 101 _))]⟩) (sbr rfl rfl) ?_)))))))))))))))))))))))
 refine D1 fun u9 hu9=>sv rfl (sv rfl (A3 (J2 ?_)))
 cases hz2
 exact ⟨rfl,(),(sbr rfl rfl)⟩
 refine E5 rfl ?_
 cases hz2
 obtain rfl:=ez2 _ rfl
 refine ⟨nofun,E3 rfl (l_j ?_)⟩
 exact ⟨(),(sbr rfl rfl)⟩
 rintro _ ⟨g3,q1⟩
 refine I5 (A9 q1 (D1 fun u10 hu10=>sv rfl (sv rfl (sv rfl (A3 (J2 ?_))))))
 cases hz1
 exact ⟨rfl,(),(sbr rfl rfl)⟩
 refine E5 rfl ?_
 cases hz1
 obtain rfl:=ez1 _ rfl
 refine ⟨nofun,E3 rfl (l_j ?_)⟩
 exact ⟨(),(sbr rfl rfl)⟩
 rintro _ ⟨g1,q2⟩
 refine A9 q2 (lr (fun u11 hu11=>sd rfl (E0 rfl (gq rfl) rfl rfl) (sst rfl G_hit [(.d (.v (.int .u32 y1.1))),(.d (.v (.int .u32 y1.2.1))),(.d (.v (.int .u32 y1.2.2.1))),(.d (.v (.int .u32 y1.2.2.2.1))),(.d (.v (.int .u32 y1.2.2.2.2.1))),(.d (.v (.int .u32 y1.2.2.2.2.2.1))),(.d (.v (.int .u32 y1.2.2.2.2.2.2.1))),(.d (.v (.int .u32 y1.2.2.2.2.2.2.2.1))),(.d (.v (.int .u32 y1.2.2.2.2.2.2.2.2.1))),(.d (.v (.int .u32 y1.2.2.2.2.2.2.2.2.2.1))),(.d (.v (.int .u32 y1.2.2.2.2.2.2.2.2.2.2.1))),(.d (.v (.int .u32 y1.2.2.2.2.2.2.2.2.2.2.2)))] rfl (A3 (D5 ?_)))))
 cases h
 exact B0 (.inr rfl) (E4 (A1q rfl G_hit (nl rfl) rfl) N9) (.refl _)
noncomputable def A45 (p1:Int)(p2:Int):Option Bool:=
  (D20 .u32 p1 (IntKind.wrap .u64 p2)).bind fun v1=>some ((IntKind.wrap .u32 (((BitVec.ofInt (IntKind.bits .u32) v1&&&(BitVec.ofInt (IntKind.bits .u32) 1)).toNat:Nat)))==1)
theorem B3j (p1:Int)(p2:Int)(r:Bool)(h:A45 p1 p2=some r):PCall Try.prog 58 [(.v (.int .u32 p1)),(i64 p2)] (bo r):=by
 refine G2 (fk Try.func58 Try.ntmps58 m0 (by with_unfolding_all rfl)) (nl rfl) ?_
 unfold A45 at h
 refine A9 (s0:=⟨T [(0,(.d _)),(1,(.d _))],G []⟩) (sbr rfl rfl) ?_
 refine lr (fun u1 hu1=>sv rfl (A3 (lr (fun u2 hu2=>sv rfl (sv rfl (sv rfl (bs h fun v1 hv1 h=>sd rfl (D2i rfl rfl hv1) (sv rfl (sv rfl (sv rfl (A3 (D5 ?_))))))))))))
 cases h
 exact B0 (.inr rfl) (E4 (E1 rfl) N9) (.refl _)
noncomputable def A1a (p1:Part)(p2:(Int×Int×Int×Int×Int×Int×Int×Int×Int×Int×Int×Int))(p3:Int):Option Bool:=
  (F3 ([p2.1,p2.2.1,p2.2.2.1,p2.2.2.2.1,p2.2.2.2.2.1,p2.2.2.2.2.2.1,p2.2.2.2.2.2.2.1,p2.2.2.2.2.2.2.2.1,p2.2.2.2.2.2.2.2.2.1,p2.2.2.2.2.2.2.2.2.2.1,p2.2.2.2.2.2.2.2.2.2.2.1,p2.2.2.2.2.2.2.2.2.2.2.2]:List Int) p1.Lane_).bind fun v1=>(A45 v1 p3).bind fun v2=>some v2
theorem B09 (p1:Part)(p2:(Int×Int×Int×Int×Int×Int×Int×Int×Int×Int×Int×Int))(p3:Int)(r:Bool)(h:A1a p1 p2 p3=some r):MCall Try.prog 118 [(.d (.agg (R6 p1))),(.ptr (900000,0) 0),(.ptr (900001,0) 0)] [(.box 101 [(.d (.v (.int .u32 p2.1))),(.d (.v (.int .u32 p2.2.1))),(.d (.v (.int .u32 p2.2.2.1))),(.d (.v (.int .u32 p2.2.2.2.1))),(.d (.v (.int .u32 p2.2.2.2.2.1))),(.d (.v (.int .u32 p2.2.2.2.2.2.1))),(.d (.v (.int .u32 p2.2.2.2.2.2.2.1))),(.d (.v (.int .u32 p2.2.2.2.2.2.2.2.1))),(.d (.v (.int .u32 p2.2.2.2.2.2.2.2.2.1))),(.d (.v (.int .u32 p2.2.2.2.2.2.2.2.2.2.1))),(.d (.v (.int .u32 p2.2.2.2.2.2.2.2.2.2.2.1))),(.d (.v (.int .u32 p2.2.2.2.2.2.2.2.2.2.2.2)))]),(.box 3 [(di p3)])] (.d (bo r)) [some (.box 101 [(.d (.v (.int .u32 p2.1))),(.d (.v (.int .u32 p2.2.1))),(.d (.v (.int .u32 p2.2.2.1))),(.d (.v (.int .u32 p2.2.2.2.1))),(.d (.v (.int .u32 p2.2.2.2.2.1))),(.d (.v (.int .u32 p2.2.2.2.2.2.1))),(.d (.v (.int .u32 p2.2.2.2.2.2.2.1))),(.d (.v (.int .u32 p2.2.2.2.2.2.2.2.1))),(.d (.v (.int .u32 p2.2.2.2.2.2.2.2.2.1))),(.d (.v (.int .u32 p2.2.2.2.2.2.2.2.2.2.1))),(.d (.v (.int .u32 p2.2.2.2.2.2.2.2.2.2.2.1))),(.d (.v (.int .u32 p2.2.2.2.2.2.2.2.2.2.2.2)))]),some (.box 3 [(di p3)])] []:=by
 refine A78 (fk Try.func118 Try.ntmps118 m0 (by with_unfolding_all rfl)) rfl (nl rfl) ?_
 unfold A1a at h
 refine A9 (s0:=⟨T [(0,(.d _)),(1,(.ptr _ _)),(2,(.ptr _ _))],G [((900000,0),some (.box 101 _)),((900001,0),some (.box 3 _))]⟩) (sbr rfl rfl) ?_
 refine lr (fun u1 hu1=>sn rfl rfl (sv rfl (A3 (A8 (Z6 rfl fun u2 hu2=>sp rfl rfl (sl rfl G_hit rfl (bs h fun v1 hv1 h=>sp rfl (B4w rfl rfl hv1 rfl) (sd rfl (B7k (f:=fun x=>(.v (.int .u32 x))) rfl (gq rfl) hv1 rfl) (sl rfl (gq rfl) rfl (bs h fun v2 hv2 h=>C9 rfl rfl A4 (B3j _ _ _ hv2) (.inl rfl) (sv rfl (A3 (D5 ?_)))))))))))))
 cases h
 exact A70 (.inr rfl) [] (B8z (E1 rfl) N9) (.refl _) ⟨⟨_,_,_,(gq rfl),K3,rfl,B1q,rfl⟩,⟨_,_,_,(gq rfl),K3,rfl,B1q,rfl⟩,trivial⟩
noncomputable def G4 (p1:(List Part))(p2:(Int×Int×Int×Int×Int×Int×Int×Int×Int×Int×Int×Int))(p3:Int)(x1:Int):Option (Stp Int (Sum Unit Int)):=
  cond (decide (x1< (p1.length:Int))) ((F3 p1 x1).bind fun v1=>(A1a v1 p2 p3).bind fun v2=>cond v2 (some (.out (.inr x1))) (some (.go (w64 (x1+1))))) (some (.out (.inl ())))
noncomputable def H5 (p1:(List Part))(p2:(Int×Int×Int×Int×Int×Int×Int×Int×Int×Int×Int×Int))(p3:Int):Option Int:=
  thenS (loop (G4 p1 p2 p3) 0) (fun _=>some (-1)) (fun r=>some r)
theorem A1b (p1:(List Part))(p2:(Int×Int×Int×Int×Int×Int×Int×Int×Int×Int×Int×Int))(p3:Int)(r:Int)(h:H5 p1 p2 p3=some r):MCall Try.prog 84 [(dl R6 p1),(.fn (.func 118) [] [(.ptr (900000,0) 0),(.ptr (900001,0) 0)])] [(.box 101 [(.d (.v (.int .u32 p2.1))),(.d (.v (.int .u32 p2.2.1))),(.d (.v (.int .u32 p2.2.2.1))),(.d (.v (.int .u32 p2.2.2.2.1))),(.d (.v (.int .u32 p2.2.2.2.2.1))),(.d (.v (.int .u32 p2.2.2.2.2.2.1))),(.d (.v (.int .u32 p2.2.2.2.2.2.2.1))),(.d (.v (.int .u32 p2.2.2.2.2.2.2.2.1))),(.d (.v (.int .u32 p2.2.2.2.2.2.2.2.2.1))),(.d (.v (.int .u32 p2.2.2.2.2.2.2.2.2.2.1))),(.d (.v (.int .u32 p2.2.2.2.2.2.2.2.2.2.2.1))),(.d (.v (.int .u32 p2.2.2.2.2.2.2.2.2.2.2.2)))]),(.box 3 [(di p3)])] (di r) [some (.box 101 [(.d (.v (.int .u32 p2.1))),(.d (.v (.int .u32 p2.2.1))),(.d (.v (.int .u32 p2.2.2.1))),(.d (.v (.int .u32 p2.2.2.2.1))),(.d (.v (.int .u32 p2.2.2.2.2.1))),(.d (.v (.int .u32 p2.2.2.2.2.2.1))),(.d (.v (.int .u32 p2.2.2.2.2.2.2.1))),(.d (.v (.int .u32 p2.2.2.2.2.2.2.2.1))),(.d (.v (.int .u32 p2.2.2.2.2.2.2.2.2.1))),(.d (.v (.int .u32 p2.2.2.2.2.2.2.2.2.2.1))),(.d (.v (.int .u32 p2.2.2.2.2.2.2.2.2.2.2.1))),(.d (.v (.int .u32 p2.2.2.2.2.2.2.2.2.2.2.2)))]),some (.box 3 [(di p3)])] []:=by
 refine A78 (fk Try.func84 Try.ntmps84 (fun r=>if r==4 then [1004005]else []) (by with_unfolding_all rfl)) rfl (nl rfl) ?_
 unfold H5 at h
 refine A9 (s0:=⟨T [(0,(.d _)),(1,(.fn _ _ _))],G [((900000,0),some (.box 101 _)),((900001,0),some (.box 3 _))]⟩) (sbr rfl rfl) ?_
 refine lr (fun u1 hu1=>sv rfl (A3 (A8 (lr (fun u2 hu2=>sv rfl (sd rfl (K5 rfl) (sv rfl (A3 (js h fun z1 hz1 h=>H8 (fun s=> ∃(y1:Unit) (g1:Unit),z1= .inl y1∧Sb ⟨T [(1,(.fn (.func 118) [] [(.ptr (900000,0) 0),(.ptr (900001,0) 0)]))],G [((900000,0),some (.box 101 [(.d (.v (.int .u32 p2.1))),(.d (.v (.int .u32 p2.2.1))),(.d (.v (.int .u32 p2.2.2.1))),(.d (.v (.int .u32 p2.2.2.2.1))),(.d (.v (.int .u32 p2.2.2.2.2.1))),(.d (.v (.int .u32 p2.2.2.2.2.2.1))),(.d (.v (.int .u32 p2.2.2.2.2.2.2.1))),(.d (.v (.int .u32 p2.2.2.2.2.2.2.2.1))),(.d (.v (.int .u32 p2.2.2.2.2.2.2.2.2.1))),(.d (.v (.int .u32 p2.2.2.2.2.2.2.2.2.2.1))),(.d (.v (.int .u32 p2.2.2.2.2.2.2.2.2.2.2.1))),(.d (.v (.int .u32 p2.2.2.2.2.2.2.2.2.2.2.2)))])),((900001,0),some (.box 3 [(di p3)]))]⟩ s) ?_ ?_)))))))))
 refine A7 (I0 (G4 p1 p2 p3) (fun (x1:Int) (g2:Unit)=>⟨T [(0,(dl R6 p1)),(1,(.fn (.func 118) [] [(.ptr (900000,0) 0),(.ptr (900001,0) 0)])),(7,(di (p1.length:Int))),(8,(di x1))],G [((900000,0),some (.box 101 [(.d (.v (.int .u32 p2.1))),(.d (.v (.int .u32 p2.2.1))),(.d (.v (.int .u32 p2.2.2.1))),(.d (.v (.int .u32 p2.2.2.2.1))),(.d (.v (.int .u32 p2.2.2.2.2.1))),(.d (.v (.int .u32 p2.2.2.2.2.2.1))),(.d (.v (.int .u32 p2.2.2.2.2.2.2.1))),(.d (.v (.int .u32 p2.2.2.2.2.2.2.2.1))),(.d (.v (.int .u32 p2.2.2.2.2.2.2.2.2.1))),(.d (.v (.int .u32 p2.2.2.2.2.2.2.2.2.2.1))),(.d (.v (.int .u32 p2.2.2.2.2.2.2.2.2.2.2.1))),(.d (.v (.int .u32 p2.2.2.2.2.2.2.2.2.2.2.2)))])),((900001,0),some (.box 3 [(di p3)]))]⟩) 0 () _ hz1 (sbr rfl rfl) ?_)
 intro x1 g2 z2 hz2 ez2
 unfold G4 at hz2
 refine lr (fun u3 hu3=>sv rfl (A3 (A8 (cc rfl hz2 (fun c1 hz2=> ?_) (fun c1 hz2=> ?_)))))
 refine B3 (A8 (A7 (lr (fun u4 hu4=>sv rfl (sv rfl (A3 (lr (fun u5 hu5=>E2 (.fn _ _ _) rfl rfl (sv rfl (sv rfl (bs hz2 fun v1 hv1 hz2=>sd rfl (J8 rfl rfl hv1 rfl) (sd rfl (N3 rfl hv1 rfl rfl) (bs hz2 fun v2 hv2 hz2=>B8v (v:= .d (bo v2)) (us:= [(900000,0),(900001,0)]) (B9s (B09 _ _ _ _ hv2) [(900000,0),(900001,0)] [(900000,0),(900001,0)] _ (((900001,0),some (.box 3 [(di p3)]))::(((900000,0),some (.box 101 [(.d (.v (.int .u32 p2.1))),(.d (.v (.int .u32 p2.2.1))),(.d (.v (.int .u32 p2.2.2.1))),(.d (.v (.int .u32 p2.2.2.2.1))),(.d (.v (.int .u32 p2.2.2.2.2.1))),(.d (.v (.int .u32 p2.2.2.2.2.2.1))),(.d (.v (.int .u32 p2.2.2.2.2.2.2.1))),(.d (.v (.int .u32 p2.2.2.2.2.2.2.2.1))),(.d (.v (.int .u32 p2.2.2.2.2.2.2.2.2.1))),(.d (.v (.int .u32 p2.2.2.2.2.2.2.2.2.2.1))),(.d (.v (.int .u32 p2.2.2.2.2.2.2.2.2.2.2.1))),(.d (.v (.int .u32 p2.2.2.2.2.2.2.2.2.2.2.2)))]))::_)) rfl A35 (E8 A6t (E8 (B4s G_hit rfl) (E8 (B4s (K4 rfl G_hit) rfl) A41))) (T8 G_hit (T8 (K4 rfl G_hit) A11)) ⟨⟨_,G_hit, .of rfl⟩,⟨_,(K4 rfl G_hit), .of rfl⟩,trivial⟩ (fun _ h=>h) (nd2 (C52 rfl)) rfl rfl rfl) (A3 (cc rfl hz2 (fun c2 hz2=> ?_) (fun c2 hz2=> ?_))))))))))))))))
 refine lr (fun u6 hu6=>sv rfl (sv rfl (A3 (D5 ?_))))
 cases hz2
 obtain rfl:=ez2 _ rfl
 refine ⟨nofun,J9 ?_⟩
 rw [Sum.elim_inr]at h
 cases h
 exact A70 (.inr rfl) [] (B8z (E1 rfl) N9) (.refl _) ⟨⟨_,_,_,(gq rfl),K3,rfl,B1q,rfl⟩,⟨_,_,_,G_hit,K3,rfl,B1q,rfl⟩,trivial⟩
 refine B3 (I5 (D1 fun u7 hu7=>sv rfl (sv rfl (A3 (J2 ?_)))))
 cases hz2
 exact ⟨rfl,(),(sbr rfl rfl)⟩
 refine E5 rfl ?_
 cases hz2
 obtain rfl:=ez2 _ rfl
 refine ⟨nofun,E3 rfl (l_j ?_)⟩
 exact ⟨_,(),rfl,(sbr rfl rfl)⟩
 rintro _ ⟨y1,g1,rfl,q1⟩
 rw [Sum.elim_inl]at h
 refine A9 q1 (lr (fun u8 hu8=>sv rfl (A3 (D5 ?_))))
 cases h
 exact A70 (.inr rfl) [] (B8z (E1 rfl) N9) (.refl _) ⟨⟨_,_,_,G_hit,K3,rfl,B1q,rfl⟩,⟨_,_,_,(gq rfl),K3,rfl,B1q,rfl⟩,trivial⟩
noncomputable def G5 (p1:(List Part))(p2:(Int×Int×Int×Int×Int×Int×Int×Int×Int×Int×Int×Int))(p3:Int):Option Bool:=
  (H5 p1 p2 p3).bind fun v1=>some (decide (v1≥0))
theorem A0p (p1:(List Part))(p2:(Int×Int×Int×Int×Int×Int×Int×Int×Int×Int×Int×Int))(p3:Int)(r:Bool)(h:G5 p1 p2 p3=some r):MCall Try.prog 117 [(dl R6 p1),(.fn (.func 118) [] [(.ptr (900000,0) 0),(.ptr (900001,0) 0)])] [(.box 101 [(.d (.v (.int .u32 p2.1))),(.d (.v (.int .u32 p2.2.1))),(.d (.v (.int .u32 p2.2.2.1))),(.d (.v (.int .u32 p2.2.2.2.1))),(.d (.v (.int .u32 p2.2.2.2.2.1))),(.d (.v (.int .u32 p2.2.2.2.2.2.1))),(.d (.v (.int .u32 p2.2.2.2.2.2.2.1))),(.d (.v (.int .u32 p2.2.2.2.2.2.2.2.1))),(.d (.v (.int .u32 p2.2.2.2.2.2.2.2.2.1))),(.d (.v (.int .u32 p2.2.2.2.2.2.2.2.2.2.1))),(.d (.v (.int .u32 p2.2.2.2.2.2.2.2.2.2.2.1))),(.d (.v (.int .u32 p2.2.2.2.2.2.2.2.2.2.2.2)))]),(.box 3 [(di p3)])] (.d (bo r)) [some (.box 101 [(.d (.v (.int .u32 p2.1))),(.d (.v (.int .u32 p2.2.1))),(.d (.v (.int .u32 p2.2.2.1))),(.d (.v (.int .u32 p2.2.2.2.1))),(.d (.v (.int .u32 p2.2.2.2.2.1))),(.d (.v (.int .u32 p2.2.2.2.2.2.1))),(.d (.v (.int .u32 p2.2.2.2.2.2.2.1))),(.d (.v (.int .u32 p2.2.2.2.2.2.2.2.1))),(.d (.v (.int .u32 p2.2.2.2.2.2.2.2.2.1))),(.d (.v (.int .u32 p2.2.2.2.2.2.2.2.2.2.1))),(.d (.v (.int .u32 p2.2.2.2.2.2.2.2.2.2.2.1))),(.d (.v (.int .u32 p2.2.2.2.2.2.2.2.2.2.2.2)))]),some (.box 3 [(di p3)])] []:=by
 refine A78 (fk Try.func117 Try.ntmps117 (fun r=>if r==1 then [1001002]else []) (by with_unfolding_all rfl)) rfl (nl rfl) ?_
 unfold G5 at h
 refine A9 (s0:=⟨T [(0,(.d _)),(1,(.fn _ _ _))],G [((900000,0),some (.box 101 _)),((900001,0),some (.box 3 _))]⟩) (sbr rfl rfl) ?_
 refine lr (fun u1 hu1=>sv rfl (A3 (lr (fun u2 hu2=>sv rfl (E2 (.fn _ _ _) rfl rfl (bs h fun v1 hv1 h=>B8v (v:= .d (i64 v1)) (us:= [(900000,0),(900001,0)]) (B9s (A1b _ _ _ _ hv1) [(900000,0),(900001,0)] [(900000,0),(900001,0)] _ (((900001,0),some (.box 3 [(di p3)]))::(((900000,0),some (.box 101 [(.d (.v (.int .u32 p2.1))),(.d (.v (.int .u32 p2.2.1))),(.d (.v (.int .u32 p2.2.2.1))),(.d (.v (.int .u32 p2.2.2.2.1))),(.d (.v (.int .u32 p2.2.2.2.2.1))),(.d (.v (.int .u32 p2.2.2.2.2.2.1))),(.d (.v (.int .u32 p2.2.2.2.2.2.2.1))),(.d (.v (.int .u32 p2.2.2.2.2.2.2.2.1))),(.d (.v (.int .u32 p2.2.2.2.2.2.2.2.2.1))),(.d (.v (.int .u32 p2.2.2.2.2.2.2.2.2.2.1))),(.d (.v (.int .u32 p2.2.2.2.2.2.2.2.2.2.2.1))),(.d (.v (.int .u32 p2.2.2.2.2.2.2.2.2.2.2.2)))]))::_)) rfl A35 (E8 A6t (E8 (C9q rfl (E8 (B4s G_hit rfl) (E8 (B4s (K4 rfl G_hit) rfl) A41))) A41)) (T8 G_hit (T8 (K4 rfl G_hit) A11)) ⟨⟨_,G_hit, .of rfl⟩,⟨_,(K4 rfl G_hit), .of rfl⟩,trivial⟩ (fun _ h=>h) (nd2 (C52 rfl)) rfl rfl rfl) (sv rfl (sv rfl (A3 (D5 ?_))))))))))
 cases h
 exact A70 (.inr rfl) [] (B8z (E1 rfl) N9) (.refl _) ⟨⟨_,_,_,(gq rfl),K3,rfl,B1q,rfl⟩,⟨_,_,_,G_hit,K3,rfl,B1q,rfl⟩,trivial⟩
noncomputable def A3n (p1:Map)(p2:Zone)(p3:Int):Option Bool:=
  (A6b p1).bind fun v1=>(G5 p2.Parts v1 p3).bind fun v2=>some (!v2)
theorem A7b (p1:Map)(p2:Zone)(p3:Int)(r:Bool)(h:A3n p1 p2 p3=some r):PCall Try.prog 86 [(.agg (A27 p1)),(.agg [(.list (List.map R6 p2.Parts)),(i64 p2.Signal_)]),(i64 p3)] (bo r):=by
 refine G2 (fk Try.func86 Try.ntmps86 (fun r=>if r==2 then [1002003]else []) (by with_unfolding_all rfl)) (nl rfl) ?_
 unfold A3n at h
 refine A9 (s0:=⟨T [(0,(.d _)),(1,(.d _)),(2,(.d _))],G []⟩) (sbr rfl rfl) ?_
 refine lr (fun u1 hu1=>sn rfl rfl (sn rfl rfl (sn rfl rfl (sv rfl (A3 (lr (fun u2 hu2=>sd rfl (E0 rfl (gq rfl) rfl rfl) (bs h fun v1 hv1 h=>C9 rfl rfl A4 (B62 _ _ hv1) (.inl rfl) (sn rfl rfl (sst rfl G_hit [(.d (.v (.int .u32 v1.1))),(.d (.v (.int .u32 v1.2.1))),(.d (.v (.int .u32 v1.2.2.1))),(.d (.v (.int .u32 v1.2.2.2.1))),(.d (.v (.int .u32 v1.2.2.2.2.1))),(.d (.v (.int .u32 v1.2.2.2.2.2.1))),(.d (.v (.int .u32 v1.2.2.2.2.2.2.1))),(.d (.v (.int .u32 v1.2.2.2.2.2.2.2.1))),(.d (.v (.int .u32 v1.2.2.2.2.2.2.2.2.1))),(.d (.v (.int .u32 v1.2.2.2.2.2.2.2.2.2.1))),(.d (.v (.int .u32 v1.2.2.2.2.2.2.2.2.2.2.1))),(.d (.v (.int .u32 v1.2.2.2.2.2.2.2.2.2.2.2)))] rfl (A3 (lr (fun u3 hu3=>sp rfl rfl (sl rfl (gq rfl) rfl (E2 (.fn _ _ _) rfl rfl (bs h fun v2 hv2 h=>B8v (v:= .d (bo v2)) (us:= [(7,u2),(5,u1)]) (B9s (A0p _ _ _ _ hv2) [(7,u2),(5,u1)] [(7,u2),(5,u1)] _ (((5,u1),some (.box 3 [(di p3)]))::(((7,u2),some (.box 101 [(.d (.v (.int .u32 v1.1))),(.d (.v (.int .u32 v1.2.1))),(.d (.v (.int .u32 v1.2.2.1))),(.d (.v (.int .u32 v1.2.2.2.1))),(.d (.v (.int .u32 v1.2.2.2.2.1))),(.d (.v (.int .u32 v1.2.2.2.2.2.1))),(.d (.v (.int .u32 v1.2.2.2.2.2.2.1))),(.d (.v (.int .u32 v1.2.2.2.2.2.2.2.1))),(.d (.v (.int .u32 v1.2.2.2.2.2.2.2.2.1))),(.d (.v (.int .u32 v1.2.2.2.2.2.2.2.2.2.1))),(.d (.v (.int .u32 v1.2.2.2.2.2.2.2.2.2.2.1))),(.d (.v (.int .u32 v1.2.2.2.2.2.2.2.2.2.2.2)))]))::_)) rfl A35 (E8 A6t (E8 (C9q rfl (E8 (B4s G_hit rfl) (E8 (B4s (K4 rfl (K4 rfl G_hit)) rfl) A41))) A41)) (T8 G_hit (T8 (K4 rfl (K4 rfl G_hit)) A11)) ⟨⟨_,G_hit, .of rfl⟩,⟨_,(K4 rfl (K4 rfl G_hit)), .of rfl⟩,trivial⟩ (fun _ h=>h) (nd2 (C52 rfl)) rfl rfl rfl) (E2 (.d (bo (!v2))) rfl rfl (sv rfl (A3 (D5 ?_))))))))))))))))))))
 cases h
 exact B0 (.inr rfl) (E4 (E1 rfl) N9) (.refl _)
noncomputable def Y5 (p1:Int)(p2:Map)(p3:Zone):Option Bool:=
  (A3n p2 p3 p1).bind fun v1=>some (!v1)
theorem A87 (p1:Int)(p2:Map)(p3:Zone)(r:Bool)(h:Y5 p1 p2 p3=some r):PCall Try.prog 112 [(i64 p1),(.bp (A27 p2) 0),(.bp [(.list (List.map R6 p3.Parts)),(i64 p3.Signal_)] 0)] (bo r):=by
 refine G2 (fk Try.func112 Try.ntmps112 m0 (by with_unfolding_all rfl)) (nl rfl) ?_
 unfold Y5 at h
 refine A9 (s0:=⟨T [(0,(.d _)),(1,(.d _)),(2,(.d _))],G []⟩) (sbr rfl rfl) ?_
 refine lr (fun u1 hu1=>sv rfl (A3 (lr (fun u2 hu2=>sv rfl (sv rfl (sv rfl (bs h fun v1 hv1 h=>C9 rfl rfl A4 (A7b _ _ _ _ hv1) (.inl rfl) (E2 (.d (bo (!v1))) rfl rfl (sv rfl (A3 (D5 ?_)))))))))))
 cases h
 exact B0 (.inr rfl) (E4 (E1 rfl) N9) (.refl _)
noncomputable def F9 (p1:(List Int))(p2:Map)(p3:Zone)(x1:Int):Option (Stp Int (Sum Unit Int)):=
  cond (decide (x1< (p1.length:Int))) ((F3 p1 x1).bind fun v1=>(Y5 v1 p2 p3).bind fun v2=>cond v2 (some (.out (.inr x1))) (some (.go (w64 (x1+1))))) (some (.out (.inl ())))
noncomputable def H4 (p1:(List Int))(p2:Map)(p3:Zone):Option Int:=
  thenS (loop (F9 p1 p2 p3) 0) (fun _=>some (-1)) (fun r=>some r)
theorem A0x (p1:(List Int))(p2:Map)(p3:Zone)(r:Int)(h:H4 p1 p2 p3=some r):PCall Try.prog 53 [(.list (List.map A5 p1)),(.fn (.func 112) [] [(.bp (A27 p2) 0),(.bp [(.list (List.map R6 p3.Parts)),(i64 p3.Signal_)] 0)])] (i64 r):=by
 refine G2 (fk Try.func53 Try.ntmps53 m0 (by with_unfolding_all rfl)) (nl rfl) ?_
 unfold H4 at h
 refine A9 (s0:=⟨T [(0,(.d _)),(1,(.d _))],G []⟩) (sbr rfl rfl) ?_
 refine lr (fun u1 hu1=>sv rfl (A3 (A8 (lr (fun u2 hu2=>sv rfl (sd rfl (K5 rfl) (sv rfl (A3 (js h fun z1 hz1 h=>H8 (fun s=> ∃(y1:Unit) (g1:Unit),z1= .inl y1∧Sb ⟨T [],G []⟩ s) ?_ ?_)))))))))
 refine A7 (I0 (F9 p1 p2 p3) (fun (x1:Int) (g2:Unit)=>⟨T [(0,(dl A5 p1)),(1,(.d (.fn (.func 112) [] [(.bp (A27 p2) 0),(.bp [(.list (List.map R6 p3.Parts)),(i64 p3.Signal_)] 0)]))),(7,(di (p1.length:Int))),(8,(di x1))],G []⟩) 0 () _ hz1 (sbr rfl rfl) ?_)
 intro x1 g2 z2 hz2 ez2
 unfold F9 at hz2
 refine lr (fun u3 hu3=>sv rfl (A3 (A8 (cc rfl hz2 (fun c1 hz2=> ?_) (fun c1 hz2=> ?_)))))
 refine B3 (A8 (A7 (lr (fun u4 hu4=>sv rfl (sv rfl (A3 (lr (fun u5 hu5=>sv rfl (sv rfl (sv rfl (bs hz2 fun v1 hv1 hz2=>sd rfl (J8 rfl rfl hv1 rfl) (sd rfl (F4 rfl hv1 rfl) (bs hz2 fun v2 hv2 hz2=>C9 rfl rfl A4 (A87 _ _ _ _ hv2) (.inl rfl) (A3 (cc rfl hz2 (fun c2 hz2=> ?_) (fun c2 hz2=> ?_))))))))))))))))
 refine lr (fun u6 hu6=>sv rfl (sv rfl (A3 (D5 ?_))))
 cases hz2
 obtain rfl:=ez2 _ rfl
 refine ⟨nofun,J9 ?_⟩
 rw [Sum.elim_inr]at h
 cases h
 exact B0 (.inr rfl) (E4 (E1 rfl) N9) (.refl _)
 refine B3 (I5 (D1 fun u7 hu7=>sv rfl (sv rfl (A3 (J2 ?_)))))
 cases hz2
 exact ⟨rfl,(),(sbr rfl rfl)⟩
 refine E5 rfl ?_
 cases hz2
 obtain rfl:=ez2 _ rfl
 refine ⟨nofun,E3 rfl (l_j ?_)⟩
 exact ⟨_,(),rfl,(sbr rfl rfl)⟩
 rintro _ ⟨y1,g1,rfl,q1⟩
 rw [Sum.elim_inl]at h
 refine A9 q1 (lr (fun u8 hu8=>sv rfl (A3 (D5 ?_))))
 cases h
 exact B0 (.inr rfl) (E4 (E1 rfl) N9) (.refl _)
noncomputable def G0 (p1:(List Int))(p2:Map)(p3:Zone):Option Bool:=
  (H4 p1 p2 p3).bind fun v1=>some (decide (v1≥0))
theorem A0e (p1:(List Int))(p2:Map)(p3:Zone)(r:Bool)(h:G0 p1 p2 p3=some r):PCall Try.prog 111 [(.list (List.map A5 p1)),(.fn (.func 112) [] [(.bp (A27 p2) 0),(.bp [(.list (List.map R6 p3.Parts)),(i64 p3.Signal_)] 0)])] (bo r):=by
 refine G2 (fk Try.func111 Try.ntmps111 m0 (by with_unfolding_all rfl)) (nl rfl) ?_
 unfold G0 at h
 refine A9 (s0:=⟨T [(0,(.d _)),(1,(.d _))],G []⟩) (sbr rfl rfl) ?_
 refine lr (fun u1 hu1=>sv rfl (A3 (lr (fun u2 hu2=>sv rfl (sv rfl (bs h fun v1 hv1 h=>C9 rfl rfl A4 (A0x _ _ _ _ hv1) (.inl rfl) (sv rfl (sv rfl (A3 (D5 ?_))))))))))
 cases h
 exact B0 (.inr rfl) (E4 (E1 rfl) N9) (.refl _)
noncomputable def Y6 (p1:Zone)(p2:Map)(p3:Int)(p4:(List Int)):Option Bool:=
  (A3w p2 p1 p3).bind fun v1=>((cond v1 (G0 p4 p2 p1) (some default))).bind fun v2=>some (v1&& (!v2))
theorem A88 (p1:Zone)(p2:Map)(p3:Int)(p4:(List Int))(r:Bool)(h:Y6 p1 p2 p3 p4=some r):PCall Try.prog 109 [(.agg [(.list (List.map R6 p1.Parts)),(i64 p1.Signal_)]),(.bp (A27 p2) 0),(.bp [(i64 p3)] 0),(.bp [(.list (List.map A5 p4))] 0)] (bo r):=by
 refine G2 (fk Try.func109 Try.ntmps109 m0 (by with_unfolding_all rfl)) (nl rfl) ?_
 unfold Y6 at h
 refine A9 (s0:=⟨T [(0,(.d _)),(1,(.d _)),(2,(.d _)),(3,(.d _))],G []⟩) (sbr rfl rfl) ?_
 refine lr (fun u1 hu1=>sn rfl rfl (sv rfl (A3 (lr (fun u2 hu2=>sv rfl (sd rfl (E0 rfl G_hit rfl rfl) (sv rfl (bs h fun v1 hv1 h=>C9 rfl rfl A4 (A9d _ _ _ _ hv1) (.inl rfl) (sv rfl (gt rfl (fun _=>rfl) (A3b _ (.fn _ _ _) rfl (A62 rfl) (fun _=>rfl) (bs h fun v2 hv2 h=> ?_))))))))))))
 refine A0v v1 (bo v2) (A62 rfl) (fun w3=>⟨_,[(dl A5 p4),(.fn (.func 112) [] [(.d (.bp (A27 p2) 0)),(.ptr (4,u1) 0)])],_,_,(by simp only [A6 w3];rfl),(rD (Q3 (C2v Q0 (rD (Q3 (B0l G_hit (rD (rD Q0))) Q0))) Q0)),A4,A0e _ _ _ _ (G6 w3 hv2),(.inr rfl)⟩) ?_
 refine A3b _ (.d (bo (!v2))) rfl (A62 rfl) (fun w4=>(by simp only [A6 w4];rfl)) ?_
 refine sa rfl rfl rfl (sv rfl (A3 (D5 ?_)))
 cases h
 exact B0 (.inr rfl) (E4 (E1 rfl) N9) (.refl _)
noncomputable def F5 (p1:(List Zone))(p2:Map)(p3:Int)(p4:(List Int))(x1:Int):Option (Stp Int (Sum Unit Int)):=
  cond (decide (x1< (p1.length:Int))) ((F3 p1 x1).bind fun v1=>(Y6 v1 p2 p3 p4).bind fun v2=>cond v2 (some (.out (.inr x1))) (some (.go (w64 (x1+1))))) (some (.out (.inl ())))
noncomputable def G8 (p1:(List Zone))(p2:Map)(p3:Int)(p4:(List Int)):Option Int:=
  thenS (loop (F5 p1 p2 p3 p4) 0) (fun _=>some (-1)) (fun r=>some r)
theorem A0t (p1:(List Zone))(p2:Map)(p3:Int)(p4:(List Int))(r:Int)(h:G8 p1 p2 p3 p4=some r):PCall Try.prog 128 [(.list (List.map U8 p1)),(.fn (.func 109) [] [(.bp (A27 p2) 0),(.bp [(i64 p3)] 0),(.bp [(.list (List.map A5 p4))] 0)])] (i64 r):=by
 refine G2 (fk Try.func128 Try.ntmps128 m0 (by with_unfolding_all rfl)) (nl rfl) ?_
 unfold G8 at h
 refine A9 (s0:=⟨T [(0,(.d _)),(1,(.d _))],G []⟩) (sbr rfl rfl) ?_
 refine lr (fun u1 hu1=>sv rfl (A3 (A8 (lr (fun u2 hu2=>sv rfl (sd rfl (K5 rfl) (sv rfl (A3 (js h fun z1 hz1 h=>H8 (fun s=> ∃(y1:Unit) (g1:Unit),z1= .inl y1∧Sb ⟨T [],G []⟩ s) ?_ ?_)))))))))
 refine A7 (I0 (F5 p1 p2 p3 p4) (fun (x1:Int) (g2:Unit)=>⟨T [(0,(dl U8 p1)),(1,(.d (.fn (.func 109) [] [(.bp (A27 p2) 0),(.bp [(i64 p3)] 0),(.bp [(.list (List.map A5 p4))] 0)]))),(7,(di (p1.length:Int))),(8,(di x1))],G []⟩) 0 () _ hz1 (sbr rfl rfl) ?_)
 intro x1 g2 z2 hz2 ez2
 unfold F5 at hz2
 refine lr (fun u3 hu3=>sv rfl (A3 (A8 (cc rfl hz2 (fun c1 hz2=> ?_) (fun c1 hz2=> ?_)))))
 refine B3 (A8 (A7 (lr (fun u4 hu4=>sv rfl (sv rfl (A3 (lr (fun u5 hu5=>sv rfl (sv rfl (sv rfl (bs hz2 fun v1 hv1 hz2=>sd rfl (J8 rfl rfl hv1 rfl) (sd rfl (N3 rfl hv1 rfl rfl) (bs hz2 fun v2 hv2 hz2=>C9 rfl rfl A4 (A88 _ _ _ _ _ hv2) (.inl rfl) (A3 (cc rfl hz2 (fun c2 hz2=> ?_) (fun c2 hz2=> ?_))))))))))))))))
 refine lr (fun u6 hu6=>sv rfl (sv rfl (A3 (D5 ?_))))
 cases hz2
 obtain rfl:=ez2 _ rfl
 refine ⟨nofun,J9 ?_⟩
 rw [Sum.elim_inr]at h
 cases h
 exact B0 (.inr rfl) (E4 (E1 rfl) N9) (.refl _)
 refine B3 (I5 (D1 fun u7 hu7=>sv rfl (sv rfl (A3 (J2 ?_)))))
 cases hz2
 exact ⟨rfl,(),(sbr rfl rfl)⟩
 refine E5 rfl ?_
 cases hz2
 obtain rfl:=ez2 _ rfl
 refine ⟨nofun,E3 rfl (l_j ?_)⟩
 exact ⟨_,(),rfl,(sbr rfl rfl)⟩
 rintro _ ⟨y1,g1,rfl,q1⟩
 rw [Sum.elim_inl]at h
 refine A9 q1 (lr (fun u8 hu8=>sv rfl (A3 (D5 ?_))))
 cases h
 exact B0 (.inr rfl) (E4 (E1 rfl) N9) (.refl _)
noncomputable def F6 (p1:(List Zone))(p2:Map)(p3:Int)(p4:(List Int)):Option Bool:=
  (G8 p1 p2 p3 p4).bind fun v1=>some (decide (v1≥0))
theorem A08 (p1:(List Zone))(p2:Map)(p3:Int)(p4:(List Int))(r:Bool)(h:F6 p1 p2 p3 p4=some r):PCall Try.prog 108 [(.list (List.map U8 p1)),(.fn (.func 109) [] [(.bp (A27 p2) 0),(.bp [(i64 p3)] 0),(.bp [(.list (List.map A5 p4))] 0)])] (bo r):=by
 refine G2 (fk Try.func108 Try.ntmps108 m0 (by with_unfolding_all rfl)) (nl rfl) ?_
 unfold F6 at h
 refine A9 (s0:=⟨T [(0,(.d _)),(1,(.d _))],G []⟩) (sbr rfl rfl) ?_
 refine lr (fun u1 hu1=>sv rfl (A3 (lr (fun u2 hu2=>sv rfl (sv rfl (bs h fun v1 hv1 h=>C9 rfl rfl A4 (A0t _ _ _ _ _ hv1) (.inl rfl) (sv rfl (sv rfl (A3 (D5 ?_))))))))))
 cases h
 exact B0 (.inr rfl) (E4 (E1 rfl) N9) (.refl _)
noncomputable def A2g (p1:Map)(x1:((List Clash)×Int)):Option (Stp ((List Clash)×Int) (List Clash)):=
  cond (decide (x1.2< (p1.Lanes.length:Int))) ((A0n p1 x1.2).bind fun v1=>(F6 p1.Zones p1 x1.2 v1).bind fun v2=>cond ((decide ((v1.length:Int)>1))&& (!v2)) ((B0m x1.1 [(Clash.mk 1 (-1) x1.2 (-1))]).bind fun v3=>some (.go (v3,(w64 (x1.2+1))))) (some (.go (x1.1,(w64 (x1.2+1)))))) (some (.out x1.1))
noncomputable def A57 (p1:Map):Option (List Clash):=
  (loop (A2g p1) ([],0)).bind fun y1=>some y1
theorem B56 (p1:Map)(r:(List Clash))(h:A57 p1=some r):PCall Try.prog 79 [(.agg (A27 p1))] (.list (List.map L9 r)):=by
 refine G2 (fk Try.func79 Try.ntmps79 (fun r=>if r==7 then [1003]else []) (by with_unfolding_all rfl)) (nl rfl) ?_
 unfold A57 at h
 refine A9 (s0:=⟨T [(0,(.d _))],G []⟩) (sbr rfl rfl) ?_
 refine lr (fun u1 hu1=>sn rfl rfl (sv rfl (A3 (A8 (lr (fun u2 hu2=>sp rfl rfl (sl rfl G_hit rfl (sd rfl (K5 rfl) (sv rfl (A3 (bs h fun y1 hy1 h=>H8 (fun s=> ∃g1:Nat,Sb ⟨T [(2,(oS y1 (30,g1)))],G [((30,g1),oB 145 4 L9 y1)]⟩ s) ?_ ?_)))))))))))
 refine A7 (I0 (A2g p1) (fun (x1:((List Clash)×Int)) (g2:Nat)=>⟨T [(1,(.ptr (1,u1) 0)),(2,(oS x1.1 (30,g2))),(8,(di (p1.Lanes.length:Int))),(9,(di x1.2))],G [((1,u1),some (.box 28 (A1v p1))),((30,g2),oB 145 4 L9 x1.1)]⟩) ([],0) 0 _ hy1 (H9 ⟨.of rfl, .of rfl, .of rfl, .of rfl,trivial⟩ (B5 G_hit (.of rfl) (X6 trivial))) ?_)
 intro x1 g2 z1 hz1 ez1
 unfold A2g at hz1
 refine lr (fun u3 hu3=>sv rfl (A3 (A8 (cc rfl hz1 (fun c1 hz1=> ?_) (fun c1 hz1=> ?_)))))
 refine B3 (A8 (A7 (lr (fun u4 hu4=>sv rfl (sn rfl rfl (sst rfl G_hit [(di x1.2)] rfl (A3 (lr (fun u5 hu5=>sd rfl (E0 rfl (gq rfl) rfl rfl) (sl rfl G_hit rfl (bs hz1 fun v1 hv1 hz1=>C9 rfl rfl A4 (A69 _ _ _ hv1) (.inl rfl) (sn rfl rfl (sst rfl G_hit [(dl A5 v1)] rfl (A3 (lr (fun u6 hu6=>sp rfl rfl (sl rfl (gq rfl) rfl (E2 (.fn _ _ _) rfl rfl (bs hz1 fun v2 hv2 hz1=>C9 rfl (rD (Q3 (C2v Q0 (Q3 (B0l (gq rfl) (rD (rD (rD (rD (rD Q0)))))) (Q3 (B0l (gq rfl) (rD Q0)) (Q3 (B0l G_hit (rD Q0)) Q0)))) Q0)) A4 (A08 _ _ _ _ _ hv2) (.inr rfl) (sv rfl (A3 (lr (fun u7 hu7=>sl rfl G_hit rfl (sd rfl (K5 rfl) (sv rfl (sv rfl (gt rfl (fun _=>rfl) ?_)))))))))))))))))))))))))))
 refine A3b _ (.d (bo (!v2))) rfl (A62 rfl) (fun w2=>(by simp only [A6 w2];rfl)) ?_
 refine sa rfl rfl rfl (A3 (cc rfl hz1 (fun c2 hz1=> ?_) (fun c2 hz1=> ?_)))
 refine A9 (s0:=⟨T [(1,(.ptr (1,u1) 0)),(2,(oS x1.1 (30,g2))),(3,(.ptr (3,u4) 0)),(8,(di (p1.Lanes.length:Int))),(9,(di x1.2))],G [((1,u1),some (.box 28 (A1v p1))),((30,g2),oB 145 4 L9 x1.1),((3,u4),some (.box 3 [(di x1.2)]))]⟩) (H9 ⟨.of rfl, .of rfl, .of rfl, .of rfl, .of rfl,trivial⟩ (sg rfl (I9 (gq rfl) (sg rfl trivial)))) ?_
 refine D1 fun u8 hu8=>E2 (oS x1.1 (30,g2)) rfl rfl (sl rfl (gq rfl) rfl (sv rfl (E2 (dl L9 [(Clash.mk 1 (-1) x1.2 (-1))]) rfl rfl (bs hz1 fun v3 hv3 hz1=>A02 L9 (30,g2) x1.1 (Clash.mk 1 (-1) x1.2 (-1)) [] _ (U7 (fun _=>rfl)) rfl (gq rfl) hv3 (ss rfl (A3 (I5 (D1 fun u9 hu9=>sv rfl (sv rfl (A3 (J2 ?_)))))))))))
 cases hz1
 exact ⟨rfl,u8,(H9 ⟨.of rfl,(.of (A34 (A3l hv3)).symm), .of rfl, .of rfl,trivial⟩ (sg rfl (R5 G_hit trivial)))⟩
 refine B3 (I5 (A9 (s0:=⟨T [(1,(.ptr (1,u1) 0)),(2,(oS x1.1 (30,g2))),(8,(di (p1.Lanes.length:Int))),(9,(di x1.2))],G [((1,u1),some (.box 28 (A1v p1))),((30,g2),oB 145 4 L9 x1.1)]⟩) (H9 ⟨.of rfl, .of rfl, .of rfl, .of rfl,trivial⟩ (sg rfl (I9 (gq rfl) trivial))) ?_))
 refine D1 fun u10 hu10=>sv rfl (sv rfl (A3 (J2 ?_)))
 cases hz1
 exact ⟨rfl,g2,(H9 ⟨.of rfl, .of rfl, .of rfl, .of rfl,trivial⟩ (B5 G_hit (.of rfl) (I9 (gq rfl) trivial)))⟩
 refine E5 rfl ?_
 cases hz1
 obtain rfl:=ez1 _ rfl
 refine ⟨nofun,E3 rfl (l_j ?_)⟩
 exact ⟨g2,(H9 ⟨.of rfl,trivial⟩ (I9 (gq rfl) trivial))⟩
 rintro _ ⟨g1,q1⟩
 refine A9 q1 (lr (fun u11 hu11=>E2 (oS y1 (30,g1)) rfl rfl (E2 (oS y1 (30,g1)) rfl rfl (A3 (D5 ?_)))))
 cases h
 exact B0 (.inr rfl) (E4 (E1 rfl) (A77 G_hit)) A76
noncomputable def A2h (p1:Map)(x1:((List Clash)×Int))(v1:Zone)(x2:((List Clash)×Int)):Option (Stp ((List Clash)×Int) (List Clash)):=
  cond (decide (x2.2< (v1.Parts.length:Int))) ((F3 v1.Parts x2.2).bind fun v2=>(A3n p1 v1 v2.Lane_).bind fun v3=>((cond (!v3) (A3w p1 v1 v2.Lane_) (some default))).bind fun v4=>cond ((!v3)&& (!v4)) ((B0m x2.1 [(Clash.mk 2 x1.2 v2.Lane_ (-1))]).bind fun v5=>some (.go (v5,(w64 (x2.2+1))))) (some (.go (x2.1,(w64 (x2.2+1)))))) (some (.out x2.1))
noncomputable def A2i (p1:Map)(x1:((List Clash)×Int)):Option (Stp ((List Clash)×Int) (List Clash)):=
  cond (decide (x1.2< (p1.Zones.length:Int))) ((F3 p1.Zones x1.2).bind fun v1=>(loop (A2h p1 x1 v1) (x1.1,0)).bind fun y2=>some (.go (y2,(w64 (x1.2+1))))) (some (.out x1.1))
noncomputable def A58 (p1:Map):Option (List Clash):=
  (loop (A2i p1) ([],0)).bind fun y1=>some y1
theorem B57 (p1:Map)(r:(List Clash))(h:A58 p1=some r):PCall Try.prog 80 [(.agg (A27 p1))] (.list (List.map L9 r)):=by
 refine G2 (fk Try.func80 Try.ntmps80 (fun r=>if r==8 then [1005]else []) (by with_unfolding_all rfl)) (nl rfl) ?_
 unfold A58 at h
 refine A9 (s0:=⟨T [(0,(.d _))],G []⟩) (sbr rfl rfl) ?_
 refine lr (fun u1 hu1=>sn rfl rfl (sv rfl (A3 (A8 (lr (fun u2 hu2=>sp rfl rfl (sl rfl G_hit rfl (sd rfl (K5 rfl) (sv rfl (A3 (bs h fun y1 hy1 h=>H8 (fun s=> ∃g1:Nat,Sb ⟨T [(2,(oS y1 (42,g1)))],G [((42,g1),oB 145 4 L9 y1)]⟩ s) ?_ ?_)))))))))))
 refine A7 (I0 (A2i p1) (fun (x1:((List Clash)×Int)) (g2:Nat)=>⟨T [(1,(.ptr (1,u1) 0)),(2,(oS x1.1 (42,g2))),(8,(dl U8 p1.Zones)),(9,(di (p1.Zones.length:Int))),(10,(di x1.2))],G [((1,u1),some (.box 28 (A1v p1))),((42,g2),oB 145 4 L9 x1.1)]⟩) ([],0) 0 _ hy1 (H9 ⟨.of rfl, .of rfl, .of rfl, .of rfl, .of rfl,trivial⟩ (B5 G_hit (.of rfl) (X6 trivial))) ?_)
 intro x1 g2 z1 hz1 ez1
 unfold A2i at hz1
 refine lr (fun u3 hu3=>sv rfl (A3 (A8 (cc rfl hz1 (fun c1 hz1=> ?_) (fun c1 hz1=> ?_)))))
 refine B3 (A8 (A7 (lr (fun u4 hu4=>sv rfl (bs hz1 fun v1 hv1 hz1=>sd rfl (J8 rfl rfl hv1 rfl) (sd rfl (N3 rfl hv1 rfl rfl) (sn rfl rfl (sv rfl (sst rfl G_hit [(dl R6 v1.Parts),(di v1.Signal_)] rfl (A3 (lr (fun u5 hu5=>sp rfl rfl (sl rfl G_hit rfl (sd rfl (K5 rfl) (sv rfl (A3 (bs hz1 fun y2 hy2 hz1=>H8 (fun s=> ∃g3:Nat,Sb ⟨T [(1,(.ptr (1,u1) 0)),(2,(oS y2 (42,g3))),(8,(dl U8 p1.Zones)),(9,(di (p1.Zones.length:Int))),(10,(di x1.2))],G [((1,u1),some (.box 28 (A1v p1))),((42,g3),oB 145 4 L9 y2)]⟩ s) ?_ ?_)))))))))))))))))
 refine A7 (I0 (A2h p1 x1 v1) (fun (x2:((List Clash)×Int)) (g4:Nat)=>⟨T [(1,(.ptr (1,u1) 0)),(2,(oS x2.1 (42,g4))),(3,(di x1.2)),(4,(.ptr (4,u4) 0)),(8,(dl U8 p1.Zones)),(9,(di (p1.Zones.length:Int))),(10,(di x1.2)),(16,(dl R6 v1.Parts)),(17,(di (v1.Parts.length:Int))),(18,(di x2.2))],G [((1,u1),some (.box 28 (A1v p1))),((4,u4),some (.box 69 [(dl R6 v1.Parts),(di v1.Signal_)])),((42,g4),oB 145 4 L9 x2.1)]⟩) (x1.1,0) g2 _ hy2 (H9 ⟨.of rfl, .of rfl, .of rfl, .of rfl, .of rfl, .of rfl, .of rfl, .of rfl, .of rfl, .of rfl,trivial⟩ (sg rfl (B5 G_hit (.of rfl) (I9 (gq rfl) trivial)))) ?_)
 intro x2 g4 z2 hz2 ez2
 unfold A2h at hz2
 refine lr (fun u6 hu6=>sv rfl (A3 (A8 (cc rfl hz2 (fun c2 hz2=> ?_) (fun c2 hz2=> ?_)))))
 refine B3 (A8 (A7 (lr (fun u7 hu7=>bs hz2 fun v2 hv2 hz2=>sd rfl (J8 rfl rfl hv2 rfl) (sd rfl (N3 rfl hv2 rfl rfl) (sn rfl rfl (sst rfl G_hit (B2r v2) rfl (A3 (lr (fun u8 hu8=>sd rfl (E0 rfl (gq rfl) rfl rfl) (sd rfl (E0 rfl (gq rfl) rfl rfl) (sp rfl rfl (sl rfl G_hit rfl (bs hz2 fun v3 hv3 hz2=>C9 rfl rfl A4 (A7b _ _ _ _ hv3) (.inl rfl) (E2 (.d (bo (!v3))) rfl rfl (sv rfl (gt rfl (fun w1=>(E0 rfl (gq rfl) rfl rfl)) (gt rfl (fun w2=>(E0 rfl (gq rfl) rfl rfl)) (gp rfl (A62 rfl) (fun _=>rfl) (gt rfl (vl rfl G_hit rfl) (bs hz2 fun v4 hv4 hz2=> ?_)))))))))))))))))))))
 refine A0v _ (bo v4) (A62 rfl) (fun w5=>⟨_,[(.d (.agg (A27 p1))),(.d (.agg [(.list (List.map R6 v1.Parts)),(i64 v1.Signal_)])),(di v2.Lane_)],_,_,(by simp only [A6 w5];rfl),rfl,A4,A9d _ _ _ _ (G6 w5 hv4),(.inl rfl)⟩) ?_
 refine A3b _ (.d (bo (!v4))) rfl (A62 rfl) (fun w6=>(by simp only [A6 w6];rfl)) ?_
 refine sa rfl rfl rfl (A3 (cc rfl hz2 (fun c3 hz2=> ?_) (fun c3 hz2=> ?_)))
 refine A9 (s0:=⟨T [(1,(.ptr (1,u1) 0)),(2,(oS x2.1 (42,g4))),(3,(di x1.2)),(4,(.ptr (4,u4) 0)),(6,(.ptr (6,u7) 0)),(8,(dl U8 p1.Zones)),(9,(di (p1.Zones.length:Int))),(10,(di x1.2)),(16,(dl R6 v1.Parts)),(17,(di (v1.Parts.length:Int))),(18,(di x2.2))],G [((1,u1),some (.box 28 (A1v p1))),((42,g4),oB 145 4 L9 x2.1),((4,u4),some (.box 69 [(dl R6 v1.Parts),(di v1.Signal_)])),((6,u7),some (.box 71 (B2r v2)))]⟩) (H9 ⟨.of rfl, .of rfl, .of rfl, .of rfl, .of rfl, .of rfl, .of rfl, .of rfl, .of rfl, .of rfl, .of rfl,trivial⟩ (sg rfl (I9 (gq rfl) (sg rfl (B5 G_hit (.of rfl) trivial))))) ?_
 refine D1 fun u9 hu9=>E2 (oS x2.1 (42,g4)) rfl rfl (sv rfl (sp rfl rfl (sl rfl (gq rfl) rfl (sv rfl (E2 (dl L9 [(Clash.mk 2 x1.2 v2.Lane_ (-1))]) rfl rfl (bs hz2 fun v5 hv5 hz2=>A02 L9 (42,g4) x2.1 (Clash.mk 2 x1.2 v2.Lane_ (-1)) [] _ (U7 (fun _=>rfl)) rfl (gq rfl) hv5 (ss rfl (A3 (I5 (A9 (s0:=⟨T [(1,(.ptr _ _)),(2,(.sl _)),(3,(.d _)),(4,(.ptr _ _)),(8,(.d _)),(9,(.d _)),(10,(.d _)),(16,(.d _)),(17,(.d _)),(18,(.d _))],G [((1,u1),some (.box 28 _)),((42,u9),some _),((4,u4),some (.box 69 _))]⟩) (sbr rfl rfl) ?_))))))))))
 refine D1 fun u10 hu10=>sv rfl (sv rfl (A3 (J2 ?_)))
 cases hz2
 exact ⟨rfl,u9,(H9 ⟨.of rfl,(.of (A34 (A3l hv5)).symm), .of rfl, .of rfl, .of rfl, .of rfl, .of rfl, .of rfl, .of rfl, .of rfl,trivial⟩ (B5 G_hit (.of rfl) (sg rfl (R5 (gq rfl) trivial))))⟩
 refine B3 (I5 (A9 (s0:=⟨T [(1,(.ptr (1,u1) 0)),(2,(oS x2.1 (42,g4))),(3,(di x1.2)),(4,(.ptr (4,u4) 0)),(8,(dl U8 p1.Zones)),(9,(di (p1.Zones.length:Int))),(10,(di x1.2)),(16,(dl R6 v1.Parts)),(17,(di (v1.Parts.length:Int))),(18,(di x2.2))],G [((1,u1),some (.box 28 (A1v p1))),((42,g4),oB 145 4 L9 x2.1),((4,u4),some (.box 69 [(dl R6 v1.Parts),(di v1.Signal_)]))]⟩) (H9 ⟨.of rfl, .of rfl, .of rfl, .of rfl, .of rfl, .of rfl, .of rfl, .of rfl, .of rfl, .of rfl,trivial⟩ (sg rfl (I9 (gq rfl) (sg rfl trivial)))) ?_))
 refine D1 fun u11 hu11=>sv rfl (sv rfl (A3 (J2 ?_)))
 cases hz2
 exact ⟨rfl,g4,(H9 ⟨.of rfl, .of rfl, .of rfl, .of rfl, .of rfl, .of rfl, .of rfl, .of rfl, .of rfl, .of rfl,trivial⟩ (B5 G_hit (.of rfl) (sg rfl (I9 (gq rfl) trivial))))⟩
 refine E5 rfl ?_
 cases hz2
 obtain rfl:=ez2 _ rfl
 refine ⟨nofun,E3 rfl (l_j ?_)⟩
 exact ⟨g4,(H9 ⟨.of rfl, .of rfl, .of rfl, .of rfl, .of rfl,trivial⟩ (B5 G_hit (.of rfl) (I9 (gq rfl) trivial)))⟩
 rintro _ ⟨g3,q1⟩
 refine I5 (A9 q1 (D1 fun u12 hu12=>sv rfl (sv rfl (A3 (J2 ?_)))))
 cases hz1
 exact ⟨rfl,g3,(H9 ⟨.of rfl, .of rfl, .of rfl, .of rfl, .of rfl,trivial⟩ (B5 G_hit (.of rfl) (I9 (gq rfl) trivial)))⟩
 refine E5 rfl ?_
 cases hz1
 obtain rfl:=ez1 _ rfl
 refine ⟨nofun,E3 rfl (l_j ?_)⟩
 exact ⟨g2,(H9 ⟨.of rfl,trivial⟩ (I9 (gq rfl) trivial))⟩
 rintro _ ⟨g1,q2⟩
 refine A9 q2 (lr (fun u13 hu13=>E2 (oS y1 (42,g1)) rfl rfl (E2 (oS y1 (42,g1)) rfl rfl (A3 (D5 ?_)))))
 cases h
 exact B0 (.inr rfl) (E4 (E1 rfl) (A77 G_hit)) A76
noncomputable def A1s (p1:Map)(p2:Zone)(x1:((List Int)×Int)):Option (Stp ((List Int)×Int) (List Int)):=
  cond (decide (x1.2< (p2.Parts.length:Int))) ((F3 p2.Parts x1.2).bind fun v1=>(A3n p1 p2 v1.Lane_).bind fun v2=>cond v2 ((B0m x1.1 [v1.Lane_]).bind fun v3=>some (.go (v3,(w64 (x1.2+1))))) (some (.go (x1.1,(w64 (x1.2+1)))))) (some (.out x1.1))
noncomputable def A1m (p1:Map)(p2:Zone):Option (List Int):=
  (loop (A1s p1 p2) ([],0)).bind fun y1=>some y1
theorem A5i (p1:Map)(p2:Zone)(r:(List Int))(h:A1m p1 p2=some r):PCall Try.prog 56 [(.agg (A27 p1)),(.agg [(.list (List.map R6 p2.Parts)),(i64 p2.Signal_)])] (.list (List.map A5 r)):=by
 refine G2 (fk Try.func56 Try.ntmps56 (fun r=>if r==6 then [1003]else []) (by with_unfolding_all rfl)) (nl rfl) ?_
 unfold A1m at h
 refine A9 (s0:=⟨T [(0,(.d _)),(1,(.d _))],G []⟩) (sbr rfl rfl) ?_
 refine lr (fun u1 hu1=>sn rfl rfl (sn rfl rfl (sv rfl (A3 (lr (fun u2 hu2=>sv rfl (A3 (A8 (lr (fun u3 hu3=>sp rfl rfl (sl rfl G_hit rfl (sd rfl (K5 rfl) (sv rfl (A3 (bs h fun y1 hy1 h=>H8 (fun s=> ∃g1:Nat,Sb ⟨T [(5,(oS y1 (24,g1)))],G [((24,g1),oB 3 1 A5 y1)]⟩ s) ?_ ?_)))))))))))))))
 refine A7 (I0 (A1s p1 p2) (fun (x1:((List Int)×Int)) (g2:Nat)=>⟨T [(2,(.ptr (2,u1) 0)),(3,(.ptr (3,u1) 0)),(5,(oS x1.1 (24,g2))),(9,(dl R6 p2.Parts)),(10,(di (p2.Parts.length:Int))),(11,(di x1.2))],G [((2,u1),some (.box 28 (A1v p1))),((3,u1),some (.box 69 [(dl R6 p2.Parts),(di p2.Signal_)])),((24,g2),oB 3 1 A5 x1.1)]⟩) ([],0) 0 _ hy1 (H9 ⟨.of rfl, .of rfl, .of rfl, .of rfl, .of rfl, .of rfl,trivial⟩ (sg rfl (B5 G_hit (.of rfl) (X6 trivial)))) ?_)
 intro x1 g2 z1 hz1 ez1
 unfold A1s at hz1
 refine lr (fun u4 hu4=>sv rfl (A3 (A8 (cc rfl hz1 (fun c1 hz1=> ?_) (fun c1 hz1=> ?_)))))
 refine B3 (A8 (A7 (lr (fun u5 hu5=>bs hz1 fun v1 hv1 hz1=>sd rfl (J8 rfl rfl hv1 rfl) (sd rfl (N3 rfl hv1 rfl rfl) (sn rfl rfl (sst rfl G_hit (B2r v1) rfl (A3 (lr (fun u6 hu6=>sd rfl (E0 rfl (gq rfl) rfl rfl) (sd rfl (E0 rfl (gq rfl) rfl rfl) (sp rfl rfl (sl rfl G_hit rfl (bs hz1 fun v2 hv2 hz1=>C9 rfl rfl A4 (A7b _ _ _ _ hv2) (.inl rfl) (A3 (cc rfl hz1 (fun c2 hz1=> ?_) (fun c2 hz1=> ?_)))))))))))))))))
 refine D1 fun u7 hu7=>E2 (oS x1.1 (24,g2)) rfl rfl (sp rfl rfl (sl rfl G_hit rfl (E2 (dl A5 [v1.Lane_]) rfl rfl (bs hz1 fun v3 hv3 hz1=>A02 A5 (24,g2) x1.1 v1.Lane_ [] _ (U7 (fun _=>rfl)) rfl (gq rfl) hv3 (ss rfl (A3 (I5 (A9 (s0:=⟨T [(2,(.ptr _ _)),(3,(.ptr _ _)),(5,(.sl _)),(9,(.d _)),(10,(.d _)),(11,(.d _))],G [((2,u1),some (.box 28 _)),((3,u1),some (.box 69 _)),((24,u7),some _)]⟩) (sbr rfl rfl) ?_))))))))
 refine D1 fun u8 hu8=>sv rfl (sv rfl (A3 (J2 ?_)))
 cases hz1
 exact ⟨rfl,u7,(H9 ⟨.of rfl, .of rfl,(.of (A34 (A3l hv3)).symm), .of rfl, .of rfl, .of rfl,trivial⟩ (B5 G_hit (.of rfl) (sg rfl (R5 (gq rfl) trivial))))⟩
 refine B3 (I5 (D1 fun u9 hu9=>sv rfl (sv rfl (A3 (J2 ?_)))))
 cases hz1
 exact ⟨rfl,g2,(H9 ⟨.of rfl, .of rfl, .of rfl, .of rfl, .of rfl, .of rfl,trivial⟩ (sg rfl (sg rfl (I9 (gq rfl) trivial))))⟩
 refine E5 rfl ?_
 cases hz1
 obtain rfl:=ez1 _ rfl
 refine ⟨nofun,E3 rfl (l_j ?_)⟩
 exact ⟨g2,(H9 ⟨.of rfl,trivial⟩ (I9 (gq rfl) trivial))⟩
 rintro _ ⟨g1,q1⟩
 refine A9 q1 (lr (fun u10 hu10=>E2 (oS y1 (24,g1)) rfl rfl (E2 (oS y1 (24,g1)) rfl rfl (A3 (D5 ?_)))))
 cases h
 exact B0 (.inr rfl) (E4 (E1 rfl) (A77 G_hit)) A76
noncomputable def A46 (p1:Zone)(p2:Int)(p3:Int):Option Bool:=
  (A3v p1 p2).bind fun v1=>(A3v p1 p3).bind fun v2=>some ((p1.Signal_==0)&& (v1.1.Rank==v2.1.Rank))
theorem B3k (p1:Zone)(p2:Int)(p3:Int)(r:Bool)(h:A46 p1 p2 p3=some r):PCall Try.prog 114 [(.agg [(.list (List.map R6 p1.Parts)),(i64 p1.Signal_)]),(i64 p2),(i64 p3)] (bo r):=by
 refine G2 (fk Try.func114 Try.ntmps114 m0 (by with_unfolding_all rfl)) (nl rfl) ?_
 unfold A46 at h
 refine A9 (s0:=⟨T [(0,(.d _)),(1,(.d _)),(2,(.d _))],G []⟩) (sbr rfl rfl) ?_
 refine lr (fun u1 hu1=>sn rfl rfl (sv rfl (A3 (lr (fun u2 hu2=>sd rfl (E0 rfl G_hit rfl rfl) (sv rfl (bs h fun v1 hv1 h=>C9 rfl rfl A4 (A5w _ _ _ hv1) (.inl rfl) (sv rfl (sv rfl (sv rfl (sn rfl rfl (sst rfl G_hit (B2r v1.1) rfl (sv rfl (A3 (lr (fun u3 hu3=>sd rfl (E0 rfl (gq rfl) rfl rfl) (sv rfl (bs h fun v2 hv2 h=>C9 rfl rfl A4 (A5w _ _ _ hv2) (.inl rfl) (sv rfl (sv rfl (sv rfl (sn rfl rfl (sst rfl G_hit (B2r v2.1) rfl (sv rfl (A3 (A8 (A9 (s0:=⟨T [(3,(.ptr _ _)),(7,(.ptr _ _)),(9,(.ptr _ _))],G [((3,u1),some (.box 69 _)),((7,u2),some (.box 71 _)),((9,u3),some (.box 71 _))]⟩) (sbr rfl rfl) ?_)))))))))))))))))))))))))))
 refine D1 fun u4 hu4=>sp rfl rfl (sl rfl G_hit rfl (sv rfl (sv rfl (gp rfl (A62 rfl) (fun _=>rfl) (gt rfl (vl rfl (gq rfl) rfl) (gp rfl (A62 rfl) (fun _=>rfl) (gt rfl (vl rfl (gq rfl) rfl) (gt rfl (fun w5=>(A1w (A6 w5) (A6 w5) rfl)) (sa rfl rfl rfl (sv rfl (A3 (D5 ?_))))))))))))
 cases h
 exact B0 (.inr rfl) (E4 (E1 rfl) N9) (.refl _)
noncomputable def O8 (p2:Int)(x1:((List Clash)×Int))(v1:Zone)(v3:Int)(v4:List Int)(x3:((List Clash)×Int)):Option (Stp ((List Clash)×Int) (List Clash)):=
  cond (decide (x3.2< (v4.length:Int))) ((F3 v4 x3.2).bind fun v5=>(A46 v1 v3 v5).bind fun v6=>cond v6 ((B0m x3.1 [(Clash.mk p2 x1.2 v3 v5)]).bind fun v7=>some (.go (v7,(w64 (x3.2+1))))) (some (.go (x3.1,(w64 (x3.2+1)))))) (some (.out x3.1))
noncomputable def O9 (p2:Int)(x1:((List Clash)×Int))(v1:Zone)(v2:(List Int))(x2:((List Clash)×Int)):Option (Stp ((List Clash)×Int) (List Clash)):=
  cond (decide (x2.2< (v2.length:Int))) ((F3 v2 x2.2).bind fun v3=>(C3n v2 (w64 (x2.2+1)) (v2.length:Int)).bind fun v4=>(loop (O8 p2 x1 v1 v3 v4) (x2.1,0)).bind fun y3=>some (.go (y3,(w64 (x2.2+1))))) (some (.out x2.1))
noncomputable def P0 (p1:Map)(p2:Int)(x1:((List Clash)×Int)):Option (Stp ((List Clash)×Int) (List Clash)):=
  cond (decide (x1.2< (p1.Zones.length:Int))) ((F3 p1.Zones x1.2).bind fun v1=>(A1m p1 v1).bind fun v2=>(loop (O9 p2 x1 v1 v2) (x1.1,0)).bind fun y2=>some (.go (y2,(w64 (x1.2+1))))) (some (.out x1.1))
noncomputable def S3 (p1:Map)(p2:Int):Option (List Clash):=
  (loop (P0 p1 p2) ([],0)).bind fun y1=>some y1
theorem A5x (p1:Map)(p2:Int)(r:(List Clash))(h:S3 p1 p2=some r):PCall Try.prog 113 [(.agg (A27 p1)),(i64 p2),(.fn (.func 114) [] [])] (.list (List.map L9 r)):=by
 refine G2 (fk Try.func113 Try.ntmps113 (fun r=>if r==12 then [1006]else []) (by with_unfolding_all rfl)) (nl rfl) ?_
 unfold S3 at h
 refine A9 (s0:=⟨T [(0,(.d _)),(1,(.d _)),(2,(.d _))],G []⟩) (sbr rfl rfl) ?_
 refine lr (fun u1 hu1=>sn rfl rfl (sv rfl (A3 (A8 (lr (fun u2 hu2=>sp rfl rfl (sl rfl G_hit rfl (sd rfl (K5 rfl) (sv rfl (A3 (bs h fun y1 hy1 h=>H8 (fun s=> ∃g1:Nat,Sb ⟨T [(6,(oS y1 (53,g1)))],G [((53,g1),oB 145 4 L9 y1)]⟩ s) ?_ ?_)))))))))))
 refine A7 (I0 (P0 p1 p2) (fun (x1:((List Clash)×Int)) (g2:Nat)=>⟨T [(1,(di p2)),(2,(.d (.fn (.func 114) [] []))),(3,(.ptr (3,u1) 0)),(6,(oS x1.1 (53,g2))),(15,(dl U8 p1.Zones)),(16,(di (p1.Zones.length:Int))),(17,(di x1.2))],G [((3,u1),some (.box 28 (A1v p1))),((53,g2),oB 145 4 L9 x1.1)]⟩) ([],0) 0 _ hy1 (H9 ⟨.of rfl, .of rfl, .of rfl, .of rfl, .of rfl, .of rfl, .of rfl,trivial⟩ (B5 G_hit (.of rfl) (X6 trivial))) ?_)
 intro x1 g2 z1 hz1 ez1
 unfold P0 at hz1
 refine lr (fun u3 hu3=>sv rfl (A3 (A8 (cc rfl hz1 (fun c1 hz1=> ?_) (fun c1 hz1=> ?_)))))
 refine B3 (A8 (A7 (lr (fun u4 hu4=>sv rfl (bs hz1 fun v1 hv1 hz1=>sd rfl (J8 rfl rfl hv1 rfl) (sd rfl (N3 rfl hv1 rfl rfl) (sn rfl rfl (sv rfl (sst rfl G_hit [(dl R6 v1.Parts),(di v1.Signal_)] rfl (A3 (lr (fun u5 hu5=>sd rfl (E0 rfl (gq rfl) rfl rfl) (sd rfl (E0 rfl G_hit rfl rfl) (bs hz1 fun v2 hv2 hz1=>C9 rfl rfl A4 (A5i _ _ _ hv2) (.inl rfl) (sv rfl (A3 (lr (fun u6 hu6=>sv rfl (sd rfl (K5 rfl) (sv rfl (A3 (bs hz1 fun y2 hy2 hz1=>H8 (fun s=> ∃g3:Nat,Sb ⟨T [(1,(di p2)),(2,(.d (.fn (.func 114) [] []))),(3,(.ptr (3,u1) 0)),(6,(oS y2 (53,g3))),(15,(dl U8 p1.Zones)),(16,(di (p1.Zones.length:Int))),(17,(di x1.2))],G [((3,u1),some (.box 28 (A1v p1))),((53,g3),oB 145 4 L9 y2)]⟩ s) ?_ ?_))))))))))))))))))))))
 refine A7 (I0 (O9 p2 x1 v1 v2) (fun (x2:((List Clash)×Int)) (g4:Nat)=>⟨T [(1,(di p2)),(2,(.d (.fn (.func 114) [] []))),(3,(.ptr (3,u1) 0)),(6,(oS x2.1 (53,g4))),(7,(di x1.2)),(8,(.ptr (8,u4) 0)),(9,(dl A5 v2)),(15,(dl U8 p1.Zones)),(16,(di (p1.Zones.length:Int))),(17,(di x1.2)),(25,(dl A5 v2)),(26,(di (v2.length:Int))),(27,(di x2.2))],G [((3,u1),some (.box 28 (A1v p1))),((8,u4),some (.box 69 [(dl R6 v1.Parts),(di v1.Signal_)])),((53,g4),oB 145 4 L9 x2.1)]⟩) (x1.1,0) g2 _ hy2 (H9 ⟨.of rfl, .of rfl, .of rfl, .of rfl, .of rfl, .of rfl, .of rfl, .of rfl, .of rfl, .of rfl, .of rfl, .of rfl, .of rfl,trivial⟩ (sg rfl (B5 G_hit (.of rfl) (I9 (gq rfl) trivial)))) ?_)
 intro x2 g4 z2 hz2 ez2
 unfold O9 at hz2
 refine lr (fun u7 hu7=>sv rfl (A3 (A8 (cc rfl hz2 (fun c2 hz2=> ?_) (fun c2 hz2=> ?_)))))
 refine B3 (A8 (A7 (lr (fun u8 hu8=>sv rfl (bs hz2 fun v3 hv3 hz2=>sd rfl (J8 rfl rfl hv3 rfl) (sd rfl (F4 rfl hv3 rfl) (sv rfl (sv rfl (A3 (lr (fun u9 hu9=>sv rfl (sv rfl (sv rfl (bs hz2 fun v4 hv4 hz2=>sd rfl (C7a rfl (fun _=>rfl) (D1x rfl) C1j hv4) (sd rfl (K5 rfl) (sv rfl (A3 (bs hz2 fun y3 hy3 hz2=>H8 (fun s=> ∃g5:Nat,Sb ⟨T [(1,(di p2)),(2,(.d (.fn (.func 114) [] []))),(3,(.ptr (3,u1) 0)),(6,(oS y3 (53,g5))),(7,(di x1.2)),(8,(.ptr (8,u4) 0)),(9,(dl A5 v2)),(15,(dl U8 p1.Zones)),(16,(di (p1.Zones.length:Int))),(17,(di x1.2)),(25,(dl A5 v2)),(26,(di (v2.length:Int))),(27,(di x2.2))],G [((3,u1),some (.box 28 (A1v p1))),((8,u4),some (.box 69 [(dl R6 v1.Parts),(di v1.Signal_)])),((53,g5),oB 145 4 L9 y3)]⟩ s) ?_ ?_))))))))))))))))))
 refine A7 (I0 (O8 p2 x1 v1 v3 v4) (fun (x3:((List Clash)×Int)) (g6:Nat)=>⟨T [(1,(di p2)),(2,(.d (.fn (.func 114) [] []))),(3,(.ptr (3,u1) 0)),(6,(oS x3.1 (53,g6))),(7,(di x1.2)),(8,(.ptr (8,u4) 0)),(9,(dl A5 v2)),(11,(di v3)),(15,(dl U8 p1.Zones)),(16,(di (p1.Zones.length:Int))),(17,(di x1.2)),(25,(dl A5 v2)),(26,(di (v2.length:Int))),(27,(di x2.2)),(35,(dl A5 v4)),(36,(di (v4.length:Int))),(37,(di x3.2))],G [((3,u1),some (.box 28 (A1v p1))),((8,u4),some (.box 69 [(dl R6 v1.Parts),(di v1.Signal_)])),((53,g6),oB 145 4 L9 x3.1)]⟩) (x2.1,0) g4 _ hy3 (H9 ⟨.of rfl, .of rfl, .of rfl, .of rfl, .of rfl, .of rfl, .of rfl, .of rfl, .of rfl, .of rfl, .of rfl, .of rfl, .of rfl, .of rfl, .of rfl, .of rfl, .of rfl,trivial⟩ (B5 G_hit (.of rfl) (sg rfl (I9 (gq rfl) trivial)))) ?_)
 intro x3 g6 z3 hz3 ez3
 unfold O8 at hz3
 refine lr (fun u10 hu10=>sv rfl (A3 (A8 (cc rfl hz3 (fun c3 hz3=> ?_) (fun c3 hz3=> ?_)))))
 refine B3 (A8 (A7 (lr (fun u11 hu11=>bs hz3 fun v5 hv5 hz3=>sd rfl (J8 rfl rfl hv5 rfl) (sd rfl (F4 rfl hv5 rfl) (sv rfl (A3 (lr (fun u12 hu12=>sv rfl (sd rfl (E0 rfl (gq rfl) rfl rfl) (sv rfl (sv rfl (bs hz3 fun v6 hv6 hz3=>C9 rfl rfl A4 (B3k _ _ _ _ hv6) (.inl rfl) (A3 (cc rfl hz3 (fun c4 hz3=> ?_) (fun c4 hz3=> ?_))))))))))))))))
 refine A9 (s0:=⟨T [(1,(di p2)),(2,(.d (.fn (.func 114) [] []))),(3,(.ptr (3,u1) 0)),(6,(oS x3.1 (53,g6))),(7,(di x1.2)),(8,(.ptr (8,u4) 0)),(9,(dl A5 v2)),(11,(di v3)),(13,(di v5)),(15,(dl U8 p1.Zones)),(16,(di (p1.Zones.length:Int))),(17,(di x1.2)),(25,(dl A5 v2)),(26,(di (v2.length:Int))),(27,(di x2.2)),(35,(dl A5 v4)),(36,(di (v4.length:Int))),(37,(di x3.2))],G [((3,u1),some (.box 28 (A1v p1))),((53,g6),oB 145 4 L9 x3.1),((8,u4),some (.box 69 [(dl R6 v1.Parts),(di v1.Signal_)]))]⟩) (H9 ⟨.of rfl, .of rfl, .of rfl, .of rfl, .of rfl, .of rfl, .of rfl, .of rfl, .of rfl, .of rfl, .of rfl, .of rfl, .of rfl, .of rfl, .of rfl, .of rfl, .of rfl, .of rfl,trivial⟩ (B5 G_hit (.of rfl) (I9 (gq rfl) (sg rfl trivial)))) ?_
 refine D1 fun u13 hu13=>E2 (oS x3.1 (53,g6)) rfl rfl (sv rfl (sv rfl (sv rfl (sv rfl (sv rfl (E2 (dl L9 [(Clash.mk p2 x1.2 v3 v5)]) rfl rfl (bs hz3 fun v7 hv7 hz3=>A02 L9 (53,g6) x3.1 (Clash.mk p2 x1.2 v3 v5) [] _ (U7 (fun _=>rfl)) rfl (gq rfl) hv7 (ss rfl (A3 (I5 (A9 (s0:=⟨T [(1,(.d _)),(2,(.d _)),(3,(.ptr _ _)),(6,(.sl _)),(7,(.d _)),(8,(.ptr _ _)),(9,(.d _)),(11,(.d _)),(15,(.d _)),(16,(.d _)),(17,(.d _)),(25,(.d _)),(26,(.d _)),(27,(.d _)),(35,(.d _)),(36,(.d _)),(37,(.d _))],G [((3,u1),some (.box 28 _)),((53,u13),some _),((8,u4),some (.box 69 _))]⟩) (sbr rfl rfl) ?_)))))))))))
 refine D1 fun u14 hu14=>sv rfl (sv rfl (A3 (J2 ?_)))
 cases hz3
 exact ⟨rfl,u13,(H9 ⟨.of rfl, .of rfl, .of rfl,(.of (A34 (A3l hv7)).symm), .of rfl, .of rfl, .of rfl, .of rfl, .of rfl, .of rfl, .of rfl, .of rfl, .of rfl, .of rfl, .of rfl, .of rfl, .of rfl,trivial⟩ (B5 G_hit (.of rfl) (sg rfl (R5 (gq rfl) trivial))))⟩
 refine B3 (I5 (A9 (s0:=⟨T [(1,(di p2)),(2,(.d (.fn (.func 114) [] []))),(3,(.ptr (3,u1) 0)),(6,(oS x3.1 (53,g6))),(7,(di x1.2)),(8,(.ptr (8,u4) 0)),(9,(dl A5 v2)),(11,(di v3)),(15,(dl U8 p1.Zones)),(16,(di (p1.Zones.length:Int))),(17,(di x1.2)),(25,(dl A5 v2)),(26,(di (v2.length:Int))),(27,(di x2.2)),(35,(dl A5 v4)),(36,(di (v4.length:Int))),(37,(di x3.2))],G [((3,u1),some (.box 28 (A1v p1))),((53,g6),oB 145 4 L9 x3.1),((8,u4),some (.box 69 [(dl R6 v1.Parts),(di v1.Signal_)]))]⟩) (H9 ⟨.of rfl, .of rfl, .of rfl, .of rfl, .of rfl, .of rfl, .of rfl, .of rfl, .of rfl, .of rfl, .of rfl, .of rfl, .of rfl, .of rfl, .of rfl, .of rfl, .of rfl,trivial⟩ (B5 G_hit (.of rfl) (I9 (gq rfl) (sg rfl trivial)))) ?_))
 refine D1 fun u15 hu15=>sv rfl (sv rfl (A3 (J2 ?_)))
 cases hz3
 exact ⟨rfl,g6,(H9 ⟨.of rfl, .of rfl, .of rfl, .of rfl, .of rfl, .of rfl, .of rfl, .of rfl, .of rfl, .of rfl, .of rfl, .of rfl, .of rfl, .of rfl, .of rfl, .of rfl, .of rfl,trivial⟩ (B5 G_hit (.of rfl) (sg rfl (I9 (gq rfl) trivial))))⟩
 refine E5 rfl ?_
 cases hz3
 obtain rfl:=ez3 _ rfl
 refine ⟨nofun,E3 rfl (l_j ?_)⟩
 exact ⟨g6,(H9 ⟨.of rfl, .of rfl, .of rfl, .of rfl, .of rfl, .of rfl, .of rfl, .of rfl, .of rfl, .of rfl, .of rfl, .of rfl, .of rfl,trivial⟩ (B5 G_hit (.of rfl) (sg rfl (I9 (gq rfl) trivial))))⟩
 rintro _ ⟨g5,q1⟩
 refine I5 (A9 q1 (D1 fun u16 hu16=>sv rfl (sv rfl (A3 (J2 ?_)))))
 cases hz2
 exact ⟨rfl,g5,(H9 ⟨.of rfl, .of rfl, .of rfl, .of rfl, .of rfl, .of rfl, .of rfl, .of rfl, .of rfl, .of rfl, .of rfl, .of rfl, .of rfl,trivial⟩ (B5 G_hit (.of rfl) (sg rfl (I9 (gq rfl) trivial))))⟩
 refine E5 rfl ?_
 cases hz2
 obtain rfl:=ez2 _ rfl
 refine ⟨nofun,E3 rfl (l_j ?_)⟩
 exact ⟨g4,(H9 ⟨.of rfl, .of rfl, .of rfl, .of rfl, .of rfl, .of rfl, .of rfl,trivial⟩ (B5 G_hit (.of rfl) (I9 (gq rfl) trivial)))⟩
 rintro _ ⟨g3,q2⟩
 refine I5 (A9 q2 (D1 fun u17 hu17=>sv rfl (sv rfl (A3 (J2 ?_)))))
 cases hz1
 exact ⟨rfl,g3,(H9 ⟨.of rfl, .of rfl, .of rfl, .of rfl, .of rfl, .of rfl, .of rfl,trivial⟩ (B5 G_hit (.of rfl) (I9 (gq rfl) trivial)))⟩
 refine E5 rfl ?_
 cases hz1
 obtain rfl:=ez1 _ rfl
 refine ⟨nofun,E3 rfl (l_j ?_)⟩
 exact ⟨g2,(H9 ⟨.of rfl,trivial⟩ (I9 (gq rfl) trivial))⟩
 rintro _ ⟨g1,q3⟩
 refine A9 q3 (lr (fun u18 hu18=>E2 (oS y1 (53,g1)) rfl rfl (E2 (oS y1 (53,g1)) rfl rfl (A3 (D5 ?_)))))
 cases h
 exact B0 (.inr rfl) (E4 (E1 rfl) (A77 G_hit)) A76
noncomputable def A6c (p1:Map):Option (List Clash):=
  (S3 p1 3).bind fun v1=>some v1
theorem B63 (p1:Map)(r:(List Clash))(h:A6c p1=some r):PCall Try.prog 81 [(.agg (A27 p1))] (.list (List.map L9 r)):=by
 refine G2 (fk Try.func81 Try.ntmps81 m0 (by with_unfolding_all rfl)) (nl rfl) ?_
 unfold A6c at h
 refine A9 (s0:=⟨T [(0,(.d _))],G []⟩) (sbr rfl rfl) ?_
 refine lr (fun u1 hu1=>sn rfl rfl (sv rfl (A3 (lr (fun u2 hu2=>sd rfl (E0 rfl G_hit rfl rfl) (bs h fun v1 hv1 h=>C9 rfl rfl A4 (A5x _ _ _ hv1) (.inl rfl) (sv rfl (A3 (D5 ?_)))))))))
 cases h
 exact B0 (.inr rfl) (E4 (E1 rfl) N9) (.refl _)
noncomputable def Y7 (p1:Phase)(p2:Int)(p3:Int):Option Bool:=
  (H7 p1.Green p2).bind fun v1=>((cond v1 (H7 p1.Green p3) (some default))).bind fun v2=>some (v1&&v2)
theorem A89 (p1:Phase)(p2:Int)(p3:Int)(r:Bool)(h:Y7 p1 p2 p3=some r):PCall Try.prog 116 [(.agg [(i64 p1.Ticks),(.list (List.map A5 p1.Green))]),(.bp [(i64 p2)] 0),(.bp [(i64 p3)] 0)] (bo r):=by
 refine G2 (fk Try.func116 Try.ntmps116 m0 (by with_unfolding_all rfl)) (nl rfl) ?_
 unfold Y7 at h
 refine A9 (s0:=⟨T [(0,(.d _)),(1,(.d _)),(2,(.d _))],G []⟩) (sbr rfl rfl) ?_
 refine lr (fun u1 hu1=>sn rfl rfl (sv rfl (A3 (lr (fun u2 hu2=>sp rfl rfl (sl rfl G_hit rfl (sv rfl (bs h fun v1 hv1 h=>C9 rfl rfl A4 (U5 _ _ _ hv1) (.inl rfl) (sv rfl (gp rfl (A62 rfl) (fun _=>rfl) (gt rfl (vl rfl G_hit rfl) (gt rfl (fun _=>rfl) (bs h fun v2 hv2 h=> ?_)))))))))))))
 refine A0v v1 (bo v2) (A62 rfl) (fun w4=>⟨_,[(dl A5 p1.Green),(di p3)],_,_,(by simp only [A6 w4];rfl),rfl,A4,U5 _ _ _ (G6 w4 hv2),(.inl rfl)⟩) ?_
 refine sa rfl rfl rfl (sv rfl (A3 (D5 ?_)))
 cases h
 exact B0 (.inr rfl) (E4 (E1 rfl) N9) (.refl _)
noncomputable def E6 (p1:(List Phase))(p2:Int)(p3:Int)(x1:Int):Option (Stp Int (Sum Unit Int)):=
  cond (decide (x1< (p1.length:Int))) ((F3 p1 x1).bind fun v1=>(Y7 v1 p2 p3).bind fun v2=>cond v2 (some (.out (.inr x1))) (some (.go (w64 (x1+1))))) (some (.out (.inl ())))
noncomputable def F7 (p1:(List Phase))(p2:Int)(p3:Int):Option Int:=
  thenS (loop (E6 p1 p2 p3) 0) (fun _=>some (-1)) (fun r=>some r)
theorem A09 (p1:(List Phase))(p2:Int)(p3:Int)(r:Int)(h:F7 p1 p2 p3=some r):PCall Try.prog 107 [(.list (List.map A66 p1)),(.fn (.func 116) [] [(.bp [(i64 p2)] 0),(.bp [(i64 p3)] 0)])] (i64 r):=by
 refine G2 (fk Try.func107 Try.ntmps107 m0 (by with_unfolding_all rfl)) (nl rfl) ?_
 unfold F7 at h
 refine A9 (s0:=⟨T [(0,(.d _)),(1,(.d _))],G []⟩) (sbr rfl rfl) ?_
 refine lr (fun u1 hu1=>sv rfl (A3 (A8 (lr (fun u2 hu2=>sv rfl (sd rfl (K5 rfl) (sv rfl (A3 (js h fun z1 hz1 h=>H8 (fun s=> ∃(y1:Unit) (g1:Unit),z1= .inl y1∧Sb ⟨T [],G []⟩ s) ?_ ?_)))))))))
 refine A7 (I0 (E6 p1 p2 p3) (fun (x1:Int) (g2:Unit)=>⟨T [(0,(dl A66 p1)),(1,(.d (.fn (.func 116) [] [(.bp [(i64 p2)] 0),(.bp [(i64 p3)] 0)]))),(7,(di (p1.length:Int))),(8,(di x1))],G []⟩) 0 () _ hz1 (sbr rfl rfl) ?_)
 intro x1 g2 z2 hz2 ez2
 unfold E6 at hz2
 refine lr (fun u3 hu3=>sv rfl (A3 (A8 (cc rfl hz2 (fun c1 hz2=> ?_) (fun c1 hz2=> ?_)))))
 refine B3 (A8 (A7 (lr (fun u4 hu4=>sv rfl (sv rfl (A3 (lr (fun u5 hu5=>sv rfl (sv rfl (sv rfl (bs hz2 fun v1 hv1 hz2=>sd rfl (J8 rfl rfl hv1 rfl) (sd rfl (N3 rfl hv1 rfl rfl) (bs hz2 fun v2 hv2 hz2=>C9 rfl rfl A4 (A89 _ _ _ _ hv2) (.inl rfl) (A3 (cc rfl hz2 (fun c2 hz2=> ?_) (fun c2 hz2=> ?_))))))))))))))))
 refine lr (fun u6 hu6=>sv rfl (sv rfl (A3 (D5 ?_))))
 cases hz2
 obtain rfl:=ez2 _ rfl
 refine ⟨nofun,J9 ?_⟩
 rw [Sum.elim_inr]at h
 cases h
 exact B0 (.inr rfl) (E4 (E1 rfl) N9) (.refl _)
 refine B3 (I5 (D1 fun u7 hu7=>sv rfl (sv rfl (A3 (J2 ?_)))))
 cases hz2
 exact ⟨rfl,(),(sbr rfl rfl)⟩
 refine E5 rfl ?_
 cases hz2
 obtain rfl:=ez2 _ rfl
 refine ⟨nofun,E3 rfl (l_j ?_)⟩
 exact ⟨_,(),rfl,(sbr rfl rfl)⟩
 rintro _ ⟨y1,g1,rfl,q1⟩
 rw [Sum.elim_inl]at h
 refine A9 q1 (lr (fun u8 hu8=>sv rfl (A3 (D5 ?_))))
 cases h
 exact B0 (.inr rfl) (E4 (E1 rfl) N9) (.refl _)
noncomputable def E7 (p1:(List Phase))(p2:Int)(p3:Int):Option Bool:=
  (F7 p1 p2 p3).bind fun v1=>some (decide (v1≥0))
theorem Z1 (p1:(List Phase))(p2:Int)(p3:Int)(r:Bool)(h:E7 p1 p2 p3=some r):PCall Try.prog 76 [(.list (List.map A66 p1)),(.fn (.func 116) [] [(.bp [(i64 p2)] 0),(.bp [(i64 p3)] 0)])] (bo r):=by
 refine G2 (fk Try.func76 Try.ntmps76 m0 (by with_unfolding_all rfl)) (nl rfl) ?_
 unfold E7 at h
 refine A9 (s0:=⟨T [(0,(.d _)),(1,(.d _))],G []⟩) (sbr rfl rfl) ?_
 refine lr (fun u1 hu1=>sv rfl (A3 (lr (fun u2 hu2=>sv rfl (sv rfl (bs h fun v1 hv1 h=>C9 rfl rfl A4 (A09 _ _ _ _ hv1) (.inl rfl) (sv rfl (sv rfl (A3 (D5 ?_))))))))))
 cases h
 exact B0 (.inr rfl) (E4 (E1 rfl) N9) (.refl _)
noncomputable def A0j (p1:Zone)(p2:Int)(p3:Int)(p4:Map):Option Bool:=
  ((cond (decide (p1.Signal_>0)) (F3 p4.Signals (w64 (p1.Signal_ - 1))) (some default))).bind fun v1=>((cond (decide (p1.Signal_>0)) (E7 v1.Phases p2 p3) (some default))).bind fun v2=>some ((decide (p1.Signal_>0))&&v2)
theorem A6d (p1:Zone)(p2:Int)(p3:Int)(p4:Map)(r:Bool)(h:A0j p1 p2 p3 p4=some r):PCall Try.prog 115 [(.agg [(.list (List.map R6 p1.Parts)),(i64 p1.Signal_)]),(i64 p2),(i64 p3),(.bp (A27 p4) 0)] (bo r):=by
 refine G2 (fk Try.func115 Try.ntmps115 m0 (by with_unfolding_all rfl)) (nl rfl) ?_
 unfold A0j at h
 refine A9 (s0:=⟨T [(0,(.d _)),(1,(.d _)),(2,(.d _)),(3,(.d _))],G []⟩) (sbr rfl rfl) ?_
 refine lr (fun u1 hu1=>sn rfl rfl (sn rfl rfl (sn rfl rfl (sv rfl (A3 (lr (fun u2 hu2=>sp rfl rfl (sl rfl (gq rfl) rfl (sv rfl (sv rfl (gt rfl (fun _=>rfl) ?_)))))))))))
 refine gt rfl (fun w2=>(by simp only [A6 w2];rfl)) ?_
 refine gp rfl (A62 rfl) (fun _=>rfl) (gt rfl (vl rfl (gq rfl) rfl) (gt rfl (vb rfl rfl rfl) (bs h fun v1 hv1 h=>gt rfl (fun w6=>(J8 (A6 w6) (A6 w6) (G6 w6 hv1) rfl)) ?_)))
 refine gt rfl (fun w7=>(by simp only [A6 w7];rfl)) ?_
 refine gt rfl (fun w8=>(F4 (A6 w8) (G6 w8 hv1) rfl)) (A3b _ (.fn _ _ _) rfl (A62 rfl) (fun _=>rfl) (bs h fun v2 hv2 h=> ?_))
 refine A0v _ (bo v2) (A62 rfl) (fun w10=>⟨_,[(dl A66 v1.Phases),(.fn (.func 116) [] [(.ptr (5,u1) 0),(.ptr (6,u1) 0)])],_,_,(by simp only [A6 w10];rfl),(rD (Q3 (C2v Q0 (Q3 (B0l (gq rfl) (rD Q0)) (Q3 (B0l G_hit (rD Q0)) Q0))) Q0)),A4,Z1 _ _ _ _ (G6 w10 hv2),(.inr rfl)⟩) ?_
 refine sa rfl rfl rfl (sv rfl (A3 (D5 ?_)))
 cases h
 exact B0 (.inr rfl) (E4 (E1 rfl) N9) (.refl _)
noncomputable def W3 (p2:Int)(p3:Map)(x1:((List Clash)×Int))(v1:Zone)(v3:Int)(v4:List Int)(x3:((List Clash)×Int)):Option (Stp ((List Clash)×Int) (List Clash)):=
  cond (decide (x3.2< (v4.length:Int))) ((F3 v4 x3.2).bind fun v5=>(A0j v1 v3 v5 p3).bind fun v6=>cond v6 ((B0m x3.1 [(Clash.mk p2 x1.2 v3 v5)]).bind fun v7=>some (.go (v7,(w64 (x3.2+1))))) (some (.go (x3.1,(w64 (x3.2+1)))))) (some (.out x3.1))
noncomputable def W4 (p2:Int)(p3:Map)(x1:((List Clash)×Int))(v1:Zone)(v2:(List Int))(x2:((List Clash)×Int)):Option (Stp ((List Clash)×Int) (List Clash)):=
  cond (decide (x2.2< (v2.length:Int))) ((F3 v2 x2.2).bind fun v3=>(C3n v2 (w64 (x2.2+1)) (v2.length:Int)).bind fun v4=>(loop (W3 p2 p3 x1 v1 v3 v4) (x2.1,0)).bind fun y3=>some (.go (y3,(w64 (x2.2+1))))) (some (.out x2.1))
noncomputable def W5 (p1:Map)(p2:Int)(p3:Map)(x1:((List Clash)×Int)):Option (Stp ((List Clash)×Int) (List Clash)):=
  cond (decide (x1.2< (p1.Zones.length:Int))) ((F3 p1.Zones x1.2).bind fun v1=>(A1m p1 v1).bind fun v2=>(loop (W4 p2 p3 x1 v1 v2) (x1.1,0)).bind fun y2=>some (.go (y2,(w64 (x1.2+1))))) (some (.out x1.1))
noncomputable def A2j (p1:Map)(p2:Int)(p3:Map):Option (List Clash):=
  (loop (W5 p1 p2 p3) ([],0)).bind fun y1=>some y1
theorem B3a (p1:Map)(p2:Int)(p3:Map)(r:(List Clash))(h:A2j p1 p2 p3=some r):PCall Try.prog 113 [(.agg (A27 p1)),(i64 p2),(.fn (.func 115) [] [(.bp (A27 p3) 0)])] (.list (List.map L9 r)):=by
 refine G2 (fk Try.func113 Try.ntmps113 (fun r=>if r==12 then [1006]else []) (by with_unfolding_all rfl)) (nl rfl) ?_
 unfold A2j at h
 refine A9 (s0:=⟨T [(0,(.d _)),(1,(.d _)),(2,(.d _))],G []⟩) (sbr rfl rfl) ?_
 refine lr (fun u1 hu1=>sn rfl rfl (sv rfl (A3 (A8 (lr (fun u2 hu2=>sp rfl rfl (sl rfl G_hit rfl (sd rfl (K5 rfl) (sv rfl (A3 (bs h fun y1 hy1 h=>H8 (fun s=> ∃g1:Nat,Sb ⟨T [(6,(oS y1 (53,g1)))],G [((53,g1),oB 145 4 L9 y1)]⟩ s) ?_ ?_)))))))))))
 refine A7 (I0 (W5 p1 p2 p3) (fun (x1:((List Clash)×Int)) (g2:Nat)=>⟨T [(1,(di p2)),(2,(.d (.fn (.func 115) [] [(.bp (A27 p3) 0)]))),(3,(.ptr (3,u1) 0)),(6,(oS x1.1 (53,g2))),(15,(dl U8 p1.Zones)),(16,(di (p1.Zones.length:Int))),(17,(di x1.2))],G [((3,u1),some (.box 28 (A1v p1))),((53,g2),oB 145 4 L9 x1.1)]⟩) ([],0) 0 _ hy1 (H9 ⟨.of rfl, .of rfl, .of rfl, .of rfl, .of rfl, .of rfl, .of rfl,trivial⟩ (B5 G_hit (.of rfl) (X6 trivial))) ?_)
 intro x1 g2 z1 hz1 ez1
 unfold W5 at hz1
 refine lr (fun u3 hu3=>sv rfl (A3 (A8 (cc rfl hz1 (fun c1 hz1=> ?_) (fun c1 hz1=> ?_)))))
 refine B3 (A8 (A7 (lr (fun u4 hu4=>sv rfl (bs hz1 fun v1 hv1 hz1=>sd rfl (J8 rfl rfl hv1 rfl) (sd rfl (N3 rfl hv1 rfl rfl) (sn rfl rfl (sv rfl (sst rfl G_hit [(dl R6 v1.Parts),(di v1.Signal_)] rfl (A3 (lr (fun u5 hu5=>sd rfl (E0 rfl (gq rfl) rfl rfl) (sd rfl (E0 rfl G_hit rfl rfl) (bs hz1 fun v2 hv2 hz1=>C9 rfl rfl A4 (A5i _ _ _ hv2) (.inl rfl) (sv rfl (A3 (lr (fun u6 hu6=>sv rfl (sd rfl (K5 rfl) (sv rfl (A3 (bs hz1 fun y2 hy2 hz1=>H8 (fun s=> ∃g3:Nat,Sb ⟨T [(1,(di p2)),(2,(.d (.fn (.func 115) [] [(.bp (A27 p3) 0)]))),(3,(.ptr (3,u1) 0)),(6,(oS y2 (53,g3))),(15,(dl U8 p1.Zones)),(16,(di (p1.Zones.length:Int))),(17,(di x1.2))],G [((3,u1),some (.box 28 (A1v p1))),((53,g3),oB 145 4 L9 y2)]⟩ s) ?_ ?_))))))))))))))))))))))
 refine A7 (I0 (W4 p2 p3 x1 v1 v2) (fun (x2:((List Clash)×Int)) (g4:Nat)=>⟨T [(1,(di p2)),(2,(.d (.fn (.func 115) [] [(.bp (A27 p3) 0)]))),(3,(.ptr (3,u1) 0)),(6,(oS x2.1 (53,g4))),(7,(di x1.2)),(8,(.ptr (8,u4) 0)),(9,(dl A5 v2)),(15,(dl U8 p1.Zones)),(16,(di (p1.Zones.length:Int))),(17,(di x1.2)),(25,(dl A5 v2)),(26,(di (v2.length:Int))),(27,(di x2.2))],G [((3,u1),some (.box 28 (A1v p1))),((8,u4),some (.box 69 [(dl R6 v1.Parts),(di v1.Signal_)])),((53,g4),oB 145 4 L9 x2.1)]⟩) (x1.1,0) g2 _ hy2 (H9 ⟨.of rfl, .of rfl, .of rfl, .of rfl, .of rfl, .of rfl, .of rfl, .of rfl, .of rfl, .of rfl, .of rfl, .of rfl, .of rfl,trivial⟩ (sg rfl (B5 G_hit (.of rfl) (I9 (gq rfl) trivial)))) ?_)
 intro x2 g4 z2 hz2 ez2
 unfold W4 at hz2
 refine lr (fun u7 hu7=>sv rfl (A3 (A8 (cc rfl hz2 (fun c2 hz2=> ?_) (fun c2 hz2=> ?_)))))
 refine B3 (A8 (A7 (lr (fun u8 hu8=>sv rfl (bs hz2 fun v3 hv3 hz2=>sd rfl (J8 rfl rfl hv3 rfl) (sd rfl (F4 rfl hv3 rfl) (sv rfl (sv rfl (A3 (lr (fun u9 hu9=>sv rfl (sv rfl (sv rfl (bs hz2 fun v4 hv4 hz2=>sd rfl (C7a rfl (fun _=>rfl) (D1x rfl) C1j hv4) (sd rfl (K5 rfl) (sv rfl (A3 (bs hz2 fun y3 hy3 hz2=>H8 (fun s=> ∃g5:Nat,Sb ⟨T [(1,(di p2)),(2,(.d (.fn (.func 115) [] [(.bp (A27 p3) 0)]))),(3,(.ptr (3,u1) 0)),(6,(oS y3 (53,g5))),(7,(di x1.2)),(8,(.ptr (8,u4) 0)),(9,(dl A5 v2)),(15,(dl U8 p1.Zones)),(16,(di (p1.Zones.length:Int))),(17,(di x1.2)),(25,(dl A5 v2)),(26,(di (v2.length:Int))),(27,(di x2.2))],G [((3,u1),some (.box 28 (A1v p1))),((8,u4),some (.box 69 [(dl R6 v1.Parts),(di v1.Signal_)])),((53,g5),oB 145 4 L9 y3)]⟩ s) ?_ ?_))))))))))))))))))
 refine A7 (I0 (W3 p2 p3 x1 v1 v3 v4) (fun (x3:((List Clash)×Int)) (g6:Nat)=>⟨T [(1,(di p2)),(2,(.d (.fn (.func 115) [] [(.bp (A27 p3) 0)]))),(3,(.ptr (3,u1) 0)),(6,(oS x3.1 (53,g6))),(7,(di x1.2)),(8,(.ptr (8,u4) 0)),(9,(dl A5 v2)),(11,(di v3)),(15,(dl U8 p1.Zones)),(16,(di (p1.Zones.length:Int))),(17,(di x1.2)),(25,(dl A5 v2)),(26,(di (v2.length:Int))),(27,(di x2.2)),(35,(dl A5 v4)),(36,(di (v4.length:Int))),(37,(di x3.2))],G [((3,u1),some (.box 28 (A1v p1))),((8,u4),some (.box 69 [(dl R6 v1.Parts),(di v1.Signal_)])),((53,g6),oB 145 4 L9 x3.1)]⟩) (x2.1,0) g4 _ hy3 (H9 ⟨.of rfl, .of rfl, .of rfl, .of rfl, .of rfl, .of rfl, .of rfl, .of rfl, .of rfl, .of rfl, .of rfl, .of rfl, .of rfl, .of rfl, .of rfl, .of rfl, .of rfl,trivial⟩ (B5 G_hit (.of rfl) (sg rfl (I9 (gq rfl) trivial)))) ?_)
 intro x3 g6 z3 hz3 ez3
 unfold W3 at hz3
 refine lr (fun u10 hu10=>sv rfl (A3 (A8 (cc rfl hz3 (fun c3 hz3=> ?_) (fun c3 hz3=> ?_)))))
 refine B3 (A8 (A7 (lr (fun u11 hu11=>bs hz3 fun v5 hv5 hz3=>sd rfl (J8 rfl rfl hv5 rfl) (sd rfl (F4 rfl hv5 rfl) (sv rfl (A3 (lr (fun u12 hu12=>sv rfl (sd rfl (E0 rfl (gq rfl) rfl rfl) (sv rfl (sv rfl (bs hz3 fun v6 hv6 hz3=>C9 rfl rfl A4 (A6d _ _ _ _ _ hv6) (.inl rfl) (A3 (cc rfl hz3 (fun c4 hz3=> ?_) (fun c4 hz3=> ?_))))))))))))))))
 refine A9 (s0:=⟨T [(1,(di p2)),(2,(.d (.fn (.func 115) [] [(.bp (A27 p3) 0)]))),(3,(.ptr (3,u1) 0)),(6,(oS x3.1 (53,g6))),(7,(di x1.2)),(8,(.ptr (8,u4) 0)),(9,(dl A5 v2)),(11,(di v3)),(13,(di v5)),(15,(dl U8 p1.Zones)),(16,(di (p1.Zones.length:Int))),(17,(di x1.2)),(25,(dl A5 v2)),(26,(di (v2.length:Int))),(27,(di x2.2)),(35,(dl A5 v4)),(36,(di (v4.length:Int))),(37,(di x3.2))],G [((3,u1),some (.box 28 (A1v p1))),((53,g6),oB 145 4 L9 x3.1),((8,u4),some (.box 69 [(dl R6 v1.Parts),(di v1.Signal_)]))]⟩) (H9 ⟨.of rfl, .of rfl, .of rfl, .of rfl, .of rfl, .of rfl, .of rfl, .of rfl, .of rfl, .of rfl, .of rfl, .of rfl, .of rfl, .of rfl, .of rfl, .of rfl, .of rfl, .of rfl,trivial⟩ (B5 G_hit (.of rfl) (I9 (gq rfl) (sg rfl trivial)))) ?_
 refine D1 fun u13 hu13=>E2 (oS x3.1 (53,g6)) rfl rfl (sv rfl (sv rfl (sv rfl (sv rfl (sv rfl (E2 (dl L9 [(Clash.mk p2 x1.2 v3 v5)]) rfl rfl (bs hz3 fun v7 hv7 hz3=>A02 L9 (53,g6) x3.1 (Clash.mk p2 x1.2 v3 v5) [] _ (U7 (fun _=>rfl)) rfl (gq rfl) hv7 (ss rfl (A3 (I5 (A9 (s0:=⟨T [(1,(.d _)),(2,(.d _)),(3,(.ptr _ _)),(6,(.sl _)),(7,(.d _)),(8,(.ptr _ _)),(9,(.d _)),(11,(.d _)),(15,(.d _)),(16,(.d _)),(17,(.d _)),(25,(.d _)),(26,(.d _)),(27,(.d _)),(35,(.d _)),(36,(.d _)),(37,(.d _))],G [((3,u1),some (.box 28 _)),((53,u13),some _),((8,u4),some (.box 69 _))]⟩) (sbr rfl rfl) ?_)))))))))))
 refine D1 fun u14 hu14=>sv rfl (sv rfl (A3 (J2 ?_)))
 cases hz3
 exact ⟨rfl,u13,(H9 ⟨.of rfl, .of rfl, .of rfl,(.of (A34 (A3l hv7)).symm), .of rfl, .of rfl, .of rfl, .of rfl, .of rfl, .of rfl, .of rfl, .of rfl, .of rfl, .of rfl, .of rfl, .of rfl, .of rfl,trivial⟩ (B5 G_hit (.of rfl) (sg rfl (R5 (gq rfl) trivial))))⟩
 refine B3 (I5 (A9 (s0:=⟨T [(1,(di p2)),(2,(.d (.fn (.func 115) [] [(.bp (A27 p3) 0)]))),(3,(.ptr (3,u1) 0)),(6,(oS x3.1 (53,g6))),(7,(di x1.2)),(8,(.ptr (8,u4) 0)),(9,(dl A5 v2)),(11,(di v3)),(15,(dl U8 p1.Zones)),(16,(di (p1.Zones.length:Int))),(17,(di x1.2)),(25,(dl A5 v2)),(26,(di (v2.length:Int))),(27,(di x2.2)),(35,(dl A5 v4)),(36,(di (v4.length:Int))),(37,(di x3.2))],G [((3,u1),some (.box 28 (A1v p1))),((53,g6),oB 145 4 L9 x3.1),((8,u4),some (.box 69 [(dl R6 v1.Parts),(di v1.Signal_)]))]⟩) (H9 ⟨.of rfl, .of rfl, .of rfl, .of rfl, .of rfl, .of rfl, .of rfl, .of rfl, .of rfl, .of rfl, .of rfl, .of rfl, .of rfl, .of rfl, .of rfl, .of rfl, .of rfl,trivial⟩ (B5 G_hit (.of rfl) (I9 (gq rfl) (sg rfl trivial)))) ?_))
 refine D1 fun u15 hu15=>sv rfl (sv rfl (A3 (J2 ?_)))
 cases hz3
 exact ⟨rfl,g6,(H9 ⟨.of rfl, .of rfl, .of rfl, .of rfl, .of rfl, .of rfl, .of rfl, .of rfl, .of rfl, .of rfl, .of rfl, .of rfl, .of rfl, .of rfl, .of rfl, .of rfl, .of rfl,trivial⟩ (B5 G_hit (.of rfl) (sg rfl (I9 (gq rfl) trivial))))⟩
 refine E5 rfl ?_
 cases hz3
 obtain rfl:=ez3 _ rfl
 refine ⟨nofun,E3 rfl (l_j ?_)⟩
 exact ⟨g6,(H9 ⟨.of rfl, .of rfl, .of rfl, .of rfl, .of rfl, .of rfl, .of rfl, .of rfl, .of rfl, .of rfl, .of rfl, .of rfl, .of rfl,trivial⟩ (B5 G_hit (.of rfl) (sg rfl (I9 (gq rfl) trivial))))⟩
 rintro _ ⟨g5,q1⟩
 refine I5 (A9 q1 (D1 fun u16 hu16=>sv rfl (sv rfl (A3 (J2 ?_)))))
 cases hz2
 exact ⟨rfl,g5,(H9 ⟨.of rfl, .of rfl, .of rfl, .of rfl, .of rfl, .of rfl, .of rfl, .of rfl, .of rfl, .of rfl, .of rfl, .of rfl, .of rfl,trivial⟩ (B5 G_hit (.of rfl) (sg rfl (I9 (gq rfl) trivial))))⟩
 refine E5 rfl ?_
 cases hz2
 obtain rfl:=ez2 _ rfl
 refine ⟨nofun,E3 rfl (l_j ?_)⟩
 exact ⟨g4,(H9 ⟨.of rfl, .of rfl, .of rfl, .of rfl, .of rfl, .of rfl, .of rfl,trivial⟩ (B5 G_hit (.of rfl) (I9 (gq rfl) trivial)))⟩
 rintro _ ⟨g3,q2⟩
 refine I5 (A9 q2 (D1 fun u17 hu17=>sv rfl (sv rfl (A3 (J2 ?_)))))
 cases hz1
 exact ⟨rfl,g3,(H9 ⟨.of rfl, .of rfl, .of rfl, .of rfl, .of rfl, .of rfl, .of rfl,trivial⟩ (B5 G_hit (.of rfl) (I9 (gq rfl) trivial)))⟩
 refine E5 rfl ?_
 cases hz1
 obtain rfl:=ez1 _ rfl
 refine ⟨nofun,E3 rfl (l_j ?_)⟩
 exact ⟨g2,(H9 ⟨.of rfl,trivial⟩ (I9 (gq rfl) trivial))⟩
 rintro _ ⟨g1,q3⟩
 refine A9 q3 (lr (fun u18 hu18=>E2 (oS y1 (53,g1)) rfl rfl (E2 (oS y1 (53,g1)) rfl rfl (A3 (D5 ?_)))))
 cases h
 exact B0 (.inr rfl) (E4 (E1 rfl) (A77 G_hit)) A76
end Go.Abs.Roads
