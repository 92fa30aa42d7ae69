/-
  The functions, part 2.
-/
import Derived.Test.YtimbepcdlehjjaaGreatFns1
set_option maxRecDepth 20000
set_option maxHeartbeats 4000000
set_option linter.unusedVariables false
namespace Go.Abs.Roadsz
open Go Go.Abs Go.Proofs
attribute [local irreducible] T8 B4i AWL
noncomputable def D9 (p1:(List Int))(p2:Map)(p3:Zone)(x1:Int):Option (Stp Int (Sum Unit Int)):=
  cond (decide (x1< (p1.length:Int))) ((F0 p1 x1).bind fun v1=>(U7 v1 p2 p3).bind fun v2=>cond v2 (some (.out (.inr x1))) (some (.go (w64 (x1+1))))) (some (.out (.inl ())))
noncomputable def E9 (p1:(List Int))(p2:Map)(p3:Zone):Option Int:=
  thenS (loop (D9 p1 p2 p3) 0) (fun _=>some (-1)) (fun r=>some r)
theorem A06 (p1:(List Int))(p2:Map)(p3:Zone)(r:Int)(h:E9 p1 p2 p3=some r):PCall Tryz.prog 145 [(.list (List.map A3 p1)),(.fn (.func 183) [] [(.bp (Y0 p2) 0),(.bp [(.list (List.map L5 p3.Parts)),(i64 p3.Signal_)] 0)])] (i64 r):=by
 refine C6 (fk Tryz.func145 Tryz.ntmps145 m0 (by with_unfolding_all rfl)) (nl rfl) ?_
 unfold E9 at h
 refine A8 (s0:=⟨T [(0,(.d _)),(1,(.d _))],G []⟩) (sbr rfl rfl) ?_
 refine lr (fun u1 hu1=>sv rfl (A1 (A5 (lr (fun u2 hu2=>sv rfl (sd rfl (D3 rfl) (sv rfl (A1 (js h fun z1 hz1 h=>E1 (fun s=> ∃(y1:Unit) (g1:Unit),z1= .inl y1∧Sb ⟨T [],G []⟩ s) ?_ ?_)))))))))
 refine A6 (E4 (D9 p1 p2 p3) (fun (x1:Int) (g2:Unit)=>⟨T [(0,(dl A3 p1)),(1,(.d (.fn (.func 183) [] [(.bp (Y0 p2) 0),(.bp [(.list (List.map L5 p3.Parts)),(i64 p3.Signal_)] 0)]))),(7,(di (p1.length:Int))),(8,(di x1))],G []⟩) 0 () _ hz1 (sbr rfl rfl) ?_)
 intro x1 g2 z2 hz2 ez2
 unfold D9 at hz2
 refine lr (fun u3 hu3=>sv rfl (A1 (A5 (cc rfl hz2 (fun c1 hz2=> ?_) (fun c1 hz2=> ?_)))))
 refine A9 (A5 (A6 (lr (fun u4 hu4=>sv rfl (sv rfl (A1 (lr (fun u5 hu5=>sv rfl (sv rfl (sv rfl (bs hz2 fun v1 hv1 hz2=>sd rfl (F1 rfl rfl hv1 rfl) (sd rfl (E6 rfl hv1 rfl) (bs hz2 fun v2 hv2 hz2=>C0 rfl rfl A2 (A7t _ _ _ _ hv2) (.inl rfl) (A1 (cc rfl hz2 (fun c2 hz2=> ?_) (fun c2 hz2=> ?_))))))))))))))))
 refine lr (fun u6 hu6=>sv rfl (sv rfl (A1 (B1 ?_))))
 cases hz2
 obtain rfl:=ez2 _ rfl
 refine ⟨nofun,D4 ?_⟩
 rw [Sum.elim_inr]at h
 cases h
 exact A7 (.inr rfl) (B7 (B0 rfl) F7) (.refl _)
 refine A9 (G3 (B8 fun u7 hu7=>sv rfl (sv rfl (A1 (G4 ?_)))))
 cases hz2
 exact ⟨rfl,(),(sbr rfl rfl)⟩
 refine C4 rfl ?_
 cases hz2
 obtain rfl:=ez2 _ rfl
 refine ⟨nofun,C1 rfl (l_j ?_)⟩
 exact ⟨_,(),rfl,(sbr rfl rfl)⟩
 rintro _ ⟨y1,g1,rfl,q1⟩
 rw [Sum.elim_inl]at h
 refine A8 q1 (lr (fun u8 hu8=>sv rfl (A1 (B1 ?_))))
 cases h
 exact A7 (.inr rfl) (B7 (B0 rfl) F7) (.refl _)
noncomputable def E0 (p1:(List Int))(p2:Map)(p3:Zone):Option Bool:=
  (E9 p1 p2 p3).bind fun v1=>some (decide (v1≥0))
theorem Y1 (p1:(List Int))(p2:Map)(p3:Zone)(r:Bool)(h:E0 p1 p2 p3=some r):PCall Tryz.prog 182 [(.list (List.map A3 p1)),(.fn (.func 183) [] [(.bp (Y0 p2) 0),(.bp [(.list (List.map L5 p3.Parts)),(i64 p3.Signal_)] 0)])] (bo r):=by
 refine C6 (fk Tryz.func182 Tryz.ntmps182 m0 (by with_unfolding_all rfl)) (nl rfl) ?_
 unfold E0 at h
 refine A8 (s0:=⟨T [(0,(.d _)),(1,(.d _))],G []⟩) (sbr rfl rfl) ?_
 refine lr (fun u1 hu1=>sv rfl (A1 (lr (fun u2 hu2=>sv rfl (sv rfl (bs h fun v1 hv1 h=>C0 rfl rfl A2 (A06 _ _ _ _ hv1) (.inl rfl) (sv rfl (sv rfl (A1 (B1 ?_))))))))))
 cases h
 exact A7 (.inr rfl) (B7 (B0 rfl) F7) (.refl _)
noncomputable def U8 (p1:Zone)(p2:Map)(p3:Int)(p4:(List Int)):Option Bool:=
  (A35 p2 p1 p3).bind fun v1=>((cond v1 (E0 p4 p2 p1) (some default))).bind fun v2=>some (v1&& (!v2))
theorem A7u (p1:Zone)(p2:Map)(p3:Int)(p4:(List Int))(r:Bool)(h:U8 p1 p2 p3 p4=some r):PCall Tryz.prog 180 [(.agg [(.list (List.map L5 p1.Parts)),(i64 p1.Signal_)]),(.bp (Y0 p2) 0),(.bp [(i64 p3)] 0),(.bp [(.list (List.map A3 p4))] 0)] (bo r):=by
 refine C6 (fk Tryz.func180 Tryz.ntmps180 m0 (by with_unfolding_all rfl)) (nl rfl) ?_
 unfold U8 at h
 refine A8 (s0:=⟨T [(0,(.d _)),(1,(.d _)),(2,(.d _)),(3,(.d _))],G []⟩) (sbr rfl rfl) ?_
 refine lr (fun u1 hu1=>sn rfl rfl (sv rfl (A1 (lr (fun u2 hu2=>sv rfl (sd rfl (B6 rfl G_hit rfl rfl) (sv rfl (bs h fun v1 hv1 h=>C0 rfl rfl A2 (A94 _ _ _ _ hv1) (.inl rfl) (sv rfl (gt rfl (fun _=>rfl) (A28 _ (.fn _ _ _) rfl (A0k rfl) (fun _=>rfl) (bs h fun v2 hv2 h=> ?_))))))))))))
 refine L7 v1 (bo v2) (A0k rfl) (fun w3=>⟨_,[(dl A3 p4),(.fn (.func 183) [] [(.d (.bp (Y0 p2) 0)),(.ptr (4,u1) 0)])],_,_,(by simp only [A4 w3];rfl),(rD (R0 (C3d N3 (rD (R0 (B0d G_hit (rD (rD N3))) N3))) N3)),A2,Y1 _ _ _ _ (C8 w3 hv2),(.inr rfl)⟩) ?_
 refine A28 _ (.d (bo (!v2))) rfl (A0k rfl) (fun w4=>(by simp only [A4 w4];rfl)) ?_
 refine sa rfl rfl rfl (sv rfl (A1 (B1 ?_)))
 cases h
 exact A7 (.inr rfl) (B7 (B0 rfl) F7) (.refl _)
noncomputable def D5 (p1:(List Zone))(p2:Map)(p3:Int)(p4:(List Int))(x1:Int):Option (Stp Int (Sum Unit Int)):=
  cond (decide (x1< (p1.length:Int))) ((F0 p1 x1).bind fun v1=>(U8 v1 p2 p3 p4).bind fun v2=>cond v2 (some (.out (.inr x1))) (some (.go (w64 (x1+1))))) (some (.out (.inl ())))
noncomputable def E5 (p1:(List Zone))(p2:Map)(p3:Int)(p4:(List Int)):Option Int:=
  thenS (loop (D5 p1 p2 p3 p4) 0) (fun _=>some (-1)) (fun r=>some r)
theorem Z8 (p1:(List Zone))(p2:Map)(p3:Int)(p4:(List Int))(r:Int)(h:E5 p1 p2 p3 p4=some r):PCall Tryz.prog 243 [(.list (List.map V2 p1)),(.fn (.func 180) [] [(.bp (Y0 p2) 0),(.bp [(i64 p3)] 0),(.bp [(.list (List.map A3 p4))] 0)])] (i64 r):=by
 refine C6 (fk Tryz.func243 Tryz.ntmps243 m0 (by with_unfolding_all rfl)) (nl rfl) ?_
 unfold E5 at h
 refine A8 (s0:=⟨T [(0,(.d _)),(1,(.d _))],G []⟩) (sbr rfl rfl) ?_
 refine lr (fun u1 hu1=>sv rfl (A1 (A5 (lr (fun u2 hu2=>sv rfl (sd rfl (D3 rfl) (sv rfl (A1 (js h fun z1 hz1 h=>E1 (fun s=> ∃(y1:Unit) (g1:Unit),z1= .inl y1∧Sb ⟨T [],G []⟩ s) ?_ ?_)))))))))
 refine A6 (E4 (D5 p1 p2 p3 p4) (fun (x1:Int) (g2:Unit)=>⟨T [(0,(dl V2 p1)),(1,(.d (.fn (.func 180) [] [(.bp (Y0 p2) 0),(.bp [(i64 p3)] 0),(.bp [(.list (List.map A3 p4))] 0)]))),(7,(di (p1.length:Int))),(8,(di x1))],G []⟩) 0 () _ hz1 (sbr rfl rfl) ?_)
 intro x1 g2 z2 hz2 ez2
 unfold D5 at hz2
 refine lr (fun u3 hu3=>sv rfl (A1 (A5 (cc rfl hz2 (fun c1 hz2=> ?_) (fun c1 hz2=> ?_)))))
 refine A9 (A5 (A6 (lr (fun u4 hu4=>sv rfl (sv rfl (A1 (lr (fun u5 hu5=>sv rfl (sv rfl (sv rfl (bs hz2 fun v1 hv1 hz2=>sd rfl (F1 rfl rfl hv1 rfl) (sd rfl (C7 rfl hv1 rfl rfl) (bs hz2 fun v2 hv2 hz2=>C0 rfl rfl A2 (A7u _ _ _ _ _ hv2) (.inl rfl) (A1 (cc rfl hz2 (fun c2 hz2=> ?_) (fun c2 hz2=> ?_))))))))))))))))
 refine lr (fun u6 hu6=>sv rfl (sv rfl (A1 (B1 ?_))))
 cases hz2
 obtain rfl:=ez2 _ rfl
 refine ⟨nofun,D4 ?_⟩
 rw [Sum.elim_inr]at h
 cases h
 exact A7 (.inr rfl) (B7 (B0 rfl) F7) (.refl _)
 refine A9 (G3 (B8 fun u7 hu7=>sv rfl (sv rfl (A1 (G4 ?_)))))
 cases hz2
 exact ⟨rfl,(),(sbr rfl rfl)⟩
 refine C4 rfl ?_
 cases hz2
 obtain rfl:=ez2 _ rfl
 refine ⟨nofun,C1 rfl (l_j ?_)⟩
 exact ⟨_,(),rfl,(sbr rfl rfl)⟩
 rintro _ ⟨y1,g1,rfl,q1⟩
 rw [Sum.elim_inl]at h
 refine A8 q1 (lr (fun u8 hu8=>sv rfl (A1 (B1 ?_))))
 cases h
 exact A7 (.inr rfl) (B7 (B0 rfl) F7) (.refl _)
noncomputable def D6 (p1:(List Zone))(p2:Map)(p3:Int)(p4:(List Int)):Option Bool:=
  (E5 p1 p2 p3 p4).bind fun v1=>some (decide (v1≥0))
theorem X3 (p1:(List Zone))(p2:Map)(p3:Int)(p4:(List Int))(r:Bool)(h:D6 p1 p2 p3 p4=some r):PCall Tryz.prog 179 [(.list (List.map V2 p1)),(.fn (.func 180) [] [(.bp (Y0 p2) 0),(.bp [(i64 p3)] 0),(.bp [(.list (List.map A3 p4))] 0)])] (bo r):=by
 refine C6 (fk Tryz.func179 Tryz.ntmps179 m0 (by with_unfolding_all rfl)) (nl rfl) ?_
 unfold D6 at h
 refine A8 (s0:=⟨T [(0,(.d _)),(1,(.d _))],G []⟩) (sbr rfl rfl) ?_
 refine lr (fun u1 hu1=>sv rfl (A1 (lr (fun u2 hu2=>sv rfl (sv rfl (bs h fun v1 hv1 h=>C0 rfl rfl A2 (Z8 _ _ _ _ _ hv1) (.inl rfl) (sv rfl (sv rfl (A1 (B1 ?_))))))))))
 cases h
 exact A7 (.inr rfl) (B7 (B0 rfl) F7) (.refl _)
noncomputable def A1n (p1:Map)(x1:((List Clash)×Int)):Option (Stp ((List Clash)×Int) (List Clash)):=
  cond (decide (x1.2< (p1.Lanes.length:Int))) ((A1k p1 x1.2).bind fun v1=>(D6 p1.Zones p1 x1.2 v1).bind fun v2=>cond ((decide ((v1.length:Int)>1))&& (!v2)) ((A7b x1.1 [(Clash.mk 1 (-1) x1.2 (-1))]).bind fun v3=>some (.go (v3,(w64 (x1.2+1))))) (some (.go (x1.1,(w64 (x1.2+1)))))) (some (.out x1.1))
noncomputable def A4q (p1:Map):Option (List Clash):=
  (loop (A1n p1) ([],0)).bind fun y1=>some y1
theorem B55 (p1:Map)(r:(List Clash))(h:A4q p1=some r):PCall Tryz.prog 77 [(.agg (Y0 p1))] (.list (List.map I7 r)):=by
 refine C6 (fk Tryz.func77 Tryz.ntmps77 (fun r=>if r==7 then [1003]else []) (by with_unfolding_all rfl)) (nl rfl) ?_
 unfold A4q at h
 refine A8 (s0:=⟨T [(0,(.d _))],G []⟩) (sbr rfl rfl) ?_
 refine lr (fun u1 hu1=>sn rfl rfl (sv rfl (A1 (A5 (lr (fun u2 hu2=>sp rfl rfl (sl rfl G_hit rfl (sd rfl (D3 rfl) (sv rfl (A1 (bs h fun y1 hy1 h=>E1 (fun s=> ∃g1:Nat,Sb ⟨T [(2,(oS y1 (30,g1)))],G [((30,g1),oB 93 4 I7 y1)]⟩ s) ?_ ?_)))))))))))
 refine A6 (E4 (A1n p1) (fun (x1:((List Clash)×Int)) (g2:Nat)=>⟨T [(1,(.ptr (1,u1) 0)),(2,(oS x1.1 (30,g2))),(8,(di (p1.Lanes.length:Int))),(9,(di x1.2))],G [((1,u1),some (.box 27 (X2 p1))),((30,g2),oB 93 4 I7 x1.1)]⟩) ([],0) 0 _ hy1 (G9 ⟨.of rfl, .of rfl, .of rfl, .of rfl,trivial⟩ (B9 G_hit (.of rfl) (A3f trivial))) ?_)
 intro x1 g2 z1 hz1 ez1
 unfold A1n at hz1
 refine lr (fun u3 hu3=>sv rfl (A1 (A5 (cc rfl hz1 (fun c1 hz1=> ?_) (fun c1 hz1=> ?_)))))
 refine A9 (A5 (A6 (lr (fun u4 hu4=>sv rfl (sn rfl rfl (sst rfl G_hit [(di x1.2)] rfl (A1 (lr (fun u5 hu5=>sd rfl (B6 rfl (gq rfl) rfl rfl) (sl rfl G_hit rfl (bs hz1 fun v1 hv1 hz1=>C0 rfl rfl A2 (A5u _ _ _ hv1) (.inl rfl) (sn rfl rfl (sst rfl G_hit [(dl A3 v1)] rfl (A1 (lr (fun u6 hu6=>sp rfl rfl (sl rfl (gq rfl) rfl (F6 (.fn _ _ _) rfl rfl (bs hz1 fun v2 hv2 hz1=>C0 rfl (rD (R0 (C3d N3 (R0 (B0d (gq rfl) (rD (rD (rD (rD (rD N3)))))) (R0 (B0d (gq rfl) (rD N3)) (R0 (B0d G_hit (rD N3)) N3)))) N3)) A2 (X3 _ _ _ _ _ hv2) (.inr rfl) (sv rfl (A1 (lr (fun u7 hu7=>sl rfl G_hit rfl (sd rfl (D3 rfl) (sv rfl (sv rfl (gt rfl (fun _=>rfl) ?_)))))))))))))))))))))))))))
 refine A28 _ (.d (bo (!v2))) rfl (A0k rfl) (fun w2=>(by simp only [A4 w2];rfl)) ?_
 refine sa rfl rfl rfl (A1 (cc rfl hz1 (fun c2 hz1=> ?_) (fun c2 hz1=> ?_)))
 refine A8 (s0:=⟨T [(1,(.ptr (1,u1) 0)),(2,(oS x1.1 (30,g2))),(3,(.ptr (3,u4) 0)),(8,(di (p1.Lanes.length:Int))),(9,(di x1.2))],G [((1,u1),some (.box 27 (X2 p1))),((30,g2),oB 93 4 I7 x1.1),((3,u4),some (.box 3 [(di x1.2)]))]⟩) (G9 ⟨.of rfl, .of rfl, .of rfl, .of rfl, .of rfl,trivial⟩ (sg rfl (H4 (gq rfl) (sg rfl trivial)))) ?_
 refine B8 fun u8 hu8=>F6 (oS x1.1 (30,g2)) rfl rfl (sl rfl (gq rfl) rfl (sv rfl (F6 (dl I7 [(Clash.mk 1 (-1) x1.2 (-1))]) rfl rfl (bs hz1 fun v3 hv3 hz1=>Y8 I7 (30,g2) x1.1 (Clash.mk 1 (-1) x1.2 (-1)) [] _ (P3 (fun _=>rfl)) rfl (gq rfl) hv3 (ss rfl (A1 (G3 (B8 fun u9 hu9=>sv rfl (sv rfl (A1 (G4 ?_)))))))))))
 cases hz1
 exact ⟨rfl,u8,(G9 ⟨.of rfl,(.of (B0y (A3d hv3)).symm), .of rfl, .of rfl,trivial⟩ (sg rfl (A3e G_hit trivial)))⟩
 refine A9 (G3 (A8 (s0:=⟨T [(1,(.ptr (1,u1) 0)),(2,(oS x1.1 (30,g2))),(8,(di (p1.Lanes.length:Int))),(9,(di x1.2))],G [((1,u1),some (.box 27 (X2 p1))),((30,g2),oB 93 4 I7 x1.1)]⟩) (G9 ⟨.of rfl, .of rfl, .of rfl, .of rfl,trivial⟩ (sg rfl (H4 (gq rfl) trivial))) ?_))
 refine B8 fun u10 hu10=>sv rfl (sv rfl (A1 (G4 ?_)))
 cases hz1
 exact ⟨rfl,g2,(G9 ⟨.of rfl, .of rfl, .of rfl, .of rfl,trivial⟩ (B9 G_hit (.of rfl) (H4 (gq rfl) trivial)))⟩
 refine C4 rfl ?_
 cases hz1
 obtain rfl:=ez1 _ rfl
 refine ⟨nofun,C1 rfl (l_j ?_)⟩
 exact ⟨g2,(G9 ⟨.of rfl,trivial⟩ (H4 (gq rfl) trivial))⟩
 rintro _ ⟨g1,q1⟩
 refine A8 q1 (lr (fun u11 hu11=>F6 (oS y1 (30,g1)) rfl rfl (F6 (oS y1 (30,g1)) rfl rfl (A1 (B1 ?_)))))
 cases h
 exact A7 (.inr rfl) (B7 (B0 rfl) (B1o G_hit)) B1n
noncomputable def A1o (p1:Map)(x1:((List Clash)×Int))(v1:Zone)(x2:((List Clash)×Int)):Option (Stp ((List Clash)×Int) (List Clash)):=
  cond (decide (x2.2< (v1.Parts.length:Int))) ((F0 v1.Parts x2.2).bind fun v2=>(A2x p1 v1 v2.Lane_).bind fun v3=>((cond (!v3) (A35 p1 v1 v2.Lane_) (some default))).bind fun v4=>cond ((!v3)&& (!v4)) ((A7b x2.1 [(Clash.mk 2 x1.2 v2.Lane_ (-1))]).bind fun v5=>some (.go (v5,(w64 (x2.2+1))))) (some (.go (x2.1,(w64 (x2.2+1)))))) (some (.out x2.1))
noncomputable def A1p (p1:Map)(x1:((List Clash)×Int)):Option (Stp ((List Clash)×Int) (List Clash)):=
  cond (decide (x1.2< (p1.Zones.length:Int))) ((F0 p1.Zones x1.2).bind fun v1=>(loop (A1o p1 x1 v1) (x1.1,0)).bind fun y2=>some (.go (y2,(w64 (x1.2+1))))) (some (.out x1.1))
noncomputable def A4r (p1:Map):Option (List Clash):=
  (loop (A1p p1) ([],0)).bind fun y1=>some y1
theorem B56 (p1:Map)(r:(List Clash))(h:A4r p1=some r):PCall Tryz.prog 78 [(.agg (Y0 p1))] (.list (List.map I7 r)):=by
 refine C6 (fk Tryz.func78 Tryz.ntmps78 (fun r=>if r==8 then [1005]else []) (by with_unfolding_all rfl)) (nl rfl) ?_
 unfold A4r at h
 refine A8 (s0:=⟨T [(0,(.d _))],G []⟩) (sbr rfl rfl) ?_
 refine lr (fun u1 hu1=>sn rfl rfl (sv rfl (A1 (A5 (lr (fun u2 hu2=>sp rfl rfl (sl rfl G_hit rfl (sd rfl (D3 rfl) (sv rfl (A1 (bs h fun y1 hy1 h=>E1 (fun s=> ∃g1:Nat,Sb ⟨T [(2,(oS y1 (42,g1)))],G [((42,g1),oB 93 4 I7 y1)]⟩ s) ?_ ?_)))))))))))
 refine A6 (E4 (A1p p1) (fun (x1:((List Clash)×Int)) (g2:Nat)=>⟨T [(1,(.ptr (1,u1) 0)),(2,(oS x1.1 (42,g2))),(8,(dl V2 p1.Zones)),(9,(di (p1.Zones.length:Int))),(10,(di x1.2))],G [((1,u1),some (.box 27 (X2 p1))),((42,g2),oB 93 4 I7 x1.1)]⟩) ([],0) 0 _ hy1 (G9 ⟨.of rfl, .of rfl, .of rfl, .of rfl, .of rfl,trivial⟩ (B9 G_hit (.of rfl) (A3f trivial))) ?_)
 intro x1 g2 z1 hz1 ez1
 unfold A1p at hz1
 refine lr (fun u3 hu3=>sv rfl (A1 (A5 (cc rfl hz1 (fun c1 hz1=> ?_) (fun c1 hz1=> ?_)))))
 refine A9 (A5 (A6 (lr (fun u4 hu4=>sv rfl (bs hz1 fun v1 hv1 hz1=>sd rfl (F1 rfl rfl hv1 rfl) (sd rfl (C7 rfl hv1 rfl rfl) (sn rfl rfl (sv rfl (sst rfl G_hit [(dl L5 v1.Parts),(di v1.Signal_)] rfl (A1 (lr (fun u5 hu5=>sp rfl rfl (sl rfl G_hit rfl (sd rfl (D3 rfl) (sv rfl (A1 (bs hz1 fun y2 hy2 hz1=>E1 (fun s=> ∃g3:Nat,Sb ⟨T [(1,(.ptr (1,u1) 0)),(2,(oS y2 (42,g3))),(8,(dl V2 p1.Zones)),(9,(di (p1.Zones.length:Int))),(10,(di x1.2))],G [((1,u1),some (.box 27 (X2 p1))),((42,g3),oB 93 4 I7 y2)]⟩ s) ?_ ?_)))))))))))))))))
 refine A6 (E4 (A1o p1 x1 v1) (fun (x2:((List Clash)×Int)) (g4:Nat)=>⟨T [(1,(.ptr (1,u1) 0)),(2,(oS x2.1 (42,g4))),(3,(di x1.2)),(4,(.ptr (4,u4) 0)),(8,(dl V2 p1.Zones)),(9,(di (p1.Zones.length:Int))),(10,(di x1.2)),(16,(dl L5 v1.Parts)),(17,(di (v1.Parts.length:Int))),(18,(di x2.2))],G [((1,u1),some (.box 27 (X2 p1))),((4,u4),some (.box 45 [(dl L5 v1.Parts),(di v1.Signal_)])),((42,g4),oB 93 4 I7 x2.1)]⟩) (x1.1,0) g2 _ hy2 (G9 ⟨.of rfl, .of rfl, .of rfl, .of rfl, .of rfl, .of rfl, .of rfl, .of rfl, .of rfl, .of rfl,trivial⟩ (sg rfl (B9 G_hit (.of rfl) (H4 (gq rfl) trivial)))) ?_)
 intro x2 g4 z2 hz2 ez2
 unfold A1o at hz2
 refine lr (fun u6 hu6=>sv rfl (A1 (A5 (cc rfl hz2 (fun c2 hz2=> ?_) (fun c2 hz2=> ?_)))))
 refine A9 (A5 (A6 (lr (fun u7 hu7=>bs hz2 fun v2 hv2 hz2=>sd rfl (F1 rfl rfl hv2 rfl) (sd rfl (C7 rfl hv2 rfl rfl) (sn rfl rfl (sst rfl G_hit (A8m v2) rfl (A1 (lr (fun u8 hu8=>sd rfl (B6 rfl (gq rfl) rfl rfl) (sd rfl (B6 rfl (gq rfl) rfl rfl) (sp rfl rfl (sl rfl G_hit rfl (bs hz2 fun v3 hv3 hz2=>C0 rfl rfl A2 (A6v _ _ _ _ hv3) (.inl rfl) (F6 (.d (bo (!v3))) rfl rfl (sv rfl (gt rfl (fun w1=>(B6 rfl (gq rfl) rfl rfl)) (gt rfl (fun w2=>(B6 rfl (gq rfl) rfl rfl)) (gp rfl (A0k rfl) (fun _=>rfl) (gt rfl (vl rfl G_hit rfl) (bs hz2 fun v4 hv4 hz2=> ?_)))))))))))))))))))))
 refine L7 _ (bo v4) (A0k rfl) (fun w5=>⟨_,[(.d (.agg (Y0 p1))),(.d (.agg [(.list (List.map L5 v1.Parts)),(i64 v1.Signal_)])),(di v2.Lane_)],_,_,(by simp only [A4 w5];rfl),rfl,A2,A94 _ _ _ _ (C8 w5 hv4),(.inl rfl)⟩) ?_
 refine A28 _ (.d (bo (!v4))) rfl (A0k rfl) (fun w6=>(by simp only [A4 w6];rfl)) ?_
 refine sa rfl rfl rfl (A1 (cc rfl hz2 (fun c3 hz2=> ?_) (fun c3 hz2=> ?_)))
 refine A8 (s0:=⟨T [(1,(.ptr (1,u1) 0)),(2,(oS x2.1 (42,g4))),(3,(di x1.2)),(4,(.ptr (4,u4) 0)),(6,(.ptr (6,u7) 0)),(8,(dl V2 p1.Zones)),(9,(di (p1.Zones.length:Int))),(10,(di x1.2)),(16,(dl L5 v1.Parts)),(17,(di (v1.Parts.length:Int))),(18,(di x2.2))],G [((1,u1),some (.box 27 (X2 p1))),((42,g4),oB 93 4 I7 x2.1),((4,u4),some (.box 45 [(dl L5 v1.Parts),(di v1.Signal_)])),((6,u7),some (.box 91 (A8m v2)))]⟩) (G9 ⟨.of rfl, .of rfl, .of rfl, .of rfl, .of rfl, .of rfl, .of rfl, .of rfl, .of rfl, .of rfl, .of rfl,trivial⟩ (sg rfl (H4 (gq rfl) (sg rfl (B9 G_hit (.of rfl) trivial))))) ?_
 refine B8 fun u9 hu9=>F6 (oS x2.1 (42,g4)) rfl rfl (sv rfl (sp rfl rfl (sl rfl (gq rfl) rfl (sv rfl (F6 (dl I7 [(Clash.mk 2 x1.2 v2.Lane_ (-1))]) rfl rfl (bs hz2 fun v5 hv5 hz2=>Y8 I7 (42,g4) x2.1 (Clash.mk 2 x1.2 v2.Lane_ (-1)) [] _ (P3 (fun _=>rfl)) rfl (gq rfl) hv5 (ss rfl (A1 (G3 (A8 (s0:=⟨T [(1,(.ptr _ _)),(2,(.sl _)),(3,(.d _)),(4,(.ptr _ _)),(8,(.d _)),(9,(.d _)),(10,(.d _)),(16,(.d _)),(17,(.d _)),(18,(.d _))],G [((1,u1),some (.box 27 _)),((42,u9),some _),((4,u4),some (.box 45 _))]⟩) (sbr rfl rfl) ?_))))))))))
 refine B8 fun u10 hu10=>sv rfl (sv rfl (A1 (G4 ?_)))
 cases hz2
 exact ⟨rfl,u9,(G9 ⟨.of rfl,(.of (B0y (A3d hv5)).symm), .of rfl, .of rfl, .of rfl, .of rfl, .of rfl, .of rfl, .of rfl, .of rfl,trivial⟩ (B9 G_hit (.of rfl) (sg rfl (A3e (gq rfl) trivial))))⟩
 refine A9 (G3 (A8 (s0:=⟨T [(1,(.ptr (1,u1) 0)),(2,(oS x2.1 (42,g4))),(3,(di x1.2)),(4,(.ptr (4,u4) 0)),(8,(dl V2 p1.Zones)),(9,(di (p1.Zones.length:Int))),(10,(di x1.2)),(16,(dl L5 v1.Parts)),(17,(di (v1.Parts.length:Int))),(18,(di x2.2))],G [((1,u1),some (.box 27 (X2 p1))),((42,g4),oB 93 4 I7 x2.1),((4,u4),some (.box 45 [(dl L5 v1.Parts),(di v1.Signal_)]))]⟩) (G9 ⟨.of rfl, .of rfl, .of rfl, .of rfl, .of rfl, .of rfl, .of rfl, .of rfl, .of rfl, .of rfl,trivial⟩ (sg rfl (H4 (gq rfl) (sg rfl trivial)))) ?_))
 refine B8 fun u11 hu11=>sv rfl (sv rfl (A1 (G4 ?_)))
 cases hz2
 exact ⟨rfl,g4,(G9 ⟨.of rfl, .of rfl, .of rfl, .of rfl, .of rfl, .of rfl, .of rfl, .of rfl, .of rfl, .of rfl,trivial⟩ (B9 G_hit (.of rfl) (sg rfl (H4 (gq rfl) trivial))))⟩
 refine C4 rfl ?_
 cases hz2
 obtain rfl:=ez2 _ rfl
 refine ⟨nofun,C1 rfl (l_j ?_)⟩
 exact ⟨g4,(G9 ⟨.of rfl, .of rfl, .of rfl, .of rfl, .of rfl,trivial⟩ (B9 G_hit (.of rfl) (H4 (gq rfl) trivial)))⟩
 rintro _ ⟨g3,q1⟩
 refine G3 (A8 q1 (B8 fun u12 hu12=>sv rfl (sv rfl (A1 (G4 ?_)))))
 cases hz1
 exact ⟨rfl,g3,(G9 ⟨.of rfl, .of rfl, .of rfl, .of rfl, .of rfl,trivial⟩ (B9 G_hit (.of rfl) (H4 (gq rfl) trivial)))⟩
 refine C4 rfl ?_
 cases hz1
 obtain rfl:=ez1 _ rfl
 refine ⟨nofun,C1 rfl (l_j ?_)⟩
 exact ⟨g2,(G9 ⟨.of rfl,trivial⟩ (H4 (gq rfl) trivial))⟩
 rintro _ ⟨g1,q2⟩
 refine A8 q2 (lr (fun u13 hu13=>F6 (oS y1 (42,g1)) rfl rfl (F6 (oS y1 (42,g1)) rfl rfl (A1 (B1 ?_)))))
 cases h
 exact A7 (.inr rfl) (B7 (B0 rfl) (B1o G_hit)) B1n
noncomputable def A11 (p1:Map)(p2:Zone)(x1:((List Int)×Int)):Option (Stp ((List Int)×Int) (List Int)):=
  cond (decide (x1.2< (p2.Parts.length:Int))) ((F0 p2.Parts x1.2).bind fun v1=>(A2x p1 p2 v1.Lane_).bind fun v2=>cond v2 ((A7b x1.1 [v1.Lane_]).bind fun v3=>some (.go (v3,(w64 (x1.2+1))))) (some (.go (x1.1,(w64 (x1.2+1)))))) (some (.out x1.1))
noncomputable def A0s (p1:Map)(p2:Zone):Option (List Int):=
  (loop (A11 p1 p2) ([],0)).bind fun y1=>some y1
theorem A53 (p1:Map)(p2:Zone)(r:(List Int))(h:A0s p1 p2=some r):PCall Tryz.prog 248 [(.agg (Y0 p1)),(.agg [(.list (List.map L5 p2.Parts)),(i64 p2.Signal_)])] (.list (List.map A3 r)):=by
 refine C6 (fk Tryz.func248 Tryz.ntmps248 (fun r=>if r==6 then [1003]else []) (by with_unfolding_all rfl)) (nl rfl) ?_
 unfold A0s at h
 refine A8 (s0:=⟨T [(0,(.d _)),(1,(.d _))],G []⟩) (sbr rfl rfl) ?_
 refine lr (fun u1 hu1=>sn rfl rfl (sn rfl rfl (sv rfl (A1 (lr (fun u2 hu2=>sv rfl (A1 (A5 (lr (fun u3 hu3=>sp rfl rfl (sl rfl G_hit rfl (sd rfl (D3 rfl) (sv rfl (A1 (bs h fun y1 hy1 h=>E1 (fun s=> ∃g1:Nat,Sb ⟨T [(5,(oS y1 (24,g1)))],G [((24,g1),oB 3 1 A3 y1)]⟩ s) ?_ ?_)))))))))))))))
 refine A6 (E4 (A11 p1 p2) (fun (x1:((List Int)×Int)) (g2:Nat)=>⟨T [(2,(.ptr (2,u1) 0)),(3,(.ptr (3,u1) 0)),(5,(oS x1.1 (24,g2))),(9,(dl L5 p2.Parts)),(10,(di (p2.Parts.length:Int))),(11,(di x1.2))],G [((2,u1),some (.box 27 (X2 p1))),((3,u1),some (.box 45 [(dl L5 p2.Parts),(di p2.Signal_)])),((24,g2),oB 3 1 A3 x1.1)]⟩) ([],0) 0 _ hy1 (G9 ⟨.of rfl, .of rfl, .of rfl, .of rfl, .of rfl, .of rfl,trivial⟩ (sg rfl (B9 G_hit (.of rfl) (A3f trivial)))) ?_)
 intro x1 g2 z1 hz1 ez1
 unfold A11 at hz1
 refine lr (fun u4 hu4=>sv rfl (A1 (A5 (cc rfl hz1 (fun c1 hz1=> ?_) (fun c1 hz1=> ?_)))))
 refine A9 (A5 (A6 (lr (fun u5 hu5=>bs hz1 fun v1 hv1 hz1=>sd rfl (F1 rfl rfl hv1 rfl) (sd rfl (C7 rfl hv1 rfl rfl) (sn rfl rfl (sst rfl G_hit (A8m v1) rfl (A1 (lr (fun u6 hu6=>sd rfl (B6 rfl (gq rfl) rfl rfl) (sd rfl (B6 rfl (gq rfl) rfl rfl) (sp rfl rfl (sl rfl G_hit rfl (bs hz1 fun v2 hv2 hz1=>C0 rfl rfl A2 (A6v _ _ _ _ hv2) (.inl rfl) (A1 (cc rfl hz1 (fun c2 hz1=> ?_) (fun c2 hz1=> ?_)))))))))))))))))
 refine B8 fun u7 hu7=>F6 (oS x1.1 (24,g2)) rfl rfl (sp rfl rfl (sl rfl G_hit rfl (F6 (dl A3 [v1.Lane_]) rfl rfl (bs hz1 fun v3 hv3 hz1=>Y8 A3 (24,g2) x1.1 v1.Lane_ [] _ (P3 (fun _=>rfl)) rfl (gq rfl) hv3 (ss rfl (A1 (G3 (A8 (s0:=⟨T [(2,(.ptr _ _)),(3,(.ptr _ _)),(5,(.sl _)),(9,(.d _)),(10,(.d _)),(11,(.d _))],G [((2,u1),some (.box 27 _)),((3,u1),some (.box 45 _)),((24,u7),some _)]⟩) (sbr rfl rfl) ?_))))))))
 refine B8 fun u8 hu8=>sv rfl (sv rfl (A1 (G4 ?_)))
 cases hz1
 exact ⟨rfl,u7,(G9 ⟨.of rfl, .of rfl,(.of (B0y (A3d hv3)).symm), .of rfl, .of rfl, .of rfl,trivial⟩ (B9 G_hit (.of rfl) (sg rfl (A3e (gq rfl) trivial))))⟩
 refine A9 (G3 (B8 fun u9 hu9=>sv rfl (sv rfl (A1 (G4 ?_)))))
 cases hz1
 exact ⟨rfl,g2,(G9 ⟨.of rfl, .of rfl, .of rfl, .of rfl, .of rfl, .of rfl,trivial⟩ (sg rfl (sg rfl (H4 (gq rfl) trivial))))⟩
 refine C4 rfl ?_
 cases hz1
 obtain rfl:=ez1 _ rfl
 refine ⟨nofun,C1 rfl (l_j ?_)⟩
 exact ⟨g2,(G9 ⟨.of rfl,trivial⟩ (H4 (gq rfl) trivial))⟩
 rintro _ ⟨g1,q1⟩
 refine A8 q1 (lr (fun u10 hu10=>F6 (oS y1 (24,g1)) rfl rfl (F6 (oS y1 (24,g1)) rfl rfl (A1 (B1 ?_)))))
 cases h
 exact A7 (.inr rfl) (B7 (B0 rfl) (B1o G_hit)) B1n
noncomputable def A3l (p1:Zone)(p2:Int)(p3:Int):Option Bool:=
  (A34 p1 p2).bind fun v1=>(A34 p1 p3).bind fun v2=>some ((p1.Signal_==0)&& (v1.1.Rank==v2.1.Rank))
theorem B3j (p1:Zone)(p2:Int)(p3:Int)(r:Bool)(h:A3l p1 p2 p3=some r):PCall Tryz.prog 186 [(.agg [(.list (List.map L5 p1.Parts)),(i64 p1.Signal_)]),(i64 p2),(i64 p3)] (bo r):=by
 refine C6 (fk Tryz.func186 Tryz.ntmps186 m0 (by with_unfolding_all rfl)) (nl rfl) ?_
 unfold A3l at h
 refine A8 (s0:=⟨T [(0,(.d _)),(1,(.d _)),(2,(.d _))],G []⟩) (sbr rfl rfl) ?_
 refine lr (fun u1 hu1=>sn rfl rfl (sv rfl (A1 (lr (fun u2 hu2=>sd rfl (B6 rfl G_hit rfl rfl) (sv rfl (bs h fun v1 hv1 h=>C0 rfl rfl A2 (A5h _ _ _ hv1) (.inl rfl) (sv rfl (sv rfl (sv rfl (sn rfl rfl (sst rfl G_hit (A8m v1.1) rfl (sv rfl (A1 (lr (fun u3 hu3=>sd rfl (B6 rfl (gq rfl) rfl rfl) (sv rfl (bs h fun v2 hv2 h=>C0 rfl rfl A2 (A5h _ _ _ hv2) (.inl rfl) (sv rfl (sv rfl (sv rfl (sn rfl rfl (sst rfl G_hit (A8m v2.1) rfl (sv rfl (A1 (A5 (A8 (s0:=⟨T [(3,(.ptr _ _)),(7,(.ptr _ _)),(9,(.ptr _ _))],G [((3,u1),some (.box 45 _)),((7,u2),some (.box 91 _)),((9,u3),some (.box 91 _))]⟩) (sbr rfl rfl) ?_)))))))))))))))))))))))))))
 refine B8 fun u4 hu4=>sp rfl rfl (sl rfl G_hit rfl (sv rfl (sv rfl (gp rfl (A0k rfl) (fun _=>rfl) (gt rfl (vl rfl (gq rfl) rfl) (gp rfl (A0k rfl) (fun _=>rfl) (gt rfl (vl rfl (gq rfl) rfl) (gt rfl (fun w5=>(A0a (A4 w5) (A4 w5) rfl)) (sa rfl rfl rfl (sv rfl (A1 (B1 ?_))))))))))))
 cases h
 exact A7 (.inr rfl) (B7 (B0 rfl) F7) (.refl _)
noncomputable def L0 (p2:Int)(x1:((List Clash)×Int))(v1:Zone)(v3:Int)(v4:List Int)(x3:((List Clash)×Int)):Option (Stp ((List Clash)×Int) (List Clash)):=
  cond (decide (x3.2< (v4.length:Int))) ((F0 v4 x3.2).bind fun v5=>(A3l v1 v3 v5).bind fun v6=>cond v6 ((A7b x3.1 [(Clash.mk p2 x1.2 v3 v5)]).bind fun v7=>some (.go (v7,(w64 (x3.2+1))))) (some (.go (x3.1,(w64 (x3.2+1)))))) (some (.out x3.1))
noncomputable def L3 (p2:Int)(x1:((List Clash)×Int))(v1:Zone)(v2:(List Int))(x2:((List Clash)×Int)):Option (Stp ((List Clash)×Int) (List Clash)):=
  cond (decide (x2.2< (v2.length:Int))) ((F0 v2 x2.2).bind fun v3=>(B71 v2 (w64 (x2.2+1)) (v2.length:Int)).bind fun v4=>(loop (L0 p2 x1 v1 v3 v4) (x2.1,0)).bind fun y3=>some (.go (y3,(w64 (x2.2+1))))) (some (.out x2.1))
noncomputable def L4 (p1:Map)(p2:Int)(x1:((List Clash)×Int)):Option (Stp ((List Clash)×Int) (List Clash)):=
  cond (decide (x1.2< (p1.Zones.length:Int))) ((F0 p1.Zones x1.2).bind fun v1=>(A0s p1 v1).bind fun v2=>(loop (L3 p2 x1 v1 v2) (x1.1,0)).bind fun y2=>some (.go (y2,(w64 (x1.2+1))))) (some (.out x1.1))
noncomputable def O1 (p1:Map)(p2:Int):Option (List Clash):=
  (loop (L4 p1 p2) ([],0)).bind fun y1=>some y1
theorem A5i (p1:Map)(p2:Int)(r:(List Clash))(h:O1 p1 p2=some r):PCall Tryz.prog 185 [(.agg (Y0 p1)),(i64 p2),(.fn (.func 186) [] [])] (.list (List.map I7 r)):=by
 refine C6 (fk Tryz.func185 Tryz.ntmps185 (fun r=>if r==12 then [1006]else []) (by with_unfolding_all rfl)) (nl rfl) ?_
 unfold O1 at h
 refine A8 (s0:=⟨T [(0,(.d _)),(1,(.d _)),(2,(.d _))],G []⟩) (sbr rfl rfl) ?_
 refine lr (fun u1 hu1=>sn rfl rfl (sv rfl (A1 (A5 (lr (fun u2 hu2=>sp rfl rfl (sl rfl G_hit rfl (sd rfl (D3 rfl) (sv rfl (A1 (bs h fun y1 hy1 h=>E1 (fun s=> ∃g1:Nat,Sb ⟨T [(6,(oS y1 (53,g1)))],G [((53,g1),oB 93 4 I7 y1)]⟩ s) ?_ ?_)))))))))))
 refine A6 (E4 (L4 p1 p2) (fun (x1:((List Clash)×Int)) (g2:Nat)=>⟨T [(1,(di p2)),(2,(.d (.fn (.func 186) [] []))),(3,(.ptr (3,u1) 0)),(6,(oS x1.1 (53,g2))),(15,(dl V2 p1.Zones)),(16,(di (p1.Zones.length:Int))),(17,(di x1.2))],G [((3,u1),some (.box 27 (X2 p1))),((53,g2),oB 93 4 I7 x1.1)]⟩) ([],0) 0 _ hy1 (G9 ⟨.of rfl, .of rfl, .of rfl, .of rfl, .of rfl, .of rfl, .of rfl,trivial⟩ (B9 G_hit (.of rfl) (A3f trivial))) ?_)
 intro x1 g2 z1 hz1 ez1
 unfold L4 at hz1
 refine lr (fun u3 hu3=>sv rfl (A1 (A5 (cc rfl hz1 (fun c1 hz1=> ?_) (fun c1 hz1=> ?_)))))
 refine A9 (A5 (A6 (lr (fun u4 hu4=>sv rfl (bs hz1 fun v1 hv1 hz1=>sd rfl (F1 rfl rfl hv1 rfl) (sd rfl (C7 rfl hv1 rfl rfl) (sn rfl rfl (sv rfl (sst rfl G_hit [(dl L5 v1.Parts),(di v1.Signal_)] rfl (A1 (lr (fun u5 hu5=>sd rfl (B6 rfl (gq rfl) rfl rfl) (sd rfl (B6 rfl G_hit rfl rfl) (bs hz1 fun v2 hv2 hz1=>C0 rfl rfl A2 (A53 _ _ _ hv2) (.inl rfl) (sv rfl (A1 (lr (fun u6 hu6=>sv rfl (sd rfl (D3 rfl) (sv rfl (A1 (bs hz1 fun y2 hy2 hz1=>E1 (fun s=> ∃g3:Nat,Sb ⟨T [(1,(di p2)),(2,(.d (.fn (.func 186) [] []))),(3,(.ptr (3,u1) 0)),(6,(oS y2 (53,g3))),(15,(dl V2 p1.Zones)),(16,(di (p1.Zones.length:Int))),(17,(di x1.2))],G [((3,u1),some (.box 27 (X2 p1))),((53,g3),oB 93 4 I7 y2)]⟩ s) ?_ ?_))))))))))))))))))))))
 refine A6 (E4 (L3 p2 x1 v1 v2) (fun (x2:((List Clash)×Int)) (g4:Nat)=>⟨T [(1,(di p2)),(2,(.d (.fn (.func 186) [] []))),(3,(.ptr (3,u1) 0)),(6,(oS x2.1 (53,g4))),(7,(di x1.2)),(8,(.ptr (8,u4) 0)),(9,(dl A3 v2)),(15,(dl V2 p1.Zones)),(16,(di (p1.Zones.length:Int))),(17,(di x1.2)),(25,(dl A3 v2)),(26,(di (v2.length:Int))),(27,(di x2.2))],G [((3,u1),some (.box 27 (X2 p1))),((8,u4),some (.box 45 [(dl L5 v1.Parts),(di v1.Signal_)])),((53,g4),oB 93 4 I7 x2.1)]⟩) (x1.1,0) g2 _ hy2 (G9 ⟨.of rfl, .of rfl, .of rfl, .of rfl, .of rfl, .of rfl, .of rfl, .of rfl, .of rfl, .of rfl, .of rfl, .of rfl, .of rfl,trivial⟩ (sg rfl (B9 G_hit (.of rfl) (H4 (gq rfl) trivial)))) ?_)
 intro x2 g4 z2 hz2 ez2
 unfold L3 at hz2
 refine lr (fun u7 hu7=>sv rfl (A1 (A5 (cc rfl hz2 (fun c2 hz2=> ?_) (fun c2 hz2=> ?_)))))
 refine A9 (A5 (A6 (lr (fun u8 hu8=>sv rfl (bs hz2 fun v3 hv3 hz2=>sd rfl (F1 rfl rfl hv3 rfl) (sd rfl (E6 rfl hv3 rfl) (sv rfl (sv rfl (A1 (lr (fun u9 hu9=>sv rfl (sv rfl (sv rfl (bs hz2 fun v4 hv4 hz2=>sd rfl (C3i rfl (fun _=>rfl) (D0x rfl) B9a hv4) (sd rfl (D3 rfl) (sv rfl (A1 (bs hz2 fun y3 hy3 hz2=>E1 (fun s=> ∃g5:Nat,Sb ⟨T [(1,(di p2)),(2,(.d (.fn (.func 186) [] []))),(3,(.ptr (3,u1) 0)),(6,(oS y3 (53,g5))),(7,(di x1.2)),(8,(.ptr (8,u4) 0)),(9,(dl A3 v2)),(15,(dl V2 p1.Zones)),(16,(di (p1.Zones.length:Int))),(17,(di x1.2)),(25,(dl A3 v2)),(26,(di (v2.length:Int))),(27,(di x2.2))],G [((3,u1),some (.box 27 (X2 p1))),((8,u4),some (.box 45 [(dl L5 v1.Parts),(di v1.Signal_)])),((53,g5),oB 93 4 I7 y3)]⟩ s) ?_ ?_))))))))))))))))))
 refine A6 (E4 (L0 p2 x1 v1 v3 v4) (fun (x3:((List Clash)×Int)) (g6:Nat)=>⟨T [(1,(di p2)),(2,(.d (.fn (.func 186) [] []))),(3,(.ptr (3,u1) 0)),(6,(oS x3.1 (53,g6))),(7,(di x1.2)),(8,(.ptr (8,u4) 0)),(9,(dl A3 v2)),(11,(di v3)),(15,(dl V2 p1.Zones)),(16,(di (p1.Zones.length:Int))),(17,(di x1.2)),(25,(dl A3 v2)),(26,(di (v2.length:Int))),(27,(di x2.2)),(35,(dl A3 v4)),(36,(di (v4.length:Int))),(37,(di x3.2))],G [((3,u1),some (.box 27 (X2 p1))),((8,u4),some (.box 45 [(dl L5 v1.Parts),(di v1.Signal_)])),((53,g6),oB 93 4 I7 x3.1)]⟩) (x2.1,0) g4 _ hy3 (G9 ⟨.of rfl, .of rfl, .of rfl, .of rfl, .of rfl, .of rfl, .of rfl, .of rfl, .of rfl, .of rfl, .of rfl, .of rfl, .of rfl, .of rfl, .of rfl, .of rfl, .of rfl,trivial⟩ (B9 G_hit (.of rfl) (sg rfl (H4 (gq rfl) trivial)))) ?_)
 intro x3 g6 z3 hz3 ez3
 unfold L0 at hz3
 refine lr (fun u10 hu10=>sv rfl (A1 (A5 (cc rfl hz3 (fun c3 hz3=> ?_) (fun c3 hz3=> ?_)))))
 refine A9 (A5 (A6 (lr (fun u11 hu11=>bs hz3 fun v5 hv5 hz3=>sd rfl (F1 rfl rfl hv5 rfl) (sd rfl (E6 rfl hv5 rfl) (sv rfl (A1 (lr (fun u12 hu12=>sv rfl (sd rfl (B6 rfl (gq rfl) rfl rfl) (sv rfl (sv rfl (bs hz3 fun v6 hv6 hz3=>C0 rfl rfl A2 (B3j _ _ _ _ hv6) (.inl rfl) (A1 (cc rfl hz3 (fun c4 hz3=> ?_) (fun c4 hz3=> ?_))))))))))))))))
 refine A8 (s0:=⟨T [(1,(di p2)),(2,(.d (.fn (.func 186) [] []))),(3,(.ptr (3,u1) 0)),(6,(oS x3.1 (53,g6))),(7,(di x1.2)),(8,(.ptr (8,u4) 0)),(9,(dl A3 v2)),(11,(di v3)),(13,(di v5)),(15,(dl V2 p1.Zones)),(16,(di (p1.Zones.length:Int))),(17,(di x1.2)),(25,(dl A3 v2)),(26,(di (v2.length:Int))),(27,(di x2.2)),(35,(dl A3 v4)),(36,(di (v4.length:Int))),(37,(di x3.2))],G [((3,u1),some (.box 27 (X2 p1))),((53,g6),oB 93 4 I7 x3.1),((8,u4),some (.box 45 [(dl L5 v1.Parts),(di v1.Signal_)]))]⟩) (G9 ⟨.of rfl, .of rfl, .of rfl, .of rfl, .of rfl, .of rfl, .of rfl, .of rfl, .of rfl, .of rfl, .of rfl, .of rfl, .of rfl, .of rfl, .of rfl, .of rfl, .of rfl, .of rfl,trivial⟩ (B9 G_hit (.of rfl) (H4 (gq rfl) (sg rfl trivial)))) ?_
 refine B8 fun u13 hu13=>F6 (oS x3.1 (53,g6)) rfl rfl (sv rfl (sv rfl (sv rfl (sv rfl (sv rfl (F6 (dl I7 [(Clash.mk p2 x1.2 v3 v5)]) rfl rfl (bs hz3 fun v7 hv7 hz3=>Y8 I7 (53,g6) x3.1 (Clash.mk p2 x1.2 v3 v5) [] _ (P3 (fun _=>rfl)) rfl (gq rfl) hv7 (ss rfl (A1 (G3 (A8 (s0:=⟨T [(1,(.d _)),(2,(.d _)),(3,(.ptr _ _)),(6,(.sl _)),(7,(.d _)),(8,(.ptr _ _)),(9,(.d _)),(11,(.d _)),(15,(.d _)),(16,(.d _)),(17,(.d _)),(25,(.d _)),(26,(.d _)),(27,(.d _)),(35,(.d _)),(36,(.d _)),(37,(.d _))],G [((3,u1),some (.box 27 _)),((53,u13),some _),((8,u4),some (.box 45 _))]⟩) (sbr rfl rfl) ?_)))))))))))
 refine B8 fun u14 hu14=>sv rfl (sv rfl (A1 (G4 ?_)))
 cases hz3
 exact ⟨rfl,u13,(G9 ⟨.of rfl, .of rfl, .of rfl,(.of (B0y (A3d hv7)).symm), .of rfl, .of rfl, .of rfl, .of rfl, .of rfl, .of rfl, .of rfl, .of rfl, .of rfl, .of rfl, .of rfl, .of rfl, .of rfl,trivial⟩ (B9 G_hit (.of rfl) (sg rfl (A3e (gq rfl) trivial))))⟩
 refine A9 (G3 (A8 (s0:=⟨T [(1,(di p2)),(2,(.d (.fn (.func 186) [] []))),(3,(.ptr (3,u1) 0)),(6,(oS x3.1 (53,g6))),(7,(di x1.2)),(8,(.ptr (8,u4) 0)),(9,(dl A3 v2)),(11,(di v3)),(15,(dl V2 p1.Zones)),(16,(di (p1.Zones.length:Int))),(17,(di x1.2)),(25,(dl A3 v2)),(26,(di (v2.length:Int))),(27,(di x2.2)),(35,(dl A3 v4)),(36,(di (v4.length:Int))),(37,(di x3.2))],G [((3,u1),some (.box 27 (X2 p1))),((53,g6),oB 93 4 I7 x3.1),((8,u4),some (.box 45 [(dl L5 v1.Parts),(di v1.Signal_)]))]⟩) (G9 ⟨.of rfl, .of rfl, .of rfl, .of rfl, .of rfl, .of rfl, .of rfl, .of rfl, .of rfl, .of rfl, .of rfl, .of rfl, .of rfl, .of rfl, .of rfl, .of rfl, .of rfl,trivial⟩ (B9 G_hit (.of rfl) (H4 (gq rfl) (sg rfl trivial)))) ?_))
 refine B8 fun u15 hu15=>sv rfl (sv rfl (A1 (G4 ?_)))
 cases hz3
 exact ⟨rfl,g6,(G9 ⟨.of rfl, .of rfl, .of rfl, .of rfl, .of rfl, .of rfl, .of rfl, .of rfl, .of rfl, .of rfl, .of rfl, .of rfl, .of rfl, .of rfl, .of rfl, .of rfl, .of rfl,trivial⟩ (B9 G_hit (.of rfl) (sg rfl (H4 (gq rfl) trivial))))⟩
 refine C4 rfl ?_
 cases hz3
 obtain rfl:=ez3 _ rfl
 refine ⟨nofun,C1 rfl (l_j ?_)⟩
 exact ⟨g6,(G9 ⟨.of rfl, .of rfl, .of rfl, .of rfl, .of rfl, .of rfl, .of rfl, .of rfl, .of rfl, .of rfl, .of rfl, .of rfl, .of rfl,trivial⟩ (B9 G_hit (.of rfl) (sg rfl (H4 (gq rfl) trivial))))⟩
 rintro _ ⟨g5,q1⟩
 refine G3 (A8 q1 (B8 fun u16 hu16=>sv rfl (sv rfl (A1 (G4 ?_)))))
 cases hz2
 exact ⟨rfl,g5,(G9 ⟨.of rfl, .of rfl, .of rfl, .of rfl, .of rfl, .of rfl, .of rfl, .of rfl, .of rfl, .of rfl, .of rfl, .of rfl, .of rfl,trivial⟩ (B9 G_hit (.of rfl) (sg rfl (H4 (gq rfl) trivial))))⟩
 refine C4 rfl ?_
 cases hz2
 obtain rfl:=ez2 _ rfl
 refine ⟨nofun,C1 rfl (l_j ?_)⟩
 exact ⟨g4,(G9 ⟨.of rfl, .of rfl, .of rfl, .of rfl, .of rfl, .of rfl, .of rfl,trivial⟩ (B9 G_hit (.of rfl) (H4 (gq rfl) trivial)))⟩
 rintro _ ⟨g3,q2⟩
 refine G3 (A8 q2 (B8 fun u17 hu17=>sv rfl (sv rfl (A1 (G4 ?_)))))
 cases hz1
 exact ⟨rfl,g3,(G9 ⟨.of rfl, .of rfl, .of rfl, .of rfl, .of rfl, .of rfl, .of rfl,trivial⟩ (B9 G_hit (.of rfl) (H4 (gq rfl) trivial)))⟩
 refine C4 rfl ?_
 cases hz1
 obtain rfl:=ez1 _ rfl
 refine ⟨nofun,C1 rfl (l_j ?_)⟩
 exact ⟨g2,(G9 ⟨.of rfl,trivial⟩ (H4 (gq rfl) trivial))⟩
 rintro _ ⟨g1,q3⟩
 refine A8 q3 (lr (fun u18 hu18=>F6 (oS y1 (53,g1)) rfl rfl (F6 (oS y1 (53,g1)) rfl rfl (A1 (B1 ?_)))))
 cases h
 exact A7 (.inr rfl) (B7 (B0 rfl) (B1o G_hit)) B1n
noncomputable def A5x (p1:Map):Option (List Clash):=
  (O1 p1 3).bind fun v1=>some v1
theorem B68 (p1:Map)(r:(List Clash))(h:A5x p1=some r):PCall Tryz.prog 79 [(.agg (Y0 p1))] (.list (List.map I7 r)):=by
 refine C6 (fk Tryz.func79 Tryz.ntmps79 m0 (by with_unfolding_all rfl)) (nl rfl) ?_
 unfold A5x at h
 refine A8 (s0:=⟨T [(0,(.d _))],G []⟩) (sbr rfl rfl) ?_
 refine lr (fun u1 hu1=>sn rfl rfl (sv rfl (A1 (lr (fun u2 hu2=>sd rfl (B6 rfl G_hit rfl rfl) (bs h fun v1 hv1 h=>C0 rfl rfl A2 (A5i _ _ _ hv1) (.inl rfl) (sv rfl (A1 (B1 ?_)))))))))
 cases h
 exact A7 (.inr rfl) (B7 (B0 rfl) F7) (.refl _)
noncomputable def U9 (p1:Phase)(p2:Int)(p3:Int):Option Bool:=
  (E7 p1.Green p2).bind fun v1=>((cond v1 (E7 p1.Green p3) (some default))).bind fun v2=>some (v1&&v2)
theorem A7v (p1:Phase)(p2:Int)(p3:Int)(r:Bool)(h:U9 p1 p2 p3=some r):PCall Tryz.prog 188 [(.agg [(i64 p1.Ticks),(.list (List.map A3 p1.Green))]),(.bp [(i64 p2)] 0),(.bp [(i64 p3)] 0)] (bo r):=by
 refine C6 (fk Tryz.func188 Tryz.ntmps188 m0 (by with_unfolding_all rfl)) (nl rfl) ?_
 unfold U9 at h
 refine A8 (s0:=⟨T [(0,(.d _)),(1,(.d _)),(2,(.d _))],G []⟩) (sbr rfl rfl) ?_
 refine lr (fun u1 hu1=>sn rfl rfl (sv rfl (A1 (lr (fun u2 hu2=>sp rfl rfl (sl rfl G_hit rfl (sv rfl (bs h fun v1 hv1 h=>C0 rfl rfl A2 (N1 _ _ _ hv1) (.inl rfl) (sv rfl (gp rfl (A0k rfl) (fun _=>rfl) (gt rfl (vl rfl G_hit rfl) (gt rfl (fun _=>rfl) (bs h fun v2 hv2 h=> ?_)))))))))))))
 refine L7 v1 (bo v2) (A0k rfl) (fun w4=>⟨_,[(dl A3 p1.Green),(di p3)],_,_,(by simp only [A4 w4];rfl),rfl,A2,N1 _ _ _ (C8 w4 hv2),(.inl rfl)⟩) ?_
 refine sa rfl rfl rfl (sv rfl (A1 (B1 ?_)))
 cases h
 exact A7 (.inr rfl) (B7 (B0 rfl) F7) (.refl _)
noncomputable def D0 (p1:(List Phase))(p2:Int)(p3:Int)(x1:Int):Option (Stp Int (Sum Unit Int)):=
  cond (decide (x1< (p1.length:Int))) ((F0 p1 x1).bind fun v1=>(U9 v1 p2 p3).bind fun v2=>cond v2 (some (.out (.inr x1))) (some (.go (w64 (x1+1))))) (some (.out (.inl ())))
noncomputable def D7 (p1:(List Phase))(p2:Int)(p3:Int):Option Int:=
  thenS (loop (D0 p1 p2 p3) 0) (fun _=>some (-1)) (fun r=>some r)
theorem X4 (p1:(List Phase))(p2:Int)(p3:Int)(r:Int)(h:D7 p1 p2 p3=some r):PCall Tryz.prog 237 [(.list (List.map W0 p1)),(.fn (.func 188) [] [(.bp [(i64 p2)] 0),(.bp [(i64 p3)] 0)])] (i64 r):=by
 refine C6 (fk Tryz.func237 Tryz.ntmps237 m0 (by with_unfolding_all rfl)) (nl rfl) ?_
 unfold D7 at h
 refine A8 (s0:=⟨T [(0,(.d _)),(1,(.d _))],G []⟩) (sbr rfl rfl) ?_
 refine lr (fun u1 hu1=>sv rfl (A1 (A5 (lr (fun u2 hu2=>sv rfl (sd rfl (D3 rfl) (sv rfl (A1 (js h fun z1 hz1 h=>E1 (fun s=> ∃(y1:Unit) (g1:Unit),z1= .inl y1∧Sb ⟨T [],G []⟩ s) ?_ ?_)))))))))
 refine A6 (E4 (D0 p1 p2 p3) (fun (x1:Int) (g2:Unit)=>⟨T [(0,(dl W0 p1)),(1,(.d (.fn (.func 188) [] [(.bp [(i64 p2)] 0),(.bp [(i64 p3)] 0)]))),(7,(di (p1.length:Int))),(8,(di x1))],G []⟩) 0 () _ hz1 (sbr rfl rfl) ?_)
 intro x1 g2 z2 hz2 ez2
 unfold D0 at hz2
 refine lr (fun u3 hu3=>sv rfl (A1 (A5 (cc rfl hz2 (fun c1 hz2=> ?_) (fun c1 hz2=> ?_)))))
 refine A9 (A5 (A6 (lr (fun u4 hu4=>sv rfl (sv rfl (A1 (lr (fun u5 hu5=>sv rfl (sv rfl (sv rfl (bs hz2 fun v1 hv1 hz2=>sd rfl (F1 rfl rfl hv1 rfl) (sd rfl (C7 rfl hv1 rfl rfl) (bs hz2 fun v2 hv2 hz2=>C0 rfl rfl A2 (A7v _ _ _ _ hv2) (.inl rfl) (A1 (cc rfl hz2 (fun c2 hz2=> ?_) (fun c2 hz2=> ?_))))))))))))))))
 refine lr (fun u6 hu6=>sv rfl (sv rfl (A1 (B1 ?_))))
 cases hz2
 obtain rfl:=ez2 _ rfl
 refine ⟨nofun,D4 ?_⟩
 rw [Sum.elim_inr]at h
 cases h
 exact A7 (.inr rfl) (B7 (B0 rfl) F7) (.refl _)
 refine A9 (G3 (B8 fun u7 hu7=>sv rfl (sv rfl (A1 (G4 ?_)))))
 cases hz2
 exact ⟨rfl,(),(sbr rfl rfl)⟩
 refine C4 rfl ?_
 cases hz2
 obtain rfl:=ez2 _ rfl
 refine ⟨nofun,C1 rfl (l_j ?_)⟩
 exact ⟨_,(),rfl,(sbr rfl rfl)⟩
 rintro _ ⟨y1,g1,rfl,q1⟩
 rw [Sum.elim_inl]at h
 refine A8 q1 (lr (fun u8 hu8=>sv rfl (A1 (B1 ?_))))
 cases h
 exact A7 (.inr rfl) (B7 (B0 rfl) F7) (.refl _)
noncomputable def D1 (p1:(List Phase))(p2:Int)(p3:Int):Option Bool:=
  (D7 p1 p2 p3).bind fun v1=>some (decide (v1≥0))
theorem V5 (p1:(List Phase))(p2:Int)(p3:Int)(r:Bool)(h:D1 p1 p2 p3=some r):PCall Tryz.prog 172 [(.list (List.map W0 p1)),(.fn (.func 188) [] [(.bp [(i64 p2)] 0),(.bp [(i64 p3)] 0)])] (bo r):=by
 refine C6 (fk Tryz.func172 Tryz.ntmps172 m0 (by with_unfolding_all rfl)) (nl rfl) ?_
 unfold D1 at h
 refine A8 (s0:=⟨T [(0,(.d _)),(1,(.d _))],G []⟩) (sbr rfl rfl) ?_
 refine lr (fun u1 hu1=>sv rfl (A1 (lr (fun u2 hu2=>sv rfl (sv rfl (bs h fun v1 hv1 h=>C0 rfl rfl A2 (X4 _ _ _ _ hv1) (.inl rfl) (sv rfl (sv rfl (A1 (B1 ?_))))))))))
 cases h
 exact A7 (.inr rfl) (B7 (B0 rfl) F7) (.refl _)
noncomputable def Y7 (p1:Zone)(p2:Int)(p3:Int)(p4:Map):Option Bool:=
  ((cond (decide (p1.Signal_>0)) (F0 p4.Signals (w64 (p1.Signal_ - 1))) (some default))).bind fun v1=>((cond (decide (p1.Signal_>0)) (D1 v1.Phases p2 p3) (some default))).bind fun v2=>some ((decide (p1.Signal_>0))&&v2)
theorem A5y (p1:Zone)(p2:Int)(p3:Int)(p4:Map)(r:Bool)(h:Y7 p1 p2 p3 p4=some r):PCall Tryz.prog 187 [(.agg [(.list (List.map L5 p1.Parts)),(i64 p1.Signal_)]),(i64 p2),(i64 p3),(.bp (Y0 p4) 0)] (bo r):=by
 refine C6 (fk Tryz.func187 Tryz.ntmps187 m0 (by with_unfolding_all rfl)) (nl rfl) ?_
 unfold Y7 at h
 refine A8 (s0:=⟨T [(0,(.d _)),(1,(.d _)),(2,(.d _)),(3,(.d _))],G []⟩) (sbr rfl rfl) ?_
 refine lr (fun u1 hu1=>sn rfl rfl (sn rfl rfl (sn rfl rfl (sv rfl (A1 (lr (fun u2 hu2=>sp rfl rfl (sl rfl (gq rfl) rfl (sv rfl (sv rfl (gt rfl (fun _=>rfl) ?_)))))))))))
 refine gt rfl (fun w2=>(by simp only [A4 w2];rfl)) ?_
 refine gp rfl (A0k rfl) (fun _=>rfl) (gt rfl (vl rfl (gq rfl) rfl) (gt rfl (vb rfl rfl rfl) (bs h fun v1 hv1 h=>gt rfl (fun w6=>(F1 (A4 w6) (A4 w6) (C8 w6 hv1) rfl)) ?_)))
 refine gt rfl (fun w7=>(by simp only [A4 w7];rfl)) ?_
 refine gt rfl (fun w8=>(E6 (A4 w8) (C8 w8 hv1) rfl)) (A28 _ (.fn _ _ _) rfl (A0k rfl) (fun _=>rfl) (bs h fun v2 hv2 h=> ?_))
 refine L7 _ (bo v2) (A0k rfl) (fun w10=>⟨_,[(dl W0 v1.Phases),(.fn (.func 188) [] [(.ptr (5,u1) 0),(.ptr (6,u1) 0)])],_,_,(by simp only [A4 w10];rfl),(rD (R0 (C3d N3 (R0 (B0d (gq rfl) (rD N3)) (R0 (B0d G_hit (rD N3)) N3))) N3)),A2,V5 _ _ _ _ (C8 w10 hv2),(.inr rfl)⟩) ?_
 refine sa rfl rfl rfl (sv rfl (A1 (B1 ?_)))
 cases h
 exact A7 (.inr rfl) (B7 (B0 rfl) F7) (.refl _)
noncomputable def S6 (p2:Int)(p3:Map)(x1:((List Clash)×Int))(v1:Zone)(v3:Int)(v4:List Int)(x3:((List Clash)×Int)):Option (Stp ((List Clash)×Int) (List Clash)):=
  cond (decide (x3.2< (v4.length:Int))) ((F0 v4 x3.2).bind fun v5=>(Y7 v1 v3 v5 p3).bind fun v6=>cond v6 ((A7b x3.1 [(Clash.mk p2 x1.2 v3 v5)]).bind fun v7=>some (.go (v7,(w64 (x3.2+1))))) (some (.go (x3.1,(w64 (x3.2+1)))))) (some (.out x3.1))
noncomputable def S7 (p2:Int)(p3:Map)(x1:((List Clash)×Int))(v1:Zone)(v2:(List Int))(x2:((List Clash)×Int)):Option (Stp ((List Clash)×Int) (List Clash)):=
  cond (decide (x2.2< (v2.length:Int))) ((F0 v2 x2.2).bind fun v3=>(B71 v2 (w64 (x2.2+1)) (v2.length:Int)).bind fun v4=>(loop (S6 p2 p3 x1 v1 v3 v4) (x2.1,0)).bind fun y3=>some (.go (y3,(w64 (x2.2+1))))) (some (.out x2.1))
noncomputable def S8 (p1:Map)(p2:Int)(p3:Map)(x1:((List Clash)×Int)):Option (Stp ((List Clash)×Int) (List Clash)):=
  cond (decide (x1.2< (p1.Zones.length:Int))) ((F0 p1.Zones x1.2).bind fun v1=>(A0s p1 v1).bind fun v2=>(loop (S7 p2 p3 x1 v1 v2) (x1.1,0)).bind fun y2=>some (.go (y2,(w64 (x1.2+1))))) (some (.out x1.1))
noncomputable def A1q (p1:Map)(p2:Int)(p3:Map):Option (List Clash):=
  (loop (S8 p1 p2 p3) ([],0)).bind fun y1=>some y1
theorem B3c (p1:Map)(p2:Int)(p3:Map)(r:(List Clash))(h:A1q p1 p2 p3=some r):PCall Tryz.prog 185 [(.agg (Y0 p1)),(i64 p2),(.fn (.func 187) [] [(.bp (Y0 p3) 0)])] (.list (List.map I7 r)):=by
 refine C6 (fk Tryz.func185 Tryz.ntmps185 (fun r=>if r==12 then [1006]else []) (by with_unfolding_all rfl)) (nl rfl) ?_
 unfold A1q at h
 refine A8 (s0:=⟨T [(0,(.d _)),(1,(.d _)),(2,(.d _))],G []⟩) (sbr rfl rfl) ?_
 refine lr (fun u1 hu1=>sn rfl rfl (sv rfl (A1 (A5 (lr (fun u2 hu2=>sp rfl rfl (sl rfl G_hit rfl (sd rfl (D3 rfl) (sv rfl (A1 (bs h fun y1 hy1 h=>E1 (fun s=> ∃g1:Nat,Sb ⟨T [(6,(oS y1 (53,g1)))],G [((53,g1),oB 93 4 I7 y1)]⟩ s) ?_ ?_)))))))))))
 refine A6 (E4 (S8 p1 p2 p3) (fun (x1:((List Clash)×Int)) (g2:Nat)=>⟨T [(1,(di p2)),(2,(.d (.fn (.func 187) [] [(.bp (Y0 p3) 0)]))),(3,(.ptr (3,u1) 0)),(6,(oS x1.1 (53,g2))),(15,(dl V2 p1.Zones)),(16,(di (p1.Zones.length:Int))),(17,(di x1.2))],G [((3,u1),some (.box 27 (X2 p1))),((53,g2),oB 93 4 I7 x1.1)]⟩) ([],0) 0 _ hy1 (G9 ⟨.of rfl, .of rfl, .of rfl, .of rfl, .of rfl, .of rfl, .of rfl,trivial⟩ (B9 G_hit (.of rfl) (A3f trivial))) ?_)
 intro x1 g2 z1 hz1 ez1
 unfold S8 at hz1
 refine lr (fun u3 hu3=>sv rfl (A1 (A5 (cc rfl hz1 (fun c1 hz1=> ?_) (fun c1 hz1=> ?_)))))
 refine A9 (A5 (A6 (lr (fun u4 hu4=>sv rfl (bs hz1 fun v1 hv1 hz1=>sd rfl (F1 rfl rfl hv1 rfl) (sd rfl (C7 rfl hv1 rfl rfl) (sn rfl rfl (sv rfl (sst rfl G_hit [(dl L5 v1.Parts),(di v1.Signal_)] rfl (A1 (lr (fun u5 hu5=>sd rfl (B6 rfl (gq rfl) rfl rfl) (sd rfl (B6 rfl G_hit rfl rfl) (bs hz1 fun v2 hv2 hz1=>C0 rfl rfl A2 (A53 _ _ _ hv2) (.inl rfl) (sv rfl (A1 (lr (fun u6 hu6=>sv rfl (sd rfl (D3 rfl) (sv rfl (A1 (bs hz1 fun y2 hy2 hz1=>E1 (fun s=> ∃g3:Nat,Sb ⟨T [(1,(di p2)),(2,(.d (.fn (.func 187) [] [(.bp (Y0 p3) 0)]))),(3,(.ptr (3,u1) 0)),(6,(oS y2 (53,g3))),(15,(dl V2 p1.Zones)),(16,(di (p1.Zones.length:Int))),(17,(di x1.2))],G [((3,u1),some (.box 27 (X2 p1))),((53,g3),oB 93 4 I7 y2)]⟩ s) ?_ ?_))))))))))))))))))))))
 refine A6 (E4 (S7 p2 p3 x1 v1 v2) (fun (x2:((List Clash)×Int)) (g4:Nat)=>⟨T [(1,(di p2)),(2,(.d (.fn (.func 187) [] [(.bp (Y0 p3) 0)]))),(3,(.ptr (3,u1) 0)),(6,(oS x2.1 (53,g4))),(7,(di x1.2)),(8,(.ptr (8,u4) 0)),(9,(dl A3 v2)),(15,(dl V2 p1.Zones)),(16,(di (p1.Zones.length:Int))),(17,(di x1.2)),(25,(dl A3 v2)),(26,(di (v2.length:Int))),(27,(di x2.2))],G [((3,u1),some (.box 27 (X2 p1))),((8,u4),some (.box 45 [(dl L5 v1.Parts),(di v1.Signal_)])),((53,g4),oB 93 4 I7 x2.1)]⟩) (x1.1,0) g2 _ hy2 (G9 ⟨.of rfl, .of rfl, .of rfl, .of rfl, .of rfl, .of rfl, .of rfl, .of rfl, .of rfl, .of rfl, .of rfl, .of rfl, .of rfl,trivial⟩ (sg rfl (B9 G_hit (.of rfl) (H4 (gq rfl) trivial)))) ?_)
 intro x2 g4 z2 hz2 ez2
 unfold S7 at hz2
 refine lr (fun u7 hu7=>sv rfl (A1 (A5 (cc rfl hz2 (fun c2 hz2=> ?_) (fun c2 hz2=> ?_)))))
 refine A9 (A5 (A6 (lr (fun u8 hu8=>sv rfl (bs hz2 fun v3 hv3 hz2=>sd rfl (F1 rfl rfl hv3 rfl) (sd rfl (E6 rfl hv3 rfl) (sv rfl (sv rfl (A1 (lr (fun u9 hu9=>sv rfl (sv rfl (sv rfl (bs hz2 fun v4 hv4 hz2=>sd rfl (C3i rfl (fun _=>rfl) (D0x rfl) B9a hv4) (sd rfl (D3 rfl) (sv rfl (A1 (bs hz2 fun y3 hy3 hz2=>E1 (fun s=> ∃g5:Nat,Sb ⟨T [(1,(di p2)),(2,(.d (.fn (.func 187) [] [(.bp (Y0 p3) 0)]))),(3,(.ptr (3,u1) 0)),(6,(oS y3 (53,g5))),(7,(di x1.2)),(8,(.ptr (8,u4) 0)),(9,(dl A3 v2)),(15,(dl V2 p1.Zones)),(16,(di (p1.Zones.length:Int))),(17,(di x1.2)),(25,(dl A3 v2)),(26,(di (v2.length:Int))),(27,(di x2.2))],G [((3,u1),some (.box 27 (X2 p1))),((8,u4),some (.box 45 [(dl L5 v1.Parts),(di v1.Signal_)])),((53,g5),oB 93 4 I7 y3)]⟩ s) ?_ ?_))))))))))))))))))
 refine A6 (E4 (S6 p2 p3 x1 v1 v3 v4) (fun (x3:((List Clash)×Int)) (g6:Nat)=>⟨T [(1,(di p2)),(2,(.d (.fn (.func 187) [] [(.bp (Y0 p3) 0)]))),(3,(.ptr (3,u1) 0)),(6,(oS x3.1 (53,g6))),(7,(di x1.2)),(8,(.ptr (8,u4) 0)),(9,(dl A3 v2)),(11,(di v3)),(15,(dl V2 p1.Zones)),(16,(di (p1.Zones.length:Int))),(17,(di x1.2)),(25,(dl A3 v2)),(26,(di (v2.length:Int))),(27,(di x2.2)),(35,(dl A3 v4)),(36,(di (v4.length:Int))),(37,(di x3.2))],G [((3,u1),some (.box 27 (X2 p1))),((8,u4),some (.box 45 [(dl L5 v1.Parts),(di v1.Signal_)])),((53,g6),oB 93 4 I7 x3.1)]⟩) (x2.1,0) g4 _ hy3 (G9 ⟨.of rfl, .of rfl, .of rfl, .of rfl, .of rfl, .of rfl, .of rfl, .of rfl, .of rfl, .of rfl, .of rfl, .of rfl, .of rfl, .of rfl, .of rfl, .of rfl, .of rfl,trivial⟩ (B9 G_hit (.of rfl) (sg rfl (H4 (gq rfl) trivial)))) ?_)
 intro x3 g6 z3 hz3 ez3
 unfold S6 at hz3
 refine lr (fun u10 hu10=>sv rfl (A1 (A5 (cc rfl hz3 (fun c3 hz3=> ?_) (fun c3 hz3=> ?_)))))
 refine A9 (A5 (A6 (lr (fun u11 hu11=>bs hz3 fun v5 hv5 hz3=>sd rfl (F1 rfl rfl hv5 rfl) (sd rfl (E6 rfl hv5 rfl) (sv rfl (A1 (lr (fun u12 hu12=>sv rfl (sd rfl (B6 rfl (gq rfl) rfl rfl) (sv rfl (sv rfl (bs hz3 fun v6 hv6 hz3=>C0 rfl rfl A2 (A5y _ _ _ _ _ hv6) (.inl rfl) (A1 (cc rfl hz3 (fun c4 hz3=> ?_) (fun c4 hz3=> ?_))))))))))))))))
 refine A8 (s0:=⟨T [(1,(di p2)),(2,(.d (.fn (.func 187) [] [(.bp (Y0 p3) 0)]))),(3,(.ptr (3,u1) 0)),(6,(oS x3.1 (53,g6))),(7,(di x1.2)),(8,(.ptr (8,u4) 0)),(9,(dl A3 v2)),(11,(di v3)),(13,(di v5)),(15,(dl V2 p1.Zones)),(16,(di (p1.Zones.length:Int))),(17,(di x1.2)),(25,(dl A3 v2)),(26,(di (v2.length:Int))),(27,(di x2.2)),(35,(dl A3 v4)),(36,(di (v4.length:Int))),(37,(di x3.2))],G [((3,u1),some (.box 27 (X2 p1))),((53,g6),oB 93 4 I7 x3.1),((8,u4),some (.box 45 [(dl L5 v1.Parts),(di v1.Signal_)]))]⟩) (G9 ⟨.of rfl, .of rfl, .of rfl, .of rfl, .of rfl, .of rfl, .of rfl, .of rfl, .of rfl, .of rfl, .of rfl, .of rfl, .of rfl, .of rfl, .of rfl, .of rfl, .of rfl, .of rfl,trivial⟩ (B9 G_hit (.of rfl) (H4 (gq rfl) (sg rfl trivial)))) ?_
 refine B8 fun u13 hu13=>F6 (oS x3.1 (53,g6)) rfl rfl (sv rfl (sv rfl (sv rfl (sv rfl (sv rfl (F6 (dl I7 [(Clash.mk p2 x1.2 v3 v5)]) rfl rfl (bs hz3 fun v7 hv7 hz3=>Y8 I7 (53,g6) x3.1 (Clash.mk p2 x1.2 v3 v5) [] _ (P3 (fun _=>rfl)) rfl (gq rfl) hv7 (ss rfl (A1 (G3 (A8 (s0:=⟨T [(1,(.d _)),(2,(.d _)),(3,(.ptr _ _)),(6,(.sl _)),(7,(.d _)),(8,(.ptr _ _)),(9,(.d _)),(11,(.d _)),(15,(.d _)),(16,(.d _)),(17,(.d _)),(25,(.d _)),(26,(.d _)),(27,(.d _)),(35,(.d _)),(36,(.d _)),(37,(.d _))],G [((3,u1),some (.box 27 _)),((53,u13),some _),((8,u4),some (.box 45 _))]⟩) (sbr rfl rfl) ?_)))))))))))
 refine B8 fun u14 hu14=>sv rfl (sv rfl (A1 (G4 ?_)))
 cases hz3
 exact ⟨rfl,u13,(G9 ⟨.of rfl, .of rfl, .of rfl,(.of (B0y (A3d hv7)).symm), .of rfl, .of rfl, .of rfl, .of rfl, .of rfl, .of rfl, .of rfl, .of rfl, .of rfl, .of rfl, .of rfl, .of rfl, .of rfl,trivial⟩ (B9 G_hit (.of rfl) (sg rfl (A3e (gq rfl) trivial))))⟩
 refine A9 (G3 (A8 (s0:=⟨T [(1,(di p2)),(2,(.d (.fn (.func 187) [] [(.bp (Y0 p3) 0)]))),(3,(.ptr (3,u1) 0)),(6,(oS x3.1 (53,g6))),(7,(di x1.2)),(8,(.ptr (8,u4) 0)),(9,(dl A3 v2)),(11,(di v3)),(15,(dl V2 p1.Zones)),(16,(di (p1.Zones.length:Int))),(17,(di x1.2)),(25,(dl A3 v2)),(26,(di (v2.length:Int))),(27,(di x2.2)),(35,(dl A3 v4)),(36,(di (v4.length:Int))),(37,(di x3.2))],G [((3,u1),some (.box 27 (X2 p1))),((53,g6),oB 93 4 I7 x3.1),((8,u4),some (.box 45 [(dl L5 v1.Parts),(di v1.Signal_)]))]⟩) (G9 ⟨.of rfl, .of rfl, .of rfl, .of rfl, .of rfl, .of rfl, .of rfl, .of rfl, .of rfl, .of rfl, .of rfl, .of rfl, .of rfl, .of rfl, .of rfl, .of rfl, .of rfl,trivial⟩ (B9 G_hit (.of rfl) (H4 (gq rfl) (sg rfl trivial)))) ?_))
 refine B8 fun u15 hu15=>sv rfl (sv rfl (A1 (G4 ?_)))
 cases hz3
 exact ⟨rfl,g6,(G9 ⟨.of rfl, .of rfl, .of rfl, .of rfl, .of rfl, .of rfl, .of rfl, .of rfl, .of rfl, .of rfl, .of rfl, .of rfl, .of rfl, .of rfl, .of rfl, .of rfl, .of rfl,trivial⟩ (B9 G_hit (.of rfl) (sg rfl (H4 (gq rfl) trivial))))⟩
 refine C4 rfl ?_
 cases hz3
 obtain rfl:=ez3 _ rfl
 refine ⟨nofun,C1 rfl (l_j ?_)⟩
 exact ⟨g6,(G9 ⟨.of rfl, .of rfl, .of rfl, .of rfl, .of rfl, .of rfl, .of rfl, .of rfl, .of rfl, .of rfl, .of rfl, .of rfl, .of rfl,trivial⟩ (B9 G_hit (.of rfl) (sg rfl (H4 (gq rfl) trivial))))⟩
 rintro _ ⟨g5,q1⟩
 refine G3 (A8 q1 (B8 fun u16 hu16=>sv rfl (sv rfl (A1 (G4 ?_)))))
 cases hz2
 exact ⟨rfl,g5,(G9 ⟨.of rfl, .of rfl, .of rfl, .of rfl, .of rfl, .of rfl, .of rfl, .of rfl, .of rfl, .of rfl, .of rfl, .of rfl, .of rfl,trivial⟩ (B9 G_hit (.of rfl) (sg rfl (H4 (gq rfl) trivial))))⟩
 refine C4 rfl ?_
 cases hz2
 obtain rfl:=ez2 _ rfl
 refine ⟨nofun,C1 rfl (l_j ?_)⟩
 exact ⟨g4,(G9 ⟨.of rfl, .of rfl, .of rfl, .of rfl, .of rfl, .of rfl, .of rfl,trivial⟩ (B9 G_hit (.of rfl) (H4 (gq rfl) trivial)))⟩
 rintro _ ⟨g3,q2⟩
 refine G3 (A8 q2 (B8 fun u17 hu17=>sv rfl (sv rfl (A1 (G4 ?_)))))
 cases hz1
 exact ⟨rfl,g3,(G9 ⟨.of rfl, .of rfl, .of rfl, .of rfl, .of rfl, .of rfl, .of rfl,trivial⟩ (B9 G_hit (.of rfl) (H4 (gq rfl) trivial)))⟩
 refine C4 rfl ?_
 cases hz1
 obtain rfl:=ez1 _ rfl
 refine ⟨nofun,C1 rfl (l_j ?_)⟩
 exact ⟨g2,(G9 ⟨.of rfl,trivial⟩ (H4 (gq rfl) trivial))⟩
 rintro _ ⟨g1,q3⟩
 refine A8 q3 (lr (fun u18 hu18=>F6 (oS y1 (53,g1)) rfl rfl (F6 (oS y1 (53,g1)) rfl rfl (A1 (B1 ?_)))))
 cases h
 exact A7 (.inr rfl) (B7 (B0 rfl) (B1o G_hit)) B1n
noncomputable def J6 (p2:Int)(p3:Map)(x1:((List Clash)×Int))(v1:Zone)(v3:Int)(v4:List Int)(x3:((List Clash)×Int)):Option (Stp ((List Clash)×Int) (List Clash)):=
  cond (decide (x3.2< (v4.length:Int))) ((F0 v4 x3.2).bind fun v5=>(Y7 v1 v3 v5 p3).bind fun v6=>cond v6 ((A7b x3.1 [(Clash.mk p2 x1.2 v3 v5)]).bind fun v7=>some (.go (v7,(w64 (x3.2+1))))) (some (.go (x3.1,(w64 (x3.2+1)))))) (some (.out x3.1))
noncomputable def J7 (p2:Int)(p3:Map)(x1:((List Clash)×Int))(v1:Zone)(v2:(List Int))(x2:((List Clash)×Int)):Option (Stp ((List Clash)×Int) (List Clash)):=
  cond (decide (x2.2< (v2.length:Int))) ((F0 v2 x2.2).bind fun v3=>(B71 v2 (w64 (x2.2+1)) (v2.length:Int)).bind fun v4=>(loop (J6 p2 p3 x1 v1 v3 v4) (x2.1,0)).bind fun y3=>some (.go (y3,(w64 (x2.2+1))))) (some (.out x2.1))
noncomputable def J8 (p1:Map)(p2:Int)(p3:Map)(x1:((List Clash)×Int)):Option (Stp ((List Clash)×Int) (List Clash)):=
  cond (decide (x1.2< (p1.Zones.length:Int))) ((F0 p1.Zones x1.2).bind fun v1=>(A0s p1 v1).bind fun v2=>(loop (J7 p2 p3 x1 v1 v2) (x1.1,0)).bind fun y2=>some (.go (y2,(w64 (x1.2+1))))) (some (.out x1.1))
noncomputable def M5 (p1:Map)(p2:Int)(p3:Map):Option (List Clash):=
  (loop (J8 p1 p2 p3) ([],0)).bind fun y1=>some y1
theorem A4s (p1:Map)(p2:Int)(p3:Map)(r:(List Clash))(h:M5 p1 p2 p3=some r):MCall Tryz.prog 185 [(.d (.agg (Y0 p1))),(di p2),(.fn (.func 187) [] [(.ptr (900000,0) 0)])] [(.box 27 (X2 p3))] (dl I7 r) [some (.box 27 (X2 p3))] []:=by
 refine B10 (fk Tryz.func185 Tryz.ntmps185 (fun r=>if r==12 then [1006]else []) (by with_unfolding_all rfl)) rfl (nl rfl) ?_
 unfold M5 at h
 refine A8 (s0:=⟨T [(0,(.d _)),(1,(.d _)),(2,(.fn _ _ _))],G [((900000,0),some (.box 27 _))]⟩) (sbr rfl rfl) ?_
 refine lr (fun u1 hu1=>sn rfl rfl (sv rfl (A1 (A5 (lr (fun u2 hu2=>sp rfl rfl (sl rfl G_hit rfl (sd rfl (D3 rfl) (sv rfl (A1 (bs h fun y1 hy1 h=>E1 (fun s=> ∃g1:Nat,Sb ⟨T [(2,(.fn (.func 187) [] [(.ptr (900000,0) 0)])),(6,(oS y1 (53,g1)))],G [((900000,0),some (.box 27 (X2 p3))),((53,g1),oB 93 4 I7 y1)]⟩ s) ?_ ?_)))))))))))
 refine A6 (E4 (J8 p1 p2 p3) (fun (x1:((List Clash)×Int)) (g2:Nat)=>⟨T [(1,(di p2)),(2,(.fn (.func 187) [] [(.ptr (900000,0) 0)])),(3,(.ptr (3,u1) 0)),(6,(oS x1.1 (53,g2))),(15,(dl V2 p1.Zones)),(16,(di (p1.Zones.length:Int))),(17,(di x1.2))],G [((900000,0),some (.box 27 (X2 p3))),((3,u1),some (.box 27 (X2 p1))),((53,g2),oB 93 4 I7 x1.1)]⟩) ([],0) 0 _ hy1 (G9 ⟨.of rfl, .of rfl, .of rfl, .of rfl, .of rfl, .of rfl, .of rfl,trivial⟩ (sg rfl (B9 G_hit (.of rfl) (A3f trivial)))) ?_)
 intro x1 g2 z1 hz1 ez1
 unfold J8 at hz1
 refine lr (fun u3 hu3=>sv rfl (A1 (A5 (cc rfl hz1 (fun c1 hz1=> ?_) (fun c1 hz1=> ?_)))))
 refine A9 (A5 (A6 (lr (fun u4 hu4=>sv rfl (bs hz1 fun v1 hv1 hz1=>sd rfl (F1 rfl rfl hv1 rfl) (sd rfl (C7 rfl hv1 rfl rfl) (sn rfl rfl (sv rfl (sst rfl G_hit [(dl L5 v1.Parts),(di v1.Signal_)] rfl (A1 (lr (fun u5 hu5=>sd rfl (B6 rfl (gq rfl) rfl rfl) (sd rfl (B6 rfl G_hit rfl rfl) (bs hz1 fun v2 hv2 hz1=>C0 rfl rfl A2 (A53 _ _ _ hv2) (.inl rfl) (sv rfl (A1 (lr (fun u6 hu6=>sv rfl (sd rfl (D3 rfl) (sv rfl (A1 (bs hz1 fun y2 hy2 hz1=>E1 (fun s=> ∃g3:Nat,Sb ⟨T [(1,(di p2)),(2,(.fn (.func 187) [] [(.ptr (900000,0) 0)])),(3,(.ptr (3,u1) 0)),(6,(oS y2 (53,g3))),(15,(dl V2 p1.Zones)),(16,(di (p1.Zones.length:Int))),(17,(di x1.2))],G [((900000,0),some (.box 27 (X2 p3))),((3,u1),some (.box 27 (X2 p1))),((53,g3),oB 93 4 I7 y2)]⟩ s) ?_ ?_))))))))))))))))))))))
 refine A6 (E4 (J7 p2 p3 x1 v1 v2) (fun (x2:((List Clash)×Int)) (g4:Nat)=>⟨T [(1,(di p2)),(2,(.fn (.func 187) [] [(.ptr (900000,0) 0)])),(3,(.ptr (3,u1) 0)),(6,(oS x2.1 (53,g4))),(7,(di x1.2)),(8,(.ptr (8,u4) 0)),(9,(dl A3 v2)),(15,(dl V2 p1.Zones)),(16,(di (p1.Zones.length:Int))),(17,(di x1.2)),(25,(dl A3 v2)),(26,(di (v2.length:Int))),(27,(di x2.2))],G [((900000,0),some (.box 27 (X2 p3))),((3,u1),some (.box 27 (X2 p1))),((8,u4),some (.box 45 [(dl L5 v1.Parts),(di v1.Signal_)])),((53,g4),oB 93 4 I7 x2.1)]⟩) (x1.1,0) g2 _ hy2 (G9 ⟨.of rfl, .of rfl, .of rfl, .of rfl, .of rfl, .of rfl, .of rfl, .of rfl, .of rfl, .of rfl, .of rfl, .of rfl, .of rfl,trivial⟩ (sg rfl (sg rfl (B9 G_hit (.of rfl) (H4 (gq rfl) trivial))))) ?_)
 intro x2 g4 z2 hz2 ez2
 unfold J7 at hz2
 refine lr (fun u7 hu7=>sv rfl (A1 (A5 (cc rfl hz2 (fun c2 hz2=> ?_) (fun c2 hz2=> ?_)))))
 refine A9 (A5 (A6 (lr (fun u8 hu8=>sv rfl (bs hz2 fun v3 hv3 hz2=>sd rfl (F1 rfl rfl hv3 rfl) (sd rfl (E6 rfl hv3 rfl) (sv rfl (sv rfl (A1 (lr (fun u9 hu9=>sv rfl (sv rfl (sv rfl (bs hz2 fun v4 hv4 hz2=>sd rfl (C3i rfl (fun _=>rfl) (D0x rfl) B9a hv4) (sd rfl (D3 rfl) (sv rfl (A1 (bs hz2 fun y3 hy3 hz2=>E1 (fun s=> ∃g5:Nat,Sb ⟨T [(1,(di p2)),(2,(.fn (.func 187) [] [(.ptr (900000,0) 0)])),(3,(.ptr (3,u1) 0)),(6,(oS y3 (53,g5))),(7,(di x1.2)),(8,(.ptr (8,u4) 0)),(9,(dl A3 v2)),(15,(dl V2 p1.Zones)),(16,(di (p1.Zones.length:Int))),(17,(di x1.2)),(25,(dl A3 v2)),(26,(di (v2.length:Int))),(27,(di x2.2))],G [((900000,0),some (.box 27 (X2 p3))),((3,u1),some (.box 27 (X2 p1))),((8,u4),some (.box 45 [(dl L5 v1.Parts),(di v1.Signal_)])),((53,g5),oB 93 4 I7 y3)]⟩ s) ?_ ?_))))))))))))))))))
 refine A6 (E4 (J6 p2 p3 x1 v1 v3 v4) (fun (x3:((List Clash)×Int)) (g6:Nat)=>⟨T [(1,(di p2)),(2,(.fn (.func 187) [] [(.ptr (900000,0) 0)])),(3,(.ptr (3,u1) 0)),(6,(oS x3.1 (53,g6))),(7,(di x1.2)),(8,(.ptr (8,u4) 0)),(9,(dl A3 v2)),(11,(di v3)),(15,(dl V2 p1.Zones)),(16,(di (p1.Zones.length:Int))),(17,(di x1.2)),(25,(dl A3 v2)),(26,(di (v2.length:Int))),(27,(di x2.2)),(35,(dl A3 v4)),(36,(di (v4.length:Int))),(37,(di x3.2))],G [((900000,0),some (.box 27 (X2 p3))),((3,u1),some (.box 27 (X2 p1))),((8,u4),some (.box 45 [(dl L5 v1.Parts),(di v1.Signal_)])),((53,g6),oB 93 4 I7 x3.1)]⟩) (x2.1,0) g4 _ hy3 (G9 ⟨.of rfl, .of rfl, .of rfl, .of rfl, .of rfl, .of rfl, .of rfl, .of rfl, .of rfl, .of rfl, .of rfl, .of rfl, .of rfl, .of rfl, .of rfl, .of rfl, .of rfl,trivial⟩ (B9 G_hit (.of rfl) (sg rfl (sg rfl (H4 (gq rfl) trivial))))) ?_)
 intro x3 g6 z3 hz3 ez3
 unfold J6 at hz3
 refine lr (fun u10 hu10=>sv rfl (A1 (A5 (cc rfl hz3 (fun c3 hz3=> ?_) (fun c3 hz3=> ?_)))))
 refine A9 (A5 (A6 (lr (fun u11 hu11=>bs hz3 fun v5 hv5 hz3=>sd rfl (F1 rfl rfl hv5 rfl) (sd rfl (E6 rfl hv5 rfl) (sv rfl (A1 (lr (fun u12 hu12=>F6 (.fn _ _ _) rfl rfl (sd rfl (B6 rfl (gq rfl) rfl rfl) (sv rfl (sv rfl (bs hz3 fun v6 hv6 hz3=>C0 rfl (rD (rD (rD (R0 (B0d G_hit (rD (rD (rD (rD (rD N3)))))) N3)))) A2 (A5y _ _ _ _ _ hv6) (.inr rfl) (A1 (cc rfl hz3 (fun c4 hz3=> ?_) (fun c4 hz3=> ?_))))))))))))))))
 refine A8 (s0:=⟨T [(1,(di p2)),(2,(.fn (.func 187) [] [(.ptr (900000,0) 0)])),(3,(.ptr (3,u1) 0)),(6,(oS x3.1 (53,g6))),(7,(di x1.2)),(8,(.ptr (8,u4) 0)),(9,(dl A3 v2)),(11,(di v3)),(13,(di v5)),(15,(dl V2 p1.Zones)),(16,(di (p1.Zones.length:Int))),(17,(di x1.2)),(25,(dl A3 v2)),(26,(di (v2.length:Int))),(27,(di x2.2)),(35,(dl A3 v4)),(36,(di (v4.length:Int))),(37,(di x3.2))],G [((900000,0),some (.box 27 (X2 p3))),((3,u1),some (.box 27 (X2 p1))),((53,g6),oB 93 4 I7 x3.1),((8,u4),some (.box 45 [(dl L5 v1.Parts),(di v1.Signal_)]))]⟩) (G9 ⟨.of rfl, .of rfl, .of rfl, .of rfl, .of rfl, .of rfl, .of rfl, .of rfl, .of rfl, .of rfl, .of rfl, .of rfl, .of rfl, .of rfl, .of rfl, .of rfl, .of rfl, .of rfl,trivial⟩ (B9 G_hit (.of rfl) (sg rfl (H4 (gq rfl) (sg rfl trivial))))) ?_
 refine B8 fun u13 hu13=>F6 (oS x3.1 (53,g6)) rfl rfl (sv rfl (sv rfl (sv rfl (sv rfl (sv rfl (F6 (dl I7 [(Clash.mk p2 x1.2 v3 v5)]) rfl rfl (bs hz3 fun v7 hv7 hz3=>Y8 I7 (53,g6) x3.1 (Clash.mk p2 x1.2 v3 v5) [] _ (P3 (fun _=>rfl)) rfl (gq rfl) hv7 (ss rfl (A1 (G3 (A8 (s0:=⟨T [(1,(.d _)),(2,(.fn _ _ _)),(3,(.ptr _ _)),(6,(.sl _)),(7,(.d _)),(8,(.ptr _ _)),(9,(.d _)),(11,(.d _)),(15,(.d _)),(16,(.d _)),(17,(.d _)),(25,(.d _)),(26,(.d _)),(27,(.d _)),(35,(.d _)),(36,(.d _)),(37,(.d _))],G [((900000,0),some (.box 27 _)),((3,u1),some (.box 27 _)),((53,u13),some _),((8,u4),some (.box 45 _))]⟩) (sbr rfl rfl) ?_)))))))))))
 refine B8 fun u14 hu14=>sv rfl (sv rfl (A1 (G4 ?_)))
 cases hz3
 exact ⟨rfl,u13,(G9 ⟨.of rfl, .of rfl, .of rfl,(.of (B0y (A3d hv7)).symm), .of rfl, .of rfl, .of rfl, .of rfl, .of rfl, .of rfl, .of rfl, .of rfl, .of rfl, .of rfl, .of rfl, .of rfl, .of rfl,trivial⟩ (B9 G_hit (.of rfl) (sg rfl (sg rfl (A3e (gq rfl) trivial)))))⟩
 refine A9 (G3 (A8 (s0:=⟨T [(1,(di p2)),(2,(.fn (.func 187) [] [(.ptr (900000,0) 0)])),(3,(.ptr (3,u1) 0)),(6,(oS x3.1 (53,g6))),(7,(di x1.2)),(8,(.ptr (8,u4) 0)),(9,(dl A3 v2)),(11,(di v3)),(15,(dl V2 p1.Zones)),(16,(di (p1.Zones.length:Int))),(17,(di x1.2)),(25,(dl A3 v2)),(26,(di (v2.length:Int))),(27,(di x2.2)),(35,(dl A3 v4)),(36,(di (v4.length:Int))),(37,(di x3.2))],G [((900000,0),some (.box 27 (X2 p3))),((3,u1),some (.box 27 (X2 p1))),((53,g6),oB 93 4 I7 x3.1),((8,u4),some (.box 45 [(dl L5 v1.Parts),(di v1.Signal_)]))]⟩) (G9 ⟨.of rfl, .of rfl, .of rfl, .of rfl, .of rfl, .of rfl, .of rfl, .of rfl, .of rfl, .of rfl, .of rfl, .of rfl, .of rfl, .of rfl, .of rfl, .of rfl, .of rfl,trivial⟩ (B9 G_hit (.of rfl) (sg rfl (H4 (gq rfl) (sg rfl trivial))))) ?_))
 refine B8 fun u15 hu15=>sv rfl (sv rfl (A1 (G4 ?_)))
 cases hz3
 exact ⟨rfl,g6,(G9 ⟨.of rfl, .of rfl, .of rfl, .of rfl, .of rfl, .of rfl, .of rfl, .of rfl, .of rfl, .of rfl, .of rfl, .of rfl, .of rfl, .of rfl, .of rfl, .of rfl, .of rfl,trivial⟩ (B9 G_hit (.of rfl) (sg rfl (sg rfl (H4 (gq rfl) trivial)))))⟩
 refine C4 rfl ?_
 cases hz3
 obtain rfl:=ez3 _ rfl
 refine ⟨nofun,C1 rfl (l_j ?_)⟩
 exact ⟨g6,(G9 ⟨.of rfl, .of rfl, .of rfl, .of rfl, .of rfl, .of rfl, .of rfl, .of rfl, .of rfl, .of rfl, .of rfl, .of rfl, .of rfl,trivial⟩ (B9 G_hit (.of rfl) (sg rfl (sg rfl (H4 (gq rfl) trivial)))))⟩
 rintro _ ⟨g5,q1⟩
 refine G3 (A8 q1 (B8 fun u16 hu16=>sv rfl (sv rfl (A1 (G4 ?_)))))
 cases hz2
 exact ⟨rfl,g5,(G9 ⟨.of rfl, .of rfl, .of rfl, .of rfl, .of rfl, .of rfl, .of rfl, .of rfl, .of rfl, .of rfl, .of rfl, .of rfl, .of rfl,trivial⟩ (B9 G_hit (.of rfl) (sg rfl (sg rfl (H4 (gq rfl) trivial)))))⟩
 refine C4 rfl ?_
 cases hz2
 obtain rfl:=ez2 _ rfl
 refine ⟨nofun,C1 rfl (l_j ?_)⟩
 exact ⟨g4,(G9 ⟨.of rfl, .of rfl, .of rfl, .of rfl, .of rfl, .of rfl, .of rfl,trivial⟩ (B9 G_hit (.of rfl) (sg rfl (H4 (gq rfl) trivial))))⟩
 rintro _ ⟨g3,q2⟩
 refine G3 (A8 q2 (B8 fun u17 hu17=>sv rfl (sv rfl (A1 (G4 ?_)))))
 cases hz1
 exact ⟨rfl,g3,(G9 ⟨.of rfl, .of rfl, .of rfl, .of rfl, .of rfl, .of rfl, .of rfl,trivial⟩ (B9 G_hit (.of rfl) (sg rfl (H4 (gq rfl) trivial))))⟩
 refine C4 rfl ?_
 cases hz1
 obtain rfl:=ez1 _ rfl
 refine ⟨nofun,C1 rfl (l_j ?_)⟩
 exact ⟨g2,(G9 ⟨.of rfl, .of rfl,trivial⟩ (B9 G_hit (.of rfl) (H4 (gq rfl) trivial)))⟩
 rintro _ ⟨g1,q3⟩
 refine A8 q3 (lr (fun u18 hu18=>F6 (oS y1 (53,g1)) rfl rfl (F6 (oS y1 (53,g1)) rfl rfl (A1 (B1 ?_)))))
 cases h
 exact B3b (.inr rfl) [(53,g1)] (B9g (B0 rfl) (B1o (D09 (.head _) (gq rfl)))) B1n ⟨⟨_,_,_,G_hit,(C5a rfl O5),rfl,B1q,rfl⟩,trivial⟩
noncomputable def A4t (p1:Map):Option (List Clash):=
  (M5 p1 4 p1).bind fun v1=>some v1
theorem B57 (p1:Map)(r:(List Clash))(h:A4t p1=some r):PCall Tryz.prog 80 [(.agg (Y0 p1))] (.list (List.map I7 r)):=by
 refine C6 (fk Tryz.func80 Tryz.ntmps80 (fun r=>if r==1 then [1001002]else []) (by with_unfolding_all rfl)) (nl rfl) ?_
 unfold A4t at h
 refine A8 (s0:=⟨T [(0,(.d _))],G []⟩) (sbr rfl rfl) ?_
 refine lr (fun u1 hu1=>sn rfl rfl (sv rfl (A1 (lr (fun u2 hu2=>sd rfl (B6 rfl G_hit rfl rfl) (F6 (.fn _ _ _) rfl rfl (bs h fun v1 hv1 h=>C69 (v:= .d (.list (List.map I7 v1))) (us:= [(1,u1)]) (C8o (A4s _ _ _ _ hv1) [(1,u1)] [(1,u1)] _ (((1,u1),some (.box 27 (X2 p1)))::_) rfl A8w (V1 C68 (V1 C68 (V1 (D08 rfl (V1 (B4u G_hit rfl) A8v)) A8v))) (A1f G_hit A6p) ⟨⟨_,G_hit, .of rfl⟩,trivial⟩ (fun _ h=>h) nd1 rfl rfl rfl) (sv rfl (A1 (B1 ?_))))))))))
 cases h
 exact A7 (.inr rfl) (B7 (B0 rfl) F7) (.refl _)
noncomputable def A95 (p1:Map):Option Bool:=
  (Z7 p1).bind fun v1=>((cond (v1==0) (A4q p1) (some default))).bind fun v2=>((cond (v1==0) (A4r p1) (some default))).bind fun v3=>((cond (v1==0) (A5x p1) (some default))).bind fun v4=>((cond (v1==0) (A4t p1) (some default))).bind fun v5=>some ((v1==0)&& ((w64 ((w64 ((w64 ((v2.length:Int)+ (v3.length:Int)))+ (v4.length:Int)))+ (v5.length:Int)))==0))
theorem B9o (p1:Map)(r:Bool)(h:A95 p1=some r):PCall Tryz.prog 18 [(.agg (Y0 p1))] (bo r):=by
 refine C6 (fk Tryz.func18 Tryz.ntmps18 m0 (by with_unfolding_all rfl)) (nl rfl) ?_
 unfold A95 at h
 refine A8 (s0:=⟨T [(0,(.d _))],G []⟩) (sbr rfl rfl) ?_
 refine lr (fun u1 hu1=>sn rfl rfl (sv rfl (A1 (A5 (R6 rfl fun u2 hu2=>sd rfl (B6 rfl G_hit rfl rfl) (bs h fun v1 hv1 h=>C0 rfl rfl A2 (A4e _ _ hv1) (.inl rfl) (sv rfl (sv rfl (gt rfl (fun w1=>(B6 rfl G_hit rfl rfl)) (bs h fun v2 hv2 h=> ?_))))))))))
 refine L7 _ (.list (List.map I7 v2)) (A0k rfl) (fun w2=>⟨_,[(.d (.agg (Y0 p1)))],_,_,(by simp only [A4 w2];rfl),rfl,A2,B55 _ _ (C8 w2 hv2),(.inl rfl)⟩) ?_
 refine gt rfl (fun w3=>(D3 (A4 w3))) (gt rfl (fun w4=>(B6 rfl G_hit rfl rfl)) (bs h fun v3 hv3 h=> ?_))
 refine L7 _ (.list (List.map I7 v3)) (A0k rfl) (fun w5=>⟨_,[(.d (.agg (Y0 p1)))],_,_,(by simp only [A4 w5];rfl),rfl,A2,B56 _ _ (C8 w5 hv3),(.inl rfl)⟩) ?_
 refine gt rfl (fun w6=>(D3 (A4 w6))) (gt rfl (fun w7=>(A0a (A4 w7) (A4 w7) rfl)) (gt rfl (fun w8=>(B6 rfl G_hit rfl rfl)) (bs h fun v4 hv4 h=> ?_)))
 refine L7 _ (.list (List.map I7 v4)) (A0k rfl) (fun w9=>⟨_,[(.d (.agg (Y0 p1)))],_,_,(by simp only [A4 w9];rfl),rfl,A2,B68 _ _ (C8 w9 hv4),(.inl rfl)⟩) ?_
 refine gt rfl (fun w10=>(D3 (A4 w10))) (gt rfl (fun w11=>(A0a (A4 w11) (A4 w11) rfl)) (gt rfl (fun w12=>(B6 rfl G_hit rfl rfl)) (bs h fun v5 hv5 h=> ?_)))
 refine L7 _ (.list (List.map I7 v5)) (A0k rfl) (fun w13=>⟨_,[(.d (.agg (Y0 p1)))],_,_,(by simp only [A4 w13];rfl),rfl,A2,B57 _ _ (C8 w13 hv5),(.inl rfl)⟩) ?_
 refine gt rfl (fun w14=>(D3 (A4 w14))) (gt rfl (fun w15=>(A0a (A4 w15) (A4 w15) rfl)) (gt rfl (vb rfl rfl rfl) (sa rfl rfl rfl (sv rfl (A1 (B1 ?_))))))
 cases h
 exact A7 (.inr rfl) (B7 (B0 rfl) F7) (.refl _)
noncomputable def A4f (p1:Map)(p2:Int):Option Bool:=
  ((cond ((decide (p2≥0))&& (decide (p2< (p1.Lanes.length:Int)))) (Z7 p1) (some default))).bind fun v1=>some (((decide (p2≥0))&& (decide (p2< (p1.Lanes.length:Int))))&& (v1==0))
theorem A7w (p1:Map)(p2:Int)(r:Bool)(h:A4f p1 p2=some r):PCall Tryz.prog 159 [(.agg (Y0 p1)),(i64 p2)] (bo r):=by
 refine C6 (fk Tryz.func159 Tryz.ntmps159 m0 (by with_unfolding_all rfl)) (nl rfl) ?_
 unfold A4f at h
 refine A8 (s0:=⟨T [(0,(.d _)),(1,(.d _))],G []⟩) (sbr rfl rfl) ?_
 refine lr (fun u1 hu1=>sn rfl rfl (sv rfl (A1 (lr (fun u2 hu2=>sv rfl (sv rfl (sv rfl (gt rfl (fun _=>rfl) (gp rfl (A0k rfl) (fun _=>rfl) (gt rfl (vl rfl G_hit rfl) (gt rfl (fun w4=>(D3 (A4 w4))) (gt rfl (fun w5=>(A0a (A4 w5) (A4 w5) rfl)) (sa rfl rfl rfl (sv rfl (gt rfl (fun w6=>(B6 rfl G_hit rfl rfl)) (bs h fun v1 hv1 h=> ?_))))))))))))))))
 refine L7 _ (i64 v1) (A0k rfl) (fun w7=>⟨_,[(.d (.agg (Y0 p1)))],_,_,(by simp only [A4 w7];rfl),rfl,A2,A4e _ _ (C8 w7 hv1),(.inl rfl)⟩) ?_
 refine gt rfl (vb rfl rfl rfl) (sa rfl rfl rfl (sv rfl (A1 (B1 ?_))))
 cases h
 exact A7 (.inr rfl) (B7 (B0 rfl) F7) (.refl _)
noncomputable def A4u (p1:Map)(p2:Int):Option Int:=
  (A4f p1 p2).bind fun v1=>cond (!v1) (some 0) ((W5 p1 p2).bind fun v2=>some v2)
theorem B58 (p1:Map)(p2:Int)(r:Int)(h:A4u p1 p2=some r):PCall Tryz.prog 61 [(.agg (Y0 p1)),(i64 p2)] (i64 r):=by
 refine C6 (fk Tryz.func61 Tryz.ntmps61 m0 (by with_unfolding_all rfl)) (nl rfl) ?_
 unfold A4u at h
 refine A8 (s0:=⟨T [(0,(.d _)),(1,(.d _))],G []⟩) (sbr rfl rfl) ?_
 refine lr (fun u1 hu1=>sn rfl rfl (sv rfl (A1 (A5 (lr (fun u2 hu2=>sd rfl (B6 rfl G_hit rfl rfl) (sv rfl (bs h fun v1 hv1 h=>C0 rfl rfl A2 (A7w _ _ _ hv1) (.inl rfl) (F6 (.d (bo (!v1))) rfl rfl (A1 (cc rfl h (fun c1 h=> ?_) (fun c1 h=> ?_))))))))))))
 refine lr (fun u3 hu3=>sv rfl (A1 (B1 ?_)))
 cases h
 exact A7 (.inr rfl) (B7 (B0 rfl) F7) (.refl _)
 refine A9 (lr (fun u4 hu4=>sd rfl (B6 rfl G_hit rfl rfl) (sv rfl (bs h fun v2 hv2 h=>C0 rfl rfl A2 (A2a _ _ _ hv2) (.inl rfl) (sv rfl (A1 (B1 ?_)))))))
 cases h
 exact A7 (.inr rfl) (B7 (B0 rfl) F7) (.refl _)
noncomputable def Z9 (p1:Map)(p2:Int)(p3:Int)(p4:Int)(x1:(Int×Int)):Option (Stp (Int×Int) Int):=
  cond (decide (x1.2< (p1.Works.length:Int))) ((F0 p1.Works x1.2).bind fun v5=>((cond (v5.Lane_==p2) (M2 p3 v5.From v5.To) (some default))).bind fun v6=>((cond ((v5.Lane_==p2)&&v6) (M2 p4 v5.Begin (w64 (v5.End - 1))) (some default))).bind fun v7=>cond (((v5.Lane_==p2)&&v6)&&v7) (some (.go ((mm2 false x1.1 v5.Limit),(w64 (x1.2+1))))) (some (.go (x1.1,(w64 (x1.2+1)))))) (some (.out x1.1))
noncomputable def A1r (p1:Map)(p2:Int)(p3:Int)(p4:Int):Option Int:=
  (A4f p1 p2).bind fun v1=>((cond (!(!v1)) (W5 p1 p2) (some default))).bind fun v2=>((cond (!(!v1)) (M2 p3 0 v2) (some default))).bind fun v3=>cond ((!v1)||(!v3)) (some 0) ((F0 p1.Lanes p2).bind fun v4=>(loop (Z9 p1 p2 p3 p4) (v4.Limit,0)).bind fun y1=>some y1)
theorem B0g (p1:Map)(p2:Int)(p3:Int)(p4:Int)(r:Int)(h:A1r p1 p2 p3 p4=some r):PCall Tryz.prog 56 [(.agg (Y0 p1)),(i64 p2),(i64 p3),(i64 p4)] (i64 r):=by
 refine C6 (fk Tryz.func56 Tryz.ntmps56 m0 (by with_unfolding_all rfl)) (nl rfl) ?_
 unfold A1r at h
 refine A8 (s0:=⟨T [(0,(.d _)),(1,(.d _)),(2,(.d _)),(3,(.d _))],G []⟩) (sbr rfl rfl) ?_
 refine lr (fun u1 hu1=>sn rfl rfl (sv rfl (A1 (A5 (lr (fun u2 hu2=>sd rfl (B6 rfl G_hit rfl rfl) (sv rfl (bs h fun v1 hv1 h=>C0 rfl rfl A2 (A7w _ _ _ hv1) (.inl rfl) (F6 (.d (bo (!v1))) rfl rfl (sv rfl (gf rfl (fun _=>rfl) (gf rfl (fun w2=>(B6 rfl G_hit rfl rfl)) (gf rfl (fun _=>rfl) (bs h fun v2 hv2 h=> ?_))))))))))))))
 refine L7 _ (i64 v2) (X8 rfl) (fun w4=>⟨_,[(.d (.agg (Y0 p1))),(di p2)],_,_,(by simp only [A4 w4];rfl),rfl,A2,A2a _ _ _ (C8 w4 hv2),(.inl rfl)⟩) ?_
 refine bs h fun v3 hv3 h=> ?_
 refine L7 _ (bo v3) (X8 rfl) (fun w5=>⟨_,[(di p3),(di 0),(di v2)],_,_,(by simp only [A4 w5];rfl),rfl,A2,N9 _ _ _ _ (C8 w5 hv3),(.inl rfl)⟩) ?_
 refine A28 _ (.d (bo (!v3))) rfl (X8 rfl) (fun w6=>(by simp only [A4 w6];rfl)) ?_
 refine sd rfl (A3g rfl rfl (fun hc=>A4 (Q3 hc))) (A1 (cc rfl h (fun c1 h=> ?_) (fun c1 h=> ?_)))
 refine lr (fun u3 hu3=>sv rfl (A1 (B1 ?_)))
 cases h
 exact A7 (.inr rfl) (B7 (B0 rfl) F7) (.refl _)
 refine A9 (lr (fun u4 hu4=>sp rfl rfl (sl rfl G_hit rfl (sv rfl (bs h fun v4 hv4 h=>sd rfl (F1 rfl rfl hv4 rfl) (sv rfl (sd rfl (E6 rfl hv4 rfl) (sv rfl (A1 (A5 (A5 (A8 (s0:=⟨T [(1,(.d _)),(2,(.d _)),(3,(.d _)),(4,(.ptr _ _)),(9,(.d _))],G [((4,u1),some (.box 27 _))]⟩) (sbr rfl rfl) ?_))))))))))))
 refine B8 fun u5 hu5=>sp rfl rfl (sl rfl G_hit rfl (sd rfl (D3 rfl) (sv rfl (A1 (bs h fun y1 hy1 h=>E1 (fun s=> ∃g1:Unit,Sb ⟨T [(9,(di y1))],G []⟩ s) ?_ ?_)))))
 refine A6 (E4 (Z9 p1 p2 p3 p4) (fun (x1:(Int×Int)) (g2:Unit)=>⟨T [(1,(di p2)),(2,(di p3)),(3,(di p4)),(9,(di x1.1)),(31,(dl B4y p1.Works)),(32,(di (p1.Works.length:Int))),(33,(di x1.2))],G []⟩) (v4.Limit,0) () _ hy1 (sbr rfl rfl) ?_)
 intro x1 g2 z1 hz1 ez1
 unfold Z9 at hz1
 refine lr (fun u6 hu6=>sv rfl (A1 (A5 (cc rfl hz1 (fun c2 hz1=> ?_) (fun c2 hz1=> ?_)))))
 refine A9 (A5 (A6 (lr (fun u7 hu7=>bs hz1 fun v5 hv5 hz1=>sd rfl (F1 rfl rfl hv5 rfl) (sd rfl (C7 rfl hv5 rfl rfl) (sn rfl rfl (sst rfl G_hit (D0g v5) rfl (A1 (lr (fun u8 hu8=>sp rfl rfl (sl rfl G_hit rfl (sv rfl (sv rfl (sv rfl (gt rfl (fun _=>rfl) (gp rfl (A0k rfl) (fun _=>rfl) (gt rfl (vl rfl G_hit rfl) (gp rfl (A0k rfl) (fun _=>rfl) (gt rfl (vl rfl G_hit rfl) (bs hz1 fun v6 hv6 hz1=> ?_))))))))))))))))))))
 refine L7 _ (bo v6) (A0k rfl) (fun w12=>⟨_,[(di p3),(di v5.From),(di v5.To)],_,_,(by simp only [A4 w12];rfl),rfl,A2,N9 _ _ _ _ (C8 w12 hv6),(.inl rfl)⟩) ?_
 refine sa rfl rfl rfl (sv rfl (gt rfl (fun _=>rfl) (gp rfl (A0k rfl) (fun _=>rfl) (gt rfl (vl rfl G_hit rfl) (gp rfl (A0k rfl) (fun _=>rfl) (gt rfl (vl rfl G_hit rfl) (gt rfl (vb rfl rfl rfl) (bs hz1 fun v7 hv7 hz1=> ?_))))))))
 refine L7 _ (bo v7) (A0k rfl) (fun w19=>⟨_,[(di p4),(di v5.Begin),(di (w64 (v5.End - 1)))],_,_,(by simp only [A4 w19];rfl),rfl,A2,N9 _ _ _ _ (C8 w19 hv7),(.inl rfl)⟩) ?_
 refine sa rfl rfl rfl (A1 (cc rfl hz1 (fun c3 hz1=> ?_) (fun c3 hz1=> ?_)))
 refine A8 (s0:=⟨T [(1,(.d _)),(2,(.d _)),(3,(.d _)),(9,(.d _)),(11,(.ptr _ _)),(31,(.d _)),(32,(.d _)),(33,(.d _))],G [((11,u7),some (.box 50 _))]⟩) (sbr rfl rfl) ?_
 refine B8 fun u9 hu9=>sv rfl (sp rfl rfl (sl rfl G_hit rfl (sv rfl (sv rfl (A1 (G3 (B8 fun u10 hu10=>sv rfl (sv rfl (A1 (G4 ?_))))))))))
 cases hz1
 exact ⟨rfl,(),(sbr rfl rfl)⟩
 refine A9 (G3 (A8 (s0:=⟨T [(1,(.d _)),(2,(.d _)),(3,(.d _)),(9,(.d _)),(31,(.d _)),(32,(.d _)),(33,(.d _))],G []⟩) (sbr rfl rfl) ?_))
 refine B8 fun u11 hu11=>sv rfl (sv rfl (A1 (G4 ?_)))
 cases hz1
 exact ⟨rfl,(),(sbr rfl rfl)⟩
 refine C4 rfl ?_
 cases hz1
 obtain rfl:=ez1 _ rfl
 refine ⟨nofun,C1 rfl (l_j ?_)⟩
 exact ⟨(),(sbr rfl rfl)⟩
 rintro _ ⟨g1,q1⟩
 refine A8 q1 (lr (fun u12 hu12=>sv rfl (sv rfl (A1 (B1 ?_)))))
 cases h
 exact A7 (.inr rfl) (B7 (B0 rfl) F7) (.refl _)
noncomputable def A1s:Option Bool:=
  (A90).bind fun v1=>(A5v v1 [0] 60000).bind fun v2=>(Z7 v1).bind fun v3=>((cond (v3==0) (A95 v1) (some default))).bind fun v4=>((cond (((((v3==0)&&v4)&& (v2.1==0))&& (v2.2.1==60000))&&v2.2.2) (A4u v1 1) (some default))).bind fun v5=>((cond ((((((v3==0)&&v4)&& (v2.1==0))&& (v2.2.1==60000))&&v2.2.2)&& (v5==100000)) (A1r v1 0 10 5) (some default))).bind fun v6=>some (((((((v3==0)&&v4)&& (v2.1==0))&& (v2.2.1==60000))&&v2.2.2)&& (v5==100000))&& (v6==1500))
theorem B0h (r:Bool)(h:A1s=some r):PCall Tryz.prog 14 [] (bo r):=by
 refine C6 (fk Tryz.func14 Tryz.ntmps14 (fun r=>if r==2 then [1001]else []) (by with_unfolding_all rfl)) (nl rfl) ?_
 unfold A1s at h
 refine A8 (s0:=⟨T [],G []⟩) (sbr rfl rfl) ?_
 refine lr (fun u1 hu1=>sv rfl (A1 (lr (fun u2 hu2=>bs h fun v1 hv1 h=>C0 rfl rfl A2 (B9n _ hv1) (.inl rfl) (sn rfl rfl (sst rfl G_hit (X2 v1) rfl (A1 (lr (fun u3 hu3=>sd rfl (B6 rfl G_hit rfl rfl) (F6 (dl A3 [0]) rfl rfl (bs h fun v2 hv2 h=>C0 rfl rfl A2 (B66 _ _ _ _ hv2) (.inl rfl) (sv rfl (sv rfl (sv rfl (sv rfl (sv rfl (sv rfl (sv rfl (A1 (lr (fun u4 hu4=>sd rfl (B6 rfl G_hit rfl rfl) (bs h fun v3 hv3 h=>C0 rfl rfl A2 (A4e _ _ hv3) (.inl rfl) (sv rfl (sv rfl (gt rfl (fun w1=>(B6 rfl G_hit rfl rfl)) (bs h fun v4 hv4 h=> ?_))))))))))))))))))))))))))
 refine L7 _ (bo v4) (A0k rfl) (fun w2=>⟨_,[(.d (.agg (Y0 v1)))],_,_,(by simp only [A4 w2];rfl),rfl,A2,B9o _ _ (C8 w2 hv4),(.inl rfl)⟩) ?_
 refine sa rfl rfl rfl (sv rfl (gt rfl (fun _=>rfl) (gt rfl (vb rfl rfl rfl) (sa rfl rfl rfl (sv rfl (gt rfl (fun _=>rfl) (gt rfl (vb rfl rfl rfl) (sa rfl rfl rfl (sv rfl (gt rfl (fun _=>rfl) (sa rfl rfl rfl (sv rfl (gt rfl (fun w8=>(B6 rfl G_hit rfl rfl)) (bs h fun v5 hv5 h=> ?_))))))))))))))
 refine L7 _ (i64 v5) (A0k rfl) (fun w9=>⟨_,[(.d (.agg (Y0 v1))),(di 1)],_,_,(by simp only [A4 w9];rfl),rfl,A2,B58 _ _ _ (C8 w9 hv5),(.inl rfl)⟩) ?_
 refine gt rfl (vb rfl rfl rfl) (sa rfl rfl rfl (sv rfl (gt rfl (fun w11=>(B6 rfl G_hit rfl rfl)) (bs h fun v6 hv6 h=> ?_))))
 refine L7 _ (i64 v6) (A0k rfl) (fun w12=>⟨_,[(.d (.agg (Y0 v1))),(di 0),(di 10),(di 5)],_,_,(by simp only [A4 w12];rfl),rfl,A2,B0g _ _ _ _ _ (C8 w12 hv6),(.inl rfl)⟩) ?_
 refine gt rfl (vb rfl rfl rfl) (sa rfl rfl rfl (sv rfl (A1 (B1 ?_))))
 cases h
 exact A7 (.inr rfl) (B7 (B0 rfl) F7) (.refl _)
noncomputable def R8 (p1:Signal)(p2:Int)(x2:(Int×Int)):Option (Stp (Int×Int) (Sum Unit Bool)):=
  cond (decide (x2.2< (p1.Phases.length:Int))) ((F0 p1.Phases x2.2).bind fun v5=>cond (decide (x2.1≥v5.Ticks)) (some (.go ((w64 (x2.1 - v5.Ticks)),(w64 (x2.2+1))))) ((E7 v5.Green p2).bind fun v6=>some (.out (.inr v6)))) (some (.out (.inl ())))
noncomputable def W1 (p1:Signal)(x1:(Int×Int)):Option (Stp (Int×Int) Int):=
  cond (decide (x1.2< (p1.Phases.length:Int))) ((F0 p1.Phases x1.2).bind fun v1=>some (.go ((w64 (x1.1+v1.Ticks)),(w64 (x1.2+1))))) (some (.out x1.1))
noncomputable def A42 (p1:Signal)(p2:Int)(p3:Int):Option Bool:=
  (loop (W1 p1) (0,0)).bind fun y1=>(C51 p1.Offset y1).bind fun v2=>(C51 p3 y1).bind fun v3=>(C51 (w64 (v2+v3)) y1).bind fun v4=>thenS (loop (R8 p1 p2) (v4,0)) (fun _=>some false) (fun r=>some r)
theorem B0i (p1:Signal)(p2:Int)(p3:Int)(r:Bool)(h:A42 p1 p2 p3=some r):PCall Tryz.prog 160 [(.agg [(i64 p1.Offset),(.list (List.map W0 p1.Phases))]),(i64 p2),(i64 p3)] (bo r):=by
 refine C6 (fk Tryz.func160 Tryz.ntmps160 m0 (by with_unfolding_all rfl)) (nl rfl) ?_
 unfold A42 at h
 refine A8 (s0:=⟨T [(0,(.d _)),(1,(.d _)),(2,(.d _))],G []⟩) (sbr rfl rfl) ?_
 refine lr (fun u1 hu1=>sn rfl rfl (sv rfl (A1 (C9y (lr (fun u2 hu2=>sv rfl (A1 (A5 (lr (fun u3 hu3=>sp rfl rfl (sl rfl G_hit rfl (sd rfl (D3 rfl) (sv rfl (A1 (bs h fun y1 hy1 h=>E1 (fun s=> ∃g1:Unit,Sb ⟨T [(1,(di p2)),(2,(di p3)),(3,(.ptr (3,u1) 0)),(7,(di y1))],G [((3,u1),some (.box 48 [(di p1.Offset),(dl W0 p1.Phases)]))]⟩ s) ?_ ?_)))))))))))))))
 refine A6 (E4 (W1 p1) (fun (x1:(Int×Int)) (g2:Unit)=>⟨T [(1,(di p2)),(2,(di p3)),(3,(.ptr (3,u1) 0)),(7,(di x1.1)),(14,(dl W0 p1.Phases)),(15,(di (p1.Phases.length:Int))),(16,(di x1.2))],G [((3,u1),some (.box 48 [(di p1.Offset),(dl W0 p1.Phases)]))]⟩) (0,0) () _ hy1 (sbr rfl rfl) ?_)
 intro x1 g2 z1 hz1 ez1
 unfold W1 at hz1
 refine lr (fun u4 hu4=>sv rfl (A1 (A5 (cc rfl hz1 (fun c1 hz1=> ?_) (fun c1 hz1=> ?_)))))
 refine A9 (A5 (A6 (lr (fun u5 hu5=>bs hz1 fun v1 hv1 hz1=>sd rfl (F1 rfl rfl hv1 rfl) (sd rfl (C7 rfl hv1 rfl rfl) (sn rfl rfl (sst rfl G_hit [(di v1.Ticks),(dl A3 v1.Green)] rfl (A1 (B8 fun u6 hu6=>sv rfl (sp rfl rfl (sl rfl G_hit rfl (sv rfl (sv rfl (A1 (G3 (B8 fun u7 hu7=>sv rfl (sv rfl (A1 (G4 ?_)))))))))))))))))))
 cases hz1
 exact ⟨rfl,(),(sbr rfl rfl)⟩
 refine C4 rfl ?_
 cases hz1
 obtain rfl:=ez1 _ rfl
 refine ⟨nofun,C1 rfl (l_j ?_)⟩
 exact ⟨(),(sbr rfl rfl)⟩
 rintro _ ⟨g1,q1⟩
 refine A8 q1 (A5 (R6 rfl fun u8 hu8=>sp rfl rfl (sl rfl G_hit rfl (sv rfl (bs h fun v2 hv2 h=>sd rfl (C3h rfl rfl hv2) (sv rfl (sv rfl (bs h fun v3 hv3 h=>sd rfl (C3h rfl rfl hv3) (sv rfl (sv rfl (bs h fun v4 hv4 h=>sd rfl (C3h rfl rfl hv4) (sv rfl (A1 (A5 (A9 (A5 (lr (fun u9 hu9=>sp rfl rfl (sl rfl G_hit rfl (sd rfl (D3 rfl) (sv rfl (A1 (js h fun z2 hz2 h=>E1 (fun s=> ∃(y2:Unit) (g3:Unit),z2= .inl y2∧Sb ⟨T [],G []⟩ s) ?_ ?_)))))))))))))))))))))))
 refine A6 (E4 (R8 p1 p2) (fun (x2:(Int×Int)) (g4:Unit)=>⟨T [(1,(di p2)),(10,(di x2.1)),(36,(dl W0 p1.Phases)),(37,(di (p1.Phases.length:Int))),(38,(di x2.2))],G []⟩) (v4,0) () _ hz2 (sbr rfl rfl) ?_)
 intro x2 g4 z3 hz3 ez3
 unfold R8 at hz3
 refine lr (fun u10 hu10=>sv rfl (A1 (A5 (cc rfl hz3 (fun c2 hz3=> ?_) (fun c2 hz3=> ?_)))))
 refine A9 (A5 (A6 (lr (fun u11 hu11=>bs hz3 fun v5 hv5 hz3=>sd rfl (F1 rfl rfl hv5 rfl) (sd rfl (C7 rfl hv5 rfl rfl) (sn rfl rfl (sst rfl G_hit [(di v5.Ticks),(dl A3 v5.Green)] rfl (A1 (A5 (lr (fun u12 hu12=>sv rfl (sp rfl rfl (sl rfl G_hit rfl (sv rfl (A1 (cc rfl hz3 (fun c3 hz3=> ?_) (fun c3 hz3=> ?_)))))))))))))))))
 refine lr (fun u13 hu13=>sv rfl (sp rfl rfl (sl rfl G_hit rfl (sv rfl (sv rfl (A1 (C21 rfl (B8 fun u14 hu14=>sv rfl (sv rfl (A1 (G4 ?_)))))))))))
 cases hz3
 exact ⟨rfl,(),(sbr rfl rfl)⟩
 refine A9 (lr (fun u15 hu15=>sp rfl rfl (sl rfl G_hit rfl (sv rfl (bs hz3 fun v6 hv6 hz3=>C0 rfl rfl A2 (N1 _ _ _ hv6) (.inl rfl) (sv rfl (A1 (B1 ?_))))))))
 cases hz3
 obtain rfl:=ez3 _ rfl
 refine ⟨nofun,D4 ?_⟩
 rw [Sum.elim_inr]at h
 cases h
 exact A7 (.inr rfl) (B7 (B0 rfl) F7) (.refl _)
 refine C4 rfl ?_
 cases hz3
 obtain rfl:=ez3 _ rfl
 refine ⟨nofun,C1 rfl (l_j ?_)⟩
 exact ⟨_,(),rfl,(sbr rfl rfl)⟩
 rintro _ ⟨y2,g3,rfl,q2⟩
 rw [Sum.elim_inl]at h
 refine A8 q2 (lr (fun u16 hu16=>sv rfl (A1 (B1 ?_))))
 cases h
 exact A7 (.inr rfl) (B7 (B0 rfl) F7) (.refl _)
noncomputable def A5z (p1:Map)(p2:Int)(p3:Int)(p4:Int):Option Bool:=
  ((cond (((decide (p4≥0))&& (decide (p2≥0)))&& (decide (p2< (p1.Signals.length:Int)))) (A4f p1 p3) (some default))).bind fun v1=>((cond ((((decide (p4≥0))&& (decide (p2≥0)))&& (decide (p2< (p1.Signals.length:Int))))&&v1) (F0 p1.Signals p2) (some default))).bind fun v2=>((cond ((((decide (p4≥0))&& (decide (p2≥0)))&& (decide (p2< (p1.Signals.length:Int))))&&v1) (A42 v2 p3 p4) (some default))).bind fun v3=>some (((((decide (p4≥0))&& (decide (p2≥0)))&& (decide (p2< (p1.Signals.length:Int))))&&v1)&&v3)
theorem B69 (p1:Map)(p2:Int)(p3:Int)(p4:Int)(r:Bool)(h:A5z p1 p2 p3 p4=some r):PCall Tryz.prog 52 [(.agg (Y0 p1)),(i64 p2),(i64 p3),(i64 p4)] (bo r):=by
 refine C6 (fk Tryz.func52 Tryz.ntmps52 m0 (by with_unfolding_all rfl)) (nl rfl) ?_
 unfold A5z at h
 refine A8 (s0:=⟨T [(0,(.d _)),(1,(.d _)),(2,(.d _)),(3,(.d _))],G []⟩) (sbr rfl rfl) ?_
 refine lr (fun u1 hu1=>sn rfl rfl (sv rfl (A1 (lr (fun u2 hu2=>sv rfl (sv rfl (sv rfl (gt rfl (fun _=>rfl) (gt rfl (vb rfl rfl rfl) (sa rfl rfl rfl (sv rfl (gt rfl (fun _=>rfl) (gp rfl (A0k rfl) (fun _=>rfl) (gt rfl (vl rfl G_hit rfl) (gt rfl (fun w6=>(D3 (A4 w6))) (gt rfl (fun w7=>(A0a (A4 w7) (A4 w7) rfl)) (sa rfl rfl rfl (sv rfl (gt rfl (fun w8=>(B6 rfl G_hit rfl rfl)) (gt rfl (fun _=>rfl) (bs h fun v1 hv1 h=> ?_)))))))))))))))))))))
 refine L7 _ (bo v1) (A0k rfl) (fun w10=>⟨_,[(.d (.agg (Y0 p1))),(di p3)],_,_,(by simp only [A4 w10];rfl),rfl,A2,A7w _ _ _ (C8 w10 hv1),(.inl rfl)⟩) ?_
 refine sa rfl rfl rfl (sv rfl (gp rfl (A0k rfl) (fun _=>rfl) (gt rfl (vl rfl G_hit rfl) (gt rfl (fun _=>rfl) (bs h fun v2 hv2 h=>gt rfl (fun w14=>(F1 (A4 w14) (A4 w14) (C8 w14 hv2) rfl)) (gt rfl (fun w15=>(C7 (A4 w15) (C8 w15 hv2) rfl rfl)) (gt rfl (fun _=>rfl) (gt rfl (fun _=>rfl) (bs h fun v3 hv3 h=> ?_)))))))))
 refine L7 _ (bo v3) (A0k rfl) (fun w18=>⟨_,[(.d (.agg [(i64 v2.Offset),(.list (List.map W0 v2.Phases))])),(di p3),(di p4)],_,_,(by simp only [A4 w18];rfl),rfl,A2,B0i _ _ _ _ (C8 w18 hv3),(.inl rfl)⟩) ?_
 refine sa rfl rfl rfl (sv rfl (A1 (B1 ?_)))
 cases h
 exact A7 (.inr rfl) (B7 (B0 rfl) F7) (.refl _)
noncomputable def Z3 (p1:Int)(p2:Int)(p3:Int):Option Bool:=
  some ((decide (p1≥p2))&& (decide (p1≤p3)))
theorem A0d (p1:Int)(p2:Int)(p3:Int)(r:Bool)(h:Z3 p1 p2 p3=some r):PCall Tryz.prog 71 [(i64 p1),(i64 p2),(i64 p3)] (bo r):=by
 refine C6 (fk Tryz.func71 Tryz.ntmps71 m0 (by with_unfolding_all rfl)) (nl rfl) ?_
 unfold Z3 at h
 refine A8 (s0:=⟨T [(0,(.d _)),(1,(.d _)),(2,(.d _))],G []⟩) (sbr rfl rfl) ?_
 refine lr (fun u1 hu1=>sv rfl (A1 (lr (fun u2 hu2=>sv rfl (sv rfl (sv rfl (sv rfl (gt rfl (fun _=>rfl) (gt rfl (fun _=>rfl) (gt rfl (fun w3=>(A0a (A4 w3) (A4 w3) rfl)) (sa rfl rfl rfl (sv rfl (A1 (B1 ?_))))))))))))))
 cases h
 exact A7 (.inr rfl) (B7 (B0 rfl) F7) (.refl _)
noncomputable def A60 (p1:Spot):Option Bool:=
  some ((((decide (p1.X≥(-16777216)))&& (decide (p1.X≤16777216)))&& (decide (p1.Y≥(-16777216))))&& (decide (p1.Y≤16777216)))
theorem B6a (p1:Spot)(r:Bool)(h:A60 p1=some r):PCall Tryz.prog 238 [(.agg [(i64 p1.X),(i64 p1.Y)])] (bo r):=by
 refine C6 (fk Tryz.func238 Tryz.ntmps238 m0 (by with_unfolding_all rfl)) (nl rfl) ?_
 unfold A60 at h
 refine A8 (s0:=⟨T [(0,(.d _))],G []⟩) (sbr rfl rfl) ?_
 refine lr (fun u1 hu1=>sn rfl rfl (sv rfl (A1 (lr (fun u2 hu2=>sp rfl rfl (sl rfl G_hit rfl (sv rfl (sv rfl (gp rfl (A0k rfl) (fun _=>rfl) (gt rfl (vl rfl G_hit rfl) (gt rfl (vb rfl rfl rfl) (sa rfl rfl rfl (sv rfl (gp rfl (A0k rfl) (fun _=>rfl) (gt rfl (vl rfl G_hit rfl) (gt rfl (vb rfl rfl rfl) (sa rfl rfl rfl (sv rfl (gp rfl (A0k rfl) (fun _=>rfl) (gt rfl (vl rfl G_hit rfl) (gt rfl (vb rfl rfl rfl) (sa rfl rfl rfl (sv rfl (A1 (B1 ?_)))))))))))))))))))))))))
 cases h
 exact A7 (.inr rfl) (B7 (B0 rfl) F7) (.refl _)
noncomputable def A2y (p1:Spot)(p2:Spot):Option Spot:=
  some (Spot.mk (w64 (p1.X - p2.X)) (w64 (p1.Y - p2.Y)))
theorem A6w (p1:Spot)(p2:Spot)(r:Spot)(h:A2y p1 p2=some r):PCall Tryz.prog 239 [(.agg [(i64 p1.X),(i64 p1.Y)]),(.agg [(i64 p2.X),(i64 p2.Y)])] (.agg [(i64 r.X),(i64 r.Y)]):=by
 refine C6 (fk Tryz.func239 Tryz.ntmps239 m0 (by with_unfolding_all rfl)) (nl rfl) ?_
 unfold A2y at h
 refine A8 (s0:=⟨T [(0,(.d _)),(1,(.d _))],G []⟩) (sbr rfl rfl) ?_
 refine lr (fun u1 hu1=>sn rfl rfl (sn rfl rfl (sn rfl rfl (A1 (lr (fun u2 hu2=>sp rfl rfl (sl rfl (gq rfl) rfl (sp rfl rfl (sl rfl (gq rfl) rfl (sv rfl (sp rfl rfl (sl rfl (gq rfl) rfl (sp rfl rfl (sl rfl (gq rfl) rfl (sv rfl (sv rfl (sst rfl G_hit [(di (w64 (p1.X - p2.X))),(di (w64 (p1.Y - p2.Y)))] rfl (A1 (B1 ?_)))))))))))))))))))
 cases h
 exact A7 (.inr rfl) (B7 (A0y rfl G_hit (nl rfl) rfl) F7) (.refl _)
noncomputable def A4v (p1:Spot)(p2:Spot):Option Int:=
  some (w64 ((w64 (p1.X*p2.X))+ (w64 (p1.Y*p2.Y))))
theorem A6q (p1:Spot)(p2:Spot)(r:Int)(h:A4v p1 p2=some r):PCall Tryz.prog 241 [(.agg [(i64 p1.X),(i64 p1.Y)]),(.agg [(i64 p2.X),(i64 p2.Y)])] (i64 r):=by
 refine C6 (fk Tryz.func241 Tryz.ntmps241 m0 (by with_unfolding_all rfl)) (nl rfl) ?_
 unfold A4v at h
 refine A8 (s0:=⟨T [(0,(.d _)),(1,(.d _))],G []⟩) (sbr rfl rfl) ?_
 refine lr (fun u1 hu1=>sn rfl rfl (sn rfl rfl (sv rfl (A1 (lr (fun u2 hu2=>sp rfl rfl (sl rfl (gq rfl) rfl (sp rfl rfl (sl rfl G_hit rfl (sv rfl (sp rfl rfl (sl rfl (gq rfl) rfl (sp rfl rfl (sl rfl G_hit rfl (sv rfl (sv rfl (sv rfl (A1 (B1 ?_)))))))))))))))))))
 cases h
 exact A7 (.inr rfl) (B7 (B0 rfl) F7) (.refl _)
noncomputable def A3m (p1:Int)(x1:(Int×Int)):Option (Stp (Int×Int) Int):=
  cond (decide (x1.2>0)) (cond (decide ((w64 ((w64 (x1.1+x1.2))* (w64 (x1.1+x1.2))))≤p1)) (some (.go ((w64 (x1.1+x1.2)),(w64 (x1.2.tdiv 2))))) (some (.go (x1.1,(w64 (x1.2.tdiv 2)))))) (some (.out x1.1))
noncomputable def A36 (p1:Int):Option Int:=
  (loop (A3m p1) (0,67108864)).bind fun y1=>some y1
theorem B1t (p1:Int)(r:Int)(h:A36 p1=some r):PCall Tryz.prog 240 [(i64 p1)] (i64 r):=by
 refine C6 (fk Tryz.func240 Tryz.ntmps240 m0 (by with_unfolding_all rfl)) (nl rfl) ?_
 unfold A36 at h
 refine A8 (s0:=⟨T [(0,(.d _))],G []⟩) (sbr rfl rfl) ?_
 refine lr (fun u1 hu1=>sv rfl (A1 (lr (fun u2 hu2=>sv rfl (A1 (A5 (lr (fun u3 hu3=>sv rfl (A1 (bs h fun y1 hy1 h=>E1 (fun s=> ∃g1:Unit,Sb ⟨T [(3,(di y1))],G []⟩ s) ?_ ?_))))))))))
 refine A6 (E4 (A3m p1) (fun (x1:(Int×Int)) (g2:Unit)=>⟨T [(0,(di p1)),(3,(di x1.1)),(4,(di x1.2))],G []⟩) (0,67108864) () _ hy1 (sbr rfl rfl) ?_)
 intro x1 g2 z1 hz1 ez1
 unfold A3m at hz1
 refine A5 (lr (fun u4 hu4=>sv rfl (sv rfl (A1 (cc rfl hz1 (fun c1 hz1=> ?_) (fun c1 hz1=> ?_))))))
 refine A9 (A5 (A6 (lr (fun u5 hu5=>sv rfl (sv rfl (sv rfl (sv rfl (sv rfl (sv rfl (sv rfl (sv rfl (sv rfl (A1 (cc rfl hz1 (fun c2 hz1=> ?_) (fun c2 hz1=> ?_)))))))))))))))
 refine B8 fun u6 hu6=>sv rfl (sv rfl (sv rfl (sv rfl (A1 (G3 (B8 fun u7 hu7=>sv rfl (sv rfl (sv rfl (A1 (G4 ?_))))))))))
 cases hz1
 exact ⟨rfl,(),(sbr rfl rfl)⟩
 refine A9 (G3 (B8 fun u8 hu8=>sv rfl (sv rfl (sv rfl (A1 (G4 ?_))))))
 cases hz1
 exact ⟨rfl,(),(sbr rfl rfl)⟩
 refine C4 rfl ?_
 cases hz1
 obtain rfl:=ez1 _ rfl
 refine ⟨nofun,C1 rfl (l_j ?_)⟩
 exact ⟨(),(sbr rfl rfl)⟩
 rintro _ ⟨g1,q1⟩
 refine A8 q1 (lr (fun u9 hu9=>sv rfl (sv rfl (A1 (B1 ?_)))))
 cases h
 exact A7 (.inr rfl) (B7 (B0 rfl) F7) (.refl _)
noncomputable def A00 (p1:Curve)(x2:Int):Option (Stp Int (Sum Unit Int)):=
  cond (decide ((w64 (x2+1))< (p1.Pts.length:Int))) ((F0 p1.Pts (w64 (x2+1))).bind fun v3=>(F0 p1.Pts x2).bind fun v4=>(A2y v3 v4).bind fun v5=>(A4v v5 v5).bind fun v6=>(A36 v6).bind fun v7=>(A4v v5 v5).bind fun v8=>cond ((w64 (v7*v7)) !=v8) (some (.out (.inr 3))) (cond ((decide (v7<1000))||(decide (v7>1048576))) (some (.out (.inr 2))) (((cond (decide (x2>0)) (F0 p1.Pts x2) (some default))).bind fun v9=>((cond (decide (x2>0)) (F0 p1.Pts (w64 (x2 - 1))) (some default))).bind fun v10=>((cond (decide (x2>0)) (A2y v9 v10) (some default))).bind fun v11=>((cond (decide (x2>0)) (A4v v5 v11) (some default))).bind fun v12=>cond ((decide (x2>0))&& (decide (v12≤0))) (some (.out (.inr 12))) (some (.go (w64 (x2+1))))))) (some (.out (.inl ())))
noncomputable def A01 (p1:Curve)(x1:Int):Option (Stp Int (Sum Unit Int)):=
  cond (decide (x1< (p1.Pts.length:Int))) ((F0 p1.Pts x1).bind fun v1=>(A60 v1).bind fun v2=>cond (!v2) (some (.out (.inr 2))) (some (.go (w64 (x1+1))))) (some (.out (.inl ())))
noncomputable def A43 (p1:Curve):Option Int:=
  cond (decide ((p1.Pts.length:Int)<2)) (some 6) (cond (decide ((p1.Pts.length:Int)>16)) (some 5) (thenS (loop (A01 p1) 0) (fun _=>thenS (loop (A00 p1) 0) (fun _=>some 0) (fun r=>some r)) (fun r=>some r)))
theorem B0j (p1:Curve)(r:Int)(h:A43 p1=some r):PCall Tryz.prog 175 [(.agg [(.list (List.map A0z p1.Pts))])] (i64 r):=by
 refine C6 (fk Tryz.func175 Tryz.ntmps175 m0 (by with_unfolding_all rfl)) (nl rfl) ?_
 unfold A43 at h
 refine A8 (s0:=⟨T [(0,(.d _))],G []⟩) (sbr rfl rfl) ?_
 refine lr (fun u1 hu1=>sn rfl rfl (sv rfl (A1 (A5 (lr (fun u2 hu2=>sp rfl rfl (sl rfl G_hit rfl (sd rfl (D3 rfl) (sv rfl (A1 (cc rfl h (fun c1 h=> ?_) (fun c1 h=> ?_))))))))))))
 refine lr (fun u3 hu3=>sv rfl (A1 (B1 ?_)))
 cases h
 exact A7 (.inr rfl) (B7 (B0 rfl) F7) (.refl _)
 refine A9 (A5 (lr (fun u4 hu4=>sp rfl rfl (sl rfl G_hit rfl (sd rfl (D3 rfl) (sv rfl (A1 (cc rfl h (fun c2 h=> ?_) (fun c2 h=> ?_)))))))))
 refine lr (fun u5 hu5=>sv rfl (A1 (B1 ?_)))
 cases h
 exact A7 (.inr rfl) (B7 (B0 rfl) F7) (.refl _)
 refine A9 (A5 (lr (fun u6 hu6=>sv rfl (A1 (js h fun z1 hz1 h=>E1 (fun s=> ∃(y1:Unit) (g1:Unit),z1= .inl y1∧Sb ⟨T [(1,(.ptr (1,u1) 0))],G [((1,u1),some (.box 39 [(dl A0z p1.Pts)]))]⟩ s) ?_ ?_)))))
 refine A6 (E4 (A01 p1) (fun (x1:Int) (g2:Unit)=>⟨T [(1,(.ptr (1,u1) 0)),(3,(di x1))],G [((1,u1),some (.box 39 [(dl A0z p1.Pts)]))]⟩) 0 () _ hz1 (sbr rfl rfl) ?_)
 intro x1 g2 z2 hz2 ez2
 unfold A01 at hz2
 refine A5 (lr (fun u7 hu7=>sv rfl (sp rfl rfl (sl rfl G_hit rfl (sd rfl (D3 rfl) (sv rfl (A1 (cc rfl hz2 (fun c3 hz2=> ?_) (fun c3 hz2=> ?_)))))))))
 refine A9 (A5 (A6 (lr (fun u8 hu8=>sp rfl rfl (sl rfl G_hit rfl (sv rfl (bs hz2 fun v1 hv1 hz2=>sd rfl (F1 rfl rfl hv1 rfl) (sd rfl (C7 rfl hv1 rfl rfl) (bs hz2 fun v2 hv2 hz2=>C0 rfl rfl A2 (B6a _ _ hv2) (.inl rfl) (F6 (.d (bo (!v2))) rfl rfl (A1 (cc rfl hz2 (fun c4 hz2=> ?_) (fun c4 hz2=> ?_)))))))))))))
 refine lr (fun u9 hu9=>sv rfl (A1 (B1 ?_)))
 cases hz2
 obtain rfl:=ez2 _ rfl
 refine ⟨nofun,D4 ?_⟩
 rw [Sum.elim_inr]at h
 cases h
 exact A7 (.inr rfl) (B7 (B0 rfl) F7) (.refl _)
 refine A9 (G3 (B8 fun u10 hu10=>sv rfl (sv rfl (sv rfl (A1 (G4 ?_))))))
 cases hz2
 exact ⟨rfl,(),(sbr rfl rfl)⟩
 refine C4 rfl ?_
 cases hz2
 obtain rfl:=ez2 _ rfl
 refine ⟨nofun,C1 rfl (l_j ?_)⟩
 exact ⟨_,(),rfl,(sbr rfl rfl)⟩
 rintro _ ⟨y1,g1,rfl,q1⟩
 rw [Sum.elim_inl]at h
 refine A8 q1 (A5 (lr (fun u11 hu11=>sv rfl (A1 (js h fun z3 hz3 h=>E1 (fun s=> ∃(y2:Unit) (g3:Unit),z3= .inl y2∧Sb ⟨T [],G []⟩ s) ?_ ?_)))))
 refine A6 (E4 (A00 p1) (fun (x2:Int) (g4:Unit)=>⟨T [(1,(.ptr (1,u1) 0)),(4,(di x2))],G [((1,u1),some (.box 39 [(dl A0z p1.Pts)]))]⟩) 0 () _ hz3 (sbr rfl rfl) ?_)
 intro x2 g4 z4 hz4 ez4
 unfold A00 at hz4
 refine A5 (lr (fun u12 hu12=>sv rfl (sv rfl (sp rfl rfl (sl rfl G_hit rfl (sd rfl (D3 rfl) (sv rfl (A1 (cc rfl hz4 (fun c5 hz4=> ?_) (fun c5 hz4=> ?_))))))))))
 refine A9 (A5 (A6 (A5 (R6 rfl fun u13 hu13=>sp rfl rfl (sl rfl G_hit rfl (sv rfl (sv rfl (bs hz4 fun v3 hv3 hz4=>sd rfl (F1 rfl rfl hv3 rfl) (sd rfl (C7 rfl hv3 rfl rfl) (sp rfl rfl (sl rfl G_hit rfl (sv rfl (bs hz4 fun v4 hv4 hz4=>sd rfl (F1 rfl rfl hv4 rfl) (sd rfl (C7 rfl hv4 rfl rfl) (bs hz4 fun v5 hv5 hz4=>C0 rfl rfl A2 (A6w _ _ _ hv5) (.inl rfl) (sn rfl rfl (sst rfl G_hit [(di v5.X),(di v5.Y)] rfl (A1 (A5 (A8 (s0:=⟨T [(1,(.ptr _ _)),(4,(.d _)),(5,(.ptr _ _))],G [((1,u1),some (.box 39 _)),((5,u13),some (.box 148 _))]⟩) (sbr rfl rfl) ?_))))))))))))))))))))
 refine B8 fun u14 hu14=>sd rfl (B6 rfl (gq rfl) rfl rfl) (sd rfl (B6 rfl (gq rfl) rfl rfl) (bs hz4 fun v6 hv6 hz4=>C0 rfl rfl A2 (A6q _ _ _ hv6) (.inl rfl) (bs hz4 fun v7 hv7 hz4=>C0 rfl rfl A2 (B1t _ _ hv7) (.inl rfl) (sv rfl (A1 (A5 (lr (fun u15 hu15=>sv rfl (sv rfl (sv rfl (sd rfl (B6 rfl (gq rfl) rfl rfl) (sd rfl (B6 rfl (gq rfl) rfl rfl) (bs hz4 fun v8 hv8 hz4=>C0 rfl rfl A2 (A6q _ _ _ hv8) (.inl rfl) (sv rfl (A1 (cc rfl hz4 (fun c6 hz4=> ?_) (fun c6 hz4=> ?_)))))))))))))))))
 refine lr (fun u16 hu16=>sv rfl (A1 (B1 ?_)))
 cases hz4
 obtain rfl:=ez4 _ rfl
 refine ⟨nofun,D4 ?_⟩
 rw [Sum.elim_inr]at h
 cases h
 exact A7 (.inr rfl) (B7 (B0 rfl) F7) (.refl _)
 refine A9 (A5 (lr (fun u17 hu17=>sv rfl (sv rfl (sv rfl (gf rfl (fun _=>rfl) (gf rfl (vb rfl rfl rfl) (sd rfl (A3g rfl rfl (fun hc=>A4 (Q3 hc))) (A1 (cc rfl hz4 (fun c7 hz4=> ?_) (fun c7 hz4=> ?_)))))))))))
 refine A5 (A8 (s0:=⟨T [],G []⟩) (sbr rfl rfl) ?_)
 refine B8 fun u18 hu18=>sv rfl (A1 (B1 ?_))
 cases hz4
 obtain rfl:=ez4 _ rfl
 refine ⟨nofun,D4 ?_⟩
 rw [Sum.elim_inr]at h
 cases h
 exact A7 (.inr rfl) (B7 (B0 rfl) F7) (.refl _)
 refine A9 (A5 (A8 (s0:=⟨T [(1,(.ptr _ _)),(4,(.d _)),(5,(.ptr _ _))],G [((1,u1),some (.box 39 _)),((5,u13),some (.box 148 _))]⟩) (sbr rfl rfl) ?_))
 refine R6 rfl fun u19 hu19=>sv rfl (sv rfl (sv rfl (gt rfl (fun w3=>(B6 rfl (gq rfl) rfl rfl)) (gp rfl (A0k rfl) (fun _=>rfl) (gt rfl (vl rfl G_hit rfl) (gt rfl (fun _=>rfl) (bs hz4 fun v9 hv9 hz4=>gt rfl (fun w7=>(F1 (A4 w7) (A4 w7) (C8 w7 hv9) rfl)) (gt rfl (fun w8=>(C7 (A4 w8) (C8 w8 hv9) rfl rfl)) (gp rfl (A0k rfl) (fun _=>rfl) (gt rfl (vl rfl G_hit rfl) (gt rfl (fun _=>rfl) (gt rfl (vb rfl rfl rfl) (bs hz4 fun v10 hv10 hz4=>gt rfl (fun w13=>(F1 (A4 w13) (A4 w13) (C8 w13 hv10) rfl)) (gt rfl (fun w14=>(C7 (A4 w14) (C8 w14 hv10) rfl rfl)) (bs hz4 fun v11 hv11 hz4=> ?_)))))))))))))))
 refine L7 _ (.agg [(i64 v11.X),(i64 v11.Y)]) (A0k rfl) (fun w15=>⟨_,[(.d (.agg [(i64 v9.X),(i64 v9.Y)])),(.d (.agg [(i64 v10.X),(i64 v10.Y)]))],_,_,(by simp only [A4 w15];rfl),rfl,A2,A6w _ _ _ (C8 w15 hv11),(.inl rfl)⟩) ?_
 refine bs hz4 fun v12 hv12 hz4=> ?_
 refine L7 _ (i64 v12) (A0k rfl) (fun w16=>⟨_,[(.d (.agg [(i64 v5.X),(i64 v5.Y)])),(.d (.agg [(i64 v11.X),(i64 v11.Y)]))],_,_,(by simp only [A4 w16];rfl),rfl,A2,A6q _ _ _ (C8 w16 hv12),(.inl rfl)⟩) ?_
 refine gt rfl (vb rfl rfl rfl) (sa rfl rfl rfl (A1 (cc rfl hz4 (fun c8 hz4=> ?_) (fun c8 hz4=> ?_))))
 refine A5 (A8 (s0:=⟨T [],G []⟩) (sbr rfl rfl) ?_)
 refine B8 fun u20 hu20=>sv rfl (A1 (B1 ?_))
 cases hz4
 obtain rfl:=ez4 _ rfl
 refine ⟨nofun,D4 ?_⟩
 rw [Sum.elim_inr]at h
 cases h
 exact A7 (.inr rfl) (B7 (B0 rfl) F7) (.refl _)
 refine A9 (G3 (A8 (s0:=⟨T [(1,(.ptr _ _)),(4,(.d _))],G [((1,u1),some (.box 39 _))]⟩) (sbr rfl rfl) ?_))
 refine B8 fun u21 hu21=>sv rfl (sv rfl (sv rfl (A1 (G4 ?_))))
 cases hz4
 exact ⟨rfl,(),(sbr rfl rfl)⟩
 refine C4 rfl ?_
 cases hz4
 obtain rfl:=ez4 _ rfl
 refine ⟨nofun,C1 rfl (l_j ?_)⟩
 exact ⟨_,(),rfl,(sbr rfl rfl)⟩
 rintro _ ⟨y2,g3,rfl,q2⟩
 rw [Sum.elim_inl]at h
 refine A8 q2 (lr (fun u22 hu22=>sv rfl (A1 (B1 ?_))))
 cases h
 exact A7 (.inr rfl) (B7 (B0 rfl) F7) (.refl _)
noncomputable def A37 (p1:Int):Option (Int×Int×Int):=
  cond (p1==1) (some (2000,30,90)) (cond (p1==2) (some (1000,20,60)) (cond (p1==3) (some (300,100,300)) (some (0,0,0))))
theorem A96 (p1:Int)(r:(Int×Int×Int))(h:A37 p1=some r):PCall Tryz.prog 176 [(i64 p1)] (.tup [(i64 r.1),(i64 r.2.1),(i64 r.2.2)]):=by
 refine C6 (fk Tryz.func176 Tryz.ntmps176 m0 (by with_unfolding_all rfl)) (nl rfl) ?_
 unfold A37 at h
 refine A8 (s0:=⟨T [(0,(.d _))],G []⟩) (sbr rfl rfl) ?_
 refine lr (fun u1 hu1=>sv rfl (sv rfl (sv rfl (A1 (A5 (lr (fun u2 hu2=>sv rfl (A1 (A6 (lr (fun u3 hu3=>sv rfl (sv rfl (A1 (cc rfl h (fun c1 h=> ?_) (fun c1 h=> ?_)))))))))))))))
 refine lr (fun u4 hu4=>sv rfl (sv rfl (sv rfl (A1 (B1 ?_)))))
 cases h
 exact A7 (.inr rfl) (B99 (B0 rfl) (B0 rfl) (B0 rfl) F7 F7 F7) (.refl _)
 refine lr (fun u5 hu5=>sv rfl (sv rfl (A1 (cc rfl h (fun c2 h=> ?_) (fun c2 h=> ?_)))))
 refine lr (fun u6 hu6=>sv rfl (sv rfl (sv rfl (A1 (B1 ?_)))))
 cases h
 exact A7 (.inr rfl) (B99 (B0 rfl) (B0 rfl) (B0 rfl) F7 F7 F7) (.refl _)
 refine lr (fun u7 hu7=>sv rfl (sv rfl (A1 (cc rfl h (fun c3 h=> ?_) (fun c3 h=> ?_)))))
 refine lr (fun u8 hu8=>sv rfl (sv rfl (sv rfl (A1 (B1 ?_)))))
 cases h
 exact A7 (.inr rfl) (B99 (B0 rfl) (B0 rfl) (B0 rfl) F7 F7 F7) (.refl _)
 refine A9 (G3 (lr (fun u9 hu9=>sv rfl (sv rfl (sv rfl (A1 (B1 ?_)))))))
 cases h
 exact A7 (.inr rfl) (B99 (B0 rfl) (B0 rfl) (B0 rfl) F7 F7 F7) (.refl _)
noncomputable def U2 (p1:(List Int))(p2:Int)(p3:Int)(x1:Int):Option (Stp Int (Sum Unit Bool)):=
  cond (decide (x1< (p1.length:Int))) ((F0 p1 x1).bind fun v1=>((cond (!(decide (v1<p2))) (F0 p1 x1) (some default))).bind fun v2=>((cond ((!((decide (v1<p2))||(decide (v2≥p3))))&& (decide (x1>0))) (F0 p1 x1) (some default))).bind fun v3=>((cond ((!((decide (v1<p2))||(decide (v2≥p3))))&& (decide (x1>0))) (F0 p1 (w64 (x1 - 1))) (some default))).bind fun v4=>cond (((decide (v1<p2))||(decide (v2≥p3)))||((decide (x1>0))&& (decide (v3≤v4)))) (some (.out (.inr false))) (some (.go (w64 (x1+1))))) (some (.out (.inl ())))
noncomputable def A0t (p1:(List Int))(p2:Int)(p3:Int):Option Bool:=
  thenS (loop (U2 p1 p2 p3) 0) (fun _=>some true) (fun r=>some r)
theorem A54 (p1:(List Int))(p2:Int)(p3:Int)(r:Bool)(h:A0t p1 p2 p3=some r):PCall Tryz.prog 177 [(.list (List.map A3 p1)),(i64 p2),(i64 p3)] (bo r):=by
 refine C6 (fk Tryz.func177 Tryz.ntmps177 m0 (by with_unfolding_all rfl)) (nl rfl) ?_
 unfold A0t at h
 refine A8 (s0:=⟨T [(0,(.d _)),(1,(.d _)),(2,(.d _))],G []⟩) (sbr rfl rfl) ?_
 refine lr (fun u1 hu1=>sv rfl (A1 (A5 (lr (fun u2 hu2=>sv rfl (A1 (js h fun z1 hz1 h=>E1 (fun s=> ∃(y1:Unit) (g1:Unit),z1= .inl y1∧Sb ⟨T [],G []⟩ s) ?_ ?_)))))))
 refine A6 (E4 (U2 p1 p2 p3) (fun (x1:Int) (g2:Unit)=>⟨T [(0,(dl A3 p1)),(1,(di p2)),(2,(di p3)),(7,(di x1))],G []⟩) 0 () _ hz1 (sbr rfl rfl) ?_)
 intro x1 g2 z2 hz2 ez2
 unfold U2 at hz2
 refine A5 (lr (fun u3 hu3=>sv rfl (sv rfl (sd rfl (D3 rfl) (sv rfl (A1 (cc rfl hz2 (fun c1 hz2=> ?_) (fun c1 hz2=> ?_))))))))
 refine A9 (A5 (A6 (A5 (R6 rfl fun u4 hu4=>sv rfl (sv rfl (bs hz2 fun v1 hv1 hz2=>sd rfl (F1 rfl rfl hv1 rfl) (sd rfl (E6 rfl hv1 rfl) (sv rfl (sv rfl (sv rfl (gf rfl (fun _=>rfl) (gf rfl (fun _=>rfl) (bs hz2 fun v2 hv2 hz2=>gf rfl (fun w3=>(F1 (A4 w3) (A4 w3) (C8 w3 hv2) rfl)) (gf rfl (fun w4=>(E6 (A4 w4) (C8 w4 hv2) rfl)) (gf rfl (fun _=>rfl) (gf rfl (fun w6=>(A0a (A4 w6) (A4 w6) rfl)) (sd rfl (A3g rfl rfl (fun hc=>A4 (Q3 hc))) (sv rfl (gf rfl (fun _=>rfl) (gf rfl (vb rfl rfl rfl) (gf rfl (fun w9=>(v_mv (A4 w9))) (gv rfl (B62 rfl) (fun _=>rfl) (gv rfl (B62 rfl) (fun _=>rfl) (bs hz2 fun v3 hv3 hz2=>gv rfl (B62 rfl) (fun w12=>(F1 (A4 w12) (A4 w12) (C8 w12 hv3) rfl)) (gv rfl (B62 rfl) (fun w13=>(E6 (A4 w13) (C8 w13 hv3) rfl)) (gv rfl (B62 rfl) (fun _=>rfl) (gv rfl (B62 rfl) (fun _=>rfl) (gv rfl (B62 rfl) (vb rfl rfl rfl) (bs hz2 fun v4 hv4 hz2=>gv rfl (B62 rfl) (fun w17=>(F1 (A4 w17) (A4 w17) (C8 w17 hv4) rfl)) (gv rfl (B62 rfl) (fun w18=>(E6 (A4 w18) (C8 w18 hv4) rfl)) (gv rfl (B62 rfl) (fun w19=>(A0a (A4 w19) (A4 w19) rfl)) (gf rfl (fun w20=>(D1u (A4 w20) (fun hc=>A4 (D2y w20 hc)) rfl)) (sd rfl (A3g rfl rfl (fun hc=>A4 (Q3 hc))) (A1 (cc rfl hz2 (fun c2 hz2=> ?_) (fun c2 hz2=> ?_))))))))))))))))))))))))))))))))))))
 refine A5 (A8 (s0:=⟨T [],G []⟩) (sbr rfl rfl) ?_)
 refine B8 fun u5 hu5=>sv rfl (A1 (B1 ?_))
 cases hz2
 obtain rfl:=ez2 _ rfl
 refine ⟨nofun,D4 ?_⟩
 rw [Sum.elim_inr]at h
 cases h
 exact A7 (.inr rfl) (B7 (B0 rfl) F7) (.refl _)
 refine A9 (G3 (A8 (s0:=⟨T [(0,(.d _)),(1,(.d _)),(2,(.d _)),(7,(.d _))],G []⟩) (sbr rfl rfl) ?_))
 refine B8 fun u6 hu6=>sv rfl (sv rfl (sv rfl (A1 (G4 ?_))))
 cases hz2
 exact ⟨rfl,(),(sbr rfl rfl)⟩
 refine C4 rfl ?_
 cases hz2
 obtain rfl:=ez2 _ rfl
 refine ⟨nofun,C1 rfl (l_j ?_)⟩
 exact ⟨_,(),rfl,(sbr rfl rfl)⟩
 rintro _ ⟨y1,g1,rfl,q1⟩
 rw [Sum.elim_inl]at h
 refine A8 q1 (lr (fun u7 hu7=>sv rfl (A1 (B1 ?_))))
 cases h
 exact A7 (.inr rfl) (B7 (B0 rfl) F7) (.refl _)
noncomputable def A1t (p1:Map)(p2:Int):Option Int:=
  (F0 p1.Lanes p2).bind fun v1=>cond ((decide (v1.Kind<1))||(decide (v1.Kind>3))) (some 4) ((A43 v1.Curve_).bind fun v2=>cond (v2 !=0) (some v2) ((A37 v1.Kind).bind fun v3=>(Z3 v1.Half 200 4000).bind fun v4=>((cond (!(!v4)) (Z3 v1.Limit 1 v3.1) (some default))).bind fun v5=>cond ((!v4)||(!v5)) (some 2) (cond (decide ((v1.Next.length:Int)>3)) (some 8) ((A0t v1.Next (w64 (p2+1)) (p1.Lanes.length:Int)).bind fun v6=>cond (!v6) (some 11) (some 0)))))
theorem B1u (p1:Map)(p2:Int)(r:Int)(h:A1t p1 p2=some r):PCall Tryz.prog 72 [(.agg (Y0 p1)),(i64 p2)] (i64 r):=by
 refine C6 (fk Tryz.func72 Tryz.ntmps72 m0 (by with_unfolding_all rfl)) (nl rfl) ?_
 unfold A1t at h
 refine A8 (s0:=⟨T [(0,(.d _)),(1,(.d _))],G []⟩) (sbr rfl rfl) ?_
 refine lr (fun u1 hu1=>sn rfl rfl (sv rfl (A1 (lr (fun u2 hu2=>sp rfl rfl (sl rfl G_hit rfl (sv rfl (bs h fun v1 hv1 h=>sd rfl (F1 rfl rfl hv1 rfl) (sd rfl (C7 rfl hv1 rfl rfl) (sn rfl rfl (sst rfl G_hit (A8y v1) rfl (A1 (A5 (lr (fun u3 hu3=>sp rfl rfl (sl rfl G_hit rfl (sv rfl (sv rfl (gp rfl (X8 rfl) (fun _=>rfl) (gf rfl (vl rfl G_hit rfl) (gf rfl (vb rfl rfl rfl) (sd rfl (A3g rfl rfl (fun hc=>A4 (Q3 hc))) (A1 (cc rfl h (fun c1 h=> ?_) (fun c1 h=> ?_)))))))))))))))))))))))))
 refine lr (fun u4 hu4=>sv rfl (A1 (B1 ?_)))
 cases h
 exact A7 (.inr rfl) (B7 (B0 rfl) F7) (.refl _)
 refine A9 (lr (fun u5 hu5=>sp rfl rfl (sd rfl (B6 rfl G_hit rfl rfl) (bs h fun v2 hv2 h=>C0 rfl rfl A2 (B0j _ _ hv2) (.inl rfl) (sv rfl (A1 (A5 (A5 (A8 (s0:=⟨T [(1,(.d _)),(2,(.ptr _ _)),(5,(.ptr _ _)),(6,(.d _))],G [((2,u1),some (.box 27 _)),((5,u2),some (.box 42 _))]⟩) (sbr rfl rfl) ?_)))))))))
 refine B8 fun u6 hu6=>sv rfl (sv rfl (A1 (cc rfl h (fun c2 h=> ?_) (fun c2 h=> ?_))))
 refine lr (fun u7 hu7=>sv rfl (sv rfl (A1 (B1 ?_))))
 cases h
 exact A7 (.inr rfl) (B7 (B0 rfl) F7) (.refl _)
 refine A9 (lr (fun u8 hu8=>sp rfl rfl (sl rfl (gq rfl) rfl (bs h fun v3 hv3 h=>C0 rfl rfl A2 (A96 _ _ hv3) (.inl rfl) (sv rfl (sv rfl (sv rfl (sv rfl (sv rfl (sv rfl (sv rfl (A1 (A5 (lr (fun u9 hu9=>sp rfl rfl (sl rfl (gq rfl) rfl (bs h fun v4 hv4 h=>C0 rfl rfl A2 (A0d _ _ _ _ hv4) (.inl rfl) (F6 (.d (bo (!v4))) rfl rfl (sv rfl (gp rfl (X8 rfl) (fun _=>rfl) (gf rfl (vl rfl (gq rfl) rfl) (gf rfl (fun _=>rfl) (bs h fun v5 hv5 h=> ?_)))))))))))))))))))))))
 refine L7 _ (bo v5) (X8 rfl) (fun w7=>⟨_,[(di v1.Limit),(di 1),(di v3.1)],_,_,(by simp only [A4 w7];rfl),rfl,A2,A0d _ _ _ _ (C8 w7 hv5),(.inl rfl)⟩) ?_
 refine A28 _ (.d (bo (!v5))) rfl (X8 rfl) (fun w8=>(by simp only [A4 w8];rfl)) ?_
 refine sd rfl (A3g rfl rfl (fun hc=>A4 (Q3 hc))) (A1 (cc rfl h (fun c3 h=> ?_) (fun c3 h=> ?_)))
 refine A5 (A8 (s0:=⟨T [],G []⟩) (sbr rfl rfl) ?_)
 refine B8 fun u10 hu10=>sv rfl (A1 (B1 ?_))
 cases h
 exact A7 (.inr rfl) (B7 (B0 rfl) F7) (.refl _)
 refine A9 (A5 (A5 (A8 (s0:=⟨T [(1,(.d _)),(2,(.ptr _ _)),(5,(.ptr _ _))],G [((2,u1),some (.box 27 _)),((5,u2),some (.box 42 _))]⟩) (sbr rfl rfl) ?_)))
 refine B8 fun u11 hu11=>sp rfl rfl (sl rfl (gq rfl) rfl (sd rfl (D3 rfl) (sv rfl (A1 (cc rfl h (fun c4 h=> ?_) (fun c4 h=> ?_))))))
 refine lr (fun u12 hu12=>sv rfl (A1 (B1 ?_)))
 cases h
 exact A7 (.inr rfl) (B7 (B0 rfl) F7) (.refl _)
 refine A9 (A5 (lr (fun u13 hu13=>sp rfl rfl (sl rfl (gq rfl) rfl (sv rfl (sv rfl (sp rfl rfl (sl rfl G_hit rfl (sd rfl (D3 rfl) (bs h fun v6 hv6 h=>C0 rfl rfl A2 (A54 _ _ _ _ hv6) (.inl rfl) (F6 (.d (bo (!v6))) rfl rfl (A1 (cc rfl h (fun c5 h=> ?_) (fun c5 h=> ?_))))))))))))))
 refine lr (fun u14 hu14=>sv rfl (A1 (B1 ?_)))
 cases h
 exact A7 (.inr rfl) (B7 (B0 rfl) F7) (.refl _)
 refine A9 (lr (fun u15 hu15=>sv rfl (A1 (B1 ?_))))
 cases h
 exact A7 (.inr rfl) (B7 (B0 rfl) F7) (.refl _)
noncomputable def T9 (p1:Map)(v1:Lane)(x2:Int):Option (Stp Int (Sum Unit Int)):=
  cond (decide (x2< (v1.Next.length:Int))) ((F0 v1.Next x2).bind fun v2=>(F0 p1.Lanes v2).bind fun v3=>cond (v3.Kind !=v1.Kind) (some (.out (.inr 4))) ((F0 v3.Curve_.Pts 0).bind fun v4=>(F0 v1.Curve_.Pts (w64 ((v1.Curve_.Pts.length:Int) - 1))).bind fun v5=>cond (!(v4.X==v5.X&& (v4.Y==v5.Y&&true))) (some (.out (.inr 3))) (some (.go (w64 (x2+1)))))) (some (.out (.inl ())))
noncomputable def U0 (p1:Map)(x1:Int):Option (Stp Int (Sum Unit Int)):=
  cond (decide (x1< (p1.Lanes.length:Int))) ((F0 p1.Lanes x1).bind fun v1=>thenS (loop (T9 p1 v1) 0) (fun _=>some (.go (w64 (x1+1)))) (fun r=>some (.out (.inr r)))) (some (.out (.inl ())))
noncomputable def A1u (p1:Map):Option Int:=
  thenS (loop (U0 p1) 0) (fun _=>some 0) (fun r=>some r)
theorem B1v (p1:Map)(r:Int)(h:A1u p1=some r):PCall Tryz.prog 73 [(.agg (Y0 p1))] (i64 r):=by
 refine C6 (fk Tryz.func73 Tryz.ntmps73 m0 (by with_unfolding_all rfl)) (nl rfl) ?_
 unfold A1u at h
 refine A8 (s0:=⟨T [(0,(.d _))],G []⟩) (sbr rfl rfl) ?_
 refine lr (fun u1 hu1=>sn rfl rfl (sv rfl (A1 (A5 (lr (fun u2 hu2=>sv rfl (A1 (js h fun z1 hz1 h=>E1 (fun s=> ∃(y1:Unit) (g1:Unit),z1= .inl y1∧Sb ⟨T [],G []⟩ s) ?_ ?_))))))))
 refine A6 (E4 (U0 p1) (fun (x1:Int) (g2:Unit)=>⟨T [(1,(.ptr (1,u1) 0)),(3,(di x1))],G [((1,u1),some (.box 27 (X2 p1)))]⟩) 0 () _ hz1 (sbr rfl rfl) ?_)
 intro x1 g2 z2 hz2 ez2
 unfold U0 at hz2
 refine A5 (lr (fun u3 hu3=>sv rfl (sp rfl rfl (sl rfl G_hit rfl (sd rfl (D3 rfl) (sv rfl (A1 (cc rfl hz2 (fun c1 hz2=> ?_) (fun c1 hz2=> ?_)))))))))
 refine A9 (A5 (A6 (lr (fun u4 hu4=>sp rfl rfl (sl rfl G_hit rfl (sv rfl (bs hz2 fun v1 hv1 hz2=>sd rfl (F1 rfl rfl hv1 rfl) (sd rfl (C7 rfl hv1 rfl rfl) (sn rfl rfl (sst rfl G_hit (A8y v1) rfl (A1 (lr (fun u5 hu5=>sv rfl (A1 (js hz2 fun z3 hz3 hz2=>E1 (fun s=> ∃(y2:Unit) (g3:Unit),z3= .inl y2∧Sb ⟨T [(1,(.ptr (1,u1) 0)),(3,(di x1))],G [((1,u1),some (.box 27 (X2 p1)))]⟩ s) ?_ ?_)))))))))))))))
 refine A6 (E4 (T9 p1 v1) (fun (x2:Int) (g4:Unit)=>⟨T [(1,(.ptr (1,u1) 0)),(3,(di x1)),(4,(.ptr (4,u4) 0)),(5,(di x2))],G [((1,u1),some (.box 27 (X2 p1))),((4,u4),some (.box 42 (A8y v1)))]⟩) 0 () _ hz3 (sbr rfl rfl) ?_)
 intro x2 g4 z4 hz4 ez4
 unfold T9 at hz4
 refine A5 (lr (fun u6 hu6=>sv rfl (sp rfl rfl (sl rfl (gq rfl) rfl (sd rfl (D3 rfl) (sv rfl (A1 (cc rfl hz4 (fun c2 hz4=> ?_) (fun c2 hz4=> ?_)))))))))
 refine A9 (A5 (A6 (A5 (R6 rfl fun u7 hu7=>sp rfl rfl (sl rfl G_hit rfl (sp rfl rfl (sl rfl (gq rfl) rfl (sv rfl (bs hz4 fun v2 hv2 hz4=>sd rfl (F1 rfl rfl hv2 rfl) (sd rfl (E6 rfl hv2 rfl) (bs hz4 fun v3 hv3 hz4=>sd rfl (F1 rfl rfl hv3 rfl) (sd rfl (C7 rfl hv3 rfl rfl) (sn rfl rfl (sst rfl G_hit (A8y v3) rfl (A1 (A5 (A5 (A8 (s0:=⟨T [(1,(.ptr _ _)),(3,(.d _)),(4,(.ptr _ _)),(5,(.d _)),(6,(.ptr _ _))],G [((1,u1),some (.box 27 _)),((4,u4),some (.box 42 _)),((6,u7),some (.box 42 _))]⟩) (sbr rfl rfl) ?_))))))))))))))))))
 refine B8 fun u8 hu8=>sp rfl rfl (sl rfl (gq rfl) rfl (sp rfl rfl (sl rfl (gq rfl) rfl (sv rfl (A1 (cc rfl hz4 (fun c3 hz4=> ?_) (fun c3 hz4=> ?_)))))))
 refine lr (fun u9 hu9=>sv rfl (A1 (B1 ?_)))
 cases hz4
 obtain rfl:=ez4 _ rfl
 refine ⟨nofun,D4 ?_⟩
 rw [Sum.elim_inr]at hz2
 cases hz2
 obtain rfl:=ez2 _ rfl
 refine ⟨nofun,D4 ?_⟩
 rw [Sum.elim_inr]at h
 cases h
 exact A7 (.inr rfl) (B7 (B0 rfl) F7) (.refl _)
 refine A9 (A5 (R6 rfl fun u10 hu10=>sp rfl rfl (sp rfl rfl (sl rfl (gq rfl) rfl (bs hz4 fun v4 hv4 hz4=>sd rfl (F1 rfl rfl hv4 rfl) (sd rfl (C7 rfl hv4 rfl rfl) (sp rfl rfl (sp rfl rfl (sl rfl (gq rfl) rfl (sp rfl rfl (sp rfl rfl (sl rfl (gq rfl) rfl (sd rfl (D3 rfl) (sv rfl (bs hz4 fun v5 hv5 hz4=>sd rfl (F1 rfl rfl hv5 rfl) (sd rfl (C7 rfl hv5 rfl rfl) (F6 (.d (bo (!(v4.X==v5.X&& (v4.Y==v5.Y&&true))))) rfl rfl (A1 (cc rfl hz4 (fun c4 hz4=> ?_) (fun c4 hz4=> ?_))))))))))))))))))))
 refine A5 (A8 (s0:=⟨T [],G []⟩) (sbr rfl rfl) ?_)
 refine B8 fun u11 hu11=>sv rfl (A1 (B1 ?_))
 cases hz4
 obtain rfl:=ez4 _ rfl
 refine ⟨nofun,D4 ?_⟩
 rw [Sum.elim_inr]at hz2
 cases hz2
 obtain rfl:=ez2 _ rfl
 refine ⟨nofun,D4 ?_⟩
 rw [Sum.elim_inr]at h
 cases h
 exact A7 (.inr rfl) (B7 (B0 rfl) F7) (.refl _)
 refine A9 (G3 (A8 (s0:=⟨T [(1,(.ptr _ _)),(3,(.d _)),(4,(.ptr _ _)),(5,(.d _))],G [((1,u1),some (.box 27 _)),((4,u4),some (.box 42 _))]⟩) (sbr rfl rfl) ?_))
 refine B8 fun u12 hu12=>sv rfl (sv rfl (sv rfl (A1 (G4 ?_))))
 cases hz4
 exact ⟨rfl,(),(sbr rfl rfl)⟩
 refine C4 rfl ?_
 cases hz4
 obtain rfl:=ez4 _ rfl
 refine ⟨nofun,C1 rfl (l_j ?_)⟩
 exact ⟨_,(),rfl,(sbr rfl rfl)⟩
 rintro _ ⟨y2,g3,rfl,q1⟩
 rw [Sum.elim_inl]at hz2
 refine G3 (A8 q1 (B8 fun u13 hu13=>sv rfl (sv rfl (sv rfl (A1 (G4 ?_))))))
 cases hz2
 exact ⟨rfl,(),(sbr rfl rfl)⟩
 refine C4 rfl ?_
 cases hz2
 obtain rfl:=ez2 _ rfl
 refine ⟨nofun,C1 rfl (l_j ?_)⟩
 exact ⟨_,(),rfl,(sbr rfl rfl)⟩
 rintro _ ⟨y1,g1,rfl,q2⟩
 rw [Sum.elim_inl]at h
 refine A8 q2 (lr (fun u14 hu14=>sv rfl (A1 (B1 ?_))))
 cases h
 exact A7 (.inr rfl) (B7 (B0 rfl) F7) (.refl _)
noncomputable def N4 (p1:Map)(p2:Signal)(x2:Int):Option (Stp Int (Sum Unit Int)):=
  cond (decide (x2< (p2.Phases.length:Int))) ((F0 p2.Phases x2).bind fun v4=>(A0t v4.Green 0 (p1.Lanes.length:Int)).bind fun v5=>cond (!v5) (some (.out (.inr 11))) (some (.go (w64 (x2+1))))) (some (.out (.inl ())))
noncomputable def N5 (p2:Signal)(x1:(Bool×Int)):Option (Stp (Bool×Int) Bool):=
  cond (decide (x1.2< (p2.Phases.length:Int))) (((cond x1.1 (F0 p2.Phases x1.2) (some default))).bind fun v2=>((cond x1.1 (Z3 v2.Ticks 1 10000) (some default))).bind fun v3=>some (.go ((x1.1&&v3),(w64 (x1.2+1))))) (some (.out x1.1))
noncomputable def A0e (p1:Map)(p2:Signal):Option Int:=
  cond ((p2.Phases.length:Int)==0) (some 6) (cond (decide ((p2.Phases.length:Int)>6)) (some 8) ((Z3 p2.Offset 0 1099511627776).bind fun v1=>(loop (N5 p2) (v1,0)).bind fun y1=>cond (!y1) (some 2) (thenS (loop (N4 p1 p2) 0) (fun _=>some 0) (fun r=>some r))))
theorem B03 (p1:Map)(p2:Signal)(r:Int)(h:A0e p1 p2=some r):PCall Tryz.prog 74 [(.agg (Y0 p1)),(.agg [(i64 p2.Offset),(.list (List.map W0 p2.Phases))])] (i64 r):=by
 refine C6 (fk Tryz.func74 Tryz.ntmps74 m0 (by with_unfolding_all rfl)) (nl rfl) ?_
 unfold A0e at h
 refine A8 (s0:=⟨T [(0,(.d _)),(1,(.d _))],G []⟩) (sbr rfl rfl) ?_
 refine lr (fun u1 hu1=>sn rfl rfl (sn rfl rfl (sv rfl (A1 (A5 (lr (fun u2 hu2=>sp rfl rfl (sl rfl G_hit rfl (sd rfl (D3 rfl) (sv rfl (A1 (cc rfl h (fun c1 h=> ?_) (fun c1 h=> ?_)))))))))))))
 refine lr (fun u3 hu3=>sv rfl (A1 (B1 ?_)))
 cases h
 exact A7 (.inr rfl) (B7 (B0 rfl) F7) (.refl _)
 refine A9 (A5 (lr (fun u4 hu4=>sp rfl rfl (sl rfl G_hit rfl (sd rfl (D3 rfl) (sv rfl (A1 (cc rfl h (fun c2 h=> ?_) (fun c2 h=> ?_)))))))))
 refine lr (fun u5 hu5=>sv rfl (A1 (B1 ?_)))
 cases h
 exact A7 (.inr rfl) (B7 (B0 rfl) F7) (.refl _)
 refine A9 (lr (fun u6 hu6=>sp rfl rfl (sl rfl G_hit rfl (bs h fun v1 hv1 h=>C0 rfl rfl A2 (A0d _ _ _ _ hv1) (.inl rfl) (sv rfl (A1 (A5 (lr (fun u7 hu7=>sv rfl (A1 (bs h fun y1 hy1 h=>E1 (fun s=> ∃g1:Unit,Sb ⟨T [(2,(.ptr (2,u1) 0)),(3,(.ptr (3,u1) 0)),(5,(.d (bo y1)))],G [((2,u1),some (.box 27 (X2 p1))),((3,u1),some (.box 48 [(di p2.Offset),(dl W0 p2.Phases)]))]⟩ s) ?_ ?_)))))))))))
 refine A6 (E4 (N5 p2) (fun (x1:(Bool×Int)) (g2:Unit)=>⟨T [(2,(.ptr (2,u1) 0)),(3,(.ptr (3,u1) 0)),(5,(.d (bo x1.1))),(6,(di x1.2))],G [((2,u1),some (.box 27 (X2 p1))),((3,u1),some (.box 48 [(di p2.Offset),(dl W0 p2.Phases)]))]⟩) (v1,0) () _ hy1 (sbr rfl rfl) ?_)
 intro x1 g2 z1 hz1 ez1
 unfold N5 at hz1
 refine A5 (lr (fun u8 hu8=>sv rfl (sp rfl rfl (sl rfl (gq rfl) rfl (sd rfl (D3 rfl) (sv rfl (A1 (cc rfl hz1 (fun c3 hz1=> ?_) (fun c3 hz1=> ?_)))))))))
 refine A9 (A5 (A6 (B8 fun u9 hu9=>sv rfl (sv rfl (gp rfl (A0k rfl) (fun _=>rfl) (gt rfl (vl rfl (gq rfl) rfl) (gt rfl (fun _=>rfl) (bs hz1 fun v2 hv2 hz1=>gt rfl (fun w4=>(F1 (A4 w4) (A4 w4) (C8 w4 hv2) rfl)) ?_))))))))
 refine gt rfl (fun w5=>(by simp only [A4 w5];rfl)) ?_
 refine gt rfl (fun w6=>(E6 (A4 w6) (C8 w6 hv2) rfl)) (bs hz1 fun v3 hv3 hz1=> ?_)
 refine L7 x1.1 (bo v3) (A0k rfl) (fun w7=>⟨_,[(di v2.Ticks),(di 1),(di 10000)],_,_,(by simp only [A4 w7];rfl),rfl,A2,A0d _ _ _ _ (C8 w7 hv3),(.inl rfl)⟩) ?_
 refine sa rfl rfl rfl (sv rfl (A1 (G3 (B8 fun u10 hu10=>sv rfl (sv rfl (sv rfl (A1 (G4 ?_))))))))
 cases hz1
 exact ⟨rfl,(),(sbr rfl rfl)⟩
 refine C4 rfl ?_
 cases hz1
 obtain rfl:=ez1 _ rfl
 refine ⟨nofun,C1 rfl (l_j ?_)⟩
 exact ⟨(),(sbr rfl rfl)⟩
 rintro _ ⟨g1,q1⟩
 refine A8 q1 (A5 (lr (fun u11 hu11=>sv rfl (F6 (.d (bo (!y1))) rfl rfl (A1 (cc rfl h (fun c4 h=> ?_) (fun c4 h=> ?_)))))))
 refine lr (fun u12 hu12=>sv rfl (A1 (B1 ?_)))
 cases h
 exact A7 (.inr rfl) (B7 (B0 rfl) F7) (.refl _)
 refine A9 (A5 (lr (fun u13 hu13=>sv rfl (A1 (js h fun z2 hz2 h=>E1 (fun s=> ∃(y2:Unit) (g3:Unit),z2= .inl y2∧Sb ⟨T [],G []⟩ s) ?_ ?_)))))
 refine A6 (E4 (N4 p1 p2) (fun (x2:Int) (g4:Unit)=>⟨T [(2,(.ptr (2,u1) 0)),(3,(.ptr (3,u1) 0)),(7,(di x2))],G [((2,u1),some (.box 27 (X2 p1))),((3,u1),some (.box 48 [(di p2.Offset),(dl W0 p2.Phases)]))]⟩) 0 () _ hz2 (sbr rfl rfl) ?_)
 intro x2 g4 z3 hz3 ez3
 unfold N4 at hz3
 refine A5 (lr (fun u14 hu14=>sv rfl (sp rfl rfl (sl rfl (gq rfl) rfl (sd rfl (D3 rfl) (sv rfl (A1 (cc rfl hz3 (fun c5 hz3=> ?_) (fun c5 hz3=> ?_)))))))))
 refine A9 (A5 (A6 (A5 (R6 rfl fun u15 hu15=>sp rfl rfl (sl rfl (gq rfl) rfl (sv rfl (bs hz3 fun v4 hv4 hz3=>sd rfl (F1 rfl rfl hv4 rfl) (sv rfl (sd rfl (E6 rfl hv4 rfl) (sp rfl rfl (sl rfl G_hit rfl (sd rfl (D3 rfl) (bs hz3 fun v5 hv5 hz3=>C0 rfl rfl A2 (A54 _ _ _ _ hv5) (.inl rfl) (F6 (.d (bo (!v5))) rfl rfl (A1 (cc rfl hz3 (fun c6 hz3=> ?_) (fun c6 hz3=> ?_)))))))))))))))))
 refine lr (fun u16 hu16=>sv rfl (A1 (B1 ?_)))
 cases hz3
 obtain rfl:=ez3 _ rfl
 refine ⟨nofun,D4 ?_⟩
 rw [Sum.elim_inr]at h
 cases h
 exact A7 (.inr rfl) (B7 (B0 rfl) F7) (.refl _)
 refine A9 (G3 (B8 fun u17 hu17=>sv rfl (sv rfl (sv rfl (A1 (G4 ?_))))))
 cases hz3
 exact ⟨rfl,(),(sbr rfl rfl)⟩
 refine C4 rfl ?_
 cases hz3
 obtain rfl:=ez3 _ rfl
 refine ⟨nofun,C1 rfl (l_j ?_)⟩
 exact ⟨_,(),rfl,(sbr rfl rfl)⟩
 rintro _ ⟨y2,g3,rfl,q2⟩
 rw [Sum.elim_inl]at h
 refine A8 q2 (lr (fun u18 hu18=>sv rfl (A1 (B1 ?_))))
 cases h
 exact A7 (.inr rfl) (B7 (B0 rfl) F7) (.refl _)
noncomputable def W9 (p1:Curve)(x1:((List Int)×Int)):Option (Stp ((List Int)×Int) (List Int)):=
  cond (decide ((w64 (x1.2+1))< (p1.Pts.length:Int))) ((F0 p1.Pts (w64 (x1.2+1))).bind fun v2=>(F0 p1.Pts x1.2).bind fun v3=>(A2y v2 v3).bind fun v4=>(A4v v4 v4).bind fun v5=>(A36 v5).bind fun v6=>(A7b x1.1 [v6]).bind fun v7=>some (.go (v7,(w64 (x1.2+1))))) (some (.out x1.1))
noncomputable def A4w (p1:Curve):Option (List Int):=
  (A43 p1).bind fun v1=>cond (v1 !=0) (some []) ((loop (W9 p1) ([],0)).bind fun y1=>some y1)
theorem B59 (p1:Curve)(r:(List Int))(h:A4w p1=some r):PCall Tryz.prog 242 [(.agg [(.list (List.map A0z p1.Pts))])] (.list (List.map A3 r)):=by
 refine C6 (fk Tryz.func242 Tryz.ntmps242 (fun r=>if r==8 then [1005]else []) (by with_unfolding_all rfl)) (nl rfl) ?_
 unfold A4w at h
 refine A8 (s0:=⟨T [(0,(.d _))],G []⟩) (sbr rfl rfl) ?_
 refine lr (fun u1 hu1=>sn rfl rfl (sv rfl (A1 (A5 (lr (fun u2 hu2=>sd rfl (B6 rfl G_hit rfl rfl) (bs h fun v1 hv1 h=>C0 rfl rfl A2 (B0j _ _ hv1) (.inl rfl) (sv rfl (A1 (cc rfl h (fun c1 h=> ?_) (fun c1 h=> ?_)))))))))))
 refine lr (fun u3 hu3=>sv rfl (A1 (B1 ?_)))
 cases h
 exact A7 (.inr rfl) (B7 (B0 rfl) F7) DLe.nil
 refine A9 (lr (fun u4 hu4=>sv rfl (A1 (A5 (lr (fun u5 hu5=>sv rfl (A1 (bs h fun y1 hy1 h=>E1 (fun s=> ∃g1:Nat,Sb ⟨T [(3,(oS y1 (35,g1)))],G [((35,g1),oB 2 1 A3 y1)]⟩ s) ?_ ?_))))))))
 refine A6 (E4 (W9 p1) (fun (x1:((List Int)×Int)) (g2:Nat)=>⟨T [(1,(.ptr (1,u1) 0)),(3,(oS x1.1 (35,g2))),(4,(di x1.2))],G [((1,u1),some (.box 39 [(dl A0z p1.Pts)])),((35,g2),oB 2 1 A3 x1.1)]⟩) ([],0) 0 _ hy1 (G9 ⟨.of rfl, .of rfl, .of rfl,trivial⟩ (B9 G_hit (.of rfl) (A3f trivial))) ?_)
 intro x1 g2 z1 hz1 ez1
 unfold W9 at hz1
 refine A5 (lr (fun u6 hu6=>sv rfl (sv rfl (sp rfl rfl (sl rfl G_hit rfl (sd rfl (D3 rfl) (sv rfl (A1 (cc rfl hz1 (fun c2 hz1=> ?_) (fun c2 hz1=> ?_))))))))))
 refine A9 (A5 (A6 (A5 (R6 rfl fun u7 hu7=>sp rfl rfl (sl rfl G_hit rfl (sv rfl (sv rfl (bs hz1 fun v2 hv2 hz1=>sd rfl (F1 rfl rfl hv2 rfl) (sd rfl (C7 rfl hv2 rfl rfl) (sp rfl rfl (sl rfl G_hit rfl (sv rfl (bs hz1 fun v3 hv3 hz1=>sd rfl (F1 rfl rfl hv3 rfl) (sd rfl (C7 rfl hv3 rfl rfl) (bs hz1 fun v4 hv4 hz1=>C0 rfl rfl A2 (A6w _ _ _ hv4) (.inl rfl) (sn rfl rfl (sst rfl G_hit [(di v4.X),(di v4.Y)] rfl (A1 (A8 (s0:=⟨T [(1,(.ptr (1,u1) 0)),(3,(oS x1.1 (35,g2))),(4,(di x1.2)),(5,(.ptr (5,u7) 0))],G [((1,u1),some (.box 39 [(dl A0z p1.Pts)])),((35,g2),oB 2 1 A3 x1.1),((5,u7),some (.box 148 [(di v4.X),(di v4.Y)]))]⟩) (G9 ⟨.of rfl, .of rfl, .of rfl, .of rfl,trivial⟩ (sg rfl (H4 (gq rfl) (B9 G_hit (.of rfl) trivial)))) ?_)))))))))))))))))))
 refine B8 fun u8 hu8=>F6 (oS x1.1 (35,g2)) rfl rfl (sd rfl (B6 rfl (gq rfl) rfl rfl) (sd rfl (B6 rfl (gq rfl) rfl rfl) (bs hz1 fun v5 hv5 hz1=>C0 rfl rfl A2 (A6q _ _ _ hv5) (.inl rfl) (bs hz1 fun v6 hv6 hz1=>C0 rfl rfl A2 (B1t _ _ hv6) (.inl rfl) (F6 (dl A3 [v6]) rfl rfl (bs hz1 fun v7 hv7 hz1=>Y8 A3 (35,g2) x1.1 v6 [] _ (P3 (fun _=>rfl)) rfl (gq rfl) hv7 (ss rfl (A1 (G3 (B8 fun u9 hu9=>sv rfl (sv rfl (sv rfl (A1 (G4 ?_))))))))))))))
 cases hz1
 exact ⟨rfl,u8,(G9 ⟨.of rfl,(.of (B0y (A3d hv7)).symm), .of rfl,trivial⟩ (sg rfl (A3e G_hit trivial)))⟩
 refine C4 rfl ?_
 cases hz1
 obtain rfl:=ez1 _ rfl
 refine ⟨nofun,C1 rfl (l_j ?_)⟩
 exact ⟨g2,(G9 ⟨.of rfl,trivial⟩ (H4 (gq rfl) trivial))⟩
 rintro _ ⟨g1,q1⟩
 refine A8 q1 (lr (fun u10 hu10=>F6 (oS y1 (35,g1)) rfl rfl (F6 (oS y1 (35,g1)) rfl rfl (A1 (B1 ?_)))))
 cases h
 exact A7 (.inr rfl) (B7 (B0 rfl) (B1o G_hit)) B1n
noncomputable def S9 (v1:(List Int))(x1:(Int×Int)):Option (Stp (Int×Int) Int):=
  cond (decide (x1.2< (v1.length:Int))) ((F0 v1 x1.2).bind fun v2=>some (.go ((w64 (x1.1+v2)),(w64 (x1.2+1))))) (some (.out x1.1))
noncomputable def A0m (p1:Curve):Option Int:=
  (A4w p1).bind fun v1=>(loop (S9 v1) (0,0)).bind fun y1=>some y1
theorem A61 (p1:Curve)(r:Int)(h:A0m p1=some r):PCall Tryz.prog 178 [(.agg [(.list (List.map A0z p1.Pts))])] (i64 r):=by
 refine C6 (fk Tryz.func178 Tryz.ntmps178 m0 (by with_unfolding_all rfl)) (nl rfl) ?_
 unfold A0m at h
 refine A8 (s0:=⟨T [(0,(.d _))],G []⟩) (sbr rfl rfl) ?_
 refine lr (fun u1 hu1=>sn rfl rfl (sv rfl (A1 (lr (fun u2 hu2=>sv rfl (A1 (lr (fun u3 hu3=>sd rfl (B6 rfl G_hit rfl rfl) (bs h fun v1 hv1 h=>C0 rfl rfl A2 (B59 _ _ hv1) (.inl rfl) (sv rfl (A1 (A5 (lr (fun u4 hu4=>sv rfl (A1 (bs h fun y1 hy1 h=>E1 (fun s=> ∃g1:Unit,Sb ⟨T [(3,(di y1))],G []⟩ s) ?_ ?_))))))))))))))))
 refine A6 (E4 (S9 v1) (fun (x1:(Int×Int)) (g2:Unit)=>⟨T [(3,(di x1.1)),(4,(dl A3 v1)),(5,(di x1.2))],G []⟩) (0,0) () _ hy1 (sbr rfl rfl) ?_)
 intro x1 g2 z1 hz1 ez1
 unfold S9 at hz1
 refine A5 (lr (fun u5 hu5=>sv rfl (sv rfl (sd rfl (D3 rfl) (sv rfl (A1 (cc rfl hz1 (fun c1 hz1=> ?_) (fun c1 hz1=> ?_))))))))
 refine A9 (A5 (A6 (B8 fun u6 hu6=>sv rfl (sv rfl (sv rfl (bs hz1 fun v2 hv2 hz1=>sd rfl (F1 rfl rfl hv2 rfl) (sd rfl (E6 rfl hv2 rfl) (sv rfl (sv rfl (A1 (G3 (B8 fun u7 hu7=>sv rfl (sv rfl (sv rfl (A1 (G4 ?_))))))))))))))))
 cases hz1
 exact ⟨rfl,(),(sbr rfl rfl)⟩
 refine C4 rfl ?_
 cases hz1
 obtain rfl:=ez1 _ rfl
 refine ⟨nofun,C1 rfl (l_j ?_)⟩
 exact ⟨(),(sbr rfl rfl)⟩
 rintro _ ⟨g1,q1⟩
 refine A8 q1 (lr (fun u8 hu8=>sv rfl (sv rfl (A1 (B1 ?_)))))
 cases h
 exact A7 (.inr rfl) (B7 (B0 rfl) F7) (.refl _)
noncomputable def U1 (p1:Map)(p2:Zone)(x2:Int):Option (Stp Int (Sum Unit Int)):=
  cond (decide (x2< (p2.Parts.length:Int))) ((F0 p2.Parts x2).bind fun v4=>((cond (!((decide (v4.From<0))||(decide (v4.From≥v4.To)))) (F0 p1.Lanes v4.Lane_) (some default))).bind fun v5=>((cond (!((decide (v4.From<0))||(decide (v4.From≥v4.To)))) (A0m v5.Curve_) (some default))).bind fun v6=>cond (((((decide (v4.From<0))||(decide (v4.From≥v4.To)))||(decide (v4.To>v6)))||(decide (v4.Rank<0)))||(decide (v4.Rank>100))) (some (.out (.inr 2))) (some (.go (w64 (x2+1))))) (some (.out (.inl ())))
noncomputable def A1d (p2:Zone)(x1:((List Int)×Int)):Option (Stp ((List Int)×Int) (List Int)):=
  cond (decide (x1.2< (p2.Parts.length:Int))) ((F0 p2.Parts x1.2).bind fun v1=>(A7b x1.1 [v1.Lane_]).bind fun v2=>some (.go (v2,(w64 (x1.2+1))))) (some (.out x1.1))
noncomputable def A1v (p1:Map)(p2:Zone):Option Int:=
  cond (decide ((p2.Parts.length:Int)<2)) (some 6) (cond (decide ((p2.Parts.length:Int)>6)) (some 8) (cond ((decide (p2.Signal_<0))||(decide (p2.Signal_>(p1.Signals.length:Int)))) (some 2) ((loop (A1d p2) ([],0)).bind fun y1=>(A0t y1 0 (p1.Lanes.length:Int)).bind fun v3=>cond (!v3) (some 11) (thenS (loop (U1 p1 p2) 0) (fun _=>some 0) (fun r=>some r)))))
theorem B1w (p1:Map)(p2:Zone)(r:Int)(h:A1v p1 p2=some r):PCall Tryz.prog 75 [(.agg (Y0 p1)),(.agg [(.list (List.map L5 p2.Parts)),(i64 p2.Signal_)])] (i64 r):=by
 refine C6 (fk Tryz.func75 Tryz.ntmps75 (fun r=>if r==11 then [1007]else []) (by with_unfolding_all rfl)) (nl rfl) ?_
 unfold A1v at h
 refine A8 (s0:=⟨T [(0,(.d _)),(1,(.d _))],G []⟩) (sbr rfl rfl) ?_
 refine lr (fun u1 hu1=>sn rfl rfl (sn rfl rfl (sv rfl (A1 (A5 (lr (fun u2 hu2=>sp rfl rfl (sl rfl G_hit rfl (sd rfl (D3 rfl) (sv rfl (A1 (cc rfl h (fun c1 h=> ?_) (fun c1 h=> ?_)))))))))))))
 refine lr (fun u3 hu3=>sv rfl (A1 (B1 ?_)))
 cases h
 exact A7 (.inr rfl) (B7 (B0 rfl) F7) (.refl _)
 refine A9 (A5 (lr (fun u4 hu4=>sp rfl rfl (sl rfl G_hit rfl (sd rfl (D3 rfl) (sv rfl (A1 (cc rfl h (fun c2 h=> ?_) (fun c2 h=> ?_)))))))))
 refine lr (fun u5 hu5=>sv rfl (A1 (B1 ?_)))
 cases h
 exact A7 (.inr rfl) (B7 (B0 rfl) F7) (.refl _)
 refine A9 (A5 (lr (fun u6 hu6=>sp rfl rfl (sl rfl G_hit rfl (sv rfl (sv rfl (gp rfl (X8 rfl) (fun _=>rfl) (gf rfl (vl rfl G_hit rfl) (gp rfl (X8 rfl) (fun _=>rfl) (gf rfl (vl rfl (gq rfl) rfl) (gf rfl (fun w5=>(D3 (A4 w5))) (gf rfl (fun w6=>(A0a (A4 w6) (A4 w6) rfl)) (sd rfl (A3g rfl rfl (fun hc=>A4 (Q3 hc))) (A1 (cc rfl h (fun c3 h=> ?_) (fun c3 h=> ?_))))))))))))))))
 refine A5 (A8 (s0:=⟨T [],G []⟩) (sbr rfl rfl) ?_)
 refine B8 fun u7 hu7=>sv rfl (A1 (B1 ?_))
 cases h
 exact A7 (.inr rfl) (B7 (B0 rfl) F7) (.refl _)
 refine A9 (A5 (A8 (s0:=⟨T [(2,(.ptr _ _)),(3,(.ptr _ _))],G [((2,u1),some (.box 27 _)),((3,u1),some (.box 45 _))]⟩) (sbr rfl rfl) ?_))
 refine B8 fun u8 hu8=>sv rfl (A1 (A5 (lr (fun u9 hu9=>sv rfl (A1 (bs h fun y1 hy1 h=>E1 (fun s=> ∃g1:Nat,Sb ⟨T [(2,(.ptr (2,u1) 0)),(3,(.ptr (3,u1) 0)),(5,(oS y1 (43,g1)))],G [((2,u1),some (.box 27 (X2 p1))),((3,u1),some (.box 45 [(dl L5 p2.Parts),(di p2.Signal_)])),((43,g1),oB 3 1 A3 y1)]⟩ s) ?_ ?_))))))
 refine A6 (E4 (A1d p2) (fun (x1:((List Int)×Int)) (g2:Nat)=>⟨T [(2,(.ptr (2,u1) 0)),(3,(.ptr (3,u1) 0)),(5,(oS x1.1 (43,g2))),(6,(di x1.2))],G [((2,u1),some (.box 27 (X2 p1))),((3,u1),some (.box 45 [(dl L5 p2.Parts),(di p2.Signal_)])),((43,g2),oB 3 1 A3 x1.1)]⟩) ([],0) 0 _ hy1 (G9 ⟨.of rfl, .of rfl, .of rfl, .of rfl,trivial⟩ (B9 G_hit (.of rfl) (sg rfl (A3f trivial)))) ?_)
 intro x1 g2 z1 hz1 ez1
 unfold A1d at hz1
 refine A5 (lr (fun u10 hu10=>sv rfl (sp rfl rfl (sl rfl (gq rfl) rfl (sd rfl (D3 rfl) (sv rfl (A1 (cc rfl hz1 (fun c4 hz1=> ?_) (fun c4 hz1=> ?_)))))))))
 refine A9 (A5 (A6 (B8 fun u11 hu11=>F6 (oS x1.1 (43,g2)) rfl rfl (sp rfl rfl (sl rfl (gq rfl) rfl (sv rfl (bs hz1 fun v1 hv1 hz1=>sd rfl (F1 rfl rfl hv1 rfl) (sv rfl (sd rfl (E6 rfl hv1 rfl) (F6 (dl A3 [v1.Lane_]) rfl rfl (bs hz1 fun v2 hv2 hz1=>Y8 A3 (43,g2) x1.1 v1.Lane_ [] _ (P3 (fun _=>rfl)) rfl (gq rfl) hv2 (ss rfl (A1 (G3 (A8 (s0:=⟨T [(2,(.ptr _ _)),(3,(.ptr _ _)),(5,(.sl _)),(6,(.d _))],G [((2,u1),some (.box 27 _)),((3,u1),some (.box 45 _)),((43,u11),some _)]⟩) (sbr rfl rfl) ?_)))))))))))))))
 refine B8 fun u12 hu12=>sv rfl (sv rfl (sv rfl (A1 (G4 ?_))))
 cases hz1
 exact ⟨rfl,u11,(G9 ⟨.of rfl, .of rfl,(.of (B0y (A3d hv2)).symm), .of rfl,trivial⟩ (B9 G_hit (.of rfl) (sg rfl (A3e (gq rfl) trivial))))⟩
 refine C4 rfl ?_
 cases hz1
 obtain rfl:=ez1 _ rfl
 refine ⟨nofun,C1 rfl (l_j ?_)⟩
 exact ⟨g2,(G9 ⟨.of rfl, .of rfl, .of rfl,trivial⟩ (B9 G_hit (.of rfl) (sg rfl (H4 (gq rfl) trivial))))⟩
 rintro _ ⟨g1,q1⟩
 refine A8 q1 (A5 (lr (fun u13 hu13=>F6 (oS y1 (43,g1)) rfl rfl (sp rfl rfl (sl rfl G_hit rfl (sd rfl (D3 rfl) (bs h fun v3 hv3 h=>C0 rfl (R0 (B1o (gq rfl)) (rD (rD N3))) (.cons B1n (.cons (.refl _) A2)) (A54 _ _ _ _ hv3) (.inr rfl) (F6 (.d (bo (!v3))) rfl rfl (A1 (cc rfl h (fun c5 h=> ?_) (fun c5 h=> ?_)))))))))))
 refine lr (fun u14 hu14=>sv rfl (A1 (B1 ?_)))
 cases h
 exact A7 (.inr rfl) (B7 (B0 rfl) F7) (.refl _)
 refine A9 (A5 (lr (fun u15 hu15=>sv rfl (A1 (js h fun z2 hz2 h=>E1 (fun s=> ∃(y2:Unit) (g3:Unit),z2= .inl y2∧Sb ⟨T [],G []⟩ s) ?_ ?_)))))
 refine A6 (E4 (U1 p1 p2) (fun (x2:Int) (g4:Unit)=>⟨T [(2,(.ptr (2,u1) 0)),(3,(.ptr (3,u1) 0)),(7,(di x2))],G [((2,u1),some (.box 27 (X2 p1))),((3,u1),some (.box 45 [(dl L5 p2.Parts),(di p2.Signal_)]))]⟩) 0 () _ hz2 (sbr rfl rfl) ?_)
 intro x2 g4 z3 hz3 ez3
 unfold U1 at hz3
 refine A5 (lr (fun u16 hu16=>sv rfl (sp rfl rfl (sl rfl (gq rfl) rfl (sd rfl (D3 rfl) (sv rfl (A1 (cc rfl hz3 (fun c6 hz3=> ?_) (fun c6 hz3=> ?_)))))))))
 refine A9 (A5 (A6 (lr (fun u17 hu17=>sp rfl rfl (sl rfl (gq rfl) rfl (sv rfl (bs hz3 fun v4 hv4 hz3=>sd rfl (F1 rfl rfl hv4 rfl) (sd rfl (C7 rfl hv4 rfl rfl) (sn rfl rfl (sst rfl G_hit (A8m v4) rfl (A1 (A5 (R6 rfl fun u18 hu18=>sp rfl rfl (sl rfl G_hit rfl (sv rfl (sv rfl (gp rfl (X8 rfl) (fun _=>rfl) (gf rfl (vl rfl G_hit rfl) (gp rfl (X8 rfl) (fun _=>rfl) (gf rfl (vl rfl G_hit rfl) (gf rfl (fun w11=>(A0a (A4 w11) (A4 w11) rfl)) (sd rfl (A3g rfl rfl (fun hc=>A4 (Q3 hc))) (sv rfl (gp rfl (X8 rfl) (fun _=>rfl) (gf rfl (vl rfl G_hit rfl) (gp rfl (X8 rfl) (fun _=>rfl) (gf rfl (vl rfl (gq rfl) rfl) (gp rfl (X8 rfl) (fun _=>rfl) (gf rfl (vl rfl G_hit rfl) (bs hz3 fun v5 hv5 hz3=>gf rfl (fun w18=>(F1 (A4 w18) (A4 w18) (C8 w18 hv5) rfl)) ?_))))))))))))))))))))))))))))))
 refine gf rfl (fun w19=>(by simp only [A4 w19];rfl)) ?_
 refine gf rfl (fun w20=>(C7 (A4 w20) (C8 w20 hv5) rfl rfl)) (bs hz3 fun v6 hv6 hz3=> ?_)
 refine L7 _ (i64 v6) (X8 rfl) (fun w21=>⟨_,[(.d (.agg [(.list (List.map A0z v5.Curve_.Pts))]))],_,_,(by simp only [A4 w21];rfl),rfl,A2,A61 _ _ (C8 w21 hv6),(.inl rfl)⟩) ?_
 refine gf rfl (fun w22=>(A0a (A4 w22) (A4 w22) rfl)) (sd rfl (A3g rfl rfl (fun hc=>A4 (Q3 hc))) (sv rfl (gp rfl (X8 rfl) (fun _=>rfl) (gf rfl (vl rfl G_hit rfl) (gf rfl (vb rfl rfl rfl) (sd rfl (A3g rfl rfl (fun hc=>A4 (Q3 hc))) (sv rfl (gp rfl (X8 rfl) (fun _=>rfl) (gf rfl (vl rfl G_hit rfl) (gf rfl (vb rfl rfl rfl) (sd rfl (A3g rfl rfl (fun hc=>A4 (Q3 hc))) (A1 (cc rfl hz3 (fun c7 hz3=> ?_) (fun c7 hz3=> ?_))))))))))))))
 refine A5 (A8 (s0:=⟨T [],G []⟩) (sbr rfl rfl) ?_)
 refine B8 fun u19 hu19=>sv rfl (A1 (B1 ?_))
 cases hz3
 obtain rfl:=ez3 _ rfl
 refine ⟨nofun,D4 ?_⟩
 rw [Sum.elim_inr]at h
 cases h
 exact A7 (.inr rfl) (B7 (B0 rfl) F7) (.refl _)
 refine A9 (G3 (A8 (s0:=⟨T [(2,(.ptr _ _)),(3,(.ptr _ _)),(7,(.d _))],G [((2,u1),some (.box 27 _)),((3,u1),some (.box 45 _))]⟩) (sbr rfl rfl) ?_))
 refine B8 fun u20 hu20=>sv rfl (sv rfl (sv rfl (A1 (G4 ?_))))
 cases hz3
 exact ⟨rfl,(),(sbr rfl rfl)⟩
 refine C4 rfl ?_
 cases hz3
 obtain rfl:=ez3 _ rfl
 refine ⟨nofun,C1 rfl (l_j ?_)⟩
 exact ⟨_,(),rfl,(sbr rfl rfl)⟩
 rintro _ ⟨y2,g3,rfl,q2⟩
 rw [Sum.elim_inl]at h
 refine A8 q2 (lr (fun u21 hu21=>sv rfl (A1 (B1 ?_))))
 cases h
 exact A7 (.inr rfl) (B7 (B0 rfl) F7) (.refl _)
noncomputable def A1w (p1:Map)(p2:Work):Option Int:=
  cond ((decide (p2.Lane_<0))||(decide (p2.Lane_≥(p1.Lanes.length:Int)))) (some 7) ((F0 p1.Lanes p2.Lane_).bind fun v1=>(A37 v1.Kind).bind fun v2=>((cond (!((decide (p2.From<0))||(decide (p2.From>p2.To)))) (A0m v1.Curve_) (some default))).bind fun v3=>((cond (!((((((decide (p2.From<0))||(decide (p2.From>p2.To)))||(decide (p2.To>v3)))||(decide (p2.Begin<0)))||(decide (p2.Begin≥p2.End)))||(decide (p2.End>1099511627776)))) (Z3 p2.Limit 0 v2.1) (some default))).bind fun v4=>cond (((((((decide (p2.From<0))||(decide (p2.From>p2.To)))||(decide (p2.To>v3)))||(decide (p2.Begin<0)))||(decide (p2.Begin≥p2.End)))||(decide (p2.End>1099511627776)))||(!v4)) (some 2) (some 0))
theorem B1x (p1:Map)(p2:Work)(r:Int)(h:A1w p1 p2=some r):PCall Tryz.prog 76 [(.agg (Y0 p1)),(.agg (B4y p2))] (i64 r):=by
 refine C6 (fk Tryz.func76 Tryz.ntmps76 m0 (by with_unfolding_all rfl)) (nl rfl) ?_
 unfold A1w at h
 refine A8 (s0:=⟨T [(0,(.d _)),(1,(.d _))],G []⟩) (sbr rfl rfl) ?_
 refine lr (fun u1 hu1=>sn rfl rfl (sn rfl rfl (sv rfl (A1 (A5 (lr (fun u2 hu2=>sp rfl rfl (sl rfl G_hit rfl (sv rfl (sv rfl (gp rfl (X8 rfl) (fun _=>rfl) (gf rfl (vl rfl G_hit rfl) (gp rfl (X8 rfl) (fun _=>rfl) (gf rfl (vl rfl (gq rfl) rfl) (gf rfl (fun w5=>(D3 (A4 w5))) (gf rfl (fun w6=>(A0a (A4 w6) (A4 w6) rfl)) (sd rfl (A3g rfl rfl (fun hc=>A4 (Q3 hc))) (A1 (cc rfl h (fun c1 h=> ?_) (fun c1 h=> ?_))))))))))))))))))))
 refine lr (fun u3 hu3=>sv rfl (A1 (B1 ?_)))
 cases h
 exact A7 (.inr rfl) (B7 (B0 rfl) F7) (.refl _)
 refine A9 (lr (fun u4 hu4=>sp rfl rfl (sl rfl (gq rfl) rfl (sp rfl rfl (sl rfl G_hit rfl (bs h fun v1 hv1 h=>sd rfl (F1 rfl rfl hv1 rfl) (sd rfl (C7 rfl hv1 rfl rfl) (sn rfl rfl (sst rfl G_hit (A8y v1) rfl (A1 (A5 (A8 (s0:=⟨T [(3,(.ptr _ _)),(5,(.ptr _ _))],G [((3,u1),some (.box 50 _)),((5,u4),some (.box 42 _))]⟩) (sbr rfl rfl) ?_))))))))))))
 refine B8 fun u5 hu5=>sp rfl rfl (sl rfl (gq rfl) rfl (bs h fun v2 hv2 h=>C0 rfl rfl A2 (A96 _ _ hv2) (.inl rfl) (sv rfl (sv rfl (sv rfl (sv rfl (sv rfl (sv rfl (sv rfl (A1 (A5 (A5 (R6 rfl fun u6 hu6=>sp rfl rfl (sl rfl G_hit rfl (sv rfl (sv rfl (gp rfl (X8 rfl) (fun _=>rfl) (gf rfl (vl rfl G_hit rfl) (gp rfl (X8 rfl) (fun _=>rfl) (gf rfl (vl rfl G_hit rfl) (gf rfl (fun w11=>(A0a (A4 w11) (A4 w11) rfl)) (sd rfl (A3g rfl rfl (fun hc=>A4 (Q3 hc))) (sv rfl (gp rfl (X8 rfl) (fun _=>rfl) (gf rfl (vl rfl G_hit rfl) (gp rfl (X8 rfl) (fun _=>rfl) (gf rfl (fun w15=>(B6 (A4 w15) (gq rfl) rfl rfl)) (bs h fun v3 hv3 h=> ?_))))))))))))))))))))))))))))
 refine L7 _ (i64 v3) (X8 rfl) (fun w16=>⟨_,[(.d (.agg [(.list (List.map A0z v1.Curve_.Pts))]))],_,_,(by simp only [A4 w16];rfl),rfl,A2,A61 _ _ (C8 w16 hv3),(.inl rfl)⟩) ?_
 refine gf rfl (fun w17=>(A0a (A4 w17) (A4 w17) rfl)) (sd rfl (A3g rfl rfl (fun hc=>A4 (Q3 hc))) (sv rfl (gp rfl (X8 rfl) (fun _=>rfl) (gf rfl (vl rfl G_hit rfl) (gf rfl (vb rfl rfl rfl) (sd rfl (A3g rfl rfl (fun hc=>A4 (Q3 hc))) (sv rfl (gp rfl (X8 rfl) (fun _=>rfl) (gf rfl (vl rfl G_hit rfl) (gp rfl (X8 rfl) (fun _=>rfl) (gf rfl (vl rfl G_hit rfl) (gf rfl (fun w25=>(A0a (A4 w25) (A4 w25) rfl)) (sd rfl (A3g rfl rfl (fun hc=>A4 (Q3 hc))) (sv rfl (gp rfl (X8 rfl) (fun _=>rfl) (gf rfl (vl rfl G_hit rfl) (gf rfl (vb rfl rfl rfl) (sd rfl (A3g rfl rfl (fun hc=>A4 (Q3 hc))) (sv rfl (gp rfl (X8 rfl) (fun _=>rfl) (gf rfl (vl rfl G_hit rfl) (gf rfl (fun _=>rfl) (bs h fun v4 hv4 h=> ?_)))))))))))))))))))))))
 refine L7 _ (bo v4) (X8 rfl) (fun w32=>⟨_,[(di p2.Limit),(di 0),(di v2.1)],_,_,(by simp only [A4 w32];rfl),rfl,A2,A0d _ _ _ _ (C8 w32 hv4),(.inl rfl)⟩) ?_
 refine A28 _ (.d (bo (!v4))) rfl (X8 rfl) (fun w33=>(by simp only [A4 w33];rfl)) ?_
 refine sd rfl (A3g rfl rfl (fun hc=>A4 (Q3 hc))) (A1 (cc rfl h (fun c2 h=> ?_) (fun c2 h=> ?_)))
 refine A5 (A8 (s0:=⟨T [],G []⟩) (sbr rfl rfl) ?_)
 refine B8 fun u7 hu7=>sv rfl (A1 (B1 ?_))
 cases h
 exact A7 (.inr rfl) (B7 (B0 rfl) F7) (.refl _)
 refine A9 (A5 (A8 (s0:=⟨T [],G []⟩) (sbr rfl rfl) ?_))
 refine B8 fun u8 hu8=>sv rfl (A1 (B1 ?_))
 cases h
 exact A7 (.inr rfl) (B7 (B0 rfl) F7) (.refl _)
noncomputable def A15 (p1:Map)(x4:(Int×Int)):Option (Stp (Int×Int) Int):=
  cond ((decide (x4.2< (p1.Works.length:Int)))&& (x4.1==0)) ((F0 p1.Works x4.2).bind fun v8=>(A1w p1 v8).bind fun v9=>some (.go (v9,(w64 (x4.2+1))))) (some (.out x4.1))
noncomputable def A16 (p1:Map)(x3:(Int×Int)):Option (Stp (Int×Int) Int):=
  cond ((decide (x3.2< (p1.Zones.length:Int)))&& (x3.1==0)) ((F0 p1.Zones x3.2).bind fun v6=>(A1v p1 v6).bind fun v7=>some (.go (v7,(w64 (x3.2+1))))) (some (.out x3.1))
noncomputable def A17 (p1:Map)(x2:(Int×Int)):Option (Stp (Int×Int) Int):=
  cond ((decide (x2.2< (p1.Signals.length:Int)))&& (x2.1==0)) ((F0 p1.Signals x2.2).bind fun v4=>(A0e p1 v4).bind fun v5=>some (.go (v5,(w64 (x2.2+1))))) (some (.out x2.1))
noncomputable def A02 (p1:Map)(x1:Int):Option (Stp Int (Sum Unit Int)):=
  cond (decide (x1< (p1.Lanes.length:Int))) ((A1t p1 x1).bind fun v2=>cond (v2 !=0) (some (.out (.inr v2))) (some (.go (w64 (x1+1))))) (some (.out (.inl ())))
noncomputable def A62 (p1:Map):Option Int:=
  (Z3 p1.Version 0 1099511627776).bind fun v1=>cond (!v1) (some 2) (cond ((p1.Lanes.length:Int)==0) (some 6) (cond ((((decide ((p1.Lanes.length:Int)>12))||(decide ((p1.Zones.length:Int)>12)))||(decide ((p1.Signals.length:Int)>4)))||(decide ((p1.Works.length:Int)>8))) (some 8) (thenS (loop (A02 p1) 0) (fun _=>(A1u p1).bind fun v3=>(loop (A17 p1) (v3,0)).bind fun y2=>(loop (A16 p1) (y2,0)).bind fun y3=>(loop (A15 p1) (y3,0)).bind fun y4=>some y4) (fun r=>some r))))
theorem B6b (p1:Map)(r:Int)(h:A62 p1=some r):PCall Tryz.prog 17 [(.agg (Y0 p1))] (i64 r):=by
 refine C6 (fk Tryz.func17 Tryz.ntmps17 m0 (by with_unfolding_all rfl)) (nl rfl) ?_
 unfold A62 at h
 refine A8 (s0:=⟨T [(0,(.d _))],G []⟩) (sbr rfl rfl) ?_
 refine lr (fun u1 hu1=>sn rfl rfl (sv rfl (A1 (A5 (lr (fun u2 hu2=>sp rfl rfl (sl rfl G_hit rfl (bs h fun v1 hv1 h=>C0 rfl rfl A2 (A0d _ _ _ _ hv1) (.inl rfl) (F6 (.d (bo (!v1))) rfl rfl (A1 (cc rfl h (fun c1 h=> ?_) (fun c1 h=> ?_))))))))))))
 refine lr (fun u3 hu3=>sv rfl (A1 (B1 ?_)))
 cases h
 exact A7 (.inr rfl) (B7 (B0 rfl) F7) (.refl _)
 refine A9 (A5 (lr (fun u4 hu4=>sp rfl rfl (sl rfl G_hit rfl (sd rfl (D3 rfl) (sv rfl (A1 (cc rfl h (fun c2 h=> ?_) (fun c2 h=> ?_)))))))))
 refine lr (fun u5 hu5=>sv rfl (A1 (B1 ?_)))
 cases h
 exact A7 (.inr rfl) (B7 (B0 rfl) F7) (.refl _)
 refine A9 (A5 (lr (fun u6 hu6=>sp rfl rfl (sl rfl G_hit rfl (sd rfl (D3 rfl) (sv rfl (sv rfl (gp rfl (X8 rfl) (fun _=>rfl) (gf rfl (vl rfl G_hit rfl) (gf rfl (fun w3=>(D3 (A4 w3))) (gf rfl (vb rfl rfl rfl) (sd rfl (A3g rfl rfl (fun hc=>A4 (Q3 hc))) (sv rfl (gp rfl (X8 rfl) (fun _=>rfl) (gf rfl (vl rfl G_hit rfl) (gf rfl (fun w7=>(D3 (A4 w7))) (gf rfl (vb rfl rfl rfl) (sd rfl (A3g rfl rfl (fun hc=>A4 (Q3 hc))) (sv rfl (gp rfl (X8 rfl) (fun _=>rfl) (gf rfl (vl rfl G_hit rfl) (gf rfl (fun w11=>(D3 (A4 w11))) (gf rfl (vb rfl rfl rfl) (sd rfl (A3g rfl rfl (fun hc=>A4 (Q3 hc))) (A1 (cc rfl h (fun c3 h=> ?_) (fun c3 h=> ?_)))))))))))))))))))))))))))
 refine A5 (A8 (s0:=⟨T [],G []⟩) (sbr rfl rfl) ?_)
 refine B8 fun u7 hu7=>sv rfl (A1 (B1 ?_))
 cases h
 exact A7 (.inr rfl) (B7 (B0 rfl) F7) (.refl _)
 refine A9 (A5 (A5 (A8 (s0:=⟨T [(1,(.ptr _ _))],G [((1,u1),some (.box 27 _))]⟩) (sbr rfl rfl) ?_)))
 refine B8 fun u8 hu8=>sv rfl (A1 (js h fun z1 hz1 h=>E1 (fun s=> ∃(y1:Unit) (g1:Unit),z1= .inl y1∧Sb ⟨T [(1,(.ptr (1,u1) 0))],G [((1,u1),some (.box 27 (X2 p1)))]⟩ s) ?_ ?_))
 refine A6 (E4 (A02 p1) (fun (x1:Int) (g2:Unit)=>⟨T [(1,(.ptr (1,u1) 0)),(3,(di x1))],G [((1,u1),some (.box 27 (X2 p1)))]⟩) 0 () _ hz1 (sbr rfl rfl) ?_)
 intro x1 g2 z2 hz2 ez2
 unfold A02 at hz2
 refine A5 (lr (fun u9 hu9=>sv rfl (sp rfl rfl (sl rfl G_hit rfl (sd rfl (D3 rfl) (sv rfl (A1 (cc rfl hz2 (fun c4 hz2=> ?_) (fun c4 hz2=> ?_)))))))))
 refine A9 (A5 (A6 (lr (fun u10 hu10=>sd rfl (B6 rfl G_hit rfl rfl) (sv rfl (bs hz2 fun v2 hv2 hz2=>C0 rfl rfl A2 (B1u _ _ _ hv2) (.inl rfl) (sv rfl (A1 (lr (fun u11 hu11=>sv rfl (sv rfl (A1 (cc rfl hz2 (fun c5 hz2=> ?_) (fun c5 hz2=> ?_))))))))))))))
 refine lr (fun u12 hu12=>sv rfl (sv rfl (A1 (B1 ?_))))
 cases hz2
 obtain rfl:=ez2 _ rfl
 refine ⟨nofun,D4 ?_⟩
 rw [Sum.elim_inr]at h
 cases h
 exact A7 (.inr rfl) (B7 (B0 rfl) F7) (.refl _)
 refine A9 (G3 (B8 fun u13 hu13=>sv rfl (sv rfl (sv rfl (A1 (G4 ?_))))))
 cases hz2
 exact ⟨rfl,(),(sbr rfl rfl)⟩
 refine C4 rfl ?_
 cases hz2
 obtain rfl:=ez2 _ rfl
 refine ⟨nofun,C1 rfl (l_j ?_)⟩
 exact ⟨_,(),rfl,(sbr rfl rfl)⟩
 rintro _ ⟨y1,g1,rfl,q1⟩
 rw [Sum.elim_inl]at h
 refine A8 q1 (lr (fun u14 hu14=>sd rfl (B6 rfl G_hit rfl rfl) (bs h fun v3 hv3 h=>C0 rfl rfl A2 (B1v _ _ hv3) (.inl rfl) (sv rfl (A1 (A5 (lr (fun u15 hu15=>sv rfl (A1 (bs h fun y2 hy2 h=>E1 (fun s=> ∃g3:Unit,Sb ⟨T [(1,(.ptr (1,u1) 0)),(5,(di y2))],G [((1,u1),some (.box 27 (X2 p1)))]⟩ s) ?_ ?_))))))))))
 refine A6 (E4 (A17 p1) (fun (x2:(Int×Int)) (g4:Unit)=>⟨T [(1,(.ptr (1,u1) 0)),(5,(di x2.1)),(6,(di x2.2))],G [((1,u1),some (.box 27 (X2 p1)))]⟩) (v3,0) () _ hy2 (sbr rfl rfl) ?_)
 intro x2 g4 z3 hz3 ez3
 unfold A17 at hz3
 refine A5 (lr (fun u16 hu16=>sv rfl (sp rfl rfl (sl rfl G_hit rfl (sd rfl (D3 rfl) (sv rfl (sv rfl (gt rfl (fun _=>rfl) (gt rfl (vb rfl rfl rfl) (sa rfl rfl rfl (A1 (cc rfl hz3 (fun c6 hz3=> ?_) (fun c6 hz3=> ?_)))))))))))))
 refine A9 (A5 (A6 (R6 rfl fun u17 hu17=>sd rfl (B6 rfl G_hit rfl rfl) (sp rfl rfl (sl rfl G_hit rfl (sv rfl (bs hz3 fun v4 hv4 hz3=>sd rfl (F1 rfl rfl hv4 rfl) (sd rfl (C7 rfl hv4 rfl rfl) (bs hz3 fun v5 hv5 hz3=>C0 rfl rfl A2 (B03 _ _ _ hv5) (.inl rfl) (sv rfl (A1 (G3 (B8 fun u18 hu18=>sv rfl (sv rfl (sv rfl (A1 (G4 ?_)))))))))))))))))
 cases hz3
 exact ⟨rfl,(),(sbr rfl rfl)⟩
 refine C4 rfl ?_
 cases hz3
 obtain rfl:=ez3 _ rfl
 refine ⟨nofun,C1 rfl (l_j ?_)⟩
 exact ⟨(),(sbr rfl rfl)⟩
 rintro _ ⟨g3,q2⟩
 refine A8 q2 (A5 (lr (fun u19 hu19=>sv rfl (A1 (bs h fun y3 hy3 h=>E1 (fun s=> ∃g5:Unit,Sb ⟨T [(1,(.ptr (1,u1) 0)),(5,(di y3))],G [((1,u1),some (.box 27 (X2 p1)))]⟩ s) ?_ ?_)))))
 refine A6 (E4 (A16 p1) (fun (x3:(Int×Int)) (g6:Unit)=>⟨T [(1,(.ptr (1,u1) 0)),(5,(di x3.1)),(7,(di x3.2))],G [((1,u1),some (.box 27 (X2 p1)))]⟩) (y2,0) () _ hy3 (sbr rfl rfl) ?_)
 intro x3 g6 z4 hz4 ez4
 unfold A16 at hz4
 refine A5 (lr (fun u20 hu20=>sv rfl (sp rfl rfl (sl rfl G_hit rfl (sd rfl (D3 rfl) (sv rfl (sv rfl (gt rfl (fun _=>rfl) (gt rfl (vb rfl rfl rfl) (sa rfl rfl rfl (A1 (cc rfl hz4 (fun c7 hz4=> ?_) (fun c7 hz4=> ?_)))))))))))))
 refine A9 (A5 (A6 (R6 rfl fun u21 hu21=>sd rfl (B6 rfl G_hit rfl rfl) (sp rfl rfl (sl rfl G_hit rfl (sv rfl (bs hz4 fun v6 hv6 hz4=>sd rfl (F1 rfl rfl hv6 rfl) (sd rfl (C7 rfl hv6 rfl rfl) (bs hz4 fun v7 hv7 hz4=>C0 rfl rfl A2 (B1w _ _ _ hv7) (.inl rfl) (sv rfl (A1 (G3 (B8 fun u22 hu22=>sv rfl (sv rfl (sv rfl (A1 (G4 ?_)))))))))))))))))
 cases hz4
 exact ⟨rfl,(),(sbr rfl rfl)⟩
 refine C4 rfl ?_
 cases hz4
 obtain rfl:=ez4 _ rfl
 refine ⟨nofun,C1 rfl (l_j ?_)⟩
 exact ⟨(),(sbr rfl rfl)⟩
 rintro _ ⟨g5,q3⟩
 refine A8 q3 (A5 (lr (fun u23 hu23=>sv rfl (A1 (bs h fun y4 hy4 h=>E1 (fun s=> ∃g7:Unit,Sb ⟨T [(5,(di y4))],G []⟩ s) ?_ ?_)))))
 refine A6 (E4 (A15 p1) (fun (x4:(Int×Int)) (g8:Unit)=>⟨T [(1,(.ptr (1,u1) 0)),(5,(di x4.1)),(8,(di x4.2))],G [((1,u1),some (.box 27 (X2 p1)))]⟩) (y3,0) () _ hy4 (sbr rfl rfl) ?_)
 intro x4 g8 z5 hz5 ez5
 unfold A15 at hz5
 refine A5 (lr (fun u24 hu24=>sv rfl (sp rfl rfl (sl rfl G_hit rfl (sd rfl (D3 rfl) (sv rfl (sv rfl (gt rfl (fun _=>rfl) (gt rfl (vb rfl rfl rfl) (sa rfl rfl rfl (A1 (cc rfl hz5 (fun c8 hz5=> ?_) (fun c8 hz5=> ?_)))))))))))))
 refine A9 (A5 (A6 (R6 rfl fun u25 hu25=>sd rfl (B6 rfl G_hit rfl rfl) (sp rfl rfl (sl rfl G_hit rfl (sv rfl (bs hz5 fun v8 hv8 hz5=>sd rfl (F1 rfl rfl hv8 rfl) (sd rfl (C7 rfl hv8 rfl rfl) (bs hz5 fun v9 hv9 hz5=>C0 rfl rfl A2 (B1x _ _ _ hv9) (.inl rfl) (sv rfl (A1 (G3 (B8 fun u26 hu26=>sv rfl (sv rfl (sv rfl (A1 (G4 ?_)))))))))))))))))
 cases hz5
 exact ⟨rfl,(),(sbr rfl rfl)⟩
 refine C4 rfl ?_
 cases hz5
 obtain rfl:=ez5 _ rfl
 refine ⟨nofun,C1 rfl (l_j ?_)⟩
 exact ⟨(),(sbr rfl rfl)⟩
 rintro _ ⟨g7,q4⟩
 refine A8 q4 (lr (fun u27 hu27=>sv rfl (sv rfl (A1 (B1 ?_)))))
 cases h
 exact A7 (.inr rfl) (B7 (B0 rfl) F7) (.refl _)
noncomputable def A44 (p1:Map)(p2:Int):Option Bool:=
  ((cond ((decide (p2≥0))&& (decide (p2< (p1.Lanes.length:Int)))) (A62 p1) (some default))).bind fun v1=>some (((decide (p2≥0))&& (decide (p2< (p1.Lanes.length:Int))))&& (v1==0))
theorem A7x (p1:Map)(p2:Int)(r:Bool)(h:A44 p1 p2=some r):PCall Tryz.prog 161 [(.agg (Y0 p1)),(i64 p2)] (bo r):=by
 refine C6 (fk Tryz.func161 Tryz.ntmps161 m0 (by with_unfolding_all rfl)) (nl rfl) ?_
 unfold A44 at h
 refine A8 (s0:=⟨T [(0,(.d _)),(1,(.d _))],G []⟩) (sbr rfl rfl) ?_
 refine lr (fun u1 hu1=>sn rfl rfl (sv rfl (A1 (lr (fun u2 hu2=>sv rfl (sv rfl (sv rfl (gt rfl (fun _=>rfl) (gp rfl (A0k rfl) (fun _=>rfl) (gt rfl (vl rfl G_hit rfl) (gt rfl (fun w4=>(D3 (A4 w4))) (gt rfl (fun w5=>(A0a (A4 w5) (A4 w5) rfl)) (sa rfl rfl rfl (sv rfl (gt rfl (fun w6=>(B6 rfl G_hit rfl rfl)) (bs h fun v1 hv1 h=> ?_))))))))))))))))
 refine L7 _ (i64 v1) (A0k rfl) (fun w7=>⟨_,[(.d (.agg (Y0 p1)))],_,_,(by simp only [A4 w7];rfl),rfl,A2,B6b _ _ (C8 w7 hv1),(.inl rfl)⟩) ?_
 refine gt rfl (vb rfl rfl rfl) (sa rfl rfl rfl (sv rfl (A1 (B1 ?_))))
 cases h
 exact A7 (.inr rfl) (B7 (B0 rfl) F7) (.refl _)
noncomputable def A4x (p1:(List Int))(p2:Int)(x1:Int):Option (Stp Int (Sum Unit Bool)):=
  cond (decide (x1< (p1.length:Int))) ((F0 p1 x1).bind fun v1=>cond (v1==p2) (some (.out (.inr true))) (some (.go (w64 (x1+1))))) (some (.out (.inl ())))
noncomputable def A97 (p1:(List Int))(p2:Int):Option Bool:=
  thenS (loop (A4x p1 p2) 0) (fun _=>some false) (fun r=>some r)
theorem B9p (p1:(List Int))(p2:Int)(r:Bool)(h:A97 p1 p2=some r):PCall Tryz.prog 138 [(.list (List.map A3 p1)),(i64 p2)] (bo r):=by
 refine C6 (fk Tryz.func138 Tryz.ntmps138 m0 (by with_unfolding_all rfl)) (nl rfl) ?_
 unfold A97 at h
 refine A8 (s0:=⟨T [(0,(.d _)),(1,(.d _))],G []⟩) (sbr rfl rfl) ?_
 refine lr (fun u1 hu1=>sv rfl (A1 (A5 (lr (fun u2 hu2=>sv rfl (A1 (js h fun z1 hz1 h=>E1 (fun s=> ∃(y1:Unit) (g1:Unit),z1= .inl y1∧Sb ⟨T [],G []⟩ s) ?_ ?_)))))))
 refine A6 (E4 (A4x p1 p2) (fun (x1:Int) (g2:Unit)=>⟨T [(0,(dl A3 p1)),(1,(di p2)),(5,(di x1))],G []⟩) 0 () _ hz1 (sbr rfl rfl) ?_)
 intro x1 g2 z2 hz2 ez2
 unfold A4x at hz2
 refine A5 (lr (fun u3 hu3=>sv rfl (sv rfl (sd rfl (D3 rfl) (sv rfl (A1 (cc rfl hz2 (fun c1 hz2=> ?_) (fun c1 hz2=> ?_))))))))
 refine A9 (A5 (A6 (lr (fun u4 hu4=>sv rfl (sv rfl (bs hz2 fun v1 hv1 hz2=>sd rfl (F1 rfl rfl hv1 rfl) (sd rfl (E6 rfl hv1 rfl) (sv rfl (sv rfl (A1 (cc rfl hz2 (fun c2 hz2=> ?_) (fun c2 hz2=> ?_))))))))))))
 refine lr (fun u5 hu5=>sv rfl (A1 (B1 ?_)))
 cases hz2
 obtain rfl:=ez2 _ rfl
 refine ⟨nofun,D4 ?_⟩
 rw [Sum.elim_inr]at h
 cases h
 exact A7 (.inr rfl) (B7 (B0 rfl) F7) (.refl _)
 refine A9 (G3 (B8 fun u6 hu6=>sv rfl (sv rfl (sv rfl (A1 (G4 ?_))))))
 cases hz2
 exact ⟨rfl,(),(sbr rfl rfl)⟩
 refine C4 rfl ?_
 cases hz2
 obtain rfl:=ez2 _ rfl
 refine ⟨nofun,C1 rfl (l_j ?_)⟩
 exact ⟨_,(),rfl,(sbr rfl rfl)⟩
 rintro _ ⟨y1,g1,rfl,q1⟩
 rw [Sum.elim_inl]at h
 refine A8 q1 (lr (fun u7 hu7=>sv rfl (A1 (B1 ?_))))
 cases h
 exact A7 (.inr rfl) (B7 (B0 rfl) F7) (.refl _)
noncomputable def R9 (p1:Signal)(p2:Int)(x2:(Int×Int)):Option (Stp (Int×Int) (Sum Unit Bool)):=
  cond (decide (x2.2< (p1.Phases.length:Int))) ((F0 p1.Phases x2.2).bind fun v5=>cond (decide (x2.1<v5.Ticks)) ((F0 p1.Phases x2.2).bind fun v6=>(A97 v6.Green p2).bind fun v7=>some (.out (.inr v7))) ((F0 p1.Phases x2.2).bind fun v8=>some (.go ((w64 (x2.1 - v8.Ticks)),(w64 (x2.2+1)))))) (some (.out (.inl ())))
noncomputable def W2 (p1:Signal)(x1:(Int×Int)):Option (Stp (Int×Int) Int):=
  cond (decide (x1.2< (p1.Phases.length:Int))) ((F0 p1.Phases x1.2).bind fun v1=>some (.go ((w64 (x1.1+v1.Ticks)),(w64 (x1.2+1))))) (some (.out x1.1))
noncomputable def A45 (p1:Signal)(p2:Int)(p3:Int):Option Bool:=
  (loop (W2 p1) (0,0)).bind fun y1=>(C51 p1.Offset y1).bind fun v2=>(C51 p3 y1).bind fun v3=>(C51 (w64 (v2+v3)) y1).bind fun v4=>thenS (loop (R9 p1 p2) (v4,0)) (fun _=>some false) (fun r=>some r)
theorem B0k (p1:Signal)(p2:Int)(p3:Int)(r:Bool)(h:A45 p1 p2 p3=some r):PCall Tryz.prog 162 [(.agg [(i64 p1.Offset),(.list (List.map W0 p1.Phases))]),(i64 p2),(i64 p3)] (bo r):=by
 refine C6 (fk Tryz.func162 Tryz.ntmps162 m0 (by with_unfolding_all rfl)) (nl rfl) ?_
 unfold A45 at h
 refine A8 (s0:=⟨T [(0,(.d _)),(1,(.d _)),(2,(.d _))],G []⟩) (sbr rfl rfl) ?_
 refine lr (fun u1 hu1=>sn rfl rfl (sv rfl (A1 (lr (fun u2 hu2=>sv rfl (A1 (A5 (lr (fun u3 hu3=>sv rfl (A1 (bs h fun y1 hy1 h=>E1 (fun s=> ∃g1:Unit,Sb ⟨T [(1,(di p2)),(2,(di p3)),(3,(.ptr (3,u1) 0)),(7,(di y1))],G [((3,u1),some (.box 48 [(di p1.Offset),(dl W0 p1.Phases)]))]⟩ s) ?_ ?_)))))))))))
 refine A6 (E4 (W2 p1) (fun (x1:(Int×Int)) (g2:Unit)=>⟨T [(1,(di p2)),(2,(di p3)),(3,(.ptr (3,u1) 0)),(7,(di x1.1)),(8,(di x1.2))],G [((3,u1),some (.box 48 [(di p1.Offset),(dl W0 p1.Phases)]))]⟩) (0,0) () _ hy1 (sbr rfl rfl) ?_)
 intro x1 g2 z1 hz1 ez1
 unfold W2 at hz1
 refine A5 (lr (fun u4 hu4=>sv rfl (sp rfl rfl (sl rfl G_hit rfl (sd rfl (D3 rfl) (sv rfl (A1 (cc rfl hz1 (fun c1 hz1=> ?_) (fun c1 hz1=> ?_)))))))))
 refine A9 (A5 (A6 (B8 fun u5 hu5=>sv rfl (sp rfl rfl (sl rfl G_hit rfl (sv rfl (bs hz1 fun v1 hv1 hz1=>sd rfl (F1 rfl rfl hv1 rfl) (sv rfl (sd rfl (E6 rfl hv1 rfl) (sv rfl (sv rfl (A1 (G3 (B8 fun u6 hu6=>sv rfl (sv rfl (sv rfl (A1 (G4 ?_))))))))))))))))))
 cases hz1
 exact ⟨rfl,(),(sbr rfl rfl)⟩
 refine C4 rfl ?_
 cases hz1
 obtain rfl:=ez1 _ rfl
 refine ⟨nofun,C1 rfl (l_j ?_)⟩
 exact ⟨(),(sbr rfl rfl)⟩
 rintro _ ⟨g1,q1⟩
 refine A8 q1 (A5 (R6 rfl fun u7 hu7=>sp rfl rfl (sl rfl G_hit rfl (sv rfl (bs h fun v2 hv2 h=>sd rfl (C3h rfl rfl hv2) (sv rfl (sv rfl (bs h fun v3 hv3 h=>sd rfl (C3h rfl rfl hv3) (sv rfl (sv rfl (bs h fun v4 hv4 h=>sd rfl (C3h rfl rfl hv4) (sv rfl (A1 (A5 (lr (fun u8 hu8=>sv rfl (A1 (js h fun z2 hz2 h=>E1 (fun s=> ∃(y2:Unit) (g3:Unit),z2= .inl y2∧Sb ⟨T [],G []⟩ s) ?_ ?_))))))))))))))))))
 refine A6 (E4 (R9 p1 p2) (fun (x2:(Int×Int)) (g4:Unit)=>⟨T [(1,(di p2)),(3,(.ptr (3,u1) 0)),(9,(di x2.1)),(10,(di x2.2))],G [((3,u1),some (.box 48 [(di p1.Offset),(dl W0 p1.Phases)]))]⟩) (v4,0) () _ hz2 (sbr rfl rfl) ?_)
 intro x2 g4 z3 hz3 ez3
 unfold R9 at hz3
 refine A5 (lr (fun u9 hu9=>sv rfl (sp rfl rfl (sl rfl G_hit rfl (sd rfl (D3 rfl) (sv rfl (A1 (cc rfl hz3 (fun c2 hz3=> ?_) (fun c2 hz3=> ?_)))))))))
 refine A9 (A5 (A6 (A5 (lr (fun u10 hu10=>sv rfl (sp rfl rfl (sl rfl G_hit rfl (sv rfl (bs hz3 fun v5 hv5 hz3=>sd rfl (F1 rfl rfl hv5 rfl) (sv rfl (sd rfl (E6 rfl hv5 rfl) (sv rfl (A1 (cc rfl hz3 (fun c3 hz3=> ?_) (fun c3 hz3=> ?_)))))))))))))))
 refine lr (fun u11 hu11=>sp rfl rfl (sl rfl G_hit rfl (sv rfl (bs hz3 fun v6 hv6 hz3=>sd rfl (F1 rfl rfl hv6 rfl) (sv rfl (sd rfl (E6 rfl hv6 rfl) (sv rfl (bs hz3 fun v7 hv7 hz3=>C0 rfl rfl A2 (B9p _ _ _ hv7) (.inl rfl) (sv rfl (A1 (B1 ?_)))))))))))
 cases hz3
 obtain rfl:=ez3 _ rfl
 refine ⟨nofun,D4 ?_⟩
 rw [Sum.elim_inr]at h
 cases h
 exact A7 (.inr rfl) (B7 (B0 rfl) F7) (.refl _)
 refine A9 (B8 fun u12 hu12=>sv rfl (sp rfl rfl (sl rfl G_hit rfl (sv rfl (bs hz3 fun v8 hv8 hz3=>sd rfl (F1 rfl rfl hv8 rfl) (sv rfl (sd rfl (E6 rfl hv8 rfl) (sv rfl (sv rfl (A1 (G3 (A8 (s0:=⟨T [(1,(.d _)),(3,(.ptr _ _)),(9,(.d _)),(10,(.d _))],G [((3,u1),some (.box 48 _))]⟩) (sbr rfl rfl) ?_))))))))))))
 refine B8 fun u13 hu13=>sv rfl (sv rfl (sv rfl (A1 (G4 ?_))))
 cases hz3
 exact ⟨rfl,(),(sbr rfl rfl)⟩
 refine C4 rfl ?_
 cases hz3
 obtain rfl:=ez3 _ rfl
 refine ⟨nofun,C1 rfl (l_j ?_)⟩
 exact ⟨_,(),rfl,(sbr rfl rfl)⟩
 rintro _ ⟨y2,g3,rfl,q2⟩
 rw [Sum.elim_inl]at h
 refine A8 q2 (lr (fun u14 hu14=>sv rfl (A1 (B1 ?_))))
 cases h
 exact A7 (.inr rfl) (B7 (B0 rfl) F7) (.refl _)
noncomputable def A63 (p1:Map)(p2:Int)(p3:Int)(p4:Int):Option Bool:=
  (A44 p1 p3).bind fun v1=>((cond (((v1&& (decide (p2≥0)))&& (decide (p2< (p1.Signals.length:Int))))&& (decide (p4≥0))) (F0 p1.Signals p2) (some default))).bind fun v2=>((cond (((v1&& (decide (p2≥0)))&& (decide (p2< (p1.Signals.length:Int))))&& (decide (p4≥0))) (A45 v2 p3 p4) (some default))).bind fun v3=>some ((((v1&& (decide (p2≥0)))&& (decide (p2< (p1.Signals.length:Int))))&& (decide (p4≥0)))&&v3)
theorem B6c (p1:Map)(p2:Int)(p3:Int)(p4:Int)(r:Bool)(h:A63 p1 p2 p3 p4=some r):PCall Tryz.prog 53 [(.agg (Y0 p1)),(i64 p2),(i64 p3),(i64 p4)] (bo r):=by
 refine C6 (fk Tryz.func53 Tryz.ntmps53 m0 (by with_unfolding_all rfl)) (nl rfl) ?_
 unfold A63 at h
 refine A8 (s0:=⟨T [(0,(.d _)),(1,(.d _)),(2,(.d _)),(3,(.d _))],G []⟩) (sbr rfl rfl) ?_
 refine lr (fun u1 hu1=>sn rfl rfl (sv rfl (A1 (lr (fun u2 hu2=>sd rfl (B6 rfl G_hit rfl rfl) (sv rfl (bs h fun v1 hv1 h=>C0 rfl rfl A2 (A7x _ _ _ hv1) (.inl rfl) (sv rfl (gt rfl (fun _=>rfl) (gt rfl (vb rfl rfl rfl) (sa rfl rfl rfl (sv rfl (gt rfl (fun _=>rfl) (gp rfl (A0k rfl) (fun _=>rfl) (gt rfl (vl rfl G_hit rfl) (gt rfl (fun w6=>(D3 (A4 w6))) (gt rfl (fun w7=>(A0a (A4 w7) (A4 w7) rfl)) (sa rfl rfl rfl (sv rfl (gt rfl (fun _=>rfl) (gt rfl (vb rfl rfl rfl) (sa rfl rfl rfl (sv rfl (gp rfl (A0k rfl) (fun _=>rfl) (gt rfl (vl rfl G_hit rfl) (gt rfl (fun _=>rfl) (bs h fun v2 hv2 h=>gt rfl (fun w13=>(F1 (A4 w13) (A4 w13) (C8 w13 hv2) rfl)) (gt rfl (fun w14=>(C7 (A4 w14) (C8 w14 hv2) rfl rfl)) (gt rfl (fun _=>rfl) (gt rfl (fun _=>rfl) (bs h fun v3 hv3 h=> ?_)))))))))))))))))))))))))))))))
 refine L7 _ (bo v3) (A0k rfl) (fun w17=>⟨_,[(.d (.agg [(i64 v2.Offset),(.list (List.map W0 v2.Phases))])),(di p3),(di p4)],_,_,(by simp only [A4 w17];rfl),rfl,A2,B0k _ _ _ _ (C8 w17 hv3),(.inl rfl)⟩) ?_
 refine sa rfl rfl rfl (sv rfl (A1 (B1 ?_)))
 cases h
 exact A7 (.inr rfl) (B7 (B0 rfl) F7) (.refl _)
noncomputable def A64 (p1:Int):Option Int:=
  (cond (decide (p1≥4294967296)) (some ((p1.fdiv (2^ (min (32:Int).toNat (IntKind.bits .u64)))),32)) (some (p1,0))).bind fun y1=>(cond (decide (y1.1≥65536)) (some ((y1.1.fdiv (2^ (min (16:Int).toNat (IntKind.bits .u64)))),(w64 (y1.2+16)))) (some (y1.1,y1.2))).bind fun y2=>cond (decide (y2.1≥256)) ((D2q (ByteArray.mk #[0,1,2,2,3,3,3,3,4,4,4,4,4,4,4,4,5,5,5,5,5,5,5,5,5,5,5,5,5,5,5,5,6,6,6,6,6,6,6,6,6,6,6,6,6,6,6,6,6,6,6,6,6,6,6,6,6,6,6,6,6,6,6,6,7,7,7,7,7,7,7,7,7,7,7,7,7,7,7,7,7,7,7,7,7,7,7,7,7,7,7,7,7,7,7,7,7,7,7,7,7,7,7,7,7,7,7,7,7,7,7,7,7,7,7,7,7,7,7,7,7,7,7,7,7,7,7,7,8,8,8,8,8,8,8,8,8,8,8,8,8,8,8,8,8,8,8,8,8,8,8,8,8,8,8,8,8,8,8,8,8,8,8,8,8,8,8,8,8,8,8,8,8,8,8,8,8,8,8,8,8,8,8,8,8,8,8,8,8,8,8,8,8,8,8,8,8,8,8,8,8,8,8,8,8,8,8,8,8,8,8,8,8,8,8,8,8,8,8,8,8,8,8,8,8,8,8,8,8,8,8,8,8,8,8,8,8,8,8,8,8,8,8,8,8,8,8,8,8,8,8,8,8,8,8,8]) (IntKind.wrap .u8 (y2.1.fdiv (2^ (min (8:Int).toNat (IntKind.bits .u64)))))).bind fun v1=>some (w64 ((w64 (y2.2+8))+ (w64 v1)))) ((D2q (ByteArray.mk #[0,1,2,2,3,3,3,3,4,4,4,4,4,4,4,4,5,5,5,5,5,5,5,5,5,5,5,5,5,5,5,5,6,6,6,6,6,6,6,6,6,6,6,6,6,6,6,6,6,6,6,6,6,6,6,6,6,6,6,6,6,6,6,6,7,7,7,7,7,7,7,7,7,7,7,7,7,7,7,7,7,7,7,7,7,7,7,7,7,7,7,7,7,7,7,7,7,7,7,7,7,7,7,7,7,7,7,7,7,7,7,7,7,7,7,7,7,7,7,7,7,7,7,7,7,7,7,7,8,8,8,8,8,8,8,8,8,8,8,8,8,8,8,8,8,8,8,8,8,8,8,8,8,8,8,8,8,8,8,8,8,8,8,8,8,8,8,8,8,8,8,8,8,8,8,8,8,8,8,8,8,8,8,8,8,8,8,8,8,8,8,8,8,8,8,8,8,8,8,8,8,8,8,8,8,8,8,8,8,8,8,8,8,8,8,8,8,8,8,8,8,8,8,8,8,8,8,8,8,8,8,8,8,8,8,8,8,8,8,8,8,8,8,8,8,8,8,8,8,8,8,8,8,8,8,8]) (IntKind.wrap .u8 y2.1)).bind fun v2=>some (w64 (y2.2+ (w64 v2))))
theorem B1y (p1:Int)(r:Int)(h:A64 p1=some r):PCall Tryz.prog 285 [(.v (.int .u64 p1))] (i64 r):=by
 refine C6 (fk Tryz.func285 Tryz.ntmps285 m0 (by with_unfolding_all rfl)) (nl rfl) ?_
 unfold A64 at h
 refine A8 (s0:=⟨T [(0,(.d _))],G []⟩) (sbr rfl rfl) ?_
 refine lr (fun u1 hu1=>sv rfl (A1 (A5 (lr (fun u2 hu2=>sv rfl (sv rfl (A1 (bs h fun y1 hy1 h=>E1 (fun s=> ∃g1:Unit,Sb ⟨T [(0,(.d (.v (.int .u64 y1.1)))),(2,(di y1.2))],G []⟩ s) ?_ ?_))))))))
 refine cc rfl hy1 (fun c1 hy1=> ?_) (fun c1 hy1=> ?_)
 refine lr (fun u3 hu3=>sv rfl (sv rfl (sv rfl (A1 (B8 fun u4 hu4=>sv rfl (A1 ?_))))))
 cases hy1
 exact l_j ⟨(),(sbr rfl rfl)⟩
 refine A9 ?_
 cases hy1
 exact l_j ⟨(),(sbr rfl rfl)⟩
 rintro _ ⟨g1,q1⟩
 refine A8 q1 (A5 (lr (fun u5 hu5=>sv rfl (sv rfl (A1 (bs h fun y2 hy2 h=>E1 (fun s=> ∃g2:Unit,Sb ⟨T [(0,(.d (.v (.int .u64 y2.1)))),(2,(di y2.2))],G []⟩ s) ?_ ?_))))))
 refine cc rfl hy2 (fun c2 hy2=> ?_) (fun c2 hy2=> ?_)
 refine lr (fun u6 hu6=>sv rfl (sv rfl (sv rfl (A1 (B8 fun u7 hu7=>sv rfl (sv rfl (sv rfl (A1 ?_))))))))
 cases hy2
 exact l_j ⟨(),(sbr rfl rfl)⟩
 refine A9 ?_
 cases hy2
 exact l_j ⟨(),(sbr rfl rfl)⟩
 rintro _ ⟨g2,q2⟩
 refine A8 q2 (A5 (lr (fun u8 hu8=>sv rfl (sv rfl (A1 (cc rfl h (fun c3 h=> ?_) (fun c3 h=> ?_)))))))
 refine lr (fun u9 hu9=>sv rfl (sv rfl (sv rfl (A1 (B8 fun u10 hu10=>sv rfl (sv rfl (sv rfl (A1 (lr (fun u11 hu11=>sv rfl (sv rfl (sv rfl (bs h fun v1 hv1 h=>sd rfl (C8t rfl rfl hv1) (sv rfl (sv rfl (sv rfl (A1 (B1 ?_))))))))))))))))))
 cases h
 exact A7 (.inr rfl) (B7 (B0 rfl) F7) (.refl _)
 refine A9 (lr (fun u12 hu12=>sv rfl (sv rfl (sv rfl (bs h fun v2 hv2 h=>sd rfl (C8t rfl rfl hv2) (sv rfl (sv rfl (sv rfl (A1 (B1 ?_))))))))))
 cases h
 exact A7 (.inr rfl) (B7 (B0 rfl) F7) (.refl _)
noncomputable def A2b (p1:Int):Option Int:=
  (A64 p1).bind fun v1=>some v1
theorem A8k (p1:Int)(r:Int)(h:A2b p1=some r):PCall Tryz.prog 267 [(.v (.int .u64 p1))] (i64 r):=by
 refine C6 (fk Tryz.func267 Tryz.ntmps267 m0 (by with_unfolding_all rfl)) (nl rfl) ?_
 unfold A2b at h
 refine A8 (s0:=⟨T [(0,(.d _))],G []⟩) (sbr rfl rfl) ?_
 refine lr (fun u1 hu1=>sv rfl (A1 (A5 (C9z rfl (A9 (lr (fun u2 hu2=>sv rfl (bs h fun v1 hv1 h=>C0 rfl rfl A2 (B1y _ _ hv1) (.inl rfl) (sv rfl (A1 (B1 ?_)))))))))))
 cases h
 exact A7 (.inr rfl) (B7 (B0 rfl) F7) (.refl _)
end Go.Abs.Roadsz
