/-
  The functions, part 2.
-/
import Derived.Test.YtimbepcdlehjjaaGreatFns1
set_option maxRecDepth 20000
set_option maxHeartbeats 4000000
set_option linter.unusedVariables false
namespace Go.Abs.Roadsz
open Go Go.Abs Go.Proofs
attribute [local irreducible] A01 C73 AWL
noncomputable def H6 (p1:(List Int))(p2:Map)(p3:Zone)(x1:Int):Option (Stp Int (Sum Unit Int)):=
  cond (decide (x1< (p1.length:Int))) ((F3 p1 x1).bind fun v1=>(A0b v1 p2 p3).bind fun v2=>cond v2 (some (.out (.inr x1))) (some (.go (w64 (x1+1))))) (some (.out (.inl ())))
noncomputable def I8 (p1:(List Int))(p2:Map)(p3:Zone):Option Int:=
  thenS (loop (H6 p1 p2 p3) 0) (fun _=>some (-1)) (fun r=>some r)
theorem A1y (p1:(List Int))(p2:Map)(p3:Zone)(r:Int)(h:I8 p1 p2 p3=some r):PCall Tryz.prog 145 [(.list (List.map A5 p1)),(.fn (.func 183) [] [(.bp (A0s p2) 0),(.bp [(.list (List.map R3 p3.Parts)),(i64 p3.Signal_)] 0)])] (i64 r):=by
 refine E1 (fk Tryz.func145 Tryz.ntmps145 m0 (by with_unfolding_all rfl)) (nl rfl) ?_
 unfold I8 at h
 refine A9 (s0:=⟨T [(0,(.d _)),(1,(.d _))],G []⟩) (sbr rfl rfl) ?_
 refine lr (fun u1 hu1=>sv rfl (A3 (A7 (lr (fun u2 hu2=>sv rfl (sd rfl (F1 rfl) (sv rfl (A3 (js h fun z1 hz1 h=>F2 (fun s=> ∃(y1:Unit) (g1:Unit),z1= .inl y1∧Sb ⟨T [],G []⟩ s) ?_ ?_)))))))))
 refine A8 (F0 (H6 p1 p2 p3) (fun (x1:Int) (g2:Unit)=>⟨T [(0,(dl A5 p1)),(1,(.d (.fn (.func 183) [] [(.bp (A0s p2) 0),(.bp [(.list (List.map R3 p3.Parts)),(i64 p3.Signal_)] 0)]))),(7,(di (p1.length:Int))),(8,(di x1))],G []⟩) 0 () _ hz1 (sbr rfl rfl) ?_)
 intro x1 g2 z2 hz2 ez2
 unfold H6 at hz2
 refine lr (fun u3 hu3=>sv rfl (A3 (A7 (cc rfl hz2 (fun c1 hz2=> ?_) (fun c1 hz2=> ?_)))))
 refine B3 (A7 (A8 (lr (fun u4 hu4=>sv rfl (sv rfl (A3 (lr (fun u5 hu5=>sv rfl (sv rfl (sv rfl (bs hz2 fun v1 hv1 hz2=>sd rfl (G6 rfl rfl hv1 rfl) (sd rfl (E9 rfl hv1 rfl) (bs hz2 fun v2 hv2 hz2=>C4 rfl rfl A4 (B06 _ _ _ _ hv2) (.inl rfl) (A3 (cc rfl hz2 (fun c2 hz2=> ?_) (fun c2 hz2=> ?_))))))))))))))))
 refine lr (fun u6 hu6=>sv rfl (sv rfl (A3 (B5 ?_))))
 cases hz2
 obtain rfl:=ez2 _ rfl
 refine ⟨nofun,F8 ?_⟩
 rw [Sum.elim_inr]at h
 cases h
 exact B0 (.inr rfl) (C1 (B4 rfl) I6) (.refl _)
 refine B3 (H9 (B8 fun u7 hu7=>sv rfl (sv rfl (A3 (H4 ?_)))))
 cases hz2
 exact ⟨rfl,(),(sbr rfl rfl)⟩
 refine C6 rfl ?_
 cases hz2
 obtain rfl:=ez2 _ rfl
 refine ⟨nofun,C2 rfl (l_j ?_)⟩
 exact ⟨_,(),rfl,(sbr rfl rfl)⟩
 rintro _ ⟨y1,g1,rfl,q1⟩
 rw [Sum.elim_inl]at h
 refine A9 q1 (lr (fun u8 hu8=>sv rfl (A3 (B5 ?_))))
 cases h
 exact B0 (.inr rfl) (C1 (B4 rfl) I6) (.refl _)
noncomputable def H7 (p1:(List Int))(p2:Map)(p3:Zone):Option Bool:=
  (I8 p1 p2 p3).bind fun v1=>some (decide (v1≥0))
theorem A19 (p1:(List Int))(p2:Map)(p3:Zone)(r:Bool)(h:H7 p1 p2 p3=some r):PCall Tryz.prog 182 [(.list (List.map A5 p1)),(.fn (.func 183) [] [(.bp (A0s p2) 0),(.bp [(.list (List.map R3 p3.Parts)),(i64 p3.Signal_)] 0)])] (bo r):=by
 refine E1 (fk Tryz.func182 Tryz.ntmps182 m0 (by with_unfolding_all rfl)) (nl rfl) ?_
 unfold H7 at h
 refine A9 (s0:=⟨T [(0,(.d _)),(1,(.d _))],G []⟩) (sbr rfl rfl) ?_
 refine lr (fun u1 hu1=>sv rfl (A3 (lr (fun u2 hu2=>sv rfl (sv rfl (bs h fun v1 hv1 h=>C4 rfl rfl A4 (A1y _ _ _ _ hv1) (.inl rfl) (sv rfl (sv rfl (A3 (B5 ?_))))))))))
 cases h
 exact B0 (.inr rfl) (C1 (B4 rfl) I6) (.refl _)
noncomputable def A0c (p1:Zone)(p2:Map)(p3:Int)(p4:(List Int)):Option Bool:=
  (A58 p2 p1 p3).bind fun v1=>((cond v1 (H7 p4 p2 p1) (some default))).bind fun v2=>some (v1&& (!v2))
theorem B07 (p1:Zone)(p2:Map)(p3:Int)(p4:(List Int))(r:Bool)(h:A0c p1 p2 p3 p4=some r):PCall Tryz.prog 180 [(.agg [(.list (List.map R3 p1.Parts)),(i64 p1.Signal_)]),(.bp (A0s p2) 0),(.bp [(i64 p3)] 0),(.bp [(.list (List.map A5 p4))] 0)] (bo r):=by
 refine E1 (fk Tryz.func180 Tryz.ntmps180 m0 (by with_unfolding_all rfl)) (nl rfl) ?_
 unfold A0c at h
 refine A9 (s0:=⟨T [(0,(.d _)),(1,(.d _)),(2,(.d _)),(3,(.d _))],G []⟩) (sbr rfl rfl) ?_
 refine lr (fun u1 hu1=>sn rfl rfl (sv rfl (A3 (lr (fun u2 hu2=>sv rfl (sd rfl (B9 rfl G_hit rfl rfl) (sv rfl (bs h fun v1 hv1 h=>C4 rfl rfl A4 (B1k _ _ _ _ hv1) (.inl rfl) (sv rfl (gt rfl (fun _=>rfl) (X7 _ (.fn _ _ _) rfl (A4y rfl) (fun _=>rfl) (bs h fun v2 hv2 h=> ?_))))))))))))
 refine U1 v1 (bo v2) (A4y rfl) (fun w3=>⟨_,[(dl A5 p4),(.fn (.func 183) [] [(.d (.bp (A0s p2) 0)),(.ptr (4,u1) 0)])],_,_,(by simp only [A6 w3];rfl),(rD (Q5 (C3d N0 (rD (Q5 (B0w G_hit (rD (rD N0))) N0))) N0)),A4,A19 _ _ _ _ (E8 w3 hv2),(.inr rfl)⟩) ?_
 refine X7 _ (.d (bo (!v2))) rfl (A4y rfl) (fun w4=>(by simp only [A6 w4];rfl)) ?_
 refine sa rfl rfl rfl (sv rfl (A3 (B5 ?_)))
 cases h
 exact B0 (.inr rfl) (C1 (B4 rfl) I6) (.refl _)
noncomputable def G7 (p1:(List Zone))(p2:Map)(p3:Int)(p4:(List Int))(x1:Int):Option (Stp Int (Sum Unit Int)):=
  cond (decide (x1< (p1.length:Int))) ((F3 p1 x1).bind fun v1=>(A0c v1 p2 p3 p4).bind fun v2=>cond v2 (some (.out (.inr x1))) (some (.go (w64 (x1+1))))) (some (.out (.inl ())))
noncomputable def I4 (p1:(List Zone))(p2:Map)(p3:Int)(p4:(List Int)):Option Int:=
  thenS (loop (G7 p1 p2 p3 p4) 0) (fun _=>some (-1)) (fun r=>some r)
theorem A1s (p1:(List Zone))(p2:Map)(p3:Int)(p4:(List Int))(r:Int)(h:I4 p1 p2 p3 p4=some r):PCall Tryz.prog 243 [(.list (List.map A0g p1)),(.fn (.func 180) [] [(.bp (A0s p2) 0),(.bp [(i64 p3)] 0),(.bp [(.list (List.map A5 p4))] 0)])] (i64 r):=by
 refine E1 (fk Tryz.func243 Tryz.ntmps243 m0 (by with_unfolding_all rfl)) (nl rfl) ?_
 unfold I4 at h
 refine A9 (s0:=⟨T [(0,(.d _)),(1,(.d _))],G []⟩) (sbr rfl rfl) ?_
 refine lr (fun u1 hu1=>sv rfl (A3 (A7 (lr (fun u2 hu2=>sv rfl (sd rfl (F1 rfl) (sv rfl (A3 (js h fun z1 hz1 h=>F2 (fun s=> ∃(y1:Unit) (g1:Unit),z1= .inl y1∧Sb ⟨T [],G []⟩ s) ?_ ?_)))))))))
 refine A8 (F0 (G7 p1 p2 p3 p4) (fun (x1:Int) (g2:Unit)=>⟨T [(0,(dl A0g p1)),(1,(.d (.fn (.func 180) [] [(.bp (A0s p2) 0),(.bp [(i64 p3)] 0),(.bp [(.list (List.map A5 p4))] 0)]))),(7,(di (p1.length:Int))),(8,(di x1))],G []⟩) 0 () _ hz1 (sbr rfl rfl) ?_)
 intro x1 g2 z2 hz2 ez2
 unfold G7 at hz2
 refine lr (fun u3 hu3=>sv rfl (A3 (A7 (cc rfl hz2 (fun c1 hz2=> ?_) (fun c1 hz2=> ?_)))))
 refine B3 (A7 (A8 (lr (fun u4 hu4=>sv rfl (sv rfl (A3 (lr (fun u5 hu5=>sv rfl (sv rfl (sv rfl (bs hz2 fun v1 hv1 hz2=>sd rfl (G6 rfl rfl hv1 rfl) (sd rfl (F7 rfl hv1 rfl rfl) (bs hz2 fun v2 hv2 hz2=>C4 rfl rfl A4 (B07 _ _ _ _ _ hv2) (.inl rfl) (A3 (cc rfl hz2 (fun c2 hz2=> ?_) (fun c2 hz2=> ?_))))))))))))))))
 refine lr (fun u6 hu6=>sv rfl (sv rfl (A3 (B5 ?_))))
 cases hz2
 obtain rfl:=ez2 _ rfl
 refine ⟨nofun,F8 ?_⟩
 rw [Sum.elim_inr]at h
 cases h
 exact B0 (.inr rfl) (C1 (B4 rfl) I6) (.refl _)
 refine B3 (H9 (B8 fun u7 hu7=>sv rfl (sv rfl (A3 (H4 ?_)))))
 cases hz2
 exact ⟨rfl,(),(sbr rfl rfl)⟩
 refine C6 rfl ?_
 cases hz2
 obtain rfl:=ez2 _ rfl
 refine ⟨nofun,C2 rfl (l_j ?_)⟩
 exact ⟨_,(),rfl,(sbr rfl rfl)⟩
 rintro _ ⟨y1,g1,rfl,q1⟩
 rw [Sum.elim_inl]at h
 refine A9 q1 (lr (fun u8 hu8=>sv rfl (A3 (B5 ?_))))
 cases h
 exact B0 (.inr rfl) (C1 (B4 rfl) I6) (.refl _)
noncomputable def G8 (p1:(List Zone))(p2:Map)(p3:Int)(p4:(List Int)):Option Bool:=
  (I4 p1 p2 p3 p4).bind fun v1=>some (decide (v1≥0))
theorem A14 (p1:(List Zone))(p2:Map)(p3:Int)(p4:(List Int))(r:Bool)(h:G8 p1 p2 p3 p4=some r):PCall Tryz.prog 179 [(.list (List.map A0g p1)),(.fn (.func 180) [] [(.bp (A0s p2) 0),(.bp [(i64 p3)] 0),(.bp [(.list (List.map A5 p4))] 0)])] (bo r):=by
 refine E1 (fk Tryz.func179 Tryz.ntmps179 m0 (by with_unfolding_all rfl)) (nl rfl) ?_
 unfold G8 at h
 refine A9 (s0:=⟨T [(0,(.d _)),(1,(.d _))],G []⟩) (sbr rfl rfl) ?_
 refine lr (fun u1 hu1=>sv rfl (A3 (lr (fun u2 hu2=>sv rfl (sv rfl (bs h fun v1 hv1 h=>C4 rfl rfl A4 (A1s _ _ _ _ _ hv1) (.inl rfl) (sv rfl (sv rfl (A3 (B5 ?_))))))))))
 cases h
 exact B0 (.inr rfl) (C1 (B4 rfl) I6) (.refl _)
noncomputable def A3l (p1:Map)(x1:((List Clash)×Int)):Option (Stp ((List Clash)×Int) (List Clash)):=
  cond (decide (x1.2< (p1.Lanes.length:Int))) ((A1j p1 x1.2).bind fun v1=>(G8 p1.Zones p1 x1.2 v1).bind fun v2=>cond ((decide ((v1.length:Int)>1))&& (!v2)) ((B18 x1.1 [(Clash.mk 1 (-1) x1.2 (-1))]).bind fun v3=>some (.go (v3,(w64 (x1.2+1))))) (some (.go (x1.1,(w64 (x1.2+1)))))) (some (.out x1.1))
noncomputable def A6s (p1:Map):Option (List Clash):=
  (loop (A3l p1) ([],0)).bind fun y1=>some y1
theorem B7h (p1:Map)(r:(List Clash))(h:A6s p1=some r):PCall Tryz.prog 77 [(.agg (A0s p1))] (.list (List.map M8 r)):=by
 refine E1 (fk Tryz.func77 Tryz.ntmps77 (fun r=>if r==7 then [1003]else []) (by with_unfolding_all rfl)) (nl rfl) ?_
 unfold A6s at h
 refine A9 (s0:=⟨T [(0,(.d _))],G []⟩) (sbr rfl rfl) ?_
 refine lr (fun u1 hu1=>sn rfl rfl (sv rfl (A3 (A7 (lr (fun u2 hu2=>sp rfl rfl (sl rfl G_hit rfl (sd rfl (F1 rfl) (sv rfl (A3 (bs h fun y1 hy1 h=>F2 (fun s=> ∃g1:Nat,Sb ⟨T [(2,(oS y1 (30,g1)))],G [((30,g1),oB 93 4 M8 y1)]⟩ s) ?_ ?_)))))))))))
 refine A8 (F0 (A3l p1) (fun (x1:((List Clash)×Int)) (g2:Nat)=>⟨T [(1,(.ptr (1,u1) 0)),(2,(oS x1.1 (30,g2))),(8,(di (p1.Lanes.length:Int))),(9,(di x1.2))],G [((1,u1),some (.box 27 (A09 p1))),((30,g2),oB 93 4 M8 x1.1)]⟩) ([],0) 0 _ hy1 (J0 ⟨.of rfl, .of rfl, .of rfl, .of rfl,trivial⟩ (B6 G_hit (.of rfl) (A3f trivial))) ?_)
 intro x1 g2 z1 hz1 ez1
 unfold A3l at hz1
 refine lr (fun u3 hu3=>sv rfl (A3 (A7 (cc rfl hz1 (fun c1 hz1=> ?_) (fun c1 hz1=> ?_)))))
 refine B3 (A7 (A8 (lr (fun u4 hu4=>sv rfl (sn rfl rfl (sst rfl G_hit [(di x1.2)] rfl (A3 (lr (fun u5 hu5=>sd rfl (B9 rfl (gq rfl) rfl rfl) (sl rfl G_hit rfl (bs hz1 fun v1 hv1 hz1=>C4 rfl rfl A4 (A80 _ _ _ hv1) (.inl rfl) (sn rfl rfl (sst rfl G_hit [(dl A5 v1)] rfl (A3 (lr (fun u6 hu6=>sp rfl rfl (sl rfl (gq rfl) rfl (F4 (.fn _ _ _) rfl rfl (bs hz1 fun v2 hv2 hz1=>C4 rfl (rD (Q5 (C3d N0 (Q5 (B0w (gq rfl) (rD (rD (rD (rD (rD N0)))))) (Q5 (B0w (gq rfl) (rD N0)) (Q5 (B0w G_hit (rD N0)) N0)))) N0)) A4 (A14 _ _ _ _ _ hv2) (.inr rfl) (sv rfl (A3 (lr (fun u7 hu7=>sl rfl G_hit rfl (sd rfl (F1 rfl) (sv rfl (sv rfl (gt rfl (fun _=>rfl) ?_)))))))))))))))))))))))))))
 refine X7 _ (.d (bo (!v2))) rfl (A4y rfl) (fun w2=>(by simp only [A6 w2];rfl)) ?_
 refine sa rfl rfl rfl (A3 (cc rfl hz1 (fun c2 hz1=> ?_) (fun c2 hz1=> ?_)))
 refine A9 (s0:=⟨T [(1,(.ptr (1,u1) 0)),(2,(oS x1.1 (30,g2))),(3,(.ptr (3,u4) 0)),(8,(di (p1.Lanes.length:Int))),(9,(di x1.2))],G [((1,u1),some (.box 27 (A09 p1))),((30,g2),oB 93 4 M8 x1.1),((3,u4),some (.box 3 [(di x1.2)]))]⟩) (J0 ⟨.of rfl, .of rfl, .of rfl, .of rfl, .of rfl,trivial⟩ (sg rfl (I7 (gq rfl) (sg rfl trivial)))) ?_
 refine B8 fun u8 hu8=>F4 (oS x1.1 (30,g2)) rfl rfl (sl rfl (gq rfl) rfl (sv rfl (F4 (dl M8 [(Clash.mk 1 (-1) x1.2 (-1))]) rfl rfl (bs hz1 fun v3 hv3 hz1=>X6 M8 (30,g2) x1.1 (Clash.mk 1 (-1) x1.2 (-1)) [] _ (S7 (fun _=>rfl)) rfl (gq rfl) hv3 (ss rfl (A3 (H9 (B8 fun u9 hu9=>sv rfl (sv rfl (A3 (H4 ?_)))))))))))
 cases hz1
 exact ⟨rfl,u8,(J0 ⟨.of rfl,(.of (A93 (A3e hv3)).symm), .of rfl, .of rfl,trivial⟩ (sg rfl (A36 G_hit trivial)))⟩
 refine B3 (H9 (A9 (s0:=⟨T [(1,(.ptr (1,u1) 0)),(2,(oS x1.1 (30,g2))),(8,(di (p1.Lanes.length:Int))),(9,(di x1.2))],G [((1,u1),some (.box 27 (A09 p1))),((30,g2),oB 93 4 M8 x1.1)]⟩) (J0 ⟨.of rfl, .of rfl, .of rfl, .of rfl,trivial⟩ (sg rfl (I7 (gq rfl) trivial))) ?_))
 refine B8 fun u10 hu10=>sv rfl (sv rfl (A3 (H4 ?_)))
 cases hz1
 exact ⟨rfl,g2,(J0 ⟨.of rfl, .of rfl, .of rfl, .of rfl,trivial⟩ (B6 G_hit (.of rfl) (I7 (gq rfl) trivial)))⟩
 refine C6 rfl ?_
 cases hz1
 obtain rfl:=ez1 _ rfl
 refine ⟨nofun,C2 rfl (l_j ?_)⟩
 exact ⟨g2,(J0 ⟨.of rfl,trivial⟩ (I7 (gq rfl) trivial))⟩
 rintro _ ⟨g1,q1⟩
 refine A9 q1 (lr (fun u11 hu11=>F4 (oS y1 (30,g1)) rfl rfl (F4 (oS y1 (30,g1)) rfl rfl (A3 (B5 ?_)))))
 cases h
 exact B0 (.inr rfl) (C1 (B4 rfl) (B1b G_hit)) B1a
noncomputable def A3m (p1:Map)(x1:((List Clash)×Int))(v1:Zone)(x2:((List Clash)×Int)):Option (Stp ((List Clash)×Int) (List Clash)):=
  cond (decide (x2.2< (v1.Parts.length:Int))) ((F3 v1.Parts x2.2).bind fun v2=>(A50 p1 v1 v2.Lane_).bind fun v3=>((cond (!v3) (A58 p1 v1 v2.Lane_) (some default))).bind fun v4=>cond ((!v3)&& (!v4)) ((B18 x2.1 [(Clash.mk 2 x1.2 v2.Lane_ (-1))]).bind fun v5=>some (.go (v5,(w64 (x2.2+1))))) (some (.go (x2.1,(w64 (x2.2+1)))))) (some (.out x2.1))
noncomputable def A3n (p1:Map)(x1:((List Clash)×Int)):Option (Stp ((List Clash)×Int) (List Clash)):=
  cond (decide (x1.2< (p1.Zones.length:Int))) ((F3 p1.Zones x1.2).bind fun v1=>(loop (A3m p1 x1 v1) (x1.1,0)).bind fun y2=>some (.go (y2,(w64 (x1.2+1))))) (some (.out x1.1))
noncomputable def A6t (p1:Map):Option (List Clash):=
  (loop (A3n p1) ([],0)).bind fun y1=>some y1
theorem B7i (p1:Map)(r:(List Clash))(h:A6t p1=some r):PCall Tryz.prog 78 [(.agg (A0s p1))] (.list (List.map M8 r)):=by
 refine E1 (fk Tryz.func78 Tryz.ntmps78 (fun r=>if r==8 then [1005]else []) (by with_unfolding_all rfl)) (nl rfl) ?_
 unfold A6t at h
 refine A9 (s0:=⟨T [(0,(.d _))],G []⟩) (sbr rfl rfl) ?_
 refine lr (fun u1 hu1=>sn rfl rfl (sv rfl (A3 (A7 (lr (fun u2 hu2=>sp rfl rfl (sl rfl G_hit rfl (sd rfl (F1 rfl) (sv rfl (A3 (bs h fun y1 hy1 h=>F2 (fun s=> ∃g1:Nat,Sb ⟨T [(2,(oS y1 (42,g1)))],G [((42,g1),oB 93 4 M8 y1)]⟩ s) ?_ ?_)))))))))))
 refine A8 (F0 (A3n p1) (fun (x1:((List Clash)×Int)) (g2:Nat)=>⟨T [(1,(.ptr (1,u1) 0)),(2,(oS x1.1 (42,g2))),(8,(dl A0g p1.Zones)),(9,(di (p1.Zones.length:Int))),(10,(di x1.2))],G [((1,u1),some (.box 27 (A09 p1))),((42,g2),oB 93 4 M8 x1.1)]⟩) ([],0) 0 _ hy1 (J0 ⟨.of rfl, .of rfl, .of rfl, .of rfl, .of rfl,trivial⟩ (B6 G_hit (.of rfl) (A3f trivial))) ?_)
 intro x1 g2 z1 hz1 ez1
 unfold A3n at hz1
 refine lr (fun u3 hu3=>sv rfl (A3 (A7 (cc rfl hz1 (fun c1 hz1=> ?_) (fun c1 hz1=> ?_)))))
 refine B3 (A7 (A8 (lr (fun u4 hu4=>sv rfl (bs hz1 fun v1 hv1 hz1=>sd rfl (G6 rfl rfl hv1 rfl) (sd rfl (F7 rfl hv1 rfl rfl) (sn rfl rfl (sv rfl (sst rfl G_hit [(dl R3 v1.Parts),(di v1.Signal_)] rfl (A3 (lr (fun u5 hu5=>sp rfl rfl (sl rfl G_hit rfl (sd rfl (F1 rfl) (sv rfl (A3 (bs hz1 fun y2 hy2 hz1=>F2 (fun s=> ∃g3:Nat,Sb ⟨T [(1,(.ptr (1,u1) 0)),(2,(oS y2 (42,g3))),(8,(dl A0g p1.Zones)),(9,(di (p1.Zones.length:Int))),(10,(di x1.2))],G [((1,u1),some (.box 27 (A09 p1))),((42,g3),oB 93 4 M8 y2)]⟩ s) ?_ ?_)))))))))))))))))
 refine A8 (F0 (A3m p1 x1 v1) (fun (x2:((List Clash)×Int)) (g4:Nat)=>⟨T [(1,(.ptr (1,u1) 0)),(2,(oS x2.1 (42,g4))),(3,(di x1.2)),(4,(.ptr (4,u4) 0)),(8,(dl A0g p1.Zones)),(9,(di (p1.Zones.length:Int))),(10,(di x1.2)),(16,(dl R3 v1.Parts)),(17,(di (v1.Parts.length:Int))),(18,(di x2.2))],G [((1,u1),some (.box 27 (A09 p1))),((4,u4),some (.box 45 [(dl R3 v1.Parts),(di v1.Signal_)])),((42,g4),oB 93 4 M8 x2.1)]⟩) (x1.1,0) g2 _ hy2 (J0 ⟨.of rfl, .of rfl, .of rfl, .of rfl, .of rfl, .of rfl, .of rfl, .of rfl, .of rfl, .of rfl,trivial⟩ (sg rfl (B6 G_hit (.of rfl) (I7 (gq rfl) trivial)))) ?_)
 intro x2 g4 z2 hz2 ez2
 unfold A3m at hz2
 refine lr (fun u6 hu6=>sv rfl (A3 (A7 (cc rfl hz2 (fun c2 hz2=> ?_) (fun c2 hz2=> ?_)))))
 refine B3 (A7 (A8 (lr (fun u7 hu7=>bs hz2 fun v2 hv2 hz2=>sd rfl (G6 rfl rfl hv2 rfl) (sd rfl (F7 rfl hv2 rfl rfl) (sn rfl rfl (sst rfl G_hit (B10 v2) rfl (A3 (lr (fun u8 hu8=>sd rfl (B9 rfl (gq rfl) rfl rfl) (sd rfl (B9 rfl (gq rfl) rfl rfl) (sp rfl rfl (sl rfl G_hit rfl (bs hz2 fun v3 hv3 hz2=>C4 rfl rfl A4 (A96 _ _ _ _ hv3) (.inl rfl) (F4 (.d (bo (!v3))) rfl rfl (sv rfl (gt rfl (fun w1=>(B9 rfl (gq rfl) rfl rfl)) (gt rfl (fun w2=>(B9 rfl (gq rfl) rfl rfl)) (gp rfl (A4y rfl) (fun _=>rfl) (gt rfl (vl rfl G_hit rfl) (bs hz2 fun v4 hv4 hz2=> ?_)))))))))))))))))))))
 refine U1 _ (bo v4) (A4y rfl) (fun w5=>⟨_,[(.d (.agg (A0s p1))),(.d (.agg [(.list (List.map R3 v1.Parts)),(i64 v1.Signal_)])),(di v2.Lane_)],_,_,(by simp only [A6 w5];rfl),rfl,A4,B1k _ _ _ _ (E8 w5 hv4),(.inl rfl)⟩) ?_
 refine X7 _ (.d (bo (!v4))) rfl (A4y rfl) (fun w6=>(by simp only [A6 w6];rfl)) ?_
 refine sa rfl rfl rfl (A3 (cc rfl hz2 (fun c3 hz2=> ?_) (fun c3 hz2=> ?_)))
 refine A9 (s0:=⟨T [(1,(.ptr (1,u1) 0)),(2,(oS x2.1 (42,g4))),(3,(di x1.2)),(4,(.ptr (4,u4) 0)),(6,(.ptr (6,u7) 0)),(8,(dl A0g p1.Zones)),(9,(di (p1.Zones.length:Int))),(10,(di x1.2)),(16,(dl R3 v1.Parts)),(17,(di (v1.Parts.length:Int))),(18,(di x2.2))],G [((1,u1),some (.box 27 (A09 p1))),((42,g4),oB 93 4 M8 x2.1),((4,u4),some (.box 45 [(dl R3 v1.Parts),(di v1.Signal_)])),((6,u7),some (.box 91 (B10 v2)))]⟩) (J0 ⟨.of rfl, .of rfl, .of rfl, .of rfl, .of rfl, .of rfl, .of rfl, .of rfl, .of rfl, .of rfl, .of rfl,trivial⟩ (sg rfl (I7 (gq rfl) (sg rfl (B6 G_hit (.of rfl) trivial))))) ?_
 refine B8 fun u9 hu9=>F4 (oS x2.1 (42,g4)) rfl rfl (sv rfl (sp rfl rfl (sl rfl (gq rfl) rfl (sv rfl (F4 (dl M8 [(Clash.mk 2 x1.2 v2.Lane_ (-1))]) rfl rfl (bs hz2 fun v5 hv5 hz2=>X6 M8 (42,g4) x2.1 (Clash.mk 2 x1.2 v2.Lane_ (-1)) [] _ (S7 (fun _=>rfl)) rfl (gq rfl) hv5 (ss rfl (A3 (H9 (A9 (s0:=⟨T [(1,(.ptr _ _)),(2,(.sl _)),(3,(.d _)),(4,(.ptr _ _)),(8,(.d _)),(9,(.d _)),(10,(.d _)),(16,(.d _)),(17,(.d _)),(18,(.d _))],G [((1,u1),some (.box 27 _)),((42,u9),some _),((4,u4),some (.box 45 _))]⟩) (sbr rfl rfl) ?_))))))))))
 refine B8 fun u10 hu10=>sv rfl (sv rfl (A3 (H4 ?_)))
 cases hz2
 exact ⟨rfl,u9,(J0 ⟨.of rfl,(.of (A93 (A3e hv5)).symm), .of rfl, .of rfl, .of rfl, .of rfl, .of rfl, .of rfl, .of rfl, .of rfl,trivial⟩ (B6 G_hit (.of rfl) (sg rfl (A36 (gq rfl) trivial))))⟩
 refine B3 (H9 (A9 (s0:=⟨T [(1,(.ptr (1,u1) 0)),(2,(oS x2.1 (42,g4))),(3,(di x1.2)),(4,(.ptr (4,u4) 0)),(8,(dl A0g p1.Zones)),(9,(di (p1.Zones.length:Int))),(10,(di x1.2)),(16,(dl R3 v1.Parts)),(17,(di (v1.Parts.length:Int))),(18,(di x2.2))],G [((1,u1),some (.box 27 (A09 p1))),((42,g4),oB 93 4 M8 x2.1),((4,u4),some (.box 45 [(dl R3 v1.Parts),(di v1.Signal_)]))]⟩) (J0 ⟨.of rfl, .of rfl, .of rfl, .of rfl, .of rfl, .of rfl, .of rfl, .of rfl, .of rfl, .of rfl,trivial⟩ (sg rfl (I7 (gq rfl) (sg rfl trivial)))) ?_))
 refine B8 fun u11 hu11=>sv rfl (sv rfl (A3 (H4 ?_)))
 cases hz2
 exact ⟨rfl,g4,(J0 ⟨.of rfl, .of rfl, .of rfl, .of rfl, .of rfl, .of rfl, .of rfl, .of rfl, .of rfl, .of rfl,trivial⟩ (B6 G_hit (.of rfl) (sg rfl (I7 (gq rfl) trivial))))⟩
 refine C6 rfl ?_
 cases hz2
 obtain rfl:=ez2 _ rfl
 refine ⟨nofun,C2 rfl (l_j ?_)⟩
 exact ⟨g4,(J0 ⟨.of rfl, .of rfl, .of rfl, .of rfl, .of rfl,trivial⟩ (B6 G_hit (.of rfl) (I7 (gq rfl) trivial)))⟩
 rintro _ ⟨g3,q1⟩
 refine H9 (A9 q1 (B8 fun u12 hu12=>sv rfl (sv rfl (A3 (H4 ?_)))))
 cases hz1
 exact ⟨rfl,g3,(J0 ⟨.of rfl, .of rfl, .of rfl, .of rfl, .of rfl,trivial⟩ (B6 G_hit (.of rfl) (I7 (gq rfl) trivial)))⟩
 refine C6 rfl ?_
 cases hz1
 obtain rfl:=ez1 _ rfl
 refine ⟨nofun,C2 rfl (l_j ?_)⟩
 exact ⟨g2,(J0 ⟨.of rfl,trivial⟩ (I7 (gq rfl) trivial))⟩
 rintro _ ⟨g1,q2⟩
 refine A9 q2 (lr (fun u13 hu13=>F4 (oS y1 (42,g1)) rfl rfl (F4 (oS y1 (42,g1)) rfl rfl (A3 (B5 ?_)))))
 cases h
 exact B0 (.inr rfl) (C1 (B4 rfl) (B1b G_hit)) B1a
noncomputable def A2y (p1:Map)(p2:Zone)(x1:((List Int)×Int)):Option (Stp ((List Int)×Int) (List Int)):=
  cond (decide (x1.2< (p2.Parts.length:Int))) ((F3 p2.Parts x1.2).bind fun v1=>(A50 p1 p2 v1.Lane_).bind fun v2=>cond v2 ((B18 x1.1 [v1.Lane_]).bind fun v3=>some (.go (v3,(w64 (x1.2+1))))) (some (.go (x1.1,(w64 (x1.2+1)))))) (some (.out x1.1))
noncomputable def A2p (p1:Map)(p2:Zone):Option (List Int):=
  (loop (A2y p1 p2) ([],0)).bind fun y1=>some y1
theorem A79 (p1:Map)(p2:Zone)(r:(List Int))(h:A2p p1 p2=some r):PCall Tryz.prog 248 [(.agg (A0s p1)),(.agg [(.list (List.map R3 p2.Parts)),(i64 p2.Signal_)])] (.list (List.map A5 r)):=by
 refine E1 (fk Tryz.func248 Tryz.ntmps248 (fun r=>if r==6 then [1003]else []) (by with_unfolding_all rfl)) (nl rfl) ?_
 unfold A2p at h
 refine A9 (s0:=⟨T [(0,(.d _)),(1,(.d _))],G []⟩) (sbr rfl rfl) ?_
 refine lr (fun u1 hu1=>sn rfl rfl (sn rfl rfl (sv rfl (A3 (lr (fun u2 hu2=>sv rfl (A3 (A7 (lr (fun u3 hu3=>sp rfl rfl (sl rfl G_hit rfl (sd rfl (F1 rfl) (sv rfl (A3 (bs h fun y1 hy1 h=>F2 (fun s=> ∃g1:Nat,Sb ⟨T [(5,(oS y1 (24,g1)))],G [((24,g1),oB 3 1 A5 y1)]⟩ s) ?_ ?_)))))))))))))))
 refine A8 (F0 (A2y p1 p2) (fun (x1:((List Int)×Int)) (g2:Nat)=>⟨T [(2,(.ptr (2,u1) 0)),(3,(.ptr (3,u1) 0)),(5,(oS x1.1 (24,g2))),(9,(dl R3 p2.Parts)),(10,(di (p2.Parts.length:Int))),(11,(di x1.2))],G [((2,u1),some (.box 27 (A09 p1))),((3,u1),some (.box 45 [(dl R3 p2.Parts),(di p2.Signal_)])),((24,g2),oB 3 1 A5 x1.1)]⟩) ([],0) 0 _ hy1 (J0 ⟨.of rfl, .of rfl, .of rfl, .of rfl, .of rfl, .of rfl,trivial⟩ (sg rfl (B6 G_hit (.of rfl) (A3f trivial)))) ?_)
 intro x1 g2 z1 hz1 ez1
 unfold A2y at hz1
 refine lr (fun u4 hu4=>sv rfl (A3 (A7 (cc rfl hz1 (fun c1 hz1=> ?_) (fun c1 hz1=> ?_)))))
 refine B3 (A7 (A8 (lr (fun u5 hu5=>bs hz1 fun v1 hv1 hz1=>sd rfl (G6 rfl rfl hv1 rfl) (sd rfl (F7 rfl hv1 rfl rfl) (sn rfl rfl (sst rfl G_hit (B10 v1) rfl (A3 (lr (fun u6 hu6=>sd rfl (B9 rfl (gq rfl) rfl rfl) (sd rfl (B9 rfl (gq rfl) rfl rfl) (sp rfl rfl (sl rfl G_hit rfl (bs hz1 fun v2 hv2 hz1=>C4 rfl rfl A4 (A96 _ _ _ _ hv2) (.inl rfl) (A3 (cc rfl hz1 (fun c2 hz1=> ?_) (fun c2 hz1=> ?_)))))))))))))))))
 refine B8 fun u7 hu7=>F4 (oS x1.1 (24,g2)) rfl rfl (sp rfl rfl (sl rfl G_hit rfl (F4 (dl A5 [v1.Lane_]) rfl rfl (bs hz1 fun v3 hv3 hz1=>X6 A5 (24,g2) x1.1 v1.Lane_ [] _ (S7 (fun _=>rfl)) rfl (gq rfl) hv3 (ss rfl (A3 (H9 (A9 (s0:=⟨T [(2,(.ptr _ _)),(3,(.ptr _ _)),(5,(.sl _)),(9,(.d _)),(10,(.d _)),(11,(.d _))],G [((2,u1),some (.box 27 _)),((3,u1),some (.box 45 _)),((24,u7),some _)]⟩) (sbr rfl rfl) ?_))))))))
 refine B8 fun u8 hu8=>sv rfl (sv rfl (A3 (H4 ?_)))
 cases hz1
 exact ⟨rfl,u7,(J0 ⟨.of rfl, .of rfl,(.of (A93 (A3e hv3)).symm), .of rfl, .of rfl, .of rfl,trivial⟩ (B6 G_hit (.of rfl) (sg rfl (A36 (gq rfl) trivial))))⟩
 refine B3 (H9 (B8 fun u9 hu9=>sv rfl (sv rfl (A3 (H4 ?_)))))
 cases hz1
 exact ⟨rfl,g2,(J0 ⟨.of rfl, .of rfl, .of rfl, .of rfl, .of rfl, .of rfl,trivial⟩ (sg rfl (sg rfl (I7 (gq rfl) trivial))))⟩
 refine C6 rfl ?_
 cases hz1
 obtain rfl:=ez1 _ rfl
 refine ⟨nofun,C2 rfl (l_j ?_)⟩
 exact ⟨g2,(J0 ⟨.of rfl,trivial⟩ (I7 (gq rfl) trivial))⟩
 rintro _ ⟨g1,q1⟩
 refine A9 q1 (lr (fun u10 hu10=>F4 (oS y1 (24,g1)) rfl rfl (F4 (oS y1 (24,g1)) rfl rfl (A3 (B5 ?_)))))
 cases h
 exact B0 (.inr rfl) (C1 (B4 rfl) (B1b G_hit)) B1a
noncomputable def A5o (p1:Zone)(p2:Int)(p3:Int):Option Bool:=
  (A23 p1 p2).bind fun v1=>(A23 p1 p3).bind fun v2=>some ((p1.Signal_==0)&& (v1.1.Rank==v2.1.Rank))
theorem B5x (p1:Zone)(p2:Int)(p3:Int)(r:Bool)(h:A5o p1 p2 p3=some r):PCall Tryz.prog 186 [(.agg [(.list (List.map R3 p1.Parts)),(i64 p1.Signal_)]),(i64 p2),(i64 p3)] (bo r):=by
 refine E1 (fk Tryz.func186 Tryz.ntmps186 m0 (by with_unfolding_all rfl)) (nl rfl) ?_
 unfold A5o at h
 refine A9 (s0:=⟨T [(0,(.d _)),(1,(.d _)),(2,(.d _))],G []⟩) (sbr rfl rfl) ?_
 refine lr (fun u1 hu1=>sn rfl rfl (sv rfl (A3 (lr (fun u2 hu2=>sd rfl (B9 rfl G_hit rfl rfl) (sv rfl (bs h fun v1 hv1 h=>C4 rfl rfl A4 (A5m _ _ _ hv1) (.inl rfl) (sv rfl (sv rfl (sv rfl (sn rfl rfl (sst rfl G_hit (B10 v1.1) rfl (sv rfl (A3 (lr (fun u3 hu3=>sd rfl (B9 rfl (gq rfl) rfl rfl) (sv rfl (bs h fun v2 hv2 h=>C4 rfl rfl A4 (A5m _ _ _ hv2) (.inl rfl) (sv rfl (sv rfl (sv rfl (sn rfl rfl (sst rfl G_hit (B10 v2.1) rfl (sv rfl (A3 (A7 (A9 (s0:=⟨T [(3,(.ptr _ _)),(7,(.ptr _ _)),(9,(.ptr _ _))],G [((3,u1),some (.box 45 _)),((7,u2),some (.box 91 _)),((9,u3),some (.box 91 _))]⟩) (sbr rfl rfl) ?_)))))))))))))))))))))))))))
 refine B8 fun u4 hu4=>sp rfl rfl (sl rfl G_hit rfl (sv rfl (sv rfl (gp rfl (A4y rfl) (fun _=>rfl) (gt rfl (vl rfl (gq rfl) rfl) (gp rfl (A4y rfl) (fun _=>rfl) (gt rfl (vl rfl (gq rfl) rfl) (gt rfl (fun w5=>(A1q (A6 w5) (A6 w5) rfl)) (sa rfl rfl rfl (sv rfl (A3 (B5 ?_))))))))))))
 cases h
 exact B0 (.inr rfl) (C1 (B4 rfl) I6) (.refl _)
noncomputable def P4 (p2:Int)(x1:((List Clash)×Int))(v1:Zone)(v3:Int)(v4:List Int)(x3:((List Clash)×Int)):Option (Stp ((List Clash)×Int) (List Clash)):=
  cond (decide (x3.2< (v4.length:Int))) ((F3 v4 x3.2).bind fun v5=>(A5o v1 v3 v5).bind fun v6=>cond v6 ((B18 x3.1 [(Clash.mk p2 x1.2 v3 v5)]).bind fun v7=>some (.go (v7,(w64 (x3.2+1))))) (some (.go (x3.1,(w64 (x3.2+1)))))) (some (.out x3.1))
noncomputable def P5 (p2:Int)(x1:((List Clash)×Int))(v1:Zone)(v2:(List Int))(x2:((List Clash)×Int)):Option (Stp ((List Clash)×Int) (List Clash)):=
  cond (decide (x2.2< (v2.length:Int))) ((F3 v2 x2.2).bind fun v3=>(C6k v2 (w64 (x2.2+1)) (v2.length:Int)).bind fun v4=>(loop (P4 p2 x1 v1 v3 v4) (x2.1,0)).bind fun y3=>some (.go (y3,(w64 (x2.2+1))))) (some (.out x2.1))
noncomputable def P6 (p1:Map)(p2:Int)(x1:((List Clash)×Int)):Option (Stp ((List Clash)×Int) (List Clash)):=
  cond (decide (x1.2< (p1.Zones.length:Int))) ((F3 p1.Zones x1.2).bind fun v1=>(A2p p1 v1).bind fun v2=>(loop (P5 p2 x1 v1 v2) (x1.1,0)).bind fun y2=>some (.go (y2,(w64 (x1.2+1))))) (some (.out x1.1))
noncomputable def T1 (p1:Map)(p2:Int):Option (List Clash):=
  (loop (P6 p1 p2) ([],0)).bind fun y1=>some y1
theorem A7p (p1:Map)(p2:Int)(r:(List Clash))(h:T1 p1 p2=some r):PCall Tryz.prog 185 [(.agg (A0s p1)),(i64 p2),(.fn (.func 186) [] [])] (.list (List.map M8 r)):=by
 refine E1 (fk Tryz.func185 Tryz.ntmps185 (fun r=>if r==12 then [1006]else []) (by with_unfolding_all rfl)) (nl rfl) ?_
 unfold T1 at h
 refine A9 (s0:=⟨T [(0,(.d _)),(1,(.d _)),(2,(.d _))],G []⟩) (sbr rfl rfl) ?_
 refine lr (fun u1 hu1=>sn rfl rfl (sv rfl (A3 (A7 (lr (fun u2 hu2=>sp rfl rfl (sl rfl G_hit rfl (sd rfl (F1 rfl) (sv rfl (A3 (bs h fun y1 hy1 h=>F2 (fun s=> ∃g1:Nat,Sb ⟨T [(6,(oS y1 (53,g1)))],G [((53,g1),oB 93 4 M8 y1)]⟩ s) ?_ ?_)))))))))))
 refine A8 (F0 (P6 p1 p2) (fun (x1:((List Clash)×Int)) (g2:Nat)=>⟨T [(1,(di p2)),(2,(.d (.fn (.func 186) [] []))),(3,(.ptr (3,u1) 0)),(6,(oS x1.1 (53,g2))),(15,(dl A0g p1.Zones)),(16,(di (p1.Zones.length:Int))),(17,(di x1.2))],G [((3,u1),some (.box 27 (A09 p1))),((53,g2),oB 93 4 M8 x1.1)]⟩) ([],0) 0 _ hy1 (J0 ⟨.of rfl, .of rfl, .of rfl, .of rfl, .of rfl, .of rfl, .of rfl,trivial⟩ (B6 G_hit (.of rfl) (A3f trivial))) ?_)
 intro x1 g2 z1 hz1 ez1
 unfold P6 at hz1
 refine lr (fun u3 hu3=>sv rfl (A3 (A7 (cc rfl hz1 (fun c1 hz1=> ?_) (fun c1 hz1=> ?_)))))
 refine B3 (A7 (A8 (lr (fun u4 hu4=>sv rfl (bs hz1 fun v1 hv1 hz1=>sd rfl (G6 rfl rfl hv1 rfl) (sd rfl (F7 rfl hv1 rfl rfl) (sn rfl rfl (sv rfl (sst rfl G_hit [(dl R3 v1.Parts),(di v1.Signal_)] rfl (A3 (lr (fun u5 hu5=>sd rfl (B9 rfl (gq rfl) rfl rfl) (sd rfl (B9 rfl G_hit rfl rfl) (bs hz1 fun v2 hv2 hz1=>C4 rfl rfl A4 (A79 _ _ _ hv2) (.inl rfl) (sv rfl (A3 (lr (fun u6 hu6=>sv rfl (sd rfl (F1 rfl) (sv rfl (A3 (bs hz1 fun y2 hy2 hz1=>F2 (fun s=> ∃g3:Nat,Sb ⟨T [(1,(di p2)),(2,(.d (.fn (.func 186) [] []))),(3,(.ptr (3,u1) 0)),(6,(oS y2 (53,g3))),(15,(dl A0g p1.Zones)),(16,(di (p1.Zones.length:Int))),(17,(di x1.2))],G [((3,u1),some (.box 27 (A09 p1))),((53,g3),oB 93 4 M8 y2)]⟩ s) ?_ ?_))))))))))))))))))))))
 refine A8 (F0 (P5 p2 x1 v1 v2) (fun (x2:((List Clash)×Int)) (g4:Nat)=>⟨T [(1,(di p2)),(2,(.d (.fn (.func 186) [] []))),(3,(.ptr (3,u1) 0)),(6,(oS x2.1 (53,g4))),(7,(di x1.2)),(8,(.ptr (8,u4) 0)),(9,(dl A5 v2)),(15,(dl A0g p1.Zones)),(16,(di (p1.Zones.length:Int))),(17,(di x1.2)),(25,(dl A5 v2)),(26,(di (v2.length:Int))),(27,(di x2.2))],G [((3,u1),some (.box 27 (A09 p1))),((8,u4),some (.box 45 [(dl R3 v1.Parts),(di v1.Signal_)])),((53,g4),oB 93 4 M8 x2.1)]⟩) (x1.1,0) g2 _ hy2 (J0 ⟨.of rfl, .of rfl, .of rfl, .of rfl, .of rfl, .of rfl, .of rfl, .of rfl, .of rfl, .of rfl, .of rfl, .of rfl, .of rfl,trivial⟩ (sg rfl (B6 G_hit (.of rfl) (I7 (gq rfl) trivial)))) ?_)
 intro x2 g4 z2 hz2 ez2
 unfold P5 at hz2
 refine lr (fun u7 hu7=>sv rfl (A3 (A7 (cc rfl hz2 (fun c2 hz2=> ?_) (fun c2 hz2=> ?_)))))
 refine B3 (A7 (A8 (lr (fun u8 hu8=>sv rfl (bs hz2 fun v3 hv3 hz2=>sd rfl (G6 rfl rfl hv3 rfl) (sd rfl (E9 rfl hv3 rfl) (sv rfl (sv rfl (A3 (lr (fun u9 hu9=>sv rfl (sv rfl (sv rfl (bs hz2 fun v4 hv4 hz2=>sd rfl (D04 rfl (fun _=>rfl) (D56 rfl) C4j hv4) (sd rfl (F1 rfl) (sv rfl (A3 (bs hz2 fun y3 hy3 hz2=>F2 (fun s=> ∃g5:Nat,Sb ⟨T [(1,(di p2)),(2,(.d (.fn (.func 186) [] []))),(3,(.ptr (3,u1) 0)),(6,(oS y3 (53,g5))),(7,(di x1.2)),(8,(.ptr (8,u4) 0)),(9,(dl A5 v2)),(15,(dl A0g p1.Zones)),(16,(di (p1.Zones.length:Int))),(17,(di x1.2)),(25,(dl A5 v2)),(26,(di (v2.length:Int))),(27,(di x2.2))],G [((3,u1),some (.box 27 (A09 p1))),((8,u4),some (.box 45 [(dl R3 v1.Parts),(di v1.Signal_)])),((53,g5),oB 93 4 M8 y3)]⟩ s) ?_ ?_))))))))))))))))))
 refine A8 (F0 (P4 p2 x1 v1 v3 v4) (fun (x3:((List Clash)×Int)) (g6:Nat)=>⟨T [(1,(di p2)),(2,(.d (.fn (.func 186) [] []))),(3,(.ptr (3,u1) 0)),(6,(oS x3.1 (53,g6))),(7,(di x1.2)),(8,(.ptr (8,u4) 0)),(9,(dl A5 v2)),(11,(di v3)),(15,(dl A0g p1.Zones)),(16,(di (p1.Zones.length:Int))),(17,(di x1.2)),(25,(dl A5 v2)),(26,(di (v2.length:Int))),(27,(di x2.2)),(35,(dl A5 v4)),(36,(di (v4.length:Int))),(37,(di x3.2))],G [((3,u1),some (.box 27 (A09 p1))),((8,u4),some (.box 45 [(dl R3 v1.Parts),(di v1.Signal_)])),((53,g6),oB 93 4 M8 x3.1)]⟩) (x2.1,0) g4 _ hy3 (J0 ⟨.of rfl, .of rfl, .of rfl, .of rfl, .of rfl, .of rfl, .of rfl, .of rfl, .of rfl, .of rfl, .of rfl, .of rfl, .of rfl, .of rfl, .of rfl, .of rfl, .of rfl,trivial⟩ (B6 G_hit (.of rfl) (sg rfl (I7 (gq rfl) trivial)))) ?_)
 intro x3 g6 z3 hz3 ez3
 unfold P4 at hz3
 refine lr (fun u10 hu10=>sv rfl (A3 (A7 (cc rfl hz3 (fun c3 hz3=> ?_) (fun c3 hz3=> ?_)))))
 refine B3 (A7 (A8 (lr (fun u11 hu11=>bs hz3 fun v5 hv5 hz3=>sd rfl (G6 rfl rfl hv5 rfl) (sd rfl (E9 rfl hv5 rfl) (sv rfl (A3 (lr (fun u12 hu12=>sv rfl (sd rfl (B9 rfl (gq rfl) rfl rfl) (sv rfl (sv rfl (bs hz3 fun v6 hv6 hz3=>C4 rfl rfl A4 (B5x _ _ _ _ hv6) (.inl rfl) (A3 (cc rfl hz3 (fun c4 hz3=> ?_) (fun c4 hz3=> ?_))))))))))))))))
 refine A9 (s0:=⟨T [(1,(di p2)),(2,(.d (.fn (.func 186) [] []))),(3,(.ptr (3,u1) 0)),(6,(oS x3.1 (53,g6))),(7,(di x1.2)),(8,(.ptr (8,u4) 0)),(9,(dl A5 v2)),(11,(di v3)),(13,(di v5)),(15,(dl A0g p1.Zones)),(16,(di (p1.Zones.length:Int))),(17,(di x1.2)),(25,(dl A5 v2)),(26,(di (v2.length:Int))),(27,(di x2.2)),(35,(dl A5 v4)),(36,(di (v4.length:Int))),(37,(di x3.2))],G [((3,u1),some (.box 27 (A09 p1))),((53,g6),oB 93 4 M8 x3.1),((8,u4),some (.box 45 [(dl R3 v1.Parts),(di v1.Signal_)]))]⟩) (J0 ⟨.of rfl, .of rfl, .of rfl, .of rfl, .of rfl, .of rfl, .of rfl, .of rfl, .of rfl, .of rfl, .of rfl, .of rfl, .of rfl, .of rfl, .of rfl, .of rfl, .of rfl, .of rfl,trivial⟩ (B6 G_hit (.of rfl) (I7 (gq rfl) (sg rfl trivial)))) ?_
 refine B8 fun u13 hu13=>F4 (oS x3.1 (53,g6)) rfl rfl (sv rfl (sv rfl (sv rfl (sv rfl (sv rfl (F4 (dl M8 [(Clash.mk p2 x1.2 v3 v5)]) rfl rfl (bs hz3 fun v7 hv7 hz3=>X6 M8 (53,g6) x3.1 (Clash.mk p2 x1.2 v3 v5) [] _ (S7 (fun _=>rfl)) rfl (gq rfl) hv7 (ss rfl (A3 (H9 (A9 (s0:=⟨T [(1,(.d _)),(2,(.d _)),(3,(.ptr _ _)),(6,(.sl _)),(7,(.d _)),(8,(.ptr _ _)),(9,(.d _)),(11,(.d _)),(15,(.d _)),(16,(.d _)),(17,(.d _)),(25,(.d _)),(26,(.d _)),(27,(.d _)),(35,(.d _)),(36,(.d _)),(37,(.d _))],G [((3,u1),some (.box 27 _)),((53,u13),some _),((8,u4),some (.box 45 _))]⟩) (sbr rfl rfl) ?_)))))))))))
 refine B8 fun u14 hu14=>sv rfl (sv rfl (A3 (H4 ?_)))
 cases hz3
 exact ⟨rfl,u13,(J0 ⟨.of rfl, .of rfl, .of rfl,(.of (A93 (A3e hv7)).symm), .of rfl, .of rfl, .of rfl, .of rfl, .of rfl, .of rfl, .of rfl, .of rfl, .of rfl, .of rfl, .of rfl, .of rfl, .of rfl,trivial⟩ (B6 G_hit (.of rfl) (sg rfl (A36 (gq rfl) trivial))))⟩
 refine B3 (H9 (A9 (s0:=⟨T [(1,(di p2)),(2,(.d (.fn (.func 186) [] []))),(3,(.ptr (3,u1) 0)),(6,(oS x3.1 (53,g6))),(7,(di x1.2)),(8,(.ptr (8,u4) 0)),(9,(dl A5 v2)),(11,(di v3)),(15,(dl A0g p1.Zones)),(16,(di (p1.Zones.length:Int))),(17,(di x1.2)),(25,(dl A5 v2)),(26,(di (v2.length:Int))),(27,(di x2.2)),(35,(dl A5 v4)),(36,(di (v4.length:Int))),(37,(di x3.2))],G [((3,u1),some (.box 27 (A09 p1))),((53,g6),oB 93 4 M8 x3.1),((8,u4),some (.box 45 [(dl R3 v1.Parts),(di v1.Signal_)]))]⟩) (J0 ⟨.of rfl, .of rfl, .of rfl, .of rfl, .of rfl, .of rfl, .of rfl, .of rfl, .of rfl, .of rfl, .of rfl, .of rfl, .of rfl, .of rfl, .of rfl, .of rfl, .of rfl,trivial⟩ (B6 G_hit (.of rfl) (I7 (gq rfl) (sg rfl trivial)))) ?_))
 refine B8 fun u15 hu15=>sv rfl (sv rfl (A3 (H4 ?_)))
 cases hz3
 exact ⟨rfl,g6,(J0 ⟨.of rfl, .of rfl, .of rfl, .of rfl, .of rfl, .of rfl, .of rfl, .of rfl, .of rfl, .of rfl, .of rfl, .of rfl, .of rfl, .of rfl, .of rfl, .of rfl, .of rfl,trivial⟩ (B6 G_hit (.of rfl) (sg rfl (I7 (gq rfl) trivial))))⟩
 refine C6 rfl ?_
 cases hz3
 obtain rfl:=ez3 _ rfl
 refine ⟨nofun,C2 rfl (l_j ?_)⟩
 exact ⟨g6,(J0 ⟨.of rfl, .of rfl, .of rfl, .of rfl, .of rfl, .of rfl, .of rfl, .of rfl, .of rfl, .of rfl, .of rfl, .of rfl, .of rfl,trivial⟩ (B6 G_hit (.of rfl) (sg rfl (I7 (gq rfl) trivial))))⟩
 rintro _ ⟨g5,q1⟩
 refine H9 (A9 q1 (B8 fun u16 hu16=>sv rfl (sv rfl (A3 (H4 ?_)))))
 cases hz2
 exact ⟨rfl,g5,(J0 ⟨.of rfl, .of rfl, .of rfl, .of rfl, .of rfl, .of rfl, .of rfl, .of rfl, .of rfl, .of rfl, .of rfl, .of rfl, .of rfl,trivial⟩ (B6 G_hit (.of rfl) (sg rfl (I7 (gq rfl) trivial))))⟩
 refine C6 rfl ?_
 cases hz2
 obtain rfl:=ez2 _ rfl
 refine ⟨nofun,C2 rfl (l_j ?_)⟩
 exact ⟨g4,(J0 ⟨.of rfl, .of rfl, .of rfl, .of rfl, .of rfl, .of rfl, .of rfl,trivial⟩ (B6 G_hit (.of rfl) (I7 (gq rfl) trivial)))⟩
 rintro _ ⟨g3,q2⟩
 refine H9 (A9 q2 (B8 fun u17 hu17=>sv rfl (sv rfl (A3 (H4 ?_)))))
 cases hz1
 exact ⟨rfl,g3,(J0 ⟨.of rfl, .of rfl, .of rfl, .of rfl, .of rfl, .of rfl, .of rfl,trivial⟩ (B6 G_hit (.of rfl) (I7 (gq rfl) trivial)))⟩
 refine C6 rfl ?_
 cases hz1
 obtain rfl:=ez1 _ rfl
 refine ⟨nofun,C2 rfl (l_j ?_)⟩
 exact ⟨g2,(J0 ⟨.of rfl,trivial⟩ (I7 (gq rfl) trivial))⟩
 rintro _ ⟨g1,q3⟩
 refine A9 q3 (lr (fun u18 hu18=>F4 (oS y1 (53,g1)) rfl rfl (F4 (oS y1 (53,g1)) rfl rfl (A3 (B5 ?_)))))
 cases h
 exact B0 (.inr rfl) (C1 (B4 rfl) (B1b G_hit)) B1a
noncomputable def A83 (p1:Map):Option (List Clash):=
  (T1 p1 3).bind fun v1=>some v1
theorem B8u (p1:Map)(r:(List Clash))(h:A83 p1=some r):PCall Tryz.prog 79 [(.agg (A0s p1))] (.list (List.map M8 r)):=by
 refine E1 (fk Tryz.func79 Tryz.ntmps79 m0 (by with_unfolding_all rfl)) (nl rfl) ?_
 unfold A83 at h
 refine A9 (s0:=⟨T [(0,(.d _))],G []⟩) (sbr rfl rfl) ?_
 refine lr (fun u1 hu1=>sn rfl rfl (sv rfl (A3 (lr (fun u2 hu2=>sd rfl (B9 rfl G_hit rfl rfl) (bs h fun v1 hv1 h=>C4 rfl rfl A4 (A7p _ _ _ hv1) (.inl rfl) (sv rfl (A3 (B5 ?_)))))))))
 cases h
 exact B0 (.inr rfl) (C1 (B4 rfl) I6) (.refl _)
noncomputable def A0d (p1:Phase)(p2:Int)(p3:Int):Option Bool:=
  (J4 p1.Green p2).bind fun v1=>((cond v1 (J4 p1.Green p3) (some default))).bind fun v2=>some (v1&&v2)
theorem B08 (p1:Phase)(p2:Int)(p3:Int)(r:Bool)(h:A0d p1 p2 p3=some r):PCall Tryz.prog 188 [(.agg [(i64 p1.Ticks),(.list (List.map A5 p1.Green))]),(.bp [(i64 p2)] 0),(.bp [(i64 p3)] 0)] (bo r):=by
 refine E1 (fk Tryz.func188 Tryz.ntmps188 m0 (by with_unfolding_all rfl)) (nl rfl) ?_
 unfold A0d at h
 refine A9 (s0:=⟨T [(0,(.d _)),(1,(.d _)),(2,(.d _))],G []⟩) (sbr rfl rfl) ?_
 refine lr (fun u1 hu1=>sn rfl rfl (sv rfl (A3 (lr (fun u2 hu2=>sp rfl rfl (sl rfl G_hit rfl (sv rfl (bs h fun v1 hv1 h=>C4 rfl rfl A4 (W4 _ _ _ hv1) (.inl rfl) (sv rfl (gp rfl (A4y rfl) (fun _=>rfl) (gt rfl (vl rfl G_hit rfl) (gt rfl (fun _=>rfl) (bs h fun v2 hv2 h=> ?_)))))))))))))
 refine U1 v1 (bo v2) (A4y rfl) (fun w4=>⟨_,[(dl A5 p1.Green),(di p3)],_,_,(by simp only [A6 w4];rfl),rfl,A4,W4 _ _ _ (E8 w4 hv2),(.inl rfl)⟩) ?_
 refine sa rfl rfl rfl (sv rfl (A3 (B5 ?_)))
 cases h
 exact B0 (.inr rfl) (C1 (B4 rfl) I6) (.refl _)
noncomputable def F5 (p1:(List Phase))(p2:Int)(p3:Int)(x1:Int):Option (Stp Int (Sum Unit Int)):=
  cond (decide (x1< (p1.length:Int))) ((F3 p1 x1).bind fun v1=>(A0d v1 p2 p3).bind fun v2=>cond v2 (some (.out (.inr x1))) (some (.go (w64 (x1+1))))) (some (.out (.inl ())))
noncomputable def G9 (p1:(List Phase))(p2:Int)(p3:Int):Option Int:=
  thenS (loop (F5 p1 p2 p3) 0) (fun _=>some (-1)) (fun r=>some r)
theorem A15 (p1:(List Phase))(p2:Int)(p3:Int)(r:Int)(h:G9 p1 p2 p3=some r):PCall Tryz.prog 237 [(.list (List.map A5k p1)),(.fn (.func 188) [] [(.bp [(i64 p2)] 0),(.bp [(i64 p3)] 0)])] (i64 r):=by
 refine E1 (fk Tryz.func237 Tryz.ntmps237 m0 (by with_unfolding_all rfl)) (nl rfl) ?_
 unfold G9 at h
 refine A9 (s0:=⟨T [(0,(.d _)),(1,(.d _))],G []⟩) (sbr rfl rfl) ?_
 refine lr (fun u1 hu1=>sv rfl (A3 (A7 (lr (fun u2 hu2=>sv rfl (sd rfl (F1 rfl) (sv rfl (A3 (js h fun z1 hz1 h=>F2 (fun s=> ∃(y1:Unit) (g1:Unit),z1= .inl y1∧Sb ⟨T [],G []⟩ s) ?_ ?_)))))))))
 refine A8 (F0 (F5 p1 p2 p3) (fun (x1:Int) (g2:Unit)=>⟨T [(0,(dl A5k p1)),(1,(.d (.fn (.func 188) [] [(.bp [(i64 p2)] 0),(.bp [(i64 p3)] 0)]))),(7,(di (p1.length:Int))),(8,(di x1))],G []⟩) 0 () _ hz1 (sbr rfl rfl) ?_)
 intro x1 g2 z2 hz2 ez2
 unfold F5 at hz2
 refine lr (fun u3 hu3=>sv rfl (A3 (A7 (cc rfl hz2 (fun c1 hz2=> ?_) (fun c1 hz2=> ?_)))))
 refine B3 (A7 (A8 (lr (fun u4 hu4=>sv rfl (sv rfl (A3 (lr (fun u5 hu5=>sv rfl (sv rfl (sv rfl (bs hz2 fun v1 hv1 hz2=>sd rfl (G6 rfl rfl hv1 rfl) (sd rfl (F7 rfl hv1 rfl rfl) (bs hz2 fun v2 hv2 hz2=>C4 rfl rfl A4 (B08 _ _ _ _ hv2) (.inl rfl) (A3 (cc rfl hz2 (fun c2 hz2=> ?_) (fun c2 hz2=> ?_))))))))))))))))
 refine lr (fun u6 hu6=>sv rfl (sv rfl (A3 (B5 ?_))))
 cases hz2
 obtain rfl:=ez2 _ rfl
 refine ⟨nofun,F8 ?_⟩
 rw [Sum.elim_inr]at h
 cases h
 exact B0 (.inr rfl) (C1 (B4 rfl) I6) (.refl _)
 refine B3 (H9 (B8 fun u7 hu7=>sv rfl (sv rfl (A3 (H4 ?_)))))
 cases hz2
 exact ⟨rfl,(),(sbr rfl rfl)⟩
 refine C6 rfl ?_
 cases hz2
 obtain rfl:=ez2 _ rfl
 refine ⟨nofun,C2 rfl (l_j ?_)⟩
 exact ⟨_,(),rfl,(sbr rfl rfl)⟩
 rintro _ ⟨y1,g1,rfl,q1⟩
 rw [Sum.elim_inl]at h
 refine A9 q1 (lr (fun u8 hu8=>sv rfl (A3 (B5 ?_))))
 cases h
 exact B0 (.inr rfl) (C1 (B4 rfl) I6) (.refl _)
noncomputable def F6 (p1:(List Phase))(p2:Int)(p3:Int):Option Bool:=
  (G9 p1 p2 p3).bind fun v1=>some (decide (v1≥0))
theorem A0j (p1:(List Phase))(p2:Int)(p3:Int)(r:Bool)(h:F6 p1 p2 p3=some r):PCall Tryz.prog 172 [(.list (List.map A5k p1)),(.fn (.func 188) [] [(.bp [(i64 p2)] 0),(.bp [(i64 p3)] 0)])] (bo r):=by
 refine E1 (fk Tryz.func172 Tryz.ntmps172 m0 (by with_unfolding_all rfl)) (nl rfl) ?_
 unfold F6 at h
 refine A9 (s0:=⟨T [(0,(.d _)),(1,(.d _))],G []⟩) (sbr rfl rfl) ?_
 refine lr (fun u1 hu1=>sv rfl (A3 (lr (fun u2 hu2=>sv rfl (sv rfl (bs h fun v1 hv1 h=>C4 rfl rfl A4 (A15 _ _ _ _ hv1) (.inl rfl) (sv rfl (sv rfl (A3 (B5 ?_))))))))))
 cases h
 exact B0 (.inr rfl) (C1 (B4 rfl) I6) (.refl _)
noncomputable def A1f (p1:Zone)(p2:Int)(p3:Int)(p4:Map):Option Bool:=
  ((cond (decide (p1.Signal_>0)) (F3 p4.Signals (w64 (p1.Signal_ - 1))) (some default))).bind fun v1=>((cond (decide (p1.Signal_>0)) (F6 v1.Phases p2 p3) (some default))).bind fun v2=>some ((decide (p1.Signal_>0))&&v2)
theorem A84 (p1:Zone)(p2:Int)(p3:Int)(p4:Map)(r:Bool)(h:A1f p1 p2 p3 p4=some r):PCall Tryz.prog 187 [(.agg [(.list (List.map R3 p1.Parts)),(i64 p1.Signal_)]),(i64 p2),(i64 p3),(.bp (A0s p4) 0)] (bo r):=by
 refine E1 (fk Tryz.func187 Tryz.ntmps187 m0 (by with_unfolding_all rfl)) (nl rfl) ?_
 unfold A1f at h
 refine A9 (s0:=⟨T [(0,(.d _)),(1,(.d _)),(2,(.d _)),(3,(.d _))],G []⟩) (sbr rfl rfl) ?_
 refine lr (fun u1 hu1=>sn rfl rfl (sn rfl rfl (sn rfl rfl (sv rfl (A3 (lr (fun u2 hu2=>sp rfl rfl (sl rfl (gq rfl) rfl (sv rfl (sv rfl (gt rfl (fun _=>rfl) ?_)))))))))))
 refine gt rfl (fun w2=>(by simp only [A6 w2];rfl)) ?_
 refine gp rfl (A4y rfl) (fun _=>rfl) (gt rfl (vl rfl (gq rfl) rfl) (gt rfl (vb rfl rfl rfl) (bs h fun v1 hv1 h=>gt rfl (fun w6=>(G6 (A6 w6) (A6 w6) (E8 w6 hv1) rfl)) ?_)))
 refine gt rfl (fun w7=>(by simp only [A6 w7];rfl)) ?_
 refine gt rfl (fun w8=>(E9 (A6 w8) (E8 w8 hv1) rfl)) (X7 _ (.fn _ _ _) rfl (A4y rfl) (fun _=>rfl) (bs h fun v2 hv2 h=> ?_))
 refine U1 _ (bo v2) (A4y rfl) (fun w10=>⟨_,[(dl A5k v1.Phases),(.fn (.func 188) [] [(.ptr (5,u1) 0),(.ptr (6,u1) 0)])],_,_,(by simp only [A6 w10];rfl),(rD (Q5 (C3d N0 (Q5 (B0w (gq rfl) (rD N0)) (Q5 (B0w G_hit (rD N0)) N0))) N0)),A4,A0j _ _ _ _ (E8 w10 hv2),(.inr rfl)⟩) ?_
 refine sa rfl rfl rfl (sv rfl (A3 (B5 ?_)))
 cases h
 exact B0 (.inr rfl) (C1 (B4 rfl) I6) (.refl _)
noncomputable def Y4 (p2:Int)(p3:Map)(x1:((List Clash)×Int))(v1:Zone)(v3:Int)(v4:List Int)(x3:((List Clash)×Int)):Option (Stp ((List Clash)×Int) (List Clash)):=
  cond (decide (x3.2< (v4.length:Int))) ((F3 v4 x3.2).bind fun v5=>(A1f v1 v3 v5 p3).bind fun v6=>cond v6 ((B18 x3.1 [(Clash.mk p2 x1.2 v3 v5)]).bind fun v7=>some (.go (v7,(w64 (x3.2+1))))) (some (.go (x3.1,(w64 (x3.2+1)))))) (some (.out x3.1))
noncomputable def Y5 (p2:Int)(p3:Map)(x1:((List Clash)×Int))(v1:Zone)(v2:(List Int))(x2:((List Clash)×Int)):Option (Stp ((List Clash)×Int) (List Clash)):=
  cond (decide (x2.2< (v2.length:Int))) ((F3 v2 x2.2).bind fun v3=>(C6k v2 (w64 (x2.2+1)) (v2.length:Int)).bind fun v4=>(loop (Y4 p2 p3 x1 v1 v3 v4) (x2.1,0)).bind fun y3=>some (.go (y3,(w64 (x2.2+1))))) (some (.out x2.1))
noncomputable def Y6 (p1:Map)(p2:Int)(p3:Map)(x1:((List Clash)×Int)):Option (Stp ((List Clash)×Int) (List Clash)):=
  cond (decide (x1.2< (p1.Zones.length:Int))) ((F3 p1.Zones x1.2).bind fun v1=>(A2p p1 v1).bind fun v2=>(loop (Y5 p2 p3 x1 v1 v2) (x1.1,0)).bind fun y2=>some (.go (y2,(w64 (x1.2+1))))) (some (.out x1.1))
noncomputable def A3o (p1:Map)(p2:Int)(p3:Map):Option (List Clash):=
  (loop (Y6 p1 p2 p3) ([],0)).bind fun y1=>some y1
theorem B5o (p1:Map)(p2:Int)(p3:Map)(r:(List Clash))(h:A3o p1 p2 p3=some r):PCall Tryz.prog 185 [(.agg (A0s p1)),(i64 p2),(.fn (.func 187) [] [(.bp (A0s p3) 0)])] (.list (List.map M8 r)):=by
 refine E1 (fk Tryz.func185 Tryz.ntmps185 (fun r=>if r==12 then [1006]else []) (by with_unfolding_all rfl)) (nl rfl) ?_
 unfold A3o at h
 refine A9 (s0:=⟨T [(0,(.d _)),(1,(.d _)),(2,(.d _))],G []⟩) (sbr rfl rfl) ?_
 refine lr (fun u1 hu1=>sn rfl rfl (sv rfl (A3 (A7 (lr (fun u2 hu2=>sp rfl rfl (sl rfl G_hit rfl (sd rfl (F1 rfl) (sv rfl (A3 (bs h fun y1 hy1 h=>F2 (fun s=> ∃g1:Nat,Sb ⟨T [(6,(oS y1 (53,g1)))],G [((53,g1),oB 93 4 M8 y1)]⟩ s) ?_ ?_)))))))))))
 refine A8 (F0 (Y6 p1 p2 p3) (fun (x1:((List Clash)×Int)) (g2:Nat)=>⟨T [(1,(di p2)),(2,(.d (.fn (.func 187) [] [(.bp (A0s p3) 0)]))),(3,(.ptr (3,u1) 0)),(6,(oS x1.1 (53,g2))),(15,(dl A0g p1.Zones)),(16,(di (p1.Zones.length:Int))),(17,(di x1.2))],G [((3,u1),some (.box 27 (A09 p1))),((53,g2),oB 93 4 M8 x1.1)]⟩) ([],0) 0 _ hy1 (J0 ⟨.of rfl, .of rfl, .of rfl, .of rfl, .of rfl, .of rfl, .of rfl,trivial⟩ (B6 G_hit (.of rfl) (A3f trivial))) ?_)
 intro x1 g2 z1 hz1 ez1
 unfold Y6 at hz1
 refine lr (fun u3 hu3=>sv rfl (A3 (A7 (cc rfl hz1 (fun c1 hz1=> ?_) (fun c1 hz1=> ?_)))))
 refine B3 (A7 (A8 (lr (fun u4 hu4=>sv rfl (bs hz1 fun v1 hv1 hz1=>sd rfl (G6 rfl rfl hv1 rfl) (sd rfl (F7 rfl hv1 rfl rfl) (sn rfl rfl (sv rfl (sst rfl G_hit [(dl R3 v1.Parts),(di v1.Signal_)] rfl (A3 (lr (fun u5 hu5=>sd rfl (B9 rfl (gq rfl) rfl rfl) (sd rfl (B9 rfl G_hit rfl rfl) (bs hz1 fun v2 hv2 hz1=>C4 rfl rfl A4 (A79 _ _ _ hv2) (.inl rfl) (sv rfl (A3 (lr (fun u6 hu6=>sv rfl (sd rfl (F1 rfl) (sv rfl (A3 (bs hz1 fun y2 hy2 hz1=>F2 (fun s=> ∃g3:Nat,Sb ⟨T [(1,(di p2)),(2,(.d (.fn (.func 187) [] [(.bp (A0s p3) 0)]))),(3,(.ptr (3,u1) 0)),(6,(oS y2 (53,g3))),(15,(dl A0g p1.Zones)),(16,(di (p1.Zones.length:Int))),(17,(di x1.2))],G [((3,u1),some (.box 27 (A09 p1))),((53,g3),oB 93 4 M8 y2)]⟩ s) ?_ ?_))))))))))))))))))))))
 refine A8 (F0 (Y5 p2 p3 x1 v1 v2) (fun (x2:((List Clash)×Int)) (g4:Nat)=>⟨T [(1,(di p2)),(2,(.d (.fn (.func 187) [] [(.bp (A0s p3) 0)]))),(3,(.ptr (3,u1) 0)),(6,(oS x2.1 (53,g4))),(7,(di x1.2)),(8,(.ptr (8,u4) 0)),(9,(dl A5 v2)),(15,(dl A0g p1.Zones)),(16,(di (p1.Zones.length:Int))),(17,(di x1.2)),(25,(dl A5 v2)),(26,(di (v2.length:Int))),(27,(di x2.2))],G [((3,u1),some (.box 27 (A09 p1))),((8,u4),some (.box 45 [(dl R3 v1.Parts),(di v1.Signal_)])),((53,g4),oB 93 4 M8 x2.1)]⟩) (x1.1,0) g2 _ hy2 (J0 ⟨.of rfl, .of rfl, .of rfl, .of rfl, .of rfl, .of rfl, .of rfl, .of rfl, .of rfl, .of rfl, .of rfl, .of rfl, .of rfl,trivial⟩ (sg rfl (B6 G_hit (.of rfl) (I7 (gq rfl) trivial)))) ?_)
 intro x2 g4 z2 hz2 ez2
 unfold Y5 at hz2
 refine lr (fun u7 hu7=>sv rfl (A3 (A7 (cc rfl hz2 (fun c2 hz2=> ?_) (fun c2 hz2=> ?_)))))
 refine B3 (A7 (A8 (lr (fun u8 hu8=>sv rfl (bs hz2 fun v3 hv3 hz2=>sd rfl (G6 rfl rfl hv3 rfl) (sd rfl (E9 rfl hv3 rfl) (sv rfl (sv rfl (A3 (lr (fun u9 hu9=>sv rfl (sv rfl (sv rfl (bs hz2 fun v4 hv4 hz2=>sd rfl (D04 rfl (fun _=>rfl) (D56 rfl) C4j hv4) (sd rfl (F1 rfl) (sv rfl (A3 (bs hz2 fun y3 hy3 hz2=>F2 (fun s=> ∃g5:Nat,Sb ⟨T [(1,(di p2)),(2,(.d (.fn (.func 187) [] [(.bp (A0s p3) 0)]))),(3,(.ptr (3,u1) 0)),(6,(oS y3 (53,g5))),(7,(di x1.2)),(8,(.ptr (8,u4) 0)),(9,(dl A5 v2)),(15,(dl A0g p1.Zones)),(16,(di (p1.Zones.length:Int))),(17,(di x1.2)),(25,(dl A5 v2)),(26,(di (v2.length:Int))),(27,(di x2.2))],G [((3,u1),some (.box 27 (A09 p1))),((8,u4),some (.box 45 [(dl R3 v1.Parts),(di v1.Signal_)])),((53,g5),oB 93 4 M8 y3)]⟩ s) ?_ ?_))))))))))))))))))
 refine A8 (F0 (Y4 p2 p3 x1 v1 v3 v4) (fun (x3:((List Clash)×Int)) (g6:Nat)=>⟨T [(1,(di p2)),(2,(.d (.fn (.func 187) [] [(.bp (A0s p3) 0)]))),(3,(.ptr (3,u1) 0)),(6,(oS x3.1 (53,g6))),(7,(di x1.2)),(8,(.ptr (8,u4) 0)),(9,(dl A5 v2)),(11,(di v3)),(15,(dl A0g p1.Zones)),(16,(di (p1.Zones.length:Int))),(17,(di x1.2)),(25,(dl A5 v2)),(26,(di (v2.length:Int))),(27,(di x2.2)),(35,(dl A5 v4)),(36,(di (v4.length:Int))),(37,(di x3.2))],G [((3,u1),some (.box 27 (A09 p1))),((8,u4),some (.box 45 [(dl R3 v1.Parts),(di v1.Signal_)])),((53,g6),oB 93 4 M8 x3.1)]⟩) (x2.1,0) g4 _ hy3 (J0 ⟨.of rfl, .of rfl, .of rfl, .of rfl, .of rfl, .of rfl, .of rfl, .of rfl, .of rfl, .of rfl, .of rfl, .of rfl, .of rfl, .of rfl, .of rfl, .of rfl, .of rfl,trivial⟩ (B6 G_hit (.of rfl) (sg rfl (I7 (gq rfl) trivial)))) ?_)
 intro x3 g6 z3 hz3 ez3
 unfold Y4 at hz3
 refine lr (fun u10 hu10=>sv rfl (A3 (A7 (cc rfl hz3 (fun c3 hz3=> ?_) (fun c3 hz3=> ?_)))))
 refine B3 (A7 (A8 (lr (fun u11 hu11=>bs hz3 fun v5 hv5 hz3=>sd rfl (G6 rfl rfl hv5 rfl) (sd rfl (E9 rfl hv5 rfl) (sv rfl (A3 (lr (fun u12 hu12=>sv rfl (sd rfl (B9 rfl (gq rfl) rfl rfl) (sv rfl (sv rfl (bs hz3 fun v6 hv6 hz3=>C4 rfl rfl A4 (A84 _ _ _ _ _ hv6) (.inl rfl) (A3 (cc rfl hz3 (fun c4 hz3=> ?_) (fun c4 hz3=> ?_))))))))))))))))
 refine A9 (s0:=⟨T [(1,(di p2)),(2,(.d (.fn (.func 187) [] [(.bp (A0s p3) 0)]))),(3,(.ptr (3,u1) 0)),(6,(oS x3.1 (53,g6))),(7,(di x1.2)),(8,(.ptr (8,u4) 0)),(9,(dl A5 v2)),(11,(di v3)),(13,(di v5)),(15,(dl A0g p1.Zones)),(16,(di (p1.Zones.length:Int))),(17,(di x1.2)),(25,(dl A5 v2)),(26,(di (v2.length:Int))),(27,(di x2.2)),(35,(dl A5 v4)),(36,(di (v4.length:Int))),(37,(di x3.2))],G [((3,u1),some (.box 27 (A09 p1))),((53,g6),oB 93 4 M8 x3.1),((8,u4),some (.box 45 [(dl R3 v1.Parts),(di v1.Signal_)]))]⟩) (J0 ⟨.of rfl, .of rfl, .of rfl, .of rfl, .of rfl, .of rfl, .of rfl, .of rfl, .of rfl, .of rfl, .of rfl, .of rfl, .of rfl, .of rfl, .of rfl, .of rfl, .of rfl, .of rfl,trivial⟩ (B6 G_hit (.of rfl) (I7 (gq rfl) (sg rfl trivial)))) ?_
 refine B8 fun u13 hu13=>F4 (oS x3.1 (53,g6)) rfl rfl (sv rfl (sv rfl (sv rfl (sv rfl (sv rfl (F4 (dl M8 [(Clash.mk p2 x1.2 v3 v5)]) rfl rfl (bs hz3 fun v7 hv7 hz3=>X6 M8 (53,g6) x3.1 (Clash.mk p2 x1.2 v3 v5) [] _ (S7 (fun _=>rfl)) rfl (gq rfl) hv7 (ss rfl (A3 (H9 (A9 (s0:=⟨T [(1,(.d _)),(2,(.d _)),(3,(.ptr _ _)),(6,(.sl _)),(7,(.d _)),(8,(.ptr _ _)),(9,(.d _)),(11,(.d _)),(15,(.d _)),(16,(.d _)),(17,(.d _)),(25,(.d _)),(26,(.d _)),(27,(.d _)),(35,(.d _)),(36,(.d _)),(37,(.d _))],G [((3,u1),some (.box 27 _)),((53,u13),some _),((8,u4),some (.box 45 _))]⟩) (sbr rfl rfl) ?_)))))))))))
 refine B8 fun u14 hu14=>sv rfl (sv rfl (A3 (H4 ?_)))
 cases hz3
 exact ⟨rfl,u13,(J0 ⟨.of rfl, .of rfl, .of rfl,(.of (A93 (A3e hv7)).symm), .of rfl, .of rfl, .of rfl, .of rfl, .of rfl, .of rfl, .of rfl, .of rfl, .of rfl, .of rfl, .of rfl, .of rfl, .of rfl,trivial⟩ (B6 G_hit (.of rfl) (sg rfl (A36 (gq rfl) trivial))))⟩
 refine B3 (H9 (A9 (s0:=⟨T [(1,(di p2)),(2,(.d (.fn (.func 187) [] [(.bp (A0s p3) 0)]))),(3,(.ptr (3,u1) 0)),(6,(oS x3.1 (53,g6))),(7,(di x1.2)),(8,(.ptr (8,u4) 0)),(9,(dl A5 v2)),(11,(di v3)),(15,(dl A0g p1.Zones)),(16,(di (p1.Zones.length:Int))),(17,(di x1.2)),(25,(dl A5 v2)),(26,(di (v2.length:Int))),(27,(di x2.2)),(35,(dl A5 v4)),(36,(di (v4.length:Int))),(37,(di x3.2))],G [((3,u1),some (.box 27 (A09 p1))),((53,g6),oB 93 4 M8 x3.1),((8,u4),some (.box 45 [(dl R3 v1.Parts),(di v1.Signal_)]))]⟩) (J0 ⟨.of rfl, .of rfl, .of rfl, .of rfl, .of rfl, .of rfl, .of rfl, .of rfl, .of rfl, .of rfl, .of rfl, .of rfl, .of rfl, .of rfl, .of rfl, .of rfl, .of rfl,trivial⟩ (B6 G_hit (.of rfl) (I7 (gq rfl) (sg rfl trivial)))) ?_))
 refine B8 fun u15 hu15=>sv rfl (sv rfl (A3 (H4 ?_)))
 cases hz3
 exact ⟨rfl,g6,(J0 ⟨.of rfl, .of rfl, .of rfl, .of rfl, .of rfl, .of rfl, .of rfl, .of rfl, .of rfl, .of rfl, .of rfl, .of rfl, .of rfl, .of rfl, .of rfl, .of rfl, .of rfl,trivial⟩ (B6 G_hit (.of rfl) (sg rfl (I7 (gq rfl) trivial))))⟩
 refine C6 rfl ?_
 cases hz3
 obtain rfl:=ez3 _ rfl
 refine ⟨nofun,C2 rfl (l_j ?_)⟩
 exact ⟨g6,(J0 ⟨.of rfl, .of rfl, .of rfl, .of rfl, .of rfl, .of rfl, .of rfl, .of rfl, .of rfl, .of rfl, .of rfl, .of rfl, .of rfl,trivial⟩ (B6 G_hit (.of rfl) (sg rfl (I7 (gq rfl) trivial))))⟩
 rintro _ ⟨g5,q1⟩
 refine H9 (A9 q1 (B8 fun u16 hu16=>sv rfl (sv rfl (A3 (H4 ?_)))))
 cases hz2
 exact ⟨rfl,g5,(J0 ⟨.of rfl, .of rfl, .of rfl, .of rfl, .of rfl, .of rfl, .of rfl, .of rfl, .of rfl, .of rfl, .of rfl, .of rfl, .of rfl,trivial⟩ (B6 G_hit (.of rfl) (sg rfl (I7 (gq rfl) trivial))))⟩
 refine C6 rfl ?_
 cases hz2
 obtain rfl:=ez2 _ rfl
 refine ⟨nofun,C2 rfl (l_j ?_)⟩
 exact ⟨g4,(J0 ⟨.of rfl, .of rfl, .of rfl, .of rfl, .of rfl, .of rfl, .of rfl,trivial⟩ (B6 G_hit (.of rfl) (I7 (gq rfl) trivial)))⟩
 rintro _ ⟨g3,q2⟩
 refine H9 (A9 q2 (B8 fun u17 hu17=>sv rfl (sv rfl (A3 (H4 ?_)))))
 cases hz1
 exact ⟨rfl,g3,(J0 ⟨.of rfl, .of rfl, .of rfl, .of rfl, .of rfl, .of rfl, .of rfl,trivial⟩ (B6 G_hit (.of rfl) (I7 (gq rfl) trivial)))⟩
 refine C6 rfl ?_
 cases hz1
 obtain rfl:=ez1 _ rfl
 refine ⟨nofun,C2 rfl (l_j ?_)⟩
 exact ⟨g2,(J0 ⟨.of rfl,trivial⟩ (I7 (gq rfl) trivial))⟩
 rintro _ ⟨g1,q3⟩
 refine A9 q3 (lr (fun u18 hu18=>F4 (oS y1 (53,g1)) rfl rfl (F4 (oS y1 (53,g1)) rfl rfl (A3 (B5 ?_)))))
 cases h
 exact B0 (.inr rfl) (C1 (B4 rfl) (B1b G_hit)) B1a
noncomputable def N9 (p2:Int)(p3:Map)(x1:((List Clash)×Int))(v1:Zone)(v3:Int)(v4:List Int)(x3:((List Clash)×Int)):Option (Stp ((List Clash)×Int) (List Clash)):=
  cond (decide (x3.2< (v4.length:Int))) ((F3 v4 x3.2).bind fun v5=>(A1f v1 v3 v5 p3).bind fun v6=>cond v6 ((B18 x3.1 [(Clash.mk p2 x1.2 v3 v5)]).bind fun v7=>some (.go (v7,(w64 (x3.2+1))))) (some (.go (x3.1,(w64 (x3.2+1)))))) (some (.out x3.1))
noncomputable def O0 (p2:Int)(p3:Map)(x1:((List Clash)×Int))(v1:Zone)(v2:(List Int))(x2:((List Clash)×Int)):Option (Stp ((List Clash)×Int) (List Clash)):=
  cond (decide (x2.2< (v2.length:Int))) ((F3 v2 x2.2).bind fun v3=>(C6k v2 (w64 (x2.2+1)) (v2.length:Int)).bind fun v4=>(loop (N9 p2 p3 x1 v1 v3 v4) (x2.1,0)).bind fun y3=>some (.go (y3,(w64 (x2.2+1))))) (some (.out x2.1))
noncomputable def O1 (p1:Map)(p2:Int)(p3:Map)(x1:((List Clash)×Int)):Option (Stp ((List Clash)×Int) (List Clash)):=
  cond (decide (x1.2< (p1.Zones.length:Int))) ((F3 p1.Zones x1.2).bind fun v1=>(A2p p1 v1).bind fun v2=>(loop (O0 p2 p3 x1 v1 v2) (x1.1,0)).bind fun y2=>some (.go (y2,(w64 (x1.2+1))))) (some (.out x1.1))
noncomputable def Q9 (p1:Map)(p2:Int)(p3:Map):Option (List Clash):=
  (loop (O1 p1 p2 p3) ([],0)).bind fun y1=>some y1
theorem A6u (p1:Map)(p2:Int)(p3:Map)(r:(List Clash))(h:Q9 p1 p2 p3=some r):MCall Tryz.prog 185 [(.d (.agg (A0s p1))),(di p2),(.fn (.func 187) [] [(.ptr (900000,0) 0)])] [(.box 27 (A09 p3))] (dl M8 r) [some (.box 27 (A09 p3))] []:=by
 refine A95 (fk Tryz.func185 Tryz.ntmps185 (fun r=>if r==12 then [1006]else []) (by with_unfolding_all rfl)) rfl (nl rfl) ?_
 unfold Q9 at h
 refine A9 (s0:=⟨T [(0,(.d _)),(1,(.d _)),(2,(.fn _ _ _))],G [((900000,0),some (.box 27 _))]⟩) (sbr rfl rfl) ?_
 refine lr (fun u1 hu1=>sn rfl rfl (sv rfl (A3 (A7 (lr (fun u2 hu2=>sp rfl rfl (sl rfl G_hit rfl (sd rfl (F1 rfl) (sv rfl (A3 (bs h fun y1 hy1 h=>F2 (fun s=> ∃g1:Nat,Sb ⟨T [(2,(.fn (.func 187) [] [(.ptr (900000,0) 0)])),(6,(oS y1 (53,g1)))],G [((900000,0),some (.box 27 (A09 p3))),((53,g1),oB 93 4 M8 y1)]⟩ s) ?_ ?_)))))))))))
 refine A8 (F0 (O1 p1 p2 p3) (fun (x1:((List Clash)×Int)) (g2:Nat)=>⟨T [(1,(di p2)),(2,(.fn (.func 187) [] [(.ptr (900000,0) 0)])),(3,(.ptr (3,u1) 0)),(6,(oS x1.1 (53,g2))),(15,(dl A0g p1.Zones)),(16,(di (p1.Zones.length:Int))),(17,(di x1.2))],G [((900000,0),some (.box 27 (A09 p3))),((3,u1),some (.box 27 (A09 p1))),((53,g2),oB 93 4 M8 x1.1)]⟩) ([],0) 0 _ hy1 (J0 ⟨.of rfl, .of rfl, .of rfl, .of rfl, .of rfl, .of rfl, .of rfl,trivial⟩ (sg rfl (B6 G_hit (.of rfl) (A3f trivial)))) ?_)
 intro x1 g2 z1 hz1 ez1
 unfold O1 at hz1
 refine lr (fun u3 hu3=>sv rfl (A3 (A7 (cc rfl hz1 (fun c1 hz1=> ?_) (fun c1 hz1=> ?_)))))
 refine B3 (A7 (A8 (lr (fun u4 hu4=>sv rfl (bs hz1 fun v1 hv1 hz1=>sd rfl (G6 rfl rfl hv1 rfl) (sd rfl (F7 rfl hv1 rfl rfl) (sn rfl rfl (sv rfl (sst rfl G_hit [(dl R3 v1.Parts),(di v1.Signal_)] rfl (A3 (lr (fun u5 hu5=>sd rfl (B9 rfl (gq rfl) rfl rfl) (sd rfl (B9 rfl G_hit rfl rfl) (bs hz1 fun v2 hv2 hz1=>C4 rfl rfl A4 (A79 _ _ _ hv2) (.inl rfl) (sv rfl (A3 (lr (fun u6 hu6=>sv rfl (sd rfl (F1 rfl) (sv rfl (A3 (bs hz1 fun y2 hy2 hz1=>F2 (fun s=> ∃g3:Nat,Sb ⟨T [(1,(di p2)),(2,(.fn (.func 187) [] [(.ptr (900000,0) 0)])),(3,(.ptr (3,u1) 0)),(6,(oS y2 (53,g3))),(15,(dl A0g p1.Zones)),(16,(di (p1.Zones.length:Int))),(17,(di x1.2))],G [((900000,0),some (.box 27 (A09 p3))),((3,u1),some (.box 27 (A09 p1))),((53,g3),oB 93 4 M8 y2)]⟩ s) ?_ ?_))))))))))))))))))))))
 refine A8 (F0 (O0 p2 p3 x1 v1 v2) (fun (x2:((List Clash)×Int)) (g4:Nat)=>⟨T [(1,(di p2)),(2,(.fn (.func 187) [] [(.ptr (900000,0) 0)])),(3,(.ptr (3,u1) 0)),(6,(oS x2.1 (53,g4))),(7,(di x1.2)),(8,(.ptr (8,u4) 0)),(9,(dl A5 v2)),(15,(dl A0g p1.Zones)),(16,(di (p1.Zones.length:Int))),(17,(di x1.2)),(25,(dl A5 v2)),(26,(di (v2.length:Int))),(27,(di x2.2))],G [((900000,0),some (.box 27 (A09 p3))),((3,u1),some (.box 27 (A09 p1))),((8,u4),some (.box 45 [(dl R3 v1.Parts),(di v1.Signal_)])),((53,g4),oB 93 4 M8 x2.1)]⟩) (x1.1,0) g2 _ hy2 (J0 ⟨.of rfl, .of rfl, .of rfl, .of rfl, .of rfl, .of rfl, .of rfl, .of rfl, .of rfl, .of rfl, .of rfl, .of rfl, .of rfl,trivial⟩ (sg rfl (sg rfl (B6 G_hit (.of rfl) (I7 (gq rfl) trivial))))) ?_)
 intro x2 g4 z2 hz2 ez2
 unfold O0 at hz2
 refine lr (fun u7 hu7=>sv rfl (A3 (A7 (cc rfl hz2 (fun c2 hz2=> ?_) (fun c2 hz2=> ?_)))))
 refine B3 (A7 (A8 (lr (fun u8 hu8=>sv rfl (bs hz2 fun v3 hv3 hz2=>sd rfl (G6 rfl rfl hv3 rfl) (sd rfl (E9 rfl hv3 rfl) (sv rfl (sv rfl (A3 (lr (fun u9 hu9=>sv rfl (sv rfl (sv rfl (bs hz2 fun v4 hv4 hz2=>sd rfl (D04 rfl (fun _=>rfl) (D56 rfl) C4j hv4) (sd rfl (F1 rfl) (sv rfl (A3 (bs hz2 fun y3 hy3 hz2=>F2 (fun s=> ∃g5:Nat,Sb ⟨T [(1,(di p2)),(2,(.fn (.func 187) [] [(.ptr (900000,0) 0)])),(3,(.ptr (3,u1) 0)),(6,(oS y3 (53,g5))),(7,(di x1.2)),(8,(.ptr (8,u4) 0)),(9,(dl A5 v2)),(15,(dl A0g p1.Zones)),(16,(di (p1.Zones.length:Int))),(17,(di x1.2)),(25,(dl A5 v2)),(26,(di (v2.length:Int))),(27,(di x2.2))],G [((900000,0),some (.box 27 (A09 p3))),((3,u1),some (.box 27 (A09 p1))),((8,u4),some (.box 45 [(dl R3 v1.Parts),(di v1.Signal_)])),((53,g5),oB 93 4 M8 y3)]⟩ s) ?_ ?_))))))))))))))))))
 refine A8 (F0 (N9 p2 p3 x1 v1 v3 v4) (fun (x3:((List Clash)×Int)) (g6:Nat)=>⟨T [(1,(di p2)),(2,(.fn (.func 187) [] [(.ptr (900000,0) 0)])),(3,(.ptr (3,u1) 0)),(6,(oS x3.1 (53,g6))),(7,(di x1.2)),(8,(.ptr (8,u4) 0)),(9,(dl A5 v2)),(11,(di v3)),(15,(dl A0g p1.Zones)),(16,(di (p1.Zones.length:Int))),(17,(di x1.2)),(25,(dl A5 v2)),(26,(di (v2.length:Int))),(27,(di x2.2)),(35,(dl A5 v4)),(36,(di (v4.length:Int))),(37,(di x3.2))],G [((900000,0),some (.box 27 (A09 p3))),((3,u1),some (.box 27 (A09 p1))),((8,u4),some (.box 45 [(dl R3 v1.Parts),(di v1.Signal_)])),((53,g6),oB 93 4 M8 x3.1)]⟩) (x2.1,0) g4 _ hy3 (J0 ⟨.of rfl, .of rfl, .of rfl, .of rfl, .of rfl, .of rfl, .of rfl, .of rfl, .of rfl, .of rfl, .of rfl, .of rfl, .of rfl, .of rfl, .of rfl, .of rfl, .of rfl,trivial⟩ (B6 G_hit (.of rfl) (sg rfl (sg rfl (I7 (gq rfl) trivial))))) ?_)
 intro x3 g6 z3 hz3 ez3
 unfold N9 at hz3
 refine lr (fun u10 hu10=>sv rfl (A3 (A7 (cc rfl hz3 (fun c3 hz3=> ?_) (fun c3 hz3=> ?_)))))
 refine B3 (A7 (A8 (lr (fun u11 hu11=>bs hz3 fun v5 hv5 hz3=>sd rfl (G6 rfl rfl hv5 rfl) (sd rfl (E9 rfl hv5 rfl) (sv rfl (A3 (lr (fun u12 hu12=>F4 (.fn _ _ _) rfl rfl (sd rfl (B9 rfl (gq rfl) rfl rfl) (sv rfl (sv rfl (bs hz3 fun v6 hv6 hz3=>C4 rfl (rD (rD (rD (Q5 (B0w G_hit (rD (rD (rD (rD (rD N0)))))) N0)))) A4 (A84 _ _ _ _ _ hv6) (.inr rfl) (A3 (cc rfl hz3 (fun c4 hz3=> ?_) (fun c4 hz3=> ?_))))))))))))))))
 refine A9 (s0:=⟨T [(1,(di p2)),(2,(.fn (.func 187) [] [(.ptr (900000,0) 0)])),(3,(.ptr (3,u1) 0)),(6,(oS x3.1 (53,g6))),(7,(di x1.2)),(8,(.ptr (8,u4) 0)),(9,(dl A5 v2)),(11,(di v3)),(13,(di v5)),(15,(dl A0g p1.Zones)),(16,(di (p1.Zones.length:Int))),(17,(di x1.2)),(25,(dl A5 v2)),(26,(di (v2.length:Int))),(27,(di x2.2)),(35,(dl A5 v4)),(36,(di (v4.length:Int))),(37,(di x3.2))],G [((900000,0),some (.box 27 (A09 p3))),((3,u1),some (.box 27 (A09 p1))),((53,g6),oB 93 4 M8 x3.1),((8,u4),some (.box 45 [(dl R3 v1.Parts),(di v1.Signal_)]))]⟩) (J0 ⟨.of rfl, .of rfl, .of rfl, .of rfl, .of rfl, .of rfl, .of rfl, .of rfl, .of rfl, .of rfl, .of rfl, .of rfl, .of rfl, .of rfl, .of rfl, .of rfl, .of rfl, .of rfl,trivial⟩ (B6 G_hit (.of rfl) (sg rfl (I7 (gq rfl) (sg rfl trivial))))) ?_
 refine B8 fun u13 hu13=>F4 (oS x3.1 (53,g6)) rfl rfl (sv rfl (sv rfl (sv rfl (sv rfl (sv rfl (F4 (dl M8 [(Clash.mk p2 x1.2 v3 v5)]) rfl rfl (bs hz3 fun v7 hv7 hz3=>X6 M8 (53,g6) x3.1 (Clash.mk p2 x1.2 v3 v5) [] _ (S7 (fun _=>rfl)) rfl (gq rfl) hv7 (ss rfl (A3 (H9 (A9 (s0:=⟨T [(1,(.d _)),(2,(.fn _ _ _)),(3,(.ptr _ _)),(6,(.sl _)),(7,(.d _)),(8,(.ptr _ _)),(9,(.d _)),(11,(.d _)),(15,(.d _)),(16,(.d _)),(17,(.d _)),(25,(.d _)),(26,(.d _)),(27,(.d _)),(35,(.d _)),(36,(.d _)),(37,(.d _))],G [((900000,0),some (.box 27 _)),((3,u1),some (.box 27 _)),((53,u13),some _),((8,u4),some (.box 45 _))]⟩) (sbr rfl rfl) ?_)))))))))))
 refine B8 fun u14 hu14=>sv rfl (sv rfl (A3 (H4 ?_)))
 cases hz3
 exact ⟨rfl,u13,(J0 ⟨.of rfl, .of rfl, .of rfl,(.of (A93 (A3e hv7)).symm), .of rfl, .of rfl, .of rfl, .of rfl, .of rfl, .of rfl, .of rfl, .of rfl, .of rfl, .of rfl, .of rfl, .of rfl, .of rfl,trivial⟩ (B6 G_hit (.of rfl) (sg rfl (sg rfl (A36 (gq rfl) trivial)))))⟩
 refine B3 (H9 (A9 (s0:=⟨T [(1,(di p2)),(2,(.fn (.func 187) [] [(.ptr (900000,0) 0)])),(3,(.ptr (3,u1) 0)),(6,(oS x3.1 (53,g6))),(7,(di x1.2)),(8,(.ptr (8,u4) 0)),(9,(dl A5 v2)),(11,(di v3)),(15,(dl A0g p1.Zones)),(16,(di (p1.Zones.length:Int))),(17,(di x1.2)),(25,(dl A5 v2)),(26,(di (v2.length:Int))),(27,(di x2.2)),(35,(dl A5 v4)),(36,(di (v4.length:Int))),(37,(di x3.2))],G [((900000,0),some (.box 27 (A09 p3))),((3,u1),some (.box 27 (A09 p1))),((53,g6),oB 93 4 M8 x3.1),((8,u4),some (.box 45 [(dl R3 v1.Parts),(di v1.Signal_)]))]⟩) (J0 ⟨.of rfl, .of rfl, .of rfl, .of rfl, .of rfl, .of rfl, .of rfl, .of rfl, .of rfl, .of rfl, .of rfl, .of rfl, .of rfl, .of rfl, .of rfl, .of rfl, .of rfl,trivial⟩ (B6 G_hit (.of rfl) (sg rfl (I7 (gq rfl) (sg rfl trivial))))) ?_))
 refine B8 fun u15 hu15=>sv rfl (sv rfl (A3 (H4 ?_)))
 cases hz3
 exact ⟨rfl,g6,(J0 ⟨.of rfl, .of rfl, .of rfl, .of rfl, .of rfl, .of rfl, .of rfl, .of rfl, .of rfl, .of rfl, .of rfl, .of rfl, .of rfl, .of rfl, .of rfl, .of rfl, .of rfl,trivial⟩ (B6 G_hit (.of rfl) (sg rfl (sg rfl (I7 (gq rfl) trivial)))))⟩
 refine C6 rfl ?_
 cases hz3
 obtain rfl:=ez3 _ rfl
 refine ⟨nofun,C2 rfl (l_j ?_)⟩
 exact ⟨g6,(J0 ⟨.of rfl, .of rfl, .of rfl, .of rfl, .of rfl, .of rfl, .of rfl, .of rfl, .of rfl, .of rfl, .of rfl, .of rfl, .of rfl,trivial⟩ (B6 G_hit (.of rfl) (sg rfl (sg rfl (I7 (gq rfl) trivial)))))⟩
 rintro _ ⟨g5,q1⟩
 refine H9 (A9 q1 (B8 fun u16 hu16=>sv rfl (sv rfl (A3 (H4 ?_)))))
 cases hz2
 exact ⟨rfl,g5,(J0 ⟨.of rfl, .of rfl, .of rfl, .of rfl, .of rfl, .of rfl, .of rfl, .of rfl, .of rfl, .of rfl, .of rfl, .of rfl, .of rfl,trivial⟩ (B6 G_hit (.of rfl) (sg rfl (sg rfl (I7 (gq rfl) trivial)))))⟩
 refine C6 rfl ?_
 cases hz2
 obtain rfl:=ez2 _ rfl
 refine ⟨nofun,C2 rfl (l_j ?_)⟩
 exact ⟨g4,(J0 ⟨.of rfl, .of rfl, .of rfl, .of rfl, .of rfl, .of rfl, .of rfl,trivial⟩ (B6 G_hit (.of rfl) (sg rfl (I7 (gq rfl) trivial))))⟩
 rintro _ ⟨g3,q2⟩
 refine H9 (A9 q2 (B8 fun u17 hu17=>sv rfl (sv rfl (A3 (H4 ?_)))))
 cases hz1
 exact ⟨rfl,g3,(J0 ⟨.of rfl, .of rfl, .of rfl, .of rfl, .of rfl, .of rfl, .of rfl,trivial⟩ (B6 G_hit (.of rfl) (sg rfl (I7 (gq rfl) trivial))))⟩
 refine C6 rfl ?_
 cases hz1
 obtain rfl:=ez1 _ rfl
 refine ⟨nofun,C2 rfl (l_j ?_)⟩
 exact ⟨g2,(J0 ⟨.of rfl, .of rfl,trivial⟩ (B6 G_hit (.of rfl) (I7 (gq rfl) trivial)))⟩
 rintro _ ⟨g1,q3⟩
 refine A9 q3 (lr (fun u18 hu18=>F4 (oS y1 (53,g1)) rfl rfl (F4 (oS y1 (53,g1)) rfl rfl (A3 (B5 ?_)))))
 cases h
 exact A8y (.inr rfl) [(53,g1)] (C23 (B4 rfl) (B1b (D4m (.head _) (gq rfl)))) B1a ⟨⟨_,_,_,G_hit,(C7w rfl L0),rfl,B44,rfl⟩,trivial⟩
noncomputable def A6v (p1:Map):Option (List Clash):=
  (Q9 p1 4 p1).bind fun v1=>some v1
theorem B7j (p1:Map)(r:(List Clash))(h:A6v p1=some r):PCall Tryz.prog 80 [(.agg (A0s p1))] (.list (List.map M8 r)):=by
 refine E1 (fk Tryz.func80 Tryz.ntmps80 (fun r=>if r==1 then [1001002]else []) (by with_unfolding_all rfl)) (nl rfl) ?_
 unfold A6v at h
 refine A9 (s0:=⟨T [(0,(.d _))],G []⟩) (sbr rfl rfl) ?_
 refine lr (fun u1 hu1=>sn rfl rfl (sv rfl (A3 (lr (fun u2 hu2=>sd rfl (B9 rfl G_hit rfl rfl) (F4 (.fn _ _ _) rfl rfl (bs h fun v1 hv1 h=>C1z (v:= .d (.list (List.map M8 v1))) (us:= [(1,u1)]) (C2r (A6u _ _ _ _ hv1) [(1,u1)] [(1,u1)] _ (((1,u1),some (.box 27 (A09 p1)))::_) rfl A4l (F9 A8m (F9 A8m (F9 (D2t rfl (F9 (B78 G_hit rfl) A5j)) A5j))) (V3 G_hit A21) ⟨⟨_,G_hit, .of rfl⟩,trivial⟩ (fun _ h=>h) nd1 rfl rfl rfl) (sv rfl (A3 (B5 ?_))))))))))
 cases h
 exact B0 (.inr rfl) (C1 (B4 rfl) I6) (.refl _)
noncomputable def B1l (p1:Map):Option Bool:=
  (A1r p1).bind fun v1=>((cond (v1==0) (A6s p1) (some default))).bind fun v2=>((cond (v1==0) (A6t p1) (some default))).bind fun v3=>((cond (v1==0) (A83 p1) (some default))).bind fun v4=>((cond (v1==0) (A6v p1) (some default))).bind fun v5=>some ((v1==0)&& ((w64 ((w64 ((w64 ((v2.length:Int)+ (v3.length:Int)))+ (v4.length:Int)))+ (v5.length:Int)))==0))
theorem C29 (p1:Map)(r:Bool)(h:B1l p1=some r):PCall Tryz.prog 18 [(.agg (A0s p1))] (bo r):=by
 refine E1 (fk Tryz.func18 Tryz.ntmps18 m0 (by with_unfolding_all rfl)) (nl rfl) ?_
 unfold B1l at h
 refine A9 (s0:=⟨T [(0,(.d _))],G []⟩) (sbr rfl rfl) ?_
 refine lr (fun u1 hu1=>sn rfl rfl (sv rfl (A3 (A7 (N6 rfl fun u2 hu2=>sd rfl (B9 rfl G_hit rfl rfl) (bs h fun v1 hv1 h=>C4 rfl rfl A4 (A6g _ _ hv1) (.inl rfl) (sv rfl (sv rfl (gt rfl (fun w1=>(B9 rfl G_hit rfl rfl)) (bs h fun v2 hv2 h=> ?_))))))))))
 refine U1 _ (.list (List.map M8 v2)) (A4y rfl) (fun w2=>⟨_,[(.d (.agg (A0s p1)))],_,_,(by simp only [A6 w2];rfl),rfl,A4,B7h _ _ (E8 w2 hv2),(.inl rfl)⟩) ?_
 refine gt rfl (fun w3=>(F1 (A6 w3))) (gt rfl (fun w4=>(B9 rfl G_hit rfl rfl)) (bs h fun v3 hv3 h=> ?_))
 refine U1 _ (.list (List.map M8 v3)) (A4y rfl) (fun w5=>⟨_,[(.d (.agg (A0s p1)))],_,_,(by simp only [A6 w5];rfl),rfl,A4,B7i _ _ (E8 w5 hv3),(.inl rfl)⟩) ?_
 refine gt rfl (fun w6=>(F1 (A6 w6))) (gt rfl (fun w7=>(A1q (A6 w7) (A6 w7) rfl)) (gt rfl (fun w8=>(B9 rfl G_hit rfl rfl)) (bs h fun v4 hv4 h=> ?_)))
 refine U1 _ (.list (List.map M8 v4)) (A4y rfl) (fun w9=>⟨_,[(.d (.agg (A0s p1)))],_,_,(by simp only [A6 w9];rfl),rfl,A4,B8u _ _ (E8 w9 hv4),(.inl rfl)⟩) ?_
 refine gt rfl (fun w10=>(F1 (A6 w10))) (gt rfl (fun w11=>(A1q (A6 w11) (A6 w11) rfl)) (gt rfl (fun w12=>(B9 rfl G_hit rfl rfl)) (bs h fun v5 hv5 h=> ?_)))
 refine U1 _ (.list (List.map M8 v5)) (A4y rfl) (fun w13=>⟨_,[(.d (.agg (A0s p1)))],_,_,(by simp only [A6 w13];rfl),rfl,A4,B7j _ _ (E8 w13 hv5),(.inl rfl)⟩) ?_
 refine gt rfl (fun w14=>(F1 (A6 w14))) (gt rfl (fun w15=>(A1q (A6 w15) (A6 w15) rfl)) (gt rfl (vb rfl rfl rfl) (sa rfl rfl rfl (sv rfl (A3 (B5 ?_))))))
 cases h
 exact B0 (.inr rfl) (C1 (B4 rfl) I6) (.refl _)
noncomputable def B28 (p1:Map)(p2:Int):Option Bool:=
  ((cond ((decide (p2≥0))&& (decide (p2< (p1.Lanes.length:Int)))) (A1r p1) (some default))).bind fun v1=>some (((decide (p2≥0))&& (decide (p2< (p1.Lanes.length:Int))))&& (v1==0))
theorem B7k (p1:Map)(p2:Int)(r:Bool)(h:B28 p1 p2=some r):PCall Tryz.prog 159 [(.agg (A0s p1)),(i64 p2)] (bo r):=by
 refine E1 (fk Tryz.func159 Tryz.ntmps159 m0 (by with_unfolding_all rfl)) (nl rfl) ?_
 unfold B28 at h
 refine A9 (s0:=⟨T [(0,(.d _)),(1,(.d _))],G []⟩) (sbr rfl rfl) ?_
 refine lr (fun u1 hu1=>sn rfl rfl (sv rfl (A3 (lr (fun u2 hu2=>sv rfl (sv rfl (sv rfl (gt rfl (fun _=>rfl) (gp rfl (A4y rfl) (fun _=>rfl) (gt rfl (vl rfl G_hit rfl) (gt rfl (fun w4=>(F1 (A6 w4))) (gt rfl (fun w5=>(A1q (A6 w5) (A6 w5) rfl)) (sa rfl rfl rfl (sv rfl (gt rfl (fun w6=>(B9 rfl G_hit rfl rfl)) (bs h fun v1 hv1 h=> ?_))))))))))))))))
 refine U1 _ (i64 v1) (A4y rfl) (fun w7=>⟨_,[(.d (.agg (A0s p1)))],_,_,(by simp only [A6 w7];rfl),rfl,A4,A6g _ _ (E8 w7 hv1),(.inl rfl)⟩) ?_
 refine gt rfl (vb rfl rfl rfl) (sa rfl rfl rfl (sv rfl (A3 (B5 ?_))))
 cases h
 exact B0 (.inr rfl) (C1 (B4 rfl) I6) (.refl _)
noncomputable def A6w (p1:Map)(p2:Int):Option Int:=
  (B28 p1 p2).bind fun v1=>cond (!v1) (some 0) ((A0q p1 p2).bind fun v2=>some v2)
theorem B7l (p1:Map)(p2:Int)(r:Int)(h:A6w p1 p2=some r):PCall Tryz.prog 61 [(.agg (A0s p1)),(i64 p2)] (i64 r):=by
 refine E1 (fk Tryz.func61 Tryz.ntmps61 m0 (by with_unfolding_all rfl)) (nl rfl) ?_
 unfold A6w at h
 refine A9 (s0:=⟨T [(0,(.d _)),(1,(.d _))],G []⟩) (sbr rfl rfl) ?_
 refine lr (fun u1 hu1=>sn rfl rfl (sv rfl (A3 (A7 (lr (fun u2 hu2=>sd rfl (B9 rfl G_hit rfl rfl) (sv rfl (bs h fun v1 hv1 h=>C4 rfl rfl A4 (B7k _ _ _ hv1) (.inl rfl) (F4 (.d (bo (!v1))) rfl rfl (A3 (cc rfl h (fun c1 h=> ?_) (fun c1 h=> ?_))))))))))))
 refine lr (fun u3 hu3=>sv rfl (A3 (B5 ?_)))
 cases h
 exact B0 (.inr rfl) (C1 (B4 rfl) I6) (.refl _)
 refine B3 (lr (fun u4 hu4=>sd rfl (B9 rfl G_hit rfl rfl) (sv rfl (bs h fun v2 hv2 h=>C4 rfl rfl A4 (A4c _ _ _ hv2) (.inl rfl) (sv rfl (A3 (B5 ?_)))))))
 cases h
 exact B0 (.inr rfl) (C1 (B4 rfl) I6) (.refl _)
noncomputable def A4s (p1:Map)(p2:Int)(p3:Int)(p4:Int)(x1:(Int×Int)):Option (Stp (Int×Int) Int):=
  cond (decide (x1.2< (p1.Works.length:Int))) ((F3 p1.Works x1.2).bind fun v5=>((cond (v5.Lane_==p2) (Q6 p3 v5.From v5.To) (some default))).bind fun v6=>((cond ((v5.Lane_==p2)&&v6) (Q6 p4 v5.Begin (w64 (v5.End - 1))) (some default))).bind fun v7=>cond (((v5.Lane_==p2)&&v6)&&v7) (some (.go ((mm2 false x1.1 v5.Limit),(w64 (x1.2+1))))) (some (.go (x1.1,(w64 (x1.2+1)))))) (some (.out x1.1))
noncomputable def A85 (p1:Map)(p2:Int)(p3:Int)(p4:Int):Option Int:=
  (B28 p1 p2).bind fun v1=>((cond (!(!v1)) (A0q p1 p2) (some default))).bind fun v2=>((cond (!(!v1)) (Q6 p3 0 v2) (some default))).bind fun v3=>cond ((!v1)||(!v3)) (some 0) ((F3 p1.Lanes p2).bind fun v4=>(loop (A4s p1 p2 p3 p4) (v4.Limit,0)).bind fun y1=>some y1)
theorem B8v (p1:Map)(p2:Int)(p3:Int)(p4:Int)(r:Int)(h:A85 p1 p2 p3 p4=some r):PCall Tryz.prog 56 [(.agg (A0s p1)),(i64 p2),(i64 p3),(i64 p4)] (i64 r):=by
 refine E1 (fk Tryz.func56 Tryz.ntmps56 m0 (by with_unfolding_all rfl)) (nl rfl) ?_
 unfold A85 at h
 refine A9 (s0:=⟨T [(0,(.d _)),(1,(.d _)),(2,(.d _)),(3,(.d _))],G []⟩) (sbr rfl rfl) ?_
 refine lr (fun u1 hu1=>sn rfl rfl (sv rfl (A3 (A7 (lr (fun u2 hu2=>sd rfl (B9 rfl G_hit rfl rfl) (sv rfl (bs h fun v1 hv1 h=>C4 rfl rfl A4 (B7k _ _ _ hv1) (.inl rfl) (F4 (.d (bo (!v1))) rfl rfl (sv rfl (gf rfl (fun _=>rfl) (gf rfl (fun w2=>(B9 rfl G_hit rfl rfl)) (gf rfl (fun _=>rfl) (bs h fun v2 hv2 h=> ?_))))))))))))))
 refine U1 _ (i64 v2) (A0f rfl) (fun w4=>⟨_,[(.d (.agg (A0s p1))),(di p2)],_,_,(by simp only [A6 w4];rfl),rfl,A4,A4c _ _ _ (E8 w4 hv2),(.inl rfl)⟩) ?_
 refine bs h fun v3 hv3 h=> ?_
 refine U1 _ (bo v3) (A0f rfl) (fun w5=>⟨_,[(di p3),(di 0),(di v2)],_,_,(by simp only [A6 w5];rfl),rfl,A4,S9 _ _ _ _ (E8 w5 hv3),(.inl rfl)⟩) ?_
 refine X7 _ (.d (bo (!v3))) rfl (A0f rfl) (fun w6=>(by simp only [A6 w6];rfl)) ?_
 refine sd rfl (A4j rfl rfl (fun hc=>A6 (R5 hc))) (A3 (cc rfl h (fun c1 h=> ?_) (fun c1 h=> ?_)))
 refine lr (fun u3 hu3=>sv rfl (A3 (B5 ?_)))
 cases h
 exact B0 (.inr rfl) (C1 (B4 rfl) I6) (.refl _)
 refine B3 (lr (fun u4 hu4=>sp rfl rfl (sl rfl G_hit rfl (sv rfl (bs h fun v4 hv4 h=>sd rfl (G6 rfl rfl hv4 rfl) (sv rfl (sd rfl (E9 rfl hv4 rfl) (sv rfl (A3 (A7 (A7 (A9 (s0:=⟨T [(1,(.d _)),(2,(.d _)),(3,(.d _)),(4,(.ptr _ _)),(9,(.d _))],G [((4,u1),some (.box 27 _))]⟩) (sbr rfl rfl) ?_))))))))))))
 refine B8 fun u5 hu5=>sp rfl rfl (sl rfl G_hit rfl (sd rfl (F1 rfl) (sv rfl (A3 (bs h fun y1 hy1 h=>F2 (fun s=> ∃g1:Unit,Sb ⟨T [(9,(di y1))],G []⟩ s) ?_ ?_)))))
 refine A8 (F0 (A4s p1 p2 p3 p4) (fun (x1:(Int×Int)) (g2:Unit)=>⟨T [(1,(di p2)),(2,(di p3)),(3,(di p4)),(9,(di x1.1)),(31,(dl B7b p1.Works)),(32,(di (p1.Works.length:Int))),(33,(di x1.2))],G []⟩) (v4.Limit,0) () _ hy1 (sbr rfl rfl) ?_)
 intro x1 g2 z1 hz1 ez1
 unfold A4s at hz1
 refine lr (fun u6 hu6=>sv rfl (A3 (A7 (cc rfl hz1 (fun c2 hz1=> ?_) (fun c2 hz1=> ?_)))))
 refine B3 (A7 (A8 (lr (fun u7 hu7=>bs hz1 fun v5 hv5 hz1=>sd rfl (G6 rfl rfl hv5 rfl) (sd rfl (F7 rfl hv5 rfl rfl) (sn rfl rfl (sst rfl G_hit (D4u v5) rfl (A3 (lr (fun u8 hu8=>sp rfl rfl (sl rfl G_hit rfl (sv rfl (sv rfl (sv rfl (gt rfl (fun _=>rfl) (gp rfl (A4y rfl) (fun _=>rfl) (gt rfl (vl rfl G_hit rfl) (gp rfl (A4y rfl) (fun _=>rfl) (gt rfl (vl rfl G_hit rfl) (bs hz1 fun v6 hv6 hz1=> ?_))))))))))))))))))))
 refine U1 _ (bo v6) (A4y rfl) (fun w12=>⟨_,[(di p3),(di v5.From),(di v5.To)],_,_,(by simp only [A6 w12];rfl),rfl,A4,S9 _ _ _ _ (E8 w12 hv6),(.inl rfl)⟩) ?_
 refine sa rfl rfl rfl (sv rfl (gt rfl (fun _=>rfl) (gp rfl (A4y rfl) (fun _=>rfl) (gt rfl (vl rfl G_hit rfl) (gp rfl (A4y rfl) (fun _=>rfl) (gt rfl (vl rfl G_hit rfl) (gt rfl (vb rfl rfl rfl) (bs hz1 fun v7 hv7 hz1=> ?_))))))))
 refine U1 _ (bo v7) (A4y rfl) (fun w19=>⟨_,[(di p4),(di v5.Begin),(di (w64 (v5.End - 1)))],_,_,(by simp only [A6 w19];rfl),rfl,A4,S9 _ _ _ _ (E8 w19 hv7),(.inl rfl)⟩) ?_
 refine sa rfl rfl rfl (A3 (cc rfl hz1 (fun c3 hz1=> ?_) (fun c3 hz1=> ?_)))
 refine A9 (s0:=⟨T [(1,(.d _)),(2,(.d _)),(3,(.d _)),(9,(.d _)),(11,(.ptr _ _)),(31,(.d _)),(32,(.d _)),(33,(.d _))],G [((11,u7),some (.box 50 _))]⟩) (sbr rfl rfl) ?_
 refine B8 fun u9 hu9=>sv rfl (sp rfl rfl (sl rfl G_hit rfl (sv rfl (sv rfl (A3 (H9 (B8 fun u10 hu10=>sv rfl (sv rfl (A3 (H4 ?_))))))))))
 cases hz1
 exact ⟨rfl,(),(sbr rfl rfl)⟩
 refine B3 (H9 (A9 (s0:=⟨T [(1,(.d _)),(2,(.d _)),(3,(.d _)),(9,(.d _)),(31,(.d _)),(32,(.d _)),(33,(.d _))],G []⟩) (sbr rfl rfl) ?_))
 refine B8 fun u11 hu11=>sv rfl (sv rfl (A3 (H4 ?_)))
 cases hz1
 exact ⟨rfl,(),(sbr rfl rfl)⟩
 refine C6 rfl ?_
 cases hz1
 obtain rfl:=ez1 _ rfl
 refine ⟨nofun,C2 rfl (l_j ?_)⟩
 exact ⟨(),(sbr rfl rfl)⟩
 rintro _ ⟨g1,q1⟩
 refine A9 q1 (lr (fun u12 hu12=>sv rfl (sv rfl (A3 (B5 ?_)))))
 cases h
 exact B0 (.inr rfl) (C1 (B4 rfl) I6) (.refl _)
noncomputable def A3p:Option Bool:=
  (B1g).bind fun v1=>(A0w v1 [0] 60000).bind fun v2=>(A1r v1).bind fun v3=>((cond (v3==0) (B1l v1) (some default))).bind fun v4=>((cond (((((v3==0)&&v4)&& (v2.1==0))&& (v2.2.1==60000))&&v2.2.2) (A6w v1 1) (some default))).bind fun v5=>((cond ((((((v3==0)&&v4)&& (v2.1==0))&& (v2.2.1==60000))&&v2.2.2)&& (v5==100000)) (A85 v1 0 10 5) (some default))).bind fun v6=>some (((((((v3==0)&&v4)&& (v2.1==0))&& (v2.2.1==60000))&&v2.2.2)&& (v5==100000))&& (v6==1500))
theorem B32 (r:Bool)(h:A3p=some r):PCall Tryz.prog 14 [] (bo r):=by
 refine E1 (fk Tryz.func14 Tryz.ntmps14 (fun r=>if r==2 then [1001]else []) (by with_unfolding_all rfl)) (nl rfl) ?_
 unfold A3p at h
 refine A9 (s0:=⟨T [],G []⟩) (sbr rfl rfl) ?_
 refine lr (fun u1 hu1=>sv rfl (A3 (lr (fun u2 hu2=>bs h fun v1 hv1 h=>C4 rfl rfl A4 (C28 _ hv1) (.inl rfl) (sn rfl rfl (sst rfl G_hit (A09 v1) rfl (A3 (lr (fun u3 hu3=>sd rfl (B9 rfl G_hit rfl rfl) (F4 (dl A5 [0]) rfl rfl (bs h fun v2 hv2 h=>C4 rfl rfl A4 (B31 _ _ _ _ hv2) (.inl rfl) (sv rfl (sv rfl (sv rfl (sv rfl (sv rfl (sv rfl (sv rfl (A3 (lr (fun u4 hu4=>sd rfl (B9 rfl G_hit rfl rfl) (bs h fun v3 hv3 h=>C4 rfl rfl A4 (A6g _ _ hv3) (.inl rfl) (sv rfl (sv rfl (gt rfl (fun w1=>(B9 rfl G_hit rfl rfl)) (bs h fun v4 hv4 h=> ?_))))))))))))))))))))))))))
 refine U1 _ (bo v4) (A4y rfl) (fun w2=>⟨_,[(.d (.agg (A0s v1)))],_,_,(by simp only [A6 w2];rfl),rfl,A4,C29 _ _ (E8 w2 hv4),(.inl rfl)⟩) ?_
 refine sa rfl rfl rfl (sv rfl (gt rfl (fun _=>rfl) (gt rfl (vb rfl rfl rfl) (sa rfl rfl rfl (sv rfl (gt rfl (fun _=>rfl) (gt rfl (vb rfl rfl rfl) (sa rfl rfl rfl (sv rfl (gt rfl (fun _=>rfl) (sa rfl rfl rfl (sv rfl (gt rfl (fun w8=>(B9 rfl G_hit rfl rfl)) (bs h fun v5 hv5 h=> ?_))))))))))))))
 refine U1 _ (i64 v5) (A4y rfl) (fun w9=>⟨_,[(.d (.agg (A0s v1))),(di 1)],_,_,(by simp only [A6 w9];rfl),rfl,A4,B7l _ _ _ (E8 w9 hv5),(.inl rfl)⟩) ?_
 refine gt rfl (vb rfl rfl rfl) (sa rfl rfl rfl (sv rfl (gt rfl (fun w11=>(B9 rfl G_hit rfl rfl)) (bs h fun v6 hv6 h=> ?_))))
 refine U1 _ (i64 v6) (A4y rfl) (fun w12=>⟨_,[(.d (.agg (A0s v1))),(di 0),(di 10),(di 5)],_,_,(by simp only [A6 w12];rfl),rfl,A4,B8v _ _ _ _ _ (E8 w12 hv6),(.inl rfl)⟩) ?_
 refine gt rfl (vb rfl rfl rfl) (sa rfl rfl rfl (sv rfl (A3 (B5 ?_))))
 cases h
 exact B0 (.inr rfl) (C1 (B4 rfl) I6) (.refl _)
noncomputable def A1l (p1:Int)(p2:Int)(p3:Int):Option Bool:=
  some ((decide (p1≥p2))&& (decide (p1≤p3)))
theorem A26 (p1:Int)(p2:Int)(p3:Int)(r:Bool)(h:A1l p1 p2 p3=some r):PCall Tryz.prog 71 [(i64 p1),(i64 p2),(i64 p3)] (bo r):=by
 refine E1 (fk Tryz.func71 Tryz.ntmps71 m0 (by with_unfolding_all rfl)) (nl rfl) ?_
 unfold A1l at h
 refine A9 (s0:=⟨T [(0,(.d _)),(1,(.d _)),(2,(.d _))],G []⟩) (sbr rfl rfl) ?_
 refine lr (fun u1 hu1=>sv rfl (A3 (lr (fun u2 hu2=>sv rfl (sv rfl (sv rfl (sv rfl (gt rfl (fun _=>rfl) (gt rfl (fun _=>rfl) (gt rfl (fun w3=>(A1q (A6 w3) (A6 w3) rfl)) (sa rfl rfl rfl (sv rfl (A3 (B5 ?_))))))))))))))
 cases h
 exact B0 (.inr rfl) (C1 (B4 rfl) I6) (.refl _)
noncomputable def A86 (p1:Spot):Option Bool:=
  some ((((decide (p1.X≥(-16777216)))&& (decide (p1.X≤16777216)))&& (decide (p1.Y≥(-16777216))))&& (decide (p1.Y≤16777216)))
theorem B8w (p1:Spot)(r:Bool)(h:A86 p1=some r):PCall Tryz.prog 238 [(.agg [(i64 p1.X),(i64 p1.Y)])] (bo r):=by
 refine E1 (fk Tryz.func238 Tryz.ntmps238 m0 (by with_unfolding_all rfl)) (nl rfl) ?_
 unfold A86 at h
 refine A9 (s0:=⟨T [(0,(.d _))],G []⟩) (sbr rfl rfl) ?_
 refine lr (fun u1 hu1=>sn rfl rfl (sv rfl (A3 (lr (fun u2 hu2=>sp rfl rfl (sl rfl G_hit rfl (sv rfl (sv rfl (gp rfl (A4y rfl) (fun _=>rfl) (gt rfl (vl rfl G_hit rfl) (gt rfl (vb rfl rfl rfl) (sa rfl rfl rfl (sv rfl (gp rfl (A4y rfl) (fun _=>rfl) (gt rfl (vl rfl G_hit rfl) (gt rfl (vb rfl rfl rfl) (sa rfl rfl rfl (sv rfl (gp rfl (A4y rfl) (fun _=>rfl) (gt rfl (vl rfl G_hit rfl) (gt rfl (vb rfl rfl rfl) (sa rfl rfl rfl (sv rfl (A3 (B5 ?_)))))))))))))))))))))))))
 cases h
 exact B0 (.inr rfl) (C1 (B4 rfl) I6) (.refl _)
noncomputable def A51 (p1:Spot)(p2:Spot):Option Spot:=
  some (Spot.mk (w64 (p1.X - p2.X)) (w64 (p1.Y - p2.Y)))
theorem A97 (p1:Spot)(p2:Spot)(r:Spot)(h:A51 p1 p2=some r):PCall Tryz.prog 239 [(.agg [(i64 p1.X),(i64 p1.Y)]),(.agg [(i64 p2.X),(i64 p2.Y)])] (.agg [(i64 r.X),(i64 r.Y)]):=by
 refine E1 (fk Tryz.func239 Tryz.ntmps239 m0 (by with_unfolding_all rfl)) (nl rfl) ?_
 unfold A51 at h
 refine A9 (s0:=⟨T [(0,(.d _)),(1,(.d _))],G []⟩) (sbr rfl rfl) ?_
 refine lr (fun u1 hu1=>sn rfl rfl (sn rfl rfl (sn rfl rfl (A3 (lr (fun u2 hu2=>sp rfl rfl (sl rfl (gq rfl) rfl (sp rfl rfl (sl rfl (gq rfl) rfl (sv rfl (sp rfl rfl (sl rfl (gq rfl) rfl (sp rfl rfl (sl rfl (gq rfl) rfl (sv rfl (sv rfl (sst rfl G_hit [(di (w64 (p1.X - p2.X))),(di (w64 (p1.Y - p2.Y)))] rfl (A3 (B5 ?_)))))))))))))))))))
 cases h
 exact B0 (.inr rfl) (C1 (A2w rfl G_hit (nl rfl) rfl) I6) (.refl _)
noncomputable def A6x (p1:Spot)(p2:Spot):Option Int:=
  some (w64 ((w64 (p1.X*p2.X))+ (w64 (p1.Y*p2.Y))))
theorem A8z (p1:Spot)(p2:Spot)(r:Int)(h:A6x p1 p2=some r):PCall Tryz.prog 241 [(.agg [(i64 p1.X),(i64 p1.Y)]),(.agg [(i64 p2.X),(i64 p2.Y)])] (i64 r):=by
 refine E1 (fk Tryz.func241 Tryz.ntmps241 m0 (by with_unfolding_all rfl)) (nl rfl) ?_
 unfold A6x at h
 refine A9 (s0:=⟨T [(0,(.d _)),(1,(.d _))],G []⟩) (sbr rfl rfl) ?_
 refine lr (fun u1 hu1=>sn rfl rfl (sn rfl rfl (sv rfl (A3 (lr (fun u2 hu2=>sp rfl rfl (sl rfl (gq rfl) rfl (sp rfl rfl (sl rfl G_hit rfl (sv rfl (sp rfl rfl (sl rfl (gq rfl) rfl (sp rfl rfl (sl rfl G_hit rfl (sv rfl (sv rfl (sv rfl (A3 (B5 ?_)))))))))))))))))))
 cases h
 exact B0 (.inr rfl) (C1 (B4 rfl) I6) (.refl _)
noncomputable def A5p (p1:Int)(x1:(Int×Int)):Option (Stp (Int×Int) Int):=
  cond (decide (x1.2>0)) (cond (decide ((w64 ((w64 (x1.1+x1.2))* (w64 (x1.1+x1.2))))≤p1)) (some (.go ((w64 (x1.1+x1.2)),(w64 (x1.2.tdiv 2))))) (some (.go (x1.1,(w64 (x1.2.tdiv 2)))))) (some (.out x1.1))
noncomputable def A59 (p1:Int):Option Int:=
  (loop (A5p p1) (0,67108864)).bind fun y1=>some y1
theorem B47 (p1:Int)(r:Int)(h:A59 p1=some r):PCall Tryz.prog 240 [(i64 p1)] (i64 r):=by
 refine E1 (fk Tryz.func240 Tryz.ntmps240 m0 (by with_unfolding_all rfl)) (nl rfl) ?_
 unfold A59 at h
 refine A9 (s0:=⟨T [(0,(.d _))],G []⟩) (sbr rfl rfl) ?_
 refine lr (fun u1 hu1=>sv rfl (A3 (lr (fun u2 hu2=>sv rfl (A3 (A7 (lr (fun u3 hu3=>sv rfl (A3 (bs h fun y1 hy1 h=>F2 (fun s=> ∃g1:Unit,Sb ⟨T [(3,(di y1))],G []⟩ s) ?_ ?_))))))))))
 refine A8 (F0 (A5p p1) (fun (x1:(Int×Int)) (g2:Unit)=>⟨T [(0,(di p1)),(3,(di x1.1)),(4,(di x1.2))],G []⟩) (0,67108864) () _ hy1 (sbr rfl rfl) ?_)
 intro x1 g2 z1 hz1 ez1
 unfold A5p at hz1
 refine A7 (lr (fun u4 hu4=>sv rfl (sv rfl (A3 (cc rfl hz1 (fun c1 hz1=> ?_) (fun c1 hz1=> ?_))))))
 refine B3 (A7 (A8 (lr (fun u5 hu5=>sv rfl (sv rfl (sv rfl (sv rfl (sv rfl (sv rfl (sv rfl (sv rfl (sv rfl (A3 (cc rfl hz1 (fun c2 hz1=> ?_) (fun c2 hz1=> ?_)))))))))))))))
 refine B8 fun u6 hu6=>sv rfl (sv rfl (sv rfl (sv rfl (A3 (H9 (B8 fun u7 hu7=>sv rfl (sv rfl (sv rfl (A3 (H4 ?_))))))))))
 cases hz1
 exact ⟨rfl,(),(sbr rfl rfl)⟩
 refine B3 (H9 (B8 fun u8 hu8=>sv rfl (sv rfl (sv rfl (A3 (H4 ?_))))))
 cases hz1
 exact ⟨rfl,(),(sbr rfl rfl)⟩
 refine C6 rfl ?_
 cases hz1
 obtain rfl:=ez1 _ rfl
 refine ⟨nofun,C2 rfl (l_j ?_)⟩
 exact ⟨(),(sbr rfl rfl)⟩
 rintro _ ⟨g1,q1⟩
 refine A9 q1 (lr (fun u9 hu9=>sv rfl (sv rfl (A3 (B5 ?_)))))
 cases h
 exact B0 (.inr rfl) (C1 (B4 rfl) I6) (.refl _)
noncomputable def A1t (p1:Curve)(x2:Int):Option (Stp Int (Sum Unit Int)):=
  cond (decide ((w64 (x2+1))< (p1.Pts.length:Int))) ((F3 p1.Pts (w64 (x2+1))).bind fun v3=>(F3 p1.Pts x2).bind fun v4=>(A51 v3 v4).bind fun v5=>(A6x v5 v5).bind fun v6=>(A59 v6).bind fun v7=>(A6x v5 v5).bind fun v8=>cond ((w64 (v7*v7)) !=v8) (some (.out (.inr 3))) (cond ((decide (v7<1000))||(decide (v7>1048576))) (some (.out (.inr 2))) (((cond (decide (x2>0)) (F3 p1.Pts x2) (some default))).bind fun v9=>((cond (decide (x2>0)) (F3 p1.Pts (w64 (x2 - 1))) (some default))).bind fun v10=>((cond (decide (x2>0)) (A51 v9 v10) (some default))).bind fun v11=>((cond (decide (x2>0)) (A6x v5 v11) (some default))).bind fun v12=>cond ((decide (x2>0))&& (decide (v12≤0))) (some (.out (.inr 12))) (some (.go (w64 (x2+1))))))) (some (.out (.inl ())))
noncomputable def A1u (p1:Curve)(x1:Int):Option (Stp Int (Sum Unit Int)):=
  cond (decide (x1< (p1.Pts.length:Int))) ((F3 p1.Pts x1).bind fun v1=>(A86 v1).bind fun v2=>cond (!v2) (some (.out (.inr 2))) (some (.go (w64 (x1+1))))) (some (.out (.inl ())))
noncomputable def A65 (p1:Curve):Option Int:=
  cond (decide ((p1.Pts.length:Int)<2)) (some 6) (cond (decide ((p1.Pts.length:Int)>16)) (some 5) (thenS (loop (A1u p1) 0) (fun _=>thenS (loop (A1t p1) 0) (fun _=>some 0) (fun r=>some r)) (fun r=>some r)))
theorem B33 (p1:Curve)(r:Int)(h:A65 p1=some r):PCall Tryz.prog 175 [(.agg [(.list (List.map A2x p1.Pts))])] (i64 r):=by
 refine E1 (fk Tryz.func175 Tryz.ntmps175 m0 (by with_unfolding_all rfl)) (nl rfl) ?_
 unfold A65 at h
 refine A9 (s0:=⟨T [(0,(.d _))],G []⟩) (sbr rfl rfl) ?_
 refine lr (fun u1 hu1=>sn rfl rfl (sv rfl (A3 (A7 (lr (fun u2 hu2=>sp rfl rfl (sl rfl G_hit rfl (sd rfl (F1 rfl) (sv rfl (A3 (cc rfl h (fun c1 h=> ?_) (fun c1 h=> ?_))))))))))))
 refine lr (fun u3 hu3=>sv rfl (A3 (B5 ?_)))
 cases h
 exact B0 (.inr rfl) (C1 (B4 rfl) I6) (.refl _)
 refine B3 (A7 (lr (fun u4 hu4=>sp rfl rfl (sl rfl G_hit rfl (sd rfl (F1 rfl) (sv rfl (A3 (cc rfl h (fun c2 h=> ?_) (fun c2 h=> ?_)))))))))
 refine lr (fun u5 hu5=>sv rfl (A3 (B5 ?_)))
 cases h
 exact B0 (.inr rfl) (C1 (B4 rfl) I6) (.refl _)
 refine B3 (A7 (lr (fun u6 hu6=>sv rfl (A3 (js h fun z1 hz1 h=>F2 (fun s=> ∃(y1:Unit) (g1:Unit),z1= .inl y1∧Sb ⟨T [(1,(.ptr (1,u1) 0))],G [((1,u1),some (.box 39 [(dl A2x p1.Pts)]))]⟩ s) ?_ ?_)))))
 refine A8 (F0 (A1u p1) (fun (x1:Int) (g2:Unit)=>⟨T [(1,(.ptr (1,u1) 0)),(3,(di x1))],G [((1,u1),some (.box 39 [(dl A2x p1.Pts)]))]⟩) 0 () _ hz1 (sbr rfl rfl) ?_)
 intro x1 g2 z2 hz2 ez2
 unfold A1u at hz2
 refine A7 (lr (fun u7 hu7=>sv rfl (sp rfl rfl (sl rfl G_hit rfl (sd rfl (F1 rfl) (sv rfl (A3 (cc rfl hz2 (fun c3 hz2=> ?_) (fun c3 hz2=> ?_)))))))))
 refine B3 (A7 (A8 (lr (fun u8 hu8=>sp rfl rfl (sl rfl G_hit rfl (sv rfl (bs hz2 fun v1 hv1 hz2=>sd rfl (G6 rfl rfl hv1 rfl) (sd rfl (F7 rfl hv1 rfl rfl) (bs hz2 fun v2 hv2 hz2=>C4 rfl rfl A4 (B8w _ _ hv2) (.inl rfl) (F4 (.d (bo (!v2))) rfl rfl (A3 (cc rfl hz2 (fun c4 hz2=> ?_) (fun c4 hz2=> ?_)))))))))))))
 refine lr (fun u9 hu9=>sv rfl (A3 (B5 ?_)))
 cases hz2
 obtain rfl:=ez2 _ rfl
 refine ⟨nofun,F8 ?_⟩
 rw [Sum.elim_inr]at h
 cases h
 exact B0 (.inr rfl) (C1 (B4 rfl) I6) (.refl _)
 refine B3 (H9 (B8 fun u10 hu10=>sv rfl (sv rfl (sv rfl (A3 (H4 ?_))))))
 cases hz2
 exact ⟨rfl,(),(sbr rfl rfl)⟩
 refine C6 rfl ?_
 cases hz2
 obtain rfl:=ez2 _ rfl
 refine ⟨nofun,C2 rfl (l_j ?_)⟩
 exact ⟨_,(),rfl,(sbr rfl rfl)⟩
 rintro _ ⟨y1,g1,rfl,q1⟩
 rw [Sum.elim_inl]at h
 refine A9 q1 (A7 (lr (fun u11 hu11=>sv rfl (A3 (js h fun z3 hz3 h=>F2 (fun s=> ∃(y2:Unit) (g3:Unit),z3= .inl y2∧Sb ⟨T [],G []⟩ s) ?_ ?_)))))
 refine A8 (F0 (A1t p1) (fun (x2:Int) (g4:Unit)=>⟨T [(1,(.ptr (1,u1) 0)),(4,(di x2))],G [((1,u1),some (.box 39 [(dl A2x p1.Pts)]))]⟩) 0 () _ hz3 (sbr rfl rfl) ?_)
 intro x2 g4 z4 hz4 ez4
 unfold A1t at hz4
 refine A7 (lr (fun u12 hu12=>sv rfl (sv rfl (sp rfl rfl (sl rfl G_hit rfl (sd rfl (F1 rfl) (sv rfl (A3 (cc rfl hz4 (fun c5 hz4=> ?_) (fun c5 hz4=> ?_))))))))))
 refine B3 (A7 (A8 (A7 (N6 rfl fun u13 hu13=>sp rfl rfl (sl rfl G_hit rfl (sv rfl (sv rfl (bs hz4 fun v3 hv3 hz4=>sd rfl (G6 rfl rfl hv3 rfl) (sd rfl (F7 rfl hv3 rfl rfl) (sp rfl rfl (sl rfl G_hit rfl (sv rfl (bs hz4 fun v4 hv4 hz4=>sd rfl (G6 rfl rfl hv4 rfl) (sd rfl (F7 rfl hv4 rfl rfl) (bs hz4 fun v5 hv5 hz4=>C4 rfl rfl A4 (A97 _ _ _ hv5) (.inl rfl) (sn rfl rfl (sst rfl G_hit [(di v5.X),(di v5.Y)] rfl (A3 (A7 (A9 (s0:=⟨T [(1,(.ptr _ _)),(4,(.d _)),(5,(.ptr _ _))],G [((1,u1),some (.box 39 _)),((5,u13),some (.box 148 _))]⟩) (sbr rfl rfl) ?_))))))))))))))))))))
 refine B8 fun u14 hu14=>sd rfl (B9 rfl (gq rfl) rfl rfl) (sd rfl (B9 rfl (gq rfl) rfl rfl) (bs hz4 fun v6 hv6 hz4=>C4 rfl rfl A4 (A8z _ _ _ hv6) (.inl rfl) (bs hz4 fun v7 hv7 hz4=>C4 rfl rfl A4 (B47 _ _ hv7) (.inl rfl) (sv rfl (A3 (A7 (lr (fun u15 hu15=>sv rfl (sv rfl (sv rfl (sd rfl (B9 rfl (gq rfl) rfl rfl) (sd rfl (B9 rfl (gq rfl) rfl rfl) (bs hz4 fun v8 hv8 hz4=>C4 rfl rfl A4 (A8z _ _ _ hv8) (.inl rfl) (sv rfl (A3 (cc rfl hz4 (fun c6 hz4=> ?_) (fun c6 hz4=> ?_)))))))))))))))))
 refine lr (fun u16 hu16=>sv rfl (A3 (B5 ?_)))
 cases hz4
 obtain rfl:=ez4 _ rfl
 refine ⟨nofun,F8 ?_⟩
 rw [Sum.elim_inr]at h
 cases h
 exact B0 (.inr rfl) (C1 (B4 rfl) I6) (.refl _)
 refine B3 (A7 (lr (fun u17 hu17=>sv rfl (sv rfl (sv rfl (gf rfl (fun _=>rfl) (gf rfl (vb rfl rfl rfl) (sd rfl (A4j rfl rfl (fun hc=>A6 (R5 hc))) (A3 (cc rfl hz4 (fun c7 hz4=> ?_) (fun c7 hz4=> ?_)))))))))))
 refine A7 (A9 (s0:=⟨T [],G []⟩) (sbr rfl rfl) ?_)
 refine B8 fun u18 hu18=>sv rfl (A3 (B5 ?_))
 cases hz4
 obtain rfl:=ez4 _ rfl
 refine ⟨nofun,F8 ?_⟩
 rw [Sum.elim_inr]at h
 cases h
 exact B0 (.inr rfl) (C1 (B4 rfl) I6) (.refl _)
 refine B3 (A7 (A9 (s0:=⟨T [(1,(.ptr _ _)),(4,(.d _)),(5,(.ptr _ _))],G [((1,u1),some (.box 39 _)),((5,u13),some (.box 148 _))]⟩) (sbr rfl rfl) ?_))
 refine N6 rfl fun u19 hu19=>sv rfl (sv rfl (sv rfl (gt rfl (fun w3=>(B9 rfl (gq rfl) rfl rfl)) (gp rfl (A4y rfl) (fun _=>rfl) (gt rfl (vl rfl G_hit rfl) (gt rfl (fun _=>rfl) (bs hz4 fun v9 hv9 hz4=>gt rfl (fun w7=>(G6 (A6 w7) (A6 w7) (E8 w7 hv9) rfl)) (gt rfl (fun w8=>(F7 (A6 w8) (E8 w8 hv9) rfl rfl)) (gp rfl (A4y rfl) (fun _=>rfl) (gt rfl (vl rfl G_hit rfl) (gt rfl (fun _=>rfl) (gt rfl (vb rfl rfl rfl) (bs hz4 fun v10 hv10 hz4=>gt rfl (fun w13=>(G6 (A6 w13) (A6 w13) (E8 w13 hv10) rfl)) (gt rfl (fun w14=>(F7 (A6 w14) (E8 w14 hv10) rfl rfl)) (bs hz4 fun v11 hv11 hz4=> ?_)))))))))))))))
 refine U1 _ (.agg [(i64 v11.X),(i64 v11.Y)]) (A4y rfl) (fun w15=>⟨_,[(.d (.agg [(i64 v9.X),(i64 v9.Y)])),(.d (.agg [(i64 v10.X),(i64 v10.Y)]))],_,_,(by simp only [A6 w15];rfl),rfl,A4,A97 _ _ _ (E8 w15 hv11),(.inl rfl)⟩) ?_
 refine bs hz4 fun v12 hv12 hz4=> ?_
 refine U1 _ (i64 v12) (A4y rfl) (fun w16=>⟨_,[(.d (.agg [(i64 v5.X),(i64 v5.Y)])),(.d (.agg [(i64 v11.X),(i64 v11.Y)]))],_,_,(by simp only [A6 w16];rfl),rfl,A4,A8z _ _ _ (E8 w16 hv12),(.inl rfl)⟩) ?_
 refine gt rfl (vb rfl rfl rfl) (sa rfl rfl rfl (A3 (cc rfl hz4 (fun c8 hz4=> ?_) (fun c8 hz4=> ?_))))
 refine A7 (A9 (s0:=⟨T [],G []⟩) (sbr rfl rfl) ?_)
 refine B8 fun u20 hu20=>sv rfl (A3 (B5 ?_))
 cases hz4
 obtain rfl:=ez4 _ rfl
 refine ⟨nofun,F8 ?_⟩
 rw [Sum.elim_inr]at h
 cases h
 exact B0 (.inr rfl) (C1 (B4 rfl) I6) (.refl _)
 refine B3 (H9 (A9 (s0:=⟨T [(1,(.ptr _ _)),(4,(.d _))],G [((1,u1),some (.box 39 _))]⟩) (sbr rfl rfl) ?_))
 refine B8 fun u21 hu21=>sv rfl (sv rfl (sv rfl (A3 (H4 ?_))))
 cases hz4
 exact ⟨rfl,(),(sbr rfl rfl)⟩
 refine C6 rfl ?_
 cases hz4
 obtain rfl:=ez4 _ rfl
 refine ⟨nofun,C2 rfl (l_j ?_)⟩
 exact ⟨_,(),rfl,(sbr rfl rfl)⟩
 rintro _ ⟨y2,g3,rfl,q2⟩
 rw [Sum.elim_inl]at h
 refine A9 q2 (lr (fun u22 hu22=>sv rfl (A3 (B5 ?_))))
 cases h
 exact B0 (.inr rfl) (C1 (B4 rfl) I6) (.refl _)
noncomputable def A5a (p1:Int):Option (Int×Int×Int):=
  cond (p1==1) (some (2000,30,90)) (cond (p1==2) (some (1000,20,60)) (cond (p1==3) (some (300,100,300)) (some (0,0,0))))
theorem B1m (p1:Int)(r:(Int×Int×Int))(h:A5a p1=some r):PCall Tryz.prog 176 [(i64 p1)] (.tup [(i64 r.1),(i64 r.2.1),(i64 r.2.2)]):=by
 refine E1 (fk Tryz.func176 Tryz.ntmps176 m0 (by with_unfolding_all rfl)) (nl rfl) ?_
 unfold A5a at h
 refine A9 (s0:=⟨T [(0,(.d _))],G []⟩) (sbr rfl rfl) ?_
 refine lr (fun u1 hu1=>sv rfl (sv rfl (sv rfl (A3 (A7 (lr (fun u2 hu2=>sv rfl (A3 (A8 (lr (fun u3 hu3=>sv rfl (sv rfl (A3 (cc rfl h (fun c1 h=> ?_) (fun c1 h=> ?_)))))))))))))))
 refine lr (fun u4 hu4=>sv rfl (sv rfl (sv rfl (A3 (B5 ?_)))))
 cases h
 exact B0 (.inr rfl) (B8q (B4 rfl) (B4 rfl) (B4 rfl) I6 I6 I6) (.refl _)
 refine lr (fun u5 hu5=>sv rfl (sv rfl (A3 (cc rfl h (fun c2 h=> ?_) (fun c2 h=> ?_)))))
 refine lr (fun u6 hu6=>sv rfl (sv rfl (sv rfl (A3 (B5 ?_)))))
 cases h
 exact B0 (.inr rfl) (B8q (B4 rfl) (B4 rfl) (B4 rfl) I6 I6 I6) (.refl _)
 refine lr (fun u7 hu7=>sv rfl (sv rfl (A3 (cc rfl h (fun c3 h=> ?_) (fun c3 h=> ?_)))))
 refine lr (fun u8 hu8=>sv rfl (sv rfl (sv rfl (A3 (B5 ?_)))))
 cases h
 exact B0 (.inr rfl) (B8q (B4 rfl) (B4 rfl) (B4 rfl) I6 I6 I6) (.refl _)
 refine B3 (H9 (lr (fun u9 hu9=>sv rfl (sv rfl (sv rfl (A3 (B5 ?_)))))))
 cases h
 exact B0 (.inr rfl) (B8q (B4 rfl) (B4 rfl) (B4 rfl) I6 I6 I6) (.refl _)
noncomputable def A05 (p1:(List Int))(p2:Int)(p3:Int)(x1:Int):Option (Stp Int (Sum Unit Bool)):=
  cond (decide (x1< (p1.length:Int))) ((F3 p1 x1).bind fun v1=>((cond (!(decide (v1<p2))) (F3 p1 x1) (some default))).bind fun v2=>((cond ((!((decide (v1<p2))||(decide (v2≥p3))))&& (decide (x1>0))) (F3 p1 x1) (some default))).bind fun v3=>((cond ((!((decide (v1<p2))||(decide (v2≥p3))))&& (decide (x1>0))) (F3 p1 (w64 (x1 - 1))) (some default))).bind fun v4=>cond (((decide (v1<p2))||(decide (v2≥p3)))||((decide (x1>0))&& (decide (v3≤v4)))) (some (.out (.inr false))) (some (.go (w64 (x1+1))))) (some (.out (.inl ())))
noncomputable def A2q (p1:(List Int))(p2:Int)(p3:Int):Option Bool:=
  thenS (loop (A05 p1 p2 p3) 0) (fun _=>some true) (fun r=>some r)
theorem A7a (p1:(List Int))(p2:Int)(p3:Int)(r:Bool)(h:A2q p1 p2 p3=some r):PCall Tryz.prog 177 [(.list (List.map A5 p1)),(i64 p2),(i64 p3)] (bo r):=by
 refine E1 (fk Tryz.func177 Tryz.ntmps177 m0 (by with_unfolding_all rfl)) (nl rfl) ?_
 unfold A2q at h
 refine A9 (s0:=⟨T [(0,(.d _)),(1,(.d _)),(2,(.d _))],G []⟩) (sbr rfl rfl) ?_
 refine lr (fun u1 hu1=>sv rfl (A3 (A7 (lr (fun u2 hu2=>sv rfl (A3 (js h fun z1 hz1 h=>F2 (fun s=> ∃(y1:Unit) (g1:Unit),z1= .inl y1∧Sb ⟨T [],G []⟩ s) ?_ ?_)))))))
 refine A8 (F0 (A05 p1 p2 p3) (fun (x1:Int) (g2:Unit)=>⟨T [(0,(dl A5 p1)),(1,(di p2)),(2,(di p3)),(7,(di x1))],G []⟩) 0 () _ hz1 (sbr rfl rfl) ?_)
 intro x1 g2 z2 hz2 ez2
 unfold A05 at hz2
 refine A7 (lr (fun u3 hu3=>sv rfl (sv rfl (sd rfl (F1 rfl) (sv rfl (A3 (cc rfl hz2 (fun c1 hz2=> ?_) (fun c1 hz2=> ?_))))))))
 refine B3 (A7 (A8 (A7 (N6 rfl fun u4 hu4=>sv rfl (sv rfl (bs hz2 fun v1 hv1 hz2=>sd rfl (G6 rfl rfl hv1 rfl) (sd rfl (E9 rfl hv1 rfl) (sv rfl (sv rfl (sv rfl (gf rfl (fun _=>rfl) (gf rfl (fun _=>rfl) (bs hz2 fun v2 hv2 hz2=>gf rfl (fun w3=>(G6 (A6 w3) (A6 w3) (E8 w3 hv2) rfl)) (gf rfl (fun w4=>(E9 (A6 w4) (E8 w4 hv2) rfl)) (gf rfl (fun _=>rfl) (gf rfl (fun w6=>(A1q (A6 w6) (A6 w6) rfl)) (sd rfl (A4j rfl rfl (fun hc=>A6 (R5 hc))) (sv rfl (gf rfl (fun _=>rfl) (gf rfl (vb rfl rfl rfl) (gf rfl (fun w9=>(D5h (A6 w9))) (gv rfl (A8n rfl) (fun _=>rfl) (gv rfl (A8n rfl) (fun _=>rfl) (bs hz2 fun v3 hv3 hz2=>gv rfl (A8n rfl) (fun w12=>(G6 (A6 w12) (A6 w12) (E8 w12 hv3) rfl)) (gv rfl (A8n rfl) (fun w13=>(E9 (A6 w13) (E8 w13 hv3) rfl)) (gv rfl (A8n rfl) (fun _=>rfl) (gv rfl (A8n rfl) (fun _=>rfl) (gv rfl (A8n rfl) (vb rfl rfl rfl) (bs hz2 fun v4 hv4 hz2=>gv rfl (A8n rfl) (fun w17=>(G6 (A6 w17) (A6 w17) (E8 w17 hv4) rfl)) (gv rfl (A8n rfl) (fun w18=>(E9 (A6 w18) (E8 w18 hv4) rfl)) (gv rfl (A8n rfl) (fun w19=>(A1q (A6 w19) (A6 w19) rfl)) (gf rfl (fun w20=>(D2j (A6 w20) (fun hc=>A6 (D2k w20 hc)) rfl)) (sd rfl (A4j rfl rfl (fun hc=>A6 (R5 hc))) (A3 (cc rfl hz2 (fun c2 hz2=> ?_) (fun c2 hz2=> ?_))))))))))))))))))))))))))))))))))))
 refine A7 (A9 (s0:=⟨T [],G []⟩) (sbr rfl rfl) ?_)
 refine B8 fun u5 hu5=>sv rfl (A3 (B5 ?_))
 cases hz2
 obtain rfl:=ez2 _ rfl
 refine ⟨nofun,F8 ?_⟩
 rw [Sum.elim_inr]at h
 cases h
 exact B0 (.inr rfl) (C1 (B4 rfl) I6) (.refl _)
 refine B3 (H9 (A9 (s0:=⟨T [(0,(.d _)),(1,(.d _)),(2,(.d _)),(7,(.d _))],G []⟩) (sbr rfl rfl) ?_))
 refine B8 fun u6 hu6=>sv rfl (sv rfl (sv rfl (A3 (H4 ?_))))
 cases hz2
 exact ⟨rfl,(),(sbr rfl rfl)⟩
 refine C6 rfl ?_
 cases hz2
 obtain rfl:=ez2 _ rfl
 refine ⟨nofun,C2 rfl (l_j ?_)⟩
 exact ⟨_,(),rfl,(sbr rfl rfl)⟩
 rintro _ ⟨y1,g1,rfl,q1⟩
 rw [Sum.elim_inl]at h
 refine A9 q1 (lr (fun u7 hu7=>sv rfl (A3 (B5 ?_))))
 cases h
 exact B0 (.inr rfl) (C1 (B4 rfl) I6) (.refl _)
noncomputable def A3q (p1:Map)(p2:Int):Option Int:=
  (F3 p1.Lanes p2).bind fun v1=>cond ((decide (v1.Kind<1))||(decide (v1.Kind>3))) (some 4) ((A65 v1.Curve_).bind fun v2=>cond (v2 !=0) (some v2) ((A5a v1.Kind).bind fun v3=>(A1l v1.Half 200 4000).bind fun v4=>((cond (!(!v4)) (A1l v1.Limit 1 v3.1) (some default))).bind fun v5=>cond ((!v4)||(!v5)) (some 2) (cond (decide ((v1.Next.length:Int)>3)) (some 8) ((A2q v1.Next (w64 (p2+1)) (p1.Lanes.length:Int)).bind fun v6=>cond (!v6) (some 11) (some 0)))))
theorem B48 (p1:Map)(p2:Int)(r:Int)(h:A3q p1 p2=some r):PCall Tryz.prog 72 [(.agg (A0s p1)),(i64 p2)] (i64 r):=by
 refine E1 (fk Tryz.func72 Tryz.ntmps72 m0 (by with_unfolding_all rfl)) (nl rfl) ?_
 unfold A3q at h
 refine A9 (s0:=⟨T [(0,(.d _)),(1,(.d _))],G []⟩) (sbr rfl rfl) ?_
 refine lr (fun u1 hu1=>sn rfl rfl (sv rfl (A3 (lr (fun u2 hu2=>sp rfl rfl (sl rfl G_hit rfl (sv rfl (bs h fun v1 hv1 h=>sd rfl (G6 rfl rfl hv1 rfl) (sd rfl (F7 rfl hv1 rfl rfl) (sn rfl rfl (sst rfl G_hit (B1e v1) rfl (A3 (A7 (lr (fun u3 hu3=>sp rfl rfl (sl rfl G_hit rfl (sv rfl (sv rfl (gp rfl (A0f rfl) (fun _=>rfl) (gf rfl (vl rfl G_hit rfl) (gf rfl (vb rfl rfl rfl) (sd rfl (A4j rfl rfl (fun hc=>A6 (R5 hc))) (A3 (cc rfl h (fun c1 h=> ?_) (fun c1 h=> ?_)))))))))))))))))))))))))
 refine lr (fun u4 hu4=>sv rfl (A3 (B5 ?_)))
 cases h
 exact B0 (.inr rfl) (C1 (B4 rfl) I6) (.refl _)
 refine B3 (lr (fun u5 hu5=>sp rfl rfl (sd rfl (B9 rfl G_hit rfl rfl) (bs h fun v2 hv2 h=>C4 rfl rfl A4 (B33 _ _ hv2) (.inl rfl) (sv rfl (A3 (A7 (A7 (A9 (s0:=⟨T [(1,(.d _)),(2,(.ptr _ _)),(5,(.ptr _ _)),(6,(.d _))],G [((2,u1),some (.box 27 _)),((5,u2),some (.box 42 _))]⟩) (sbr rfl rfl) ?_)))))))))
 refine B8 fun u6 hu6=>sv rfl (sv rfl (A3 (cc rfl h (fun c2 h=> ?_) (fun c2 h=> ?_))))
 refine lr (fun u7 hu7=>sv rfl (sv rfl (A3 (B5 ?_))))
 cases h
 exact B0 (.inr rfl) (C1 (B4 rfl) I6) (.refl _)
 refine B3 (lr (fun u8 hu8=>sp rfl rfl (sl rfl (gq rfl) rfl (bs h fun v3 hv3 h=>C4 rfl rfl A4 (B1m _ _ hv3) (.inl rfl) (sv rfl (sv rfl (sv rfl (sv rfl (sv rfl (sv rfl (sv rfl (A3 (A7 (lr (fun u9 hu9=>sp rfl rfl (sl rfl (gq rfl) rfl (bs h fun v4 hv4 h=>C4 rfl rfl A4 (A26 _ _ _ _ hv4) (.inl rfl) (F4 (.d (bo (!v4))) rfl rfl (sv rfl (gp rfl (A0f rfl) (fun _=>rfl) (gf rfl (vl rfl (gq rfl) rfl) (gf rfl (fun _=>rfl) (bs h fun v5 hv5 h=> ?_)))))))))))))))))))))))
 refine U1 _ (bo v5) (A0f rfl) (fun w7=>⟨_,[(di v1.Limit),(di 1),(di v3.1)],_,_,(by simp only [A6 w7];rfl),rfl,A4,A26 _ _ _ _ (E8 w7 hv5),(.inl rfl)⟩) ?_
 refine X7 _ (.d (bo (!v5))) rfl (A0f rfl) (fun w8=>(by simp only [A6 w8];rfl)) ?_
 refine sd rfl (A4j rfl rfl (fun hc=>A6 (R5 hc))) (A3 (cc rfl h (fun c3 h=> ?_) (fun c3 h=> ?_)))
 refine A7 (A9 (s0:=⟨T [],G []⟩) (sbr rfl rfl) ?_)
 refine B8 fun u10 hu10=>sv rfl (A3 (B5 ?_))
 cases h
 exact B0 (.inr rfl) (C1 (B4 rfl) I6) (.refl _)
 refine B3 (A7 (A7 (A9 (s0:=⟨T [(1,(.d _)),(2,(.ptr _ _)),(5,(.ptr _ _))],G [((2,u1),some (.box 27 _)),((5,u2),some (.box 42 _))]⟩) (sbr rfl rfl) ?_)))
 refine B8 fun u11 hu11=>sp rfl rfl (sl rfl (gq rfl) rfl (sd rfl (F1 rfl) (sv rfl (A3 (cc rfl h (fun c4 h=> ?_) (fun c4 h=> ?_))))))
 refine lr (fun u12 hu12=>sv rfl (A3 (B5 ?_)))
 cases h
 exact B0 (.inr rfl) (C1 (B4 rfl) I6) (.refl _)
 refine B3 (A7 (lr (fun u13 hu13=>sp rfl rfl (sl rfl (gq rfl) rfl (sv rfl (sv rfl (sp rfl rfl (sl rfl G_hit rfl (sd rfl (F1 rfl) (bs h fun v6 hv6 h=>C4 rfl rfl A4 (A7a _ _ _ _ hv6) (.inl rfl) (F4 (.d (bo (!v6))) rfl rfl (A3 (cc rfl h (fun c5 h=> ?_) (fun c5 h=> ?_))))))))))))))
 refine lr (fun u14 hu14=>sv rfl (A3 (B5 ?_)))
 cases h
 exact B0 (.inr rfl) (C1 (B4 rfl) I6) (.refl _)
 refine B3 (lr (fun u15 hu15=>sv rfl (A3 (B5 ?_))))
 cases h
 exact B0 (.inr rfl) (C1 (B4 rfl) I6) (.refl _)
noncomputable def A02 (p1:Map)(v1:Lane)(x2:Int):Option (Stp Int (Sum Unit Int)):=
  cond (decide (x2< (v1.Next.length:Int))) ((F3 v1.Next x2).bind fun v2=>(F3 p1.Lanes v2).bind fun v3=>cond (v3.Kind !=v1.Kind) (some (.out (.inr 4))) ((F3 v3.Curve_.Pts 0).bind fun v4=>(F3 v1.Curve_.Pts (w64 ((v1.Curve_.Pts.length:Int) - 1))).bind fun v5=>cond (!(v4.X==v5.X&& (v4.Y==v5.Y&&true))) (some (.out (.inr 3))) (some (.go (w64 (x2+1)))))) (some (.out (.inl ())))
noncomputable def A03 (p1:Map)(x1:Int):Option (Stp Int (Sum Unit Int)):=
  cond (decide (x1< (p1.Lanes.length:Int))) ((F3 p1.Lanes x1).bind fun v1=>thenS (loop (A02 p1 v1) 0) (fun _=>some (.go (w64 (x1+1)))) (fun r=>some (.out (.inr r)))) (some (.out (.inl ())))
noncomputable def A3r (p1:Map):Option Int:=
  thenS (loop (A03 p1) 0) (fun _=>some 0) (fun r=>some r)
theorem B49 (p1:Map)(r:Int)(h:A3r p1=some r):PCall Tryz.prog 73 [(.agg (A0s p1))] (i64 r):=by
 refine E1 (fk Tryz.func73 Tryz.ntmps73 m0 (by with_unfolding_all rfl)) (nl rfl) ?_
 unfold A3r at h
 refine A9 (s0:=⟨T [(0,(.d _))],G []⟩) (sbr rfl rfl) ?_
 refine lr (fun u1 hu1=>sn rfl rfl (sv rfl (A3 (A7 (lr (fun u2 hu2=>sv rfl (A3 (js h fun z1 hz1 h=>F2 (fun s=> ∃(y1:Unit) (g1:Unit),z1= .inl y1∧Sb ⟨T [],G []⟩ s) ?_ ?_))))))))
 refine A8 (F0 (A03 p1) (fun (x1:Int) (g2:Unit)=>⟨T [(1,(.ptr (1,u1) 0)),(3,(di x1))],G [((1,u1),some (.box 27 (A09 p1)))]⟩) 0 () _ hz1 (sbr rfl rfl) ?_)
 intro x1 g2 z2 hz2 ez2
 unfold A03 at hz2
 refine A7 (lr (fun u3 hu3=>sv rfl (sp rfl rfl (sl rfl G_hit rfl (sd rfl (F1 rfl) (sv rfl (A3 (cc rfl hz2 (fun c1 hz2=> ?_) (fun c1 hz2=> ?_)))))))))
 refine B3 (A7 (A8 (lr (fun u4 hu4=>sp rfl rfl (sl rfl G_hit rfl (sv rfl (bs hz2 fun v1 hv1 hz2=>sd rfl (G6 rfl rfl hv1 rfl) (sd rfl (F7 rfl hv1 rfl rfl) (sn rfl rfl (sst rfl G_hit (B1e v1) rfl (A3 (lr (fun u5 hu5=>sv rfl (A3 (js hz2 fun z3 hz3 hz2=>F2 (fun s=> ∃(y2:Unit) (g3:Unit),z3= .inl y2∧Sb ⟨T [(1,(.ptr (1,u1) 0)),(3,(di x1))],G [((1,u1),some (.box 27 (A09 p1)))]⟩ s) ?_ ?_)))))))))))))))
 refine A8 (F0 (A02 p1 v1) (fun (x2:Int) (g4:Unit)=>⟨T [(1,(.ptr (1,u1) 0)),(3,(di x1)),(4,(.ptr (4,u4) 0)),(5,(di x2))],G [((1,u1),some (.box 27 (A09 p1))),((4,u4),some (.box 42 (B1e v1)))]⟩) 0 () _ hz3 (sbr rfl rfl) ?_)
 intro x2 g4 z4 hz4 ez4
 unfold A02 at hz4
 refine A7 (lr (fun u6 hu6=>sv rfl (sp rfl rfl (sl rfl (gq rfl) rfl (sd rfl (F1 rfl) (sv rfl (A3 (cc rfl hz4 (fun c2 hz4=> ?_) (fun c2 hz4=> ?_)))))))))
 refine B3 (A7 (A8 (A7 (N6 rfl fun u7 hu7=>sp rfl rfl (sl rfl G_hit rfl (sp rfl rfl (sl rfl (gq rfl) rfl (sv rfl (bs hz4 fun v2 hv2 hz4=>sd rfl (G6 rfl rfl hv2 rfl) (sd rfl (E9 rfl hv2 rfl) (bs hz4 fun v3 hv3 hz4=>sd rfl (G6 rfl rfl hv3 rfl) (sd rfl (F7 rfl hv3 rfl rfl) (sn rfl rfl (sst rfl G_hit (B1e v3) rfl (A3 (A7 (A7 (A9 (s0:=⟨T [(1,(.ptr _ _)),(3,(.d _)),(4,(.ptr _ _)),(5,(.d _)),(6,(.ptr _ _))],G [((1,u1),some (.box 27 _)),((4,u4),some (.box 42 _)),((6,u7),some (.box 42 _))]⟩) (sbr rfl rfl) ?_))))))))))))))))))
 refine B8 fun u8 hu8=>sp rfl rfl (sl rfl (gq rfl) rfl (sp rfl rfl (sl rfl (gq rfl) rfl (sv rfl (A3 (cc rfl hz4 (fun c3 hz4=> ?_) (fun c3 hz4=> ?_)))))))
 refine lr (fun u9 hu9=>sv rfl (A3 (B5 ?_)))
 cases hz4
 obtain rfl:=ez4 _ rfl
 refine ⟨nofun,F8 ?_⟩
 rw [Sum.elim_inr]at hz2
 cases hz2
 obtain rfl:=ez2 _ rfl
 refine ⟨nofun,F8 ?_⟩
 rw [Sum.elim_inr]at h
 cases h
 exact B0 (.inr rfl) (C1 (B4 rfl) I6) (.refl _)
 refine B3 (A7 (N6 rfl fun u10 hu10=>sp rfl rfl (sp rfl rfl (sl rfl (gq rfl) rfl (bs hz4 fun v4 hv4 hz4=>sd rfl (G6 rfl rfl hv4 rfl) (sd rfl (F7 rfl hv4 rfl rfl) (sp rfl rfl (sp rfl rfl (sl rfl (gq rfl) rfl (sp rfl rfl (sp rfl rfl (sl rfl (gq rfl) rfl (sd rfl (F1 rfl) (sv rfl (bs hz4 fun v5 hv5 hz4=>sd rfl (G6 rfl rfl hv5 rfl) (sd rfl (F7 rfl hv5 rfl rfl) (F4 (.d (bo (!(v4.X==v5.X&& (v4.Y==v5.Y&&true))))) rfl rfl (A3 (cc rfl hz4 (fun c4 hz4=> ?_) (fun c4 hz4=> ?_))))))))))))))))))))
 refine A7 (A9 (s0:=⟨T [],G []⟩) (sbr rfl rfl) ?_)
 refine B8 fun u11 hu11=>sv rfl (A3 (B5 ?_))
 cases hz4
 obtain rfl:=ez4 _ rfl
 refine ⟨nofun,F8 ?_⟩
 rw [Sum.elim_inr]at hz2
 cases hz2
 obtain rfl:=ez2 _ rfl
 refine ⟨nofun,F8 ?_⟩
 rw [Sum.elim_inr]at h
 cases h
 exact B0 (.inr rfl) (C1 (B4 rfl) I6) (.refl _)
 refine B3 (H9 (A9 (s0:=⟨T [(1,(.ptr _ _)),(3,(.d _)),(4,(.ptr _ _)),(5,(.d _))],G [((1,u1),some (.box 27 _)),((4,u4),some (.box 42 _))]⟩) (sbr rfl rfl) ?_))
 refine B8 fun u12 hu12=>sv rfl (sv rfl (sv rfl (A3 (H4 ?_))))
 cases hz4
 exact ⟨rfl,(),(sbr rfl rfl)⟩
 refine C6 rfl ?_
 cases hz4
 obtain rfl:=ez4 _ rfl
 refine ⟨nofun,C2 rfl (l_j ?_)⟩
 exact ⟨_,(),rfl,(sbr rfl rfl)⟩
 rintro _ ⟨y2,g3,rfl,q1⟩
 rw [Sum.elim_inl]at hz2
 refine H9 (A9 q1 (B8 fun u13 hu13=>sv rfl (sv rfl (sv rfl (A3 (H4 ?_))))))
 cases hz2
 exact ⟨rfl,(),(sbr rfl rfl)⟩
 refine C6 rfl ?_
 cases hz2
 obtain rfl:=ez2 _ rfl
 refine ⟨nofun,C2 rfl (l_j ?_)⟩
 exact ⟨_,(),rfl,(sbr rfl rfl)⟩
 rintro _ ⟨y1,g1,rfl,q2⟩
 rw [Sum.elim_inl]at h
 refine A9 q2 (lr (fun u14 hu14=>sv rfl (A3 (B5 ?_))))
 cases h
 exact B0 (.inr rfl) (C1 (B4 rfl) I6) (.refl _)
noncomputable def R8 (p1:Map)(p2:Signal)(x2:Int):Option (Stp Int (Sum Unit Int)):=
  cond (decide (x2< (p2.Phases.length:Int))) ((F3 p2.Phases x2).bind fun v4=>(A2q v4.Green 0 (p1.Lanes.length:Int)).bind fun v5=>cond (!v5) (some (.out (.inr 11))) (some (.go (w64 (x2+1))))) (some (.out (.inl ())))
noncomputable def R9 (p2:Signal)(x1:(Bool×Int)):Option (Stp (Bool×Int) Bool):=
  cond (decide (x1.2< (p2.Phases.length:Int))) (((cond x1.1 (F3 p2.Phases x1.2) (some default))).bind fun v2=>((cond x1.1 (A1l v2.Ticks 1 10000) (some default))).bind fun v3=>some (.go ((x1.1&&v3),(w64 (x1.2+1))))) (some (.out x1.1))
noncomputable def A27 (p1:Map)(p2:Signal):Option Int:=
  cond ((p2.Phases.length:Int)==0) (some 6) (cond (decide ((p2.Phases.length:Int)>6)) (some 8) ((A1l p2.Offset 0 1099511627776).bind fun v1=>(loop (R9 p2) (v1,0)).bind fun y1=>cond (!y1) (some 2) (thenS (loop (R8 p1 p2) 0) (fun _=>some 0) (fun r=>some r))))
theorem B2j (p1:Map)(p2:Signal)(r:Int)(h:A27 p1 p2=some r):PCall Tryz.prog 74 [(.agg (A0s p1)),(.agg [(i64 p2.Offset),(.list (List.map A5k p2.Phases))])] (i64 r):=by
 refine E1 (fk Tryz.func74 Tryz.ntmps74 m0 (by with_unfolding_all rfl)) (nl rfl) ?_
 unfold A27 at h
 refine A9 (s0:=⟨T [(0,(.d _)),(1,(.d _))],G []⟩) (sbr rfl rfl) ?_
 refine lr (fun u1 hu1=>sn rfl rfl (sn rfl rfl (sv rfl (A3 (A7 (lr (fun u2 hu2=>sp rfl rfl (sl rfl G_hit rfl (sd rfl (F1 rfl) (sv rfl (A3 (cc rfl h (fun c1 h=> ?_) (fun c1 h=> ?_)))))))))))))
 refine lr (fun u3 hu3=>sv rfl (A3 (B5 ?_)))
 cases h
 exact B0 (.inr rfl) (C1 (B4 rfl) I6) (.refl _)
 refine B3 (A7 (lr (fun u4 hu4=>sp rfl rfl (sl rfl G_hit rfl (sd rfl (F1 rfl) (sv rfl (A3 (cc rfl h (fun c2 h=> ?_) (fun c2 h=> ?_)))))))))
 refine lr (fun u5 hu5=>sv rfl (A3 (B5 ?_)))
 cases h
 exact B0 (.inr rfl) (C1 (B4 rfl) I6) (.refl _)
 refine B3 (lr (fun u6 hu6=>sp rfl rfl (sl rfl G_hit rfl (bs h fun v1 hv1 h=>C4 rfl rfl A4 (A26 _ _ _ _ hv1) (.inl rfl) (sv rfl (A3 (A7 (lr (fun u7 hu7=>sv rfl (A3 (bs h fun y1 hy1 h=>F2 (fun s=> ∃g1:Unit,Sb ⟨T [(2,(.ptr (2,u1) 0)),(3,(.ptr (3,u1) 0)),(5,(.d (bo y1)))],G [((2,u1),some (.box 27 (A09 p1))),((3,u1),some (.box 48 [(di p2.Offset),(dl A5k p2.Phases)]))]⟩ s) ?_ ?_)))))))))))
 refine A8 (F0 (R9 p2) (fun (x1:(Bool×Int)) (g2:Unit)=>⟨T [(2,(.ptr (2,u1) 0)),(3,(.ptr (3,u1) 0)),(5,(.d (bo x1.1))),(6,(di x1.2))],G [((2,u1),some (.box 27 (A09 p1))),((3,u1),some (.box 48 [(di p2.Offset),(dl A5k p2.Phases)]))]⟩) (v1,0) () _ hy1 (sbr rfl rfl) ?_)
 intro x1 g2 z1 hz1 ez1
 unfold R9 at hz1
 refine A7 (lr (fun u8 hu8=>sv rfl (sp rfl rfl (sl rfl (gq rfl) rfl (sd rfl (F1 rfl) (sv rfl (A3 (cc rfl hz1 (fun c3 hz1=> ?_) (fun c3 hz1=> ?_)))))))))
 refine B3 (A7 (A8 (B8 fun u9 hu9=>sv rfl (sv rfl (gp rfl (A4y rfl) (fun _=>rfl) (gt rfl (vl rfl (gq rfl) rfl) (gt rfl (fun _=>rfl) (bs hz1 fun v2 hv2 hz1=>gt rfl (fun w4=>(G6 (A6 w4) (A6 w4) (E8 w4 hv2) rfl)) ?_))))))))
 refine gt rfl (fun w5=>(by simp only [A6 w5];rfl)) ?_
 refine gt rfl (fun w6=>(E9 (A6 w6) (E8 w6 hv2) rfl)) (bs hz1 fun v3 hv3 hz1=> ?_)
 refine U1 x1.1 (bo v3) (A4y rfl) (fun w7=>⟨_,[(di v2.Ticks),(di 1),(di 10000)],_,_,(by simp only [A6 w7];rfl),rfl,A4,A26 _ _ _ _ (E8 w7 hv3),(.inl rfl)⟩) ?_
 refine sa rfl rfl rfl (sv rfl (A3 (H9 (B8 fun u10 hu10=>sv rfl (sv rfl (sv rfl (A3 (H4 ?_))))))))
 cases hz1
 exact ⟨rfl,(),(sbr rfl rfl)⟩
 refine C6 rfl ?_
 cases hz1
 obtain rfl:=ez1 _ rfl
 refine ⟨nofun,C2 rfl (l_j ?_)⟩
 exact ⟨(),(sbr rfl rfl)⟩
 rintro _ ⟨g1,q1⟩
 refine A9 q1 (A7 (lr (fun u11 hu11=>sv rfl (F4 (.d (bo (!y1))) rfl rfl (A3 (cc rfl h (fun c4 h=> ?_) (fun c4 h=> ?_)))))))
 refine lr (fun u12 hu12=>sv rfl (A3 (B5 ?_)))
 cases h
 exact B0 (.inr rfl) (C1 (B4 rfl) I6) (.refl _)
 refine B3 (A7 (lr (fun u13 hu13=>sv rfl (A3 (js h fun z2 hz2 h=>F2 (fun s=> ∃(y2:Unit) (g3:Unit),z2= .inl y2∧Sb ⟨T [],G []⟩ s) ?_ ?_)))))
 refine A8 (F0 (R8 p1 p2) (fun (x2:Int) (g4:Unit)=>⟨T [(2,(.ptr (2,u1) 0)),(3,(.ptr (3,u1) 0)),(7,(di x2))],G [((2,u1),some (.box 27 (A09 p1))),((3,u1),some (.box 48 [(di p2.Offset),(dl A5k p2.Phases)]))]⟩) 0 () _ hz2 (sbr rfl rfl) ?_)
 intro x2 g4 z3 hz3 ez3
 unfold R8 at hz3
 refine A7 (lr (fun u14 hu14=>sv rfl (sp rfl rfl (sl rfl (gq rfl) rfl (sd rfl (F1 rfl) (sv rfl (A3 (cc rfl hz3 (fun c5 hz3=> ?_) (fun c5 hz3=> ?_)))))))))
 refine B3 (A7 (A8 (A7 (N6 rfl fun u15 hu15=>sp rfl rfl (sl rfl (gq rfl) rfl (sv rfl (bs hz3 fun v4 hv4 hz3=>sd rfl (G6 rfl rfl hv4 rfl) (sv rfl (sd rfl (E9 rfl hv4 rfl) (sp rfl rfl (sl rfl G_hit rfl (sd rfl (F1 rfl) (bs hz3 fun v5 hv5 hz3=>C4 rfl rfl A4 (A7a _ _ _ _ hv5) (.inl rfl) (F4 (.d (bo (!v5))) rfl rfl (A3 (cc rfl hz3 (fun c6 hz3=> ?_) (fun c6 hz3=> ?_)))))))))))))))))
 refine lr (fun u16 hu16=>sv rfl (A3 (B5 ?_)))
 cases hz3
 obtain rfl:=ez3 _ rfl
 refine ⟨nofun,F8 ?_⟩
 rw [Sum.elim_inr]at h
 cases h
 exact B0 (.inr rfl) (C1 (B4 rfl) I6) (.refl _)
 refine B3 (H9 (B8 fun u17 hu17=>sv rfl (sv rfl (sv rfl (A3 (H4 ?_))))))
 cases hz3
 exact ⟨rfl,(),(sbr rfl rfl)⟩
 refine C6 rfl ?_
 cases hz3
 obtain rfl:=ez3 _ rfl
 refine ⟨nofun,C2 rfl (l_j ?_)⟩
 exact ⟨_,(),rfl,(sbr rfl rfl)⟩
 rintro _ ⟨y2,g3,rfl,q2⟩
 rw [Sum.elim_inl]at h
 refine A9 q2 (lr (fun u18 hu18=>sv rfl (A3 (B5 ?_))))
 cases h
 exact B0 (.inr rfl) (C1 (B4 rfl) I6) (.refl _)
noncomputable def A0x (p1:Curve)(x1:((List Int)×Int)):Option (Stp ((List Int)×Int) (List Int)):=
  cond (decide ((w64 (x1.2+1))< (p1.Pts.length:Int))) ((F3 p1.Pts (w64 (x1.2+1))).bind fun v2=>(F3 p1.Pts x1.2).bind fun v3=>(A51 v2 v3).bind fun v4=>(A6x v4 v4).bind fun v5=>(A59 v5).bind fun v6=>(B18 x1.1 [v6]).bind fun v7=>some (.go (v7,(w64 (x1.2+1))))) (some (.out x1.1))
noncomputable def A6y (p1:Curve):Option (List Int):=
  (A65 p1).bind fun v1=>cond (v1 !=0) (some []) ((loop (A0x p1) ([],0)).bind fun y1=>some y1)
theorem B7m (p1:Curve)(r:(List Int))(h:A6y p1=some r):PCall Tryz.prog 242 [(.agg [(.list (List.map A2x p1.Pts))])] (.list (List.map A5 r)):=by
 refine E1 (fk Tryz.func242 Tryz.ntmps242 (fun r=>if r==8 then [1005]else []) (by with_unfolding_all rfl)) (nl rfl) ?_
 unfold A6y at h
 refine A9 (s0:=⟨T [(0,(.d _))],G []⟩) (sbr rfl rfl) ?_
 refine lr (fun u1 hu1=>sn rfl rfl (sv rfl (A3 (A7 (lr (fun u2 hu2=>sd rfl (B9 rfl G_hit rfl rfl) (bs h fun v1 hv1 h=>C4 rfl rfl A4 (B33 _ _ hv1) (.inl rfl) (sv rfl (A3 (cc rfl h (fun c1 h=> ?_) (fun c1 h=> ?_)))))))))))
 refine lr (fun u3 hu3=>sv rfl (A3 (B5 ?_)))
 cases h
 exact B0 (.inr rfl) (C1 (B4 rfl) I6) DLe.nil
 refine B3 (lr (fun u4 hu4=>sv rfl (A3 (A7 (lr (fun u5 hu5=>sv rfl (A3 (bs h fun y1 hy1 h=>F2 (fun s=> ∃g1:Nat,Sb ⟨T [(3,(oS y1 (35,g1)))],G [((35,g1),oB 2 1 A5 y1)]⟩ s) ?_ ?_))))))))
 refine A8 (F0 (A0x p1) (fun (x1:((List Int)×Int)) (g2:Nat)=>⟨T [(1,(.ptr (1,u1) 0)),(3,(oS x1.1 (35,g2))),(4,(di x1.2))],G [((1,u1),some (.box 39 [(dl A2x p1.Pts)])),((35,g2),oB 2 1 A5 x1.1)]⟩) ([],0) 0 _ hy1 (J0 ⟨.of rfl, .of rfl, .of rfl,trivial⟩ (B6 G_hit (.of rfl) (A3f trivial))) ?_)
 intro x1 g2 z1 hz1 ez1
 unfold A0x at hz1
 refine A7 (lr (fun u6 hu6=>sv rfl (sv rfl (sp rfl rfl (sl rfl G_hit rfl (sd rfl (F1 rfl) (sv rfl (A3 (cc rfl hz1 (fun c2 hz1=> ?_) (fun c2 hz1=> ?_))))))))))
 refine B3 (A7 (A8 (A7 (N6 rfl fun u7 hu7=>sp rfl rfl (sl rfl G_hit rfl (sv rfl (sv rfl (bs hz1 fun v2 hv2 hz1=>sd rfl (G6 rfl rfl hv2 rfl) (sd rfl (F7 rfl hv2 rfl rfl) (sp rfl rfl (sl rfl G_hit rfl (sv rfl (bs hz1 fun v3 hv3 hz1=>sd rfl (G6 rfl rfl hv3 rfl) (sd rfl (F7 rfl hv3 rfl rfl) (bs hz1 fun v4 hv4 hz1=>C4 rfl rfl A4 (A97 _ _ _ hv4) (.inl rfl) (sn rfl rfl (sst rfl G_hit [(di v4.X),(di v4.Y)] rfl (A3 (A9 (s0:=⟨T [(1,(.ptr (1,u1) 0)),(3,(oS x1.1 (35,g2))),(4,(di x1.2)),(5,(.ptr (5,u7) 0))],G [((1,u1),some (.box 39 [(dl A2x p1.Pts)])),((35,g2),oB 2 1 A5 x1.1),((5,u7),some (.box 148 [(di v4.X),(di v4.Y)]))]⟩) (J0 ⟨.of rfl, .of rfl, .of rfl, .of rfl,trivial⟩ (sg rfl (I7 (gq rfl) (B6 G_hit (.of rfl) trivial)))) ?_)))))))))))))))))))
 refine B8 fun u8 hu8=>F4 (oS x1.1 (35,g2)) rfl rfl (sd rfl (B9 rfl (gq rfl) rfl rfl) (sd rfl (B9 rfl (gq rfl) rfl rfl) (bs hz1 fun v5 hv5 hz1=>C4 rfl rfl A4 (A8z _ _ _ hv5) (.inl rfl) (bs hz1 fun v6 hv6 hz1=>C4 rfl rfl A4 (B47 _ _ hv6) (.inl rfl) (F4 (dl A5 [v6]) rfl rfl (bs hz1 fun v7 hv7 hz1=>X6 A5 (35,g2) x1.1 v6 [] _ (S7 (fun _=>rfl)) rfl (gq rfl) hv7 (ss rfl (A3 (H9 (B8 fun u9 hu9=>sv rfl (sv rfl (sv rfl (A3 (H4 ?_))))))))))))))
 cases hz1
 exact ⟨rfl,u8,(J0 ⟨.of rfl,(.of (A93 (A3e hv7)).symm), .of rfl,trivial⟩ (sg rfl (A36 G_hit trivial)))⟩
 refine C6 rfl ?_
 cases hz1
 obtain rfl:=ez1 _ rfl
 refine ⟨nofun,C2 rfl (l_j ?_)⟩
 exact ⟨g2,(J0 ⟨.of rfl,trivial⟩ (I7 (gq rfl) trivial))⟩
 rintro _ ⟨g1,q1⟩
 refine A9 q1 (lr (fun u10 hu10=>F4 (oS y1 (35,g1)) rfl rfl (F4 (oS y1 (35,g1)) rfl rfl (A3 (B5 ?_)))))
 cases h
 exact B0 (.inr rfl) (C1 (B4 rfl) (B1b G_hit)) B1a
noncomputable def Y7 (v1:(List Int))(x1:(Int×Int)):Option (Stp (Int×Int) Int):=
  cond (decide (x1.2< (v1.length:Int))) ((F3 v1 x1.2).bind fun v2=>some (.go ((w64 (x1.1+v2)),(w64 (x1.2+1))))) (some (.out x1.1))
noncomputable def A2l (p1:Curve):Option Int:=
  (A6y p1).bind fun v1=>(loop (Y7 v1) (0,0)).bind fun y1=>some y1
theorem A87 (p1:Curve)(r:Int)(h:A2l p1=some r):PCall Tryz.prog 178 [(.agg [(.list (List.map A2x p1.Pts))])] (i64 r):=by
 refine E1 (fk Tryz.func178 Tryz.ntmps178 m0 (by with_unfolding_all rfl)) (nl rfl) ?_
 unfold A2l at h
 refine A9 (s0:=⟨T [(0,(.d _))],G []⟩) (sbr rfl rfl) ?_
 refine lr (fun u1 hu1=>sn rfl rfl (sv rfl (A3 (lr (fun u2 hu2=>sv rfl (A3 (lr (fun u3 hu3=>sd rfl (B9 rfl G_hit rfl rfl) (bs h fun v1 hv1 h=>C4 rfl rfl A4 (B7m _ _ hv1) (.inl rfl) (sv rfl (A3 (A7 (lr (fun u4 hu4=>sv rfl (A3 (bs h fun y1 hy1 h=>F2 (fun s=> ∃g1:Unit,Sb ⟨T [(3,(di y1))],G []⟩ s) ?_ ?_))))))))))))))))
 refine A8 (F0 (Y7 v1) (fun (x1:(Int×Int)) (g2:Unit)=>⟨T [(3,(di x1.1)),(4,(dl A5 v1)),(5,(di x1.2))],G []⟩) (0,0) () _ hy1 (sbr rfl rfl) ?_)
 intro x1 g2 z1 hz1 ez1
 unfold Y7 at hz1
 refine A7 (lr (fun u5 hu5=>sv rfl (sv rfl (sd rfl (F1 rfl) (sv rfl (A3 (cc rfl hz1 (fun c1 hz1=> ?_) (fun c1 hz1=> ?_))))))))
 refine B3 (A7 (A8 (B8 fun u6 hu6=>sv rfl (sv rfl (sv rfl (bs hz1 fun v2 hv2 hz1=>sd rfl (G6 rfl rfl hv2 rfl) (sd rfl (E9 rfl hv2 rfl) (sv rfl (sv rfl (A3 (H9 (B8 fun u7 hu7=>sv rfl (sv rfl (sv rfl (A3 (H4 ?_))))))))))))))))
 cases hz1
 exact ⟨rfl,(),(sbr rfl rfl)⟩
 refine C6 rfl ?_
 cases hz1
 obtain rfl:=ez1 _ rfl
 refine ⟨nofun,C2 rfl (l_j ?_)⟩
 exact ⟨(),(sbr rfl rfl)⟩
 rintro _ ⟨g1,q1⟩
 refine A9 q1 (lr (fun u8 hu8=>sv rfl (sv rfl (A3 (B5 ?_)))))
 cases h
 exact B0 (.inr rfl) (C1 (B4 rfl) I6) (.refl _)
noncomputable def A04 (p1:Map)(p2:Zone)(x2:Int):Option (Stp Int (Sum Unit Int)):=
  cond (decide (x2< (p2.Parts.length:Int))) ((F3 p2.Parts x2).bind fun v4=>((cond (!((decide (v4.From<0))||(decide (v4.From≥v4.To)))) (F3 p1.Lanes v4.Lane_) (some default))).bind fun v5=>((cond (!((decide (v4.From<0))||(decide (v4.From≥v4.To)))) (A2l v5.Curve_) (some default))).bind fun v6=>cond (((((decide (v4.From<0))||(decide (v4.From≥v4.To)))||(decide (v4.To>v6)))||(decide (v4.Rank<0)))||(decide (v4.Rank>100))) (some (.out (.inr 2))) (some (.go (w64 (x2+1))))) (some (.out (.inl ())))
noncomputable def A3c (p2:Zone)(x1:((List Int)×Int)):Option (Stp ((List Int)×Int) (List Int)):=
  cond (decide (x1.2< (p2.Parts.length:Int))) ((F3 p2.Parts x1.2).bind fun v1=>(B18 x1.1 [v1.Lane_]).bind fun v2=>some (.go (v2,(w64 (x1.2+1))))) (some (.out x1.1))
noncomputable def A3s (p1:Map)(p2:Zone):Option Int:=
  cond (decide ((p2.Parts.length:Int)<2)) (some 6) (cond (decide ((p2.Parts.length:Int)>6)) (some 8) (cond ((decide (p2.Signal_<0))||(decide (p2.Signal_>(p1.Signals.length:Int)))) (some 2) ((loop (A3c p2) ([],0)).bind fun y1=>(A2q y1 0 (p1.Lanes.length:Int)).bind fun v3=>cond (!v3) (some 11) (thenS (loop (A04 p1 p2) 0) (fun _=>some 0) (fun r=>some r)))))
theorem B4a (p1:Map)(p2:Zone)(r:Int)(h:A3s p1 p2=some r):PCall Tryz.prog 75 [(.agg (A0s p1)),(.agg [(.list (List.map R3 p2.Parts)),(i64 p2.Signal_)])] (i64 r):=by
 refine E1 (fk Tryz.func75 Tryz.ntmps75 (fun r=>if r==11 then [1007]else []) (by with_unfolding_all rfl)) (nl rfl) ?_
 unfold A3s at h
 refine A9 (s0:=⟨T [(0,(.d _)),(1,(.d _))],G []⟩) (sbr rfl rfl) ?_
 refine lr (fun u1 hu1=>sn rfl rfl (sn rfl rfl (sv rfl (A3 (A7 (lr (fun u2 hu2=>sp rfl rfl (sl rfl G_hit rfl (sd rfl (F1 rfl) (sv rfl (A3 (cc rfl h (fun c1 h=> ?_) (fun c1 h=> ?_)))))))))))))
 refine lr (fun u3 hu3=>sv rfl (A3 (B5 ?_)))
 cases h
 exact B0 (.inr rfl) (C1 (B4 rfl) I6) (.refl _)
 refine B3 (A7 (lr (fun u4 hu4=>sp rfl rfl (sl rfl G_hit rfl (sd rfl (F1 rfl) (sv rfl (A3 (cc rfl h (fun c2 h=> ?_) (fun c2 h=> ?_)))))))))
 refine lr (fun u5 hu5=>sv rfl (A3 (B5 ?_)))
 cases h
 exact B0 (.inr rfl) (C1 (B4 rfl) I6) (.refl _)
 refine B3 (A7 (lr (fun u6 hu6=>sp rfl rfl (sl rfl G_hit rfl (sv rfl (sv rfl (gp rfl (A0f rfl) (fun _=>rfl) (gf rfl (vl rfl G_hit rfl) (gp rfl (A0f rfl) (fun _=>rfl) (gf rfl (vl rfl (gq rfl) rfl) (gf rfl (fun w5=>(F1 (A6 w5))) (gf rfl (fun w6=>(A1q (A6 w6) (A6 w6) rfl)) (sd rfl (A4j rfl rfl (fun hc=>A6 (R5 hc))) (A3 (cc rfl h (fun c3 h=> ?_) (fun c3 h=> ?_))))))))))))))))
 refine A7 (A9 (s0:=⟨T [],G []⟩) (sbr rfl rfl) ?_)
 refine B8 fun u7 hu7=>sv rfl (A3 (B5 ?_))
 cases h
 exact B0 (.inr rfl) (C1 (B4 rfl) I6) (.refl _)
 refine B3 (A7 (A9 (s0:=⟨T [(2,(.ptr _ _)),(3,(.ptr _ _))],G [((2,u1),some (.box 27 _)),((3,u1),some (.box 45 _))]⟩) (sbr rfl rfl) ?_))
 refine B8 fun u8 hu8=>sv rfl (A3 (A7 (lr (fun u9 hu9=>sv rfl (A3 (bs h fun y1 hy1 h=>F2 (fun s=> ∃g1:Nat,Sb ⟨T [(2,(.ptr (2,u1) 0)),(3,(.ptr (3,u1) 0)),(5,(oS y1 (43,g1)))],G [((2,u1),some (.box 27 (A09 p1))),((3,u1),some (.box 45 [(dl R3 p2.Parts),(di p2.Signal_)])),((43,g1),oB 3 1 A5 y1)]⟩ s) ?_ ?_))))))
 refine A8 (F0 (A3c p2) (fun (x1:((List Int)×Int)) (g2:Nat)=>⟨T [(2,(.ptr (2,u1) 0)),(3,(.ptr (3,u1) 0)),(5,(oS x1.1 (43,g2))),(6,(di x1.2))],G [((2,u1),some (.box 27 (A09 p1))),((3,u1),some (.box 45 [(dl R3 p2.Parts),(di p2.Signal_)])),((43,g2),oB 3 1 A5 x1.1)]⟩) ([],0) 0 _ hy1 (J0 ⟨.of rfl, .of rfl, .of rfl, .of rfl,trivial⟩ (B6 G_hit (.of rfl) (sg rfl (A3f trivial)))) ?_)
 intro x1 g2 z1 hz1 ez1
 unfold A3c at hz1
 refine A7 (lr (fun u10 hu10=>sv rfl (sp rfl rfl (sl rfl (gq rfl) rfl (sd rfl (F1 rfl) (sv rfl (A3 (cc rfl hz1 (fun c4 hz1=> ?_) (fun c4 hz1=> ?_)))))))))
 refine B3 (A7 (A8 (B8 fun u11 hu11=>F4 (oS x1.1 (43,g2)) rfl rfl (sp rfl rfl (sl rfl (gq rfl) rfl (sv rfl (bs hz1 fun v1 hv1 hz1=>sd rfl (G6 rfl rfl hv1 rfl) (sv rfl (sd rfl (E9 rfl hv1 rfl) (F4 (dl A5 [v1.Lane_]) rfl rfl (bs hz1 fun v2 hv2 hz1=>X6 A5 (43,g2) x1.1 v1.Lane_ [] _ (S7 (fun _=>rfl)) rfl (gq rfl) hv2 (ss rfl (A3 (H9 (A9 (s0:=⟨T [(2,(.ptr _ _)),(3,(.ptr _ _)),(5,(.sl _)),(6,(.d _))],G [((2,u1),some (.box 27 _)),((3,u1),some (.box 45 _)),((43,u11),some _)]⟩) (sbr rfl rfl) ?_)))))))))))))))
 refine B8 fun u12 hu12=>sv rfl (sv rfl (sv rfl (A3 (H4 ?_))))
 cases hz1
 exact ⟨rfl,u11,(J0 ⟨.of rfl, .of rfl,(.of (A93 (A3e hv2)).symm), .of rfl,trivial⟩ (B6 G_hit (.of rfl) (sg rfl (A36 (gq rfl) trivial))))⟩
 refine C6 rfl ?_
 cases hz1
 obtain rfl:=ez1 _ rfl
 refine ⟨nofun,C2 rfl (l_j ?_)⟩
 exact ⟨g2,(J0 ⟨.of rfl, .of rfl, .of rfl,trivial⟩ (B6 G_hit (.of rfl) (sg rfl (I7 (gq rfl) trivial))))⟩
 rintro _ ⟨g1,q1⟩
 refine A9 q1 (A7 (lr (fun u13 hu13=>F4 (oS y1 (43,g1)) rfl rfl (sp rfl rfl (sl rfl G_hit rfl (sd rfl (F1 rfl) (bs h fun v3 hv3 h=>C4 rfl (Q5 (B1b (gq rfl)) (rD (rD N0))) (.cons B1a (.cons (.refl _) A4)) (A7a _ _ _ _ hv3) (.inr rfl) (F4 (.d (bo (!v3))) rfl rfl (A3 (cc rfl h (fun c5 h=> ?_) (fun c5 h=> ?_)))))))))))
 refine lr (fun u14 hu14=>sv rfl (A3 (B5 ?_)))
 cases h
 exact B0 (.inr rfl) (C1 (B4 rfl) I6) (.refl _)
 refine B3 (A7 (lr (fun u15 hu15=>sv rfl (A3 (js h fun z2 hz2 h=>F2 (fun s=> ∃(y2:Unit) (g3:Unit),z2= .inl y2∧Sb ⟨T [],G []⟩ s) ?_ ?_)))))
 refine A8 (F0 (A04 p1 p2) (fun (x2:Int) (g4:Unit)=>⟨T [(2,(.ptr (2,u1) 0)),(3,(.ptr (3,u1) 0)),(7,(di x2))],G [((2,u1),some (.box 27 (A09 p1))),((3,u1),some (.box 45 [(dl R3 p2.Parts),(di p2.Signal_)]))]⟩) 0 () _ hz2 (sbr rfl rfl) ?_)
 intro x2 g4 z3 hz3 ez3
 unfold A04 at hz3
 refine A7 (lr (fun u16 hu16=>sv rfl (sp rfl rfl (sl rfl (gq rfl) rfl (sd rfl (F1 rfl) (sv rfl (A3 (cc rfl hz3 (fun c6 hz3=> ?_) (fun c6 hz3=> ?_)))))))))
 refine B3 (A7 (A8 (lr (fun u17 hu17=>sp rfl rfl (sl rfl (gq rfl) rfl (sv rfl (bs hz3 fun v4 hv4 hz3=>sd rfl (G6 rfl rfl hv4 rfl) (sd rfl (F7 rfl hv4 rfl rfl) (sn rfl rfl (sst rfl G_hit (B10 v4) rfl (A3 (A7 (N6 rfl fun u18 hu18=>sp rfl rfl (sl rfl G_hit rfl (sv rfl (sv rfl (gp rfl (A0f rfl) (fun _=>rfl) (gf rfl (vl rfl G_hit rfl) (gp rfl (A0f rfl) (fun _=>rfl) (gf rfl (vl rfl G_hit rfl) (gf rfl (fun w11=>(A1q (A6 w11) (A6 w11) rfl)) (sd rfl (A4j rfl rfl (fun hc=>A6 (R5 hc))) (sv rfl (gp rfl (A0f rfl) (fun _=>rfl) (gf rfl (vl rfl G_hit rfl) (gp rfl (A0f rfl) (fun _=>rfl) (gf rfl (vl rfl (gq rfl) rfl) (gp rfl (A0f rfl) (fun _=>rfl) (gf rfl (vl rfl G_hit rfl) (bs hz3 fun v5 hv5 hz3=>gf rfl (fun w18=>(G6 (A6 w18) (A6 w18) (E8 w18 hv5) rfl)) ?_))))))))))))))))))))))))))))))
 refine gf rfl (fun w19=>(by simp only [A6 w19];rfl)) ?_
 refine gf rfl (fun w20=>(F7 (A6 w20) (E8 w20 hv5) rfl rfl)) (bs hz3 fun v6 hv6 hz3=> ?_)
 refine U1 _ (i64 v6) (A0f rfl) (fun w21=>⟨_,[(.d (.agg [(.list (List.map A2x v5.Curve_.Pts))]))],_,_,(by simp only [A6 w21];rfl),rfl,A4,A87 _ _ (E8 w21 hv6),(.inl rfl)⟩) ?_
 refine gf rfl (fun w22=>(A1q (A6 w22) (A6 w22) rfl)) (sd rfl (A4j rfl rfl (fun hc=>A6 (R5 hc))) (sv rfl (gp rfl (A0f rfl) (fun _=>rfl) (gf rfl (vl rfl G_hit rfl) (gf rfl (vb rfl rfl rfl) (sd rfl (A4j rfl rfl (fun hc=>A6 (R5 hc))) (sv rfl (gp rfl (A0f rfl) (fun _=>rfl) (gf rfl (vl rfl G_hit rfl) (gf rfl (vb rfl rfl rfl) (sd rfl (A4j rfl rfl (fun hc=>A6 (R5 hc))) (A3 (cc rfl hz3 (fun c7 hz3=> ?_) (fun c7 hz3=> ?_))))))))))))))
 refine A7 (A9 (s0:=⟨T [],G []⟩) (sbr rfl rfl) ?_)
 refine B8 fun u19 hu19=>sv rfl (A3 (B5 ?_))
 cases hz3
 obtain rfl:=ez3 _ rfl
 refine ⟨nofun,F8 ?_⟩
 rw [Sum.elim_inr]at h
 cases h
 exact B0 (.inr rfl) (C1 (B4 rfl) I6) (.refl _)
 refine B3 (H9 (A9 (s0:=⟨T [(2,(.ptr _ _)),(3,(.ptr _ _)),(7,(.d _))],G [((2,u1),some (.box 27 _)),((3,u1),some (.box 45 _))]⟩) (sbr rfl rfl) ?_))
 refine B8 fun u20 hu20=>sv rfl (sv rfl (sv rfl (A3 (H4 ?_))))
 cases hz3
 exact ⟨rfl,(),(sbr rfl rfl)⟩
 refine C6 rfl ?_
 cases hz3
 obtain rfl:=ez3 _ rfl
 refine ⟨nofun,C2 rfl (l_j ?_)⟩
 exact ⟨_,(),rfl,(sbr rfl rfl)⟩
 rintro _ ⟨y2,g3,rfl,q2⟩
 rw [Sum.elim_inl]at h
 refine A9 q2 (lr (fun u21 hu21=>sv rfl (A3 (B5 ?_))))
 cases h
 exact B0 (.inr rfl) (C1 (B4 rfl) I6) (.refl _)
noncomputable def A3t (p1:Map)(p2:Work):Option Int:=
  cond ((decide (p2.Lane_<0))||(decide (p2.Lane_≥(p1.Lanes.length:Int)))) (some 7) ((F3 p1.Lanes p2.Lane_).bind fun v1=>(A5a v1.Kind).bind fun v2=>((cond (!((decide (p2.From<0))||(decide (p2.From>p2.To)))) (A2l v1.Curve_) (some default))).bind fun v3=>((cond (!((((((decide (p2.From<0))||(decide (p2.From>p2.To)))||(decide (p2.To>v3)))||(decide (p2.Begin<0)))||(decide (p2.Begin≥p2.End)))||(decide (p2.End>1099511627776)))) (A1l p2.Limit 0 v2.1) (some default))).bind fun v4=>cond (((((((decide (p2.From<0))||(decide (p2.From>p2.To)))||(decide (p2.To>v3)))||(decide (p2.Begin<0)))||(decide (p2.Begin≥p2.End)))||(decide (p2.End>1099511627776)))||(!v4)) (some 2) (some 0))
theorem B4b (p1:Map)(p2:Work)(r:Int)(h:A3t p1 p2=some r):PCall Tryz.prog 76 [(.agg (A0s p1)),(.agg (B7b p2))] (i64 r):=by
 refine E1 (fk Tryz.func76 Tryz.ntmps76 m0 (by with_unfolding_all rfl)) (nl rfl) ?_
 unfold A3t at h
 refine A9 (s0:=⟨T [(0,(.d _)),(1,(.d _))],G []⟩) (sbr rfl rfl) ?_
 refine lr (fun u1 hu1=>sn rfl rfl (sn rfl rfl (sv rfl (A3 (A7 (lr (fun u2 hu2=>sp rfl rfl (sl rfl G_hit rfl (sv rfl (sv rfl (gp rfl (A0f rfl) (fun _=>rfl) (gf rfl (vl rfl G_hit rfl) (gp rfl (A0f rfl) (fun _=>rfl) (gf rfl (vl rfl (gq rfl) rfl) (gf rfl (fun w5=>(F1 (A6 w5))) (gf rfl (fun w6=>(A1q (A6 w6) (A6 w6) rfl)) (sd rfl (A4j rfl rfl (fun hc=>A6 (R5 hc))) (A3 (cc rfl h (fun c1 h=> ?_) (fun c1 h=> ?_))))))))))))))))))))
 refine lr (fun u3 hu3=>sv rfl (A3 (B5 ?_)))
 cases h
 exact B0 (.inr rfl) (C1 (B4 rfl) I6) (.refl _)
 refine B3 (lr (fun u4 hu4=>sp rfl rfl (sl rfl (gq rfl) rfl (sp rfl rfl (sl rfl G_hit rfl (bs h fun v1 hv1 h=>sd rfl (G6 rfl rfl hv1 rfl) (sd rfl (F7 rfl hv1 rfl rfl) (sn rfl rfl (sst rfl G_hit (B1e v1) rfl (A3 (A7 (A9 (s0:=⟨T [(3,(.ptr _ _)),(5,(.ptr _ _))],G [((3,u1),some (.box 50 _)),((5,u4),some (.box 42 _))]⟩) (sbr rfl rfl) ?_))))))))))))
 refine B8 fun u5 hu5=>sp rfl rfl (sl rfl (gq rfl) rfl (bs h fun v2 hv2 h=>C4 rfl rfl A4 (B1m _ _ hv2) (.inl rfl) (sv rfl (sv rfl (sv rfl (sv rfl (sv rfl (sv rfl (sv rfl (A3 (A7 (A7 (N6 rfl fun u6 hu6=>sp rfl rfl (sl rfl G_hit rfl (sv rfl (sv rfl (gp rfl (A0f rfl) (fun _=>rfl) (gf rfl (vl rfl G_hit rfl) (gp rfl (A0f rfl) (fun _=>rfl) (gf rfl (vl rfl G_hit rfl) (gf rfl (fun w11=>(A1q (A6 w11) (A6 w11) rfl)) (sd rfl (A4j rfl rfl (fun hc=>A6 (R5 hc))) (sv rfl (gp rfl (A0f rfl) (fun _=>rfl) (gf rfl (vl rfl G_hit rfl) (gp rfl (A0f rfl) (fun _=>rfl) (gf rfl (fun w15=>(B9 (A6 w15) (gq rfl) rfl rfl)) (bs h fun v3 hv3 h=> ?_))))))))))))))))))))))))))))
 refine U1 _ (i64 v3) (A0f rfl) (fun w16=>⟨_,[(.d (.agg [(.list (List.map A2x v1.Curve_.Pts))]))],_,_,(by simp only [A6 w16];rfl),rfl,A4,A87 _ _ (E8 w16 hv3),(.inl rfl)⟩) ?_
 refine gf rfl (fun w17=>(A1q (A6 w17) (A6 w17) rfl)) (sd rfl (A4j rfl rfl (fun hc=>A6 (R5 hc))) (sv rfl (gp rfl (A0f rfl) (fun _=>rfl) (gf rfl (vl rfl G_hit rfl) (gf rfl (vb rfl rfl rfl) (sd rfl (A4j rfl rfl (fun hc=>A6 (R5 hc))) (sv rfl (gp rfl (A0f rfl) (fun _=>rfl) (gf rfl (vl rfl G_hit rfl) (gp rfl (A0f rfl) (fun _=>rfl) (gf rfl (vl rfl G_hit rfl) (gf rfl (fun w25=>(A1q (A6 w25) (A6 w25) rfl)) (sd rfl (A4j rfl rfl (fun hc=>A6 (R5 hc))) (sv rfl (gp rfl (A0f rfl) (fun _=>rfl) (gf rfl (vl rfl G_hit rfl) (gf rfl (vb rfl rfl rfl) (sd rfl (A4j rfl rfl (fun hc=>A6 (R5 hc))) (sv rfl (gp rfl (A0f rfl) (fun _=>rfl) (gf rfl (vl rfl G_hit rfl) (gf rfl (fun _=>rfl) (bs h fun v4 hv4 h=> ?_)))))))))))))))))))))))
 refine U1 _ (bo v4) (A0f rfl) (fun w32=>⟨_,[(di p2.Limit),(di 0),(di v2.1)],_,_,(by simp only [A6 w32];rfl),rfl,A4,A26 _ _ _ _ (E8 w32 hv4),(.inl rfl)⟩) ?_
 refine X7 _ (.d (bo (!v4))) rfl (A0f rfl) (fun w33=>(by simp only [A6 w33];rfl)) ?_
 refine sd rfl (A4j rfl rfl (fun hc=>A6 (R5 hc))) (A3 (cc rfl h (fun c2 h=> ?_) (fun c2 h=> ?_)))
 refine A7 (A9 (s0:=⟨T [],G []⟩) (sbr rfl rfl) ?_)
 refine B8 fun u7 hu7=>sv rfl (A3 (B5 ?_))
 cases h
 exact B0 (.inr rfl) (C1 (B4 rfl) I6) (.refl _)
 refine B3 (A7 (A9 (s0:=⟨T [],G []⟩) (sbr rfl rfl) ?_))
 refine B8 fun u8 hu8=>sv rfl (A3 (B5 ?_))
 cases h
 exact B0 (.inr rfl) (C1 (B4 rfl) I6) (.refl _)
noncomputable def A33 (p1:Map)(x4:(Int×Int)):Option (Stp (Int×Int) Int):=
  cond ((decide (x4.2< (p1.Works.length:Int)))&& (x4.1==0)) ((F3 p1.Works x4.2).bind fun v8=>(A3t p1 v8).bind fun v9=>some (.go (v9,(w64 (x4.2+1))))) (some (.out x4.1))
noncomputable def A34 (p1:Map)(x3:(Int×Int)):Option (Stp (Int×Int) Int):=
  cond ((decide (x3.2< (p1.Zones.length:Int)))&& (x3.1==0)) ((F3 p1.Zones x3.2).bind fun v6=>(A3s p1 v6).bind fun v7=>some (.go (v7,(w64 (x3.2+1))))) (some (.out x3.1))
noncomputable def A35 (p1:Map)(x2:(Int×Int)):Option (Stp (Int×Int) Int):=
  cond ((decide (x2.2< (p1.Signals.length:Int)))&& (x2.1==0)) ((F3 p1.Signals x2.2).bind fun v4=>(A27 p1 v4).bind fun v5=>some (.go (v5,(w64 (x2.2+1))))) (some (.out x2.1))
noncomputable def A1v (p1:Map)(x1:Int):Option (Stp Int (Sum Unit Int)):=
  cond (decide (x1< (p1.Lanes.length:Int))) ((A3q p1 x1).bind fun v2=>cond (v2 !=0) (some (.out (.inr v2))) (some (.go (w64 (x1+1))))) (some (.out (.inl ())))
noncomputable def A88 (p1:Map):Option Int:=
  (A1l p1.Version 0 1099511627776).bind fun v1=>cond (!v1) (some 2) (cond ((p1.Lanes.length:Int)==0) (some 6) (cond ((((decide ((p1.Lanes.length:Int)>12))||(decide ((p1.Zones.length:Int)>12)))||(decide ((p1.Signals.length:Int)>4)))||(decide ((p1.Works.length:Int)>8))) (some 8) (thenS (loop (A1v p1) 0) (fun _=>(A3r p1).bind fun v3=>(loop (A35 p1) (v3,0)).bind fun y2=>(loop (A34 p1) (y2,0)).bind fun y3=>(loop (A33 p1) (y3,0)).bind fun y4=>some y4) (fun r=>some r))))
theorem B8x (p1:Map)(r:Int)(h:A88 p1=some r):PCall Tryz.prog 17 [(.agg (A0s p1))] (i64 r):=by
 refine E1 (fk Tryz.func17 Tryz.ntmps17 m0 (by with_unfolding_all rfl)) (nl rfl) ?_
 unfold A88 at h
 refine A9 (s0:=⟨T [(0,(.d _))],G []⟩) (sbr rfl rfl) ?_
 refine lr (fun u1 hu1=>sn rfl rfl (sv rfl (A3 (A7 (lr (fun u2 hu2=>sp rfl rfl (sl rfl G_hit rfl (bs h fun v1 hv1 h=>C4 rfl rfl A4 (A26 _ _ _ _ hv1) (.inl rfl) (F4 (.d (bo (!v1))) rfl rfl (A3 (cc rfl h (fun c1 h=> ?_) (fun c1 h=> ?_))))))))))))
 refine lr (fun u3 hu3=>sv rfl (A3 (B5 ?_)))
 cases h
 exact B0 (.inr rfl) (C1 (B4 rfl) I6) (.refl _)
 refine B3 (A7 (lr (fun u4 hu4=>sp rfl rfl (sl rfl G_hit rfl (sd rfl (F1 rfl) (sv rfl (A3 (cc rfl h (fun c2 h=> ?_) (fun c2 h=> ?_)))))))))
 refine lr (fun u5 hu5=>sv rfl (A3 (B5 ?_)))
 cases h
 exact B0 (.inr rfl) (C1 (B4 rfl) I6) (.refl _)
 refine B3 (A7 (lr (fun u6 hu6=>sp rfl rfl (sl rfl G_hit rfl (sd rfl (F1 rfl) (sv rfl (sv rfl (gp rfl (A0f rfl) (fun _=>rfl) (gf rfl (vl rfl G_hit rfl) (gf rfl (fun w3=>(F1 (A6 w3))) (gf rfl (vb rfl rfl rfl) (sd rfl (A4j rfl rfl (fun hc=>A6 (R5 hc))) (sv rfl (gp rfl (A0f rfl) (fun _=>rfl) (gf rfl (vl rfl G_hit rfl) (gf rfl (fun w7=>(F1 (A6 w7))) (gf rfl (vb rfl rfl rfl) (sd rfl (A4j rfl rfl (fun hc=>A6 (R5 hc))) (sv rfl (gp rfl (A0f rfl) (fun _=>rfl) (gf rfl (vl rfl G_hit rfl) (gf rfl (fun w11=>(F1 (A6 w11))) (gf rfl (vb rfl rfl rfl) (sd rfl (A4j rfl rfl (fun hc=>A6 (R5 hc))) (A3 (cc rfl h (fun c3 h=> ?_) (fun c3 h=> ?_)))))))))))))))))))))))))))
 refine A7 (A9 (s0:=⟨T [],G []⟩) (sbr rfl rfl) ?_)
 refine B8 fun u7 hu7=>sv rfl (A3 (B5 ?_))
 cases h
 exact B0 (.inr rfl) (C1 (B4 rfl) I6) (.refl _)
 refine B3 (A7 (A7 (A9 (s0:=⟨T [(1,(.ptr _ _))],G [((1,u1),some (.box 27 _))]⟩) (sbr rfl rfl) ?_)))
 refine B8 fun u8 hu8=>sv rfl (A3 (js h fun z1 hz1 h=>F2 (fun s=> ∃(y1:Unit) (g1:Unit),z1= .inl y1∧Sb ⟨T [(1,(.ptr (1,u1) 0))],G [((1,u1),some (.box 27 (A09 p1)))]⟩ s) ?_ ?_))
 refine A8 (F0 (A1v p1) (fun (x1:Int) (g2:Unit)=>⟨T [(1,(.ptr (1,u1) 0)),(3,(di x1))],G [((1,u1),some (.box 27 (A09 p1)))]⟩) 0 () _ hz1 (sbr rfl rfl) ?_)
 intro x1 g2 z2 hz2 ez2
 unfold A1v at hz2
 refine A7 (lr (fun u9 hu9=>sv rfl (sp rfl rfl (sl rfl G_hit rfl (sd rfl (F1 rfl) (sv rfl (A3 (cc rfl hz2 (fun c4 hz2=> ?_) (fun c4 hz2=> ?_)))))))))
 refine B3 (A7 (A8 (lr (fun u10 hu10=>sd rfl (B9 rfl G_hit rfl rfl) (sv rfl (bs hz2 fun v2 hv2 hz2=>C4 rfl rfl A4 (B48 _ _ _ hv2) (.inl rfl) (sv rfl (A3 (lr (fun u11 hu11=>sv rfl (sv rfl (A3 (cc rfl hz2 (fun c5 hz2=> ?_) (fun c5 hz2=> ?_))))))))))))))
 refine lr (fun u12 hu12=>sv rfl (sv rfl (A3 (B5 ?_))))
 cases hz2
 obtain rfl:=ez2 _ rfl
 refine ⟨nofun,F8 ?_⟩
 rw [Sum.elim_inr]at h
 cases h
 exact B0 (.inr rfl) (C1 (B4 rfl) I6) (.refl _)
 refine B3 (H9 (B8 fun u13 hu13=>sv rfl (sv rfl (sv rfl (A3 (H4 ?_))))))
 cases hz2
 exact ⟨rfl,(),(sbr rfl rfl)⟩
 refine C6 rfl ?_
 cases hz2
 obtain rfl:=ez2 _ rfl
 refine ⟨nofun,C2 rfl (l_j ?_)⟩
 exact ⟨_,(),rfl,(sbr rfl rfl)⟩
 rintro _ ⟨y1,g1,rfl,q1⟩
 rw [Sum.elim_inl]at h
 refine A9 q1 (lr (fun u14 hu14=>sd rfl (B9 rfl G_hit rfl rfl) (bs h fun v3 hv3 h=>C4 rfl rfl A4 (B49 _ _ hv3) (.inl rfl) (sv rfl (A3 (A7 (lr (fun u15 hu15=>sv rfl (A3 (bs h fun y2 hy2 h=>F2 (fun s=> ∃g3:Unit,Sb ⟨T [(1,(.ptr (1,u1) 0)),(5,(di y2))],G [((1,u1),some (.box 27 (A09 p1)))]⟩ s) ?_ ?_))))))))))
 refine A8 (F0 (A35 p1) (fun (x2:(Int×Int)) (g4:Unit)=>⟨T [(1,(.ptr (1,u1) 0)),(5,(di x2.1)),(6,(di x2.2))],G [((1,u1),some (.box 27 (A09 p1)))]⟩) (v3,0) () _ hy2 (sbr rfl rfl) ?_)
 intro x2 g4 z3 hz3 ez3
 unfold A35 at hz3
 refine A7 (lr (fun u16 hu16=>sv rfl (sp rfl rfl (sl rfl G_hit rfl (sd rfl (F1 rfl) (sv rfl (sv rfl (gt rfl (fun _=>rfl) (gt rfl (vb rfl rfl rfl) (sa rfl rfl rfl (A3 (cc rfl hz3 (fun c6 hz3=> ?_) (fun c6 hz3=> ?_)))))))))))))
 refine B3 (A7 (A8 (N6 rfl fun u17 hu17=>sd rfl (B9 rfl G_hit rfl rfl) (sp rfl rfl (sl rfl G_hit rfl (sv rfl (bs hz3 fun v4 hv4 hz3=>sd rfl (G6 rfl rfl hv4 rfl) (sd rfl (F7 rfl hv4 rfl rfl) (bs hz3 fun v5 hv5 hz3=>C4 rfl rfl A4 (B2j _ _ _ hv5) (.inl rfl) (sv rfl (A3 (H9 (B8 fun u18 hu18=>sv rfl (sv rfl (sv rfl (A3 (H4 ?_)))))))))))))))))
 cases hz3
 exact ⟨rfl,(),(sbr rfl rfl)⟩
 refine C6 rfl ?_
 cases hz3
 obtain rfl:=ez3 _ rfl
 refine ⟨nofun,C2 rfl (l_j ?_)⟩
 exact ⟨(),(sbr rfl rfl)⟩
 rintro _ ⟨g3,q2⟩
 refine A9 q2 (A7 (lr (fun u19 hu19=>sv rfl (A3 (bs h fun y3 hy3 h=>F2 (fun s=> ∃g5:Unit,Sb ⟨T [(1,(.ptr (1,u1) 0)),(5,(di y3))],G [((1,u1),some (.box 27 (A09 p1)))]⟩ s) ?_ ?_)))))
 refine A8 (F0 (A34 p1) (fun (x3:(Int×Int)) (g6:Unit)=>⟨T [(1,(.ptr (1,u1) 0)),(5,(di x3.1)),(7,(di x3.2))],G [((1,u1),some (.box 27 (A09 p1)))]⟩) (y2,0) () _ hy3 (sbr rfl rfl) ?_)
 intro x3 g6 z4 hz4 ez4
 unfold A34 at hz4
 refine A7 (lr (fun u20 hu20=>sv rfl (sp rfl rfl (sl rfl G_hit rfl (sd rfl (F1 rfl) (sv rfl (sv rfl (gt rfl (fun _=>rfl) (gt rfl (vb rfl rfl rfl) (sa rfl rfl rfl (A3 (cc rfl hz4 (fun c7 hz4=> ?_) (fun c7 hz4=> ?_)))))))))))))
 refine B3 (A7 (A8 (N6 rfl fun u21 hu21=>sd rfl (B9 rfl G_hit rfl rfl) (sp rfl rfl (sl rfl G_hit rfl (sv rfl (bs hz4 fun v6 hv6 hz4=>sd rfl (G6 rfl rfl hv6 rfl) (sd rfl (F7 rfl hv6 rfl rfl) (bs hz4 fun v7 hv7 hz4=>C4 rfl rfl A4 (B4a _ _ _ hv7) (.inl rfl) (sv rfl (A3 (H9 (B8 fun u22 hu22=>sv rfl (sv rfl (sv rfl (A3 (H4 ?_)))))))))))))))))
 cases hz4
 exact ⟨rfl,(),(sbr rfl rfl)⟩
 refine C6 rfl ?_
 cases hz4
 obtain rfl:=ez4 _ rfl
 refine ⟨nofun,C2 rfl (l_j ?_)⟩
 exact ⟨(),(sbr rfl rfl)⟩
 rintro _ ⟨g5,q3⟩
 refine A9 q3 (A7 (lr (fun u23 hu23=>sv rfl (A3 (bs h fun y4 hy4 h=>F2 (fun s=> ∃g7:Unit,Sb ⟨T [(5,(di y4))],G []⟩ s) ?_ ?_)))))
 refine A8 (F0 (A33 p1) (fun (x4:(Int×Int)) (g8:Unit)=>⟨T [(1,(.ptr (1,u1) 0)),(5,(di x4.1)),(8,(di x4.2))],G [((1,u1),some (.box 27 (A09 p1)))]⟩) (y3,0) () _ hy4 (sbr rfl rfl) ?_)
 intro x4 g8 z5 hz5 ez5
 unfold A33 at hz5
 refine A7 (lr (fun u24 hu24=>sv rfl (sp rfl rfl (sl rfl G_hit rfl (sd rfl (F1 rfl) (sv rfl (sv rfl (gt rfl (fun _=>rfl) (gt rfl (vb rfl rfl rfl) (sa rfl rfl rfl (A3 (cc rfl hz5 (fun c8 hz5=> ?_) (fun c8 hz5=> ?_)))))))))))))
 refine B3 (A7 (A8 (N6 rfl fun u25 hu25=>sd rfl (B9 rfl G_hit rfl rfl) (sp rfl rfl (sl rfl G_hit rfl (sv rfl (bs hz5 fun v8 hv8 hz5=>sd rfl (G6 rfl rfl hv8 rfl) (sd rfl (F7 rfl hv8 rfl rfl) (bs hz5 fun v9 hv9 hz5=>C4 rfl rfl A4 (B4b _ _ _ hv9) (.inl rfl) (sv rfl (A3 (H9 (B8 fun u26 hu26=>sv rfl (sv rfl (sv rfl (A3 (H4 ?_)))))))))))))))))
 cases hz5
 exact ⟨rfl,(),(sbr rfl rfl)⟩
 refine C6 rfl ?_
 cases hz5
 obtain rfl:=ez5 _ rfl
 refine ⟨nofun,C2 rfl (l_j ?_)⟩
 exact ⟨(),(sbr rfl rfl)⟩
 rintro _ ⟨g7,q4⟩
 refine A9 q4 (lr (fun u27 hu27=>sv rfl (sv rfl (A3 (B5 ?_)))))
 cases h
 exact B0 (.inr rfl) (C1 (B4 rfl) I6) (.refl _)
noncomputable def A6z (p1:(List Int))(p2:Int)(x1:Int):Option (Stp Int (Sum Unit Bool)):=
  cond (decide (x1< (p1.length:Int))) ((F3 p1 x1).bind fun v1=>cond (v1==p2) (some (.out (.inr true))) (some (.go (w64 (x1+1))))) (some (.out (.inl ())))
noncomputable def A9q (p1:(List Int))(p2:Int):Option Bool:=
  thenS (loop (A6z p1 p2) 0) (fun _=>some false) (fun r=>some r)
theorem B5p (p1:(List Int))(p2:Int)(r:Bool)(h:A9q p1 p2=some r):PCall Tryz.prog 138 [(.list (List.map A5 p1)),(i64 p2)] (bo r):=by
 refine E1 (fk Tryz.func138 Tryz.ntmps138 m0 (by with_unfolding_all rfl)) (nl rfl) ?_
 unfold A9q at h
 refine A9 (s0:=⟨T [(0,(.d _)),(1,(.d _))],G []⟩) (sbr rfl rfl) ?_
 refine lr (fun u1 hu1=>sv rfl (A3 (A7 (lr (fun u2 hu2=>sv rfl (A3 (js h fun z1 hz1 h=>F2 (fun s=> ∃(y1:Unit) (g1:Unit),z1= .inl y1∧Sb ⟨T [],G []⟩ s) ?_ ?_)))))))
 refine A8 (F0 (A6z p1 p2) (fun (x1:Int) (g2:Unit)=>⟨T [(0,(dl A5 p1)),(1,(di p2)),(5,(di x1))],G []⟩) 0 () _ hz1 (sbr rfl rfl) ?_)
 intro x1 g2 z2 hz2 ez2
 unfold A6z at hz2
 refine A7 (lr (fun u3 hu3=>sv rfl (sv rfl (sd rfl (F1 rfl) (sv rfl (A3 (cc rfl hz2 (fun c1 hz2=> ?_) (fun c1 hz2=> ?_))))))))
 refine B3 (A7 (A8 (lr (fun u4 hu4=>sv rfl (sv rfl (bs hz2 fun v1 hv1 hz2=>sd rfl (G6 rfl rfl hv1 rfl) (sd rfl (E9 rfl hv1 rfl) (sv rfl (sv rfl (A3 (cc rfl hz2 (fun c2 hz2=> ?_) (fun c2 hz2=> ?_))))))))))))
 refine lr (fun u5 hu5=>sv rfl (A3 (B5 ?_)))
 cases hz2
 obtain rfl:=ez2 _ rfl
 refine ⟨nofun,F8 ?_⟩
 rw [Sum.elim_inr]at h
 cases h
 exact B0 (.inr rfl) (C1 (B4 rfl) I6) (.refl _)
 refine B3 (H9 (B8 fun u6 hu6=>sv rfl (sv rfl (sv rfl (A3 (H4 ?_))))))
 cases hz2
 exact ⟨rfl,(),(sbr rfl rfl)⟩
 refine C6 rfl ?_
 cases hz2
 obtain rfl:=ez2 _ rfl
 refine ⟨nofun,C2 rfl (l_j ?_)⟩
 exact ⟨_,(),rfl,(sbr rfl rfl)⟩
 rintro _ ⟨y1,g1,rfl,q1⟩
 rw [Sum.elim_inl]at h
 refine A9 q1 (lr (fun u7 hu7=>sv rfl (A3 (B5 ?_))))
 cases h
 exact B0 (.inr rfl) (C1 (B4 rfl) I6) (.refl _)
noncomputable def A3u (p1:Map)(p2:Int)(x1:((List Int)×Int)):Option (Stp ((List Int)×Int) (List Int)):=
  cond (decide (x1.2< (p1.Lanes.length:Int))) ((F3 p1.Lanes x1.2).bind fun v1=>(A9q v1.Next p2).bind fun v2=>cond v2 ((B18 x1.1 [x1.2]).bind fun v3=>some (.go (v3,(w64 (x1.2+1))))) (some (.go (x1.1,(w64 (x1.2+1)))))) (some (.out x1.1))
noncomputable def A70 (p1:Map)(p2:Int):Option (List Int):=
  (loop (A3u p1 p2) ([],0)).bind fun y1=>some y1
theorem B7n (p1:Map)(p2:Int)(r:(List Int))(h:A70 p1 p2=some r):PCall Tryz.prog 137 [(.agg (A0s p1)),(i64 p2)] (.list (List.map A5 r)):=by
 refine E1 (fk Tryz.func137 Tryz.ntmps137 (fun r=>if r==6 then [1002]else []) (by with_unfolding_all rfl)) (nl rfl) ?_
 unfold A70 at h
 refine A9 (s0:=⟨T [(0,(.d _)),(1,(.d _))],G []⟩) (sbr rfl rfl) ?_
 refine lr (fun u1 hu1=>sn rfl rfl (sv rfl (A3 (lr (fun u2 hu2=>sv rfl (A3 (A7 (lr (fun u3 hu3=>sv rfl (A3 (bs h fun y1 hy1 h=>F2 (fun s=> ∃g1:Nat,Sb ⟨T [(5,(oS y1 (25,g1)))],G [((25,g1),oB 3 1 A5 y1)]⟩ s) ?_ ?_)))))))))))
 refine A8 (F0 (A3u p1 p2) (fun (x1:((List Int)×Int)) (g2:Nat)=>⟨T [(1,(di p2)),(2,(.ptr (2,u1) 0)),(5,(oS x1.1 (25,g2))),(6,(di x1.2))],G [((2,u1),some (.box 27 (A09 p1))),((25,g2),oB 3 1 A5 x1.1)]⟩) ([],0) 0 _ hy1 (J0 ⟨.of rfl, .of rfl, .of rfl, .of rfl,trivial⟩ (B6 G_hit (.of rfl) (A3f trivial))) ?_)
 intro x1 g2 z1 hz1 ez1
 unfold A3u at hz1
 refine A7 (lr (fun u4 hu4=>sv rfl (sp rfl rfl (sl rfl G_hit rfl (sd rfl (F1 rfl) (sv rfl (A3 (cc rfl hz1 (fun c1 hz1=> ?_) (fun c1 hz1=> ?_)))))))))
 refine B3 (A7 (A8 (lr (fun u5 hu5=>sp rfl rfl (sl rfl G_hit rfl (sv rfl (bs hz1 fun v1 hv1 hz1=>sd rfl (G6 rfl rfl hv1 rfl) (sv rfl (sd rfl (E9 rfl hv1 rfl) (sv rfl (bs hz1 fun v2 hv2 hz1=>C4 rfl rfl A4 (B5p _ _ _ hv2) (.inl rfl) (A3 (cc rfl hz1 (fun c2 hz1=> ?_) (fun c2 hz1=> ?_))))))))))))))
 refine B8 fun u6 hu6=>F4 (oS x1.1 (25,g2)) rfl rfl (sv rfl (F4 (dl A5 [x1.2]) rfl rfl (bs hz1 fun v3 hv3 hz1=>X6 A5 (25,g2) x1.1 x1.2 [] _ (S7 (fun _=>rfl)) rfl (gq rfl) hv3 (ss rfl (A3 (H9 (A9 (s0:=⟨T [(1,(.d _)),(2,(.ptr _ _)),(5,(.sl _)),(6,(.d _))],G [((2,u1),some (.box 27 _)),((25,u6),some _)]⟩) (sbr rfl rfl) ?_)))))))
 refine B8 fun u7 hu7=>sv rfl (sv rfl (sv rfl (A3 (H4 ?_))))
 cases hz1
 exact ⟨rfl,u6,(J0 ⟨.of rfl, .of rfl,(.of (A93 (A3e hv3)).symm), .of rfl,trivial⟩ (B6 G_hit (.of rfl) (A36 (gq rfl) trivial)))⟩
 refine B3 (H9 (B8 fun u8 hu8=>sv rfl (sv rfl (sv rfl (A3 (H4 ?_))))))
 cases hz1
 exact ⟨rfl,g2,(J0 ⟨.of rfl, .of rfl, .of rfl, .of rfl,trivial⟩ (B6 G_hit (.of rfl) (I7 (gq rfl) trivial)))⟩
 refine C6 rfl ?_
 cases hz1
 obtain rfl:=ez1 _ rfl
 refine ⟨nofun,C2 rfl (l_j ?_)⟩
 exact ⟨g2,(J0 ⟨.of rfl,trivial⟩ (I7 (gq rfl) trivial))⟩
 rintro _ ⟨g1,q1⟩
 refine A9 q1 (lr (fun u9 hu9=>F4 (oS y1 (25,g1)) rfl rfl (F4 (oS y1 (25,g1)) rfl rfl (A3 (B5 ?_)))))
 cases h
 exact B0 (.inr rfl) (C1 (B4 rfl) (B1b G_hit)) B1a
noncomputable def U4 (p1:Map)(p2:(List Int))(x1:Int):Option (Stp Int (Sum Unit Int)):=
  cond (decide (x1< (p2.length:Int))) ((F3 p2 (w64 (x1 - 1))).bind fun v6=>(F3 p1.Lanes v6).bind fun v7=>(F3 p2 x1).bind fun v8=>(A9q v7.Next v8).bind fun v9=>cond (!v9) (some (.out (.inr 13))) (some (.go (w64 (x1+1))))) (some (.out (.inl ())))
noncomputable def W0 (p1:Map)(p2:(List Int)):Option Int:=
  (A88 p1).bind fun v1=>cond (v1 !=0) (some v1) (((cond (!(((p2.length:Int)==0)||(decide ((p2.length:Int)>8)))) (F3 p2 0) (some default))).bind fun v2=>((cond (!((((p2.length:Int)==0)||(decide ((p2.length:Int)>8)))||(decide (v2<0)))) (F3 p2 0) (some default))).bind fun v3=>((cond (!(((((p2.length:Int)==0)||(decide ((p2.length:Int)>8)))||(decide (v2<0)))||(decide (v3≥(p1.Lanes.length:Int))))) (F3 p2 0) (some default))).bind fun v4=>((cond (!(((((p2.length:Int)==0)||(decide ((p2.length:Int)>8)))||(decide (v2<0)))||(decide (v3≥(p1.Lanes.length:Int))))) (A70 p1 v4) (some default))).bind fun v5=>cond ((((((p2.length:Int)==0)||(decide ((p2.length:Int)>8)))||(decide (v2<0)))||(decide (v3≥(p1.Lanes.length:Int))))||(decide ((v5.length:Int)>0))) (some 13) (thenS (loop (U4 p1 p2) 1) (fun _=>some 0) (fun r=>some r)))
theorem A2r (p1:Map)(p2:(List Int))(r:Int)(h:W0 p1 p2=some r):PCall Tryz.prog 37 [(.agg (A0s p1)),(.list (List.map A5 p2))] (i64 r):=by
 refine E1 (fk Tryz.func37 Tryz.ntmps37 m0 (by with_unfolding_all rfl)) (nl rfl) ?_
 unfold W0 at h
 refine A9 (s0:=⟨T [(0,(.d _)),(1,(.d _))],G []⟩) (sbr rfl rfl) ?_
 refine lr (fun u1 hu1=>sn rfl rfl (sv rfl (A3 (lr (fun u2 hu2=>sd rfl (B9 rfl G_hit rfl rfl) (bs h fun v1 hv1 h=>C4 rfl rfl A4 (B8x _ _ hv1) (.inl rfl) (sv rfl (A3 (A7 (lr (fun u3 hu3=>sv rfl (sv rfl (A3 (cc rfl h (fun c1 h=> ?_) (fun c1 h=> ?_)))))))))))))))
 refine lr (fun u4 hu4=>sv rfl (sv rfl (A3 (B5 ?_))))
 cases h
 exact B0 (.inr rfl) (C1 (B4 rfl) I6) (.refl _)
 refine B3 (A7 (A7 (N6 rfl fun u5 hu5=>sv rfl (sd rfl (F1 rfl) (sv rfl (sv rfl (gf rfl (fun _=>rfl) (gf rfl (fun w2=>(F1 (A6 w2))) (gf rfl (vb rfl rfl rfl) (sd rfl (A4j rfl rfl (fun hc=>A6 (R5 hc))) (sv rfl (gf rfl (fun _=>rfl) (bs h fun v2 hv2 h=>gf rfl (fun w5=>(G6 (A6 w5) rfl (E8 w5 hv2) rfl)) (gf rfl (fun w6=>(E9 (A6 w6) (E8 w6 hv2) rfl)) (gf rfl (vb rfl rfl rfl) (sd rfl (A4j rfl rfl (fun hc=>A6 (R5 hc))) (sv rfl (gf rfl (fun _=>rfl) (bs h fun v3 hv3 h=>gf rfl (fun w9=>(G6 (A6 w9) rfl (E8 w9 hv3) rfl)) (gf rfl (fun w10=>(E9 (A6 w10) (E8 w10 hv3) rfl)) (gp rfl (A0f rfl) (fun _=>rfl) (gf rfl (vl rfl G_hit rfl) (gf rfl (fun w13=>(F1 (A6 w13))) (gf rfl (fun w14=>(A1q (A6 w14) (A6 w14) rfl)) (sd rfl (A4j rfl rfl (fun hc=>A6 (R5 hc))) (sv rfl (gf rfl (fun w15=>(B9 rfl G_hit rfl rfl)) (gf rfl (fun _=>rfl) (bs h fun v4 hv4 h=>gf rfl (fun w17=>(G6 (A6 w17) rfl (E8 w17 hv4) rfl)) (gf rfl (fun w18=>(E9 (A6 w18) (E8 w18 hv4) rfl)) (bs h fun v5 hv5 h=> ?_)))))))))))))))))))))))))))))))
 refine U1 _ (.list (List.map A5 v5)) (A0f rfl) (fun w19=>⟨_,[(.d (.agg (A0s p1))),(di v4)],_,_,(by simp only [A6 w19];rfl),rfl,A4,B7n _ _ _ (E8 w19 hv5),(.inl rfl)⟩) ?_
 refine gf rfl (fun w20=>(F1 (A6 w20))) (gf rfl (vb rfl rfl rfl) (sd rfl (A4j rfl rfl (fun hc=>A6 (R5 hc))) (A3 (cc rfl h (fun c2 h=> ?_) (fun c2 h=> ?_)))))
 refine A7 (A9 (s0:=⟨T [],G []⟩) (sbr rfl rfl) ?_)
 refine B8 fun u6 hu6=>sv rfl (A3 (B5 ?_))
 cases h
 exact B0 (.inr rfl) (C1 (B4 rfl) I6) (.refl _)
 refine B3 (A7 (A7 (A9 (s0:=⟨T [(1,(.d _)),(2,(.ptr _ _))],G [((2,u1),some (.box 27 _))]⟩) (sbr rfl rfl) ?_)))
 refine B8 fun u7 hu7=>sv rfl (A3 (js h fun z1 hz1 h=>F2 (fun s=> ∃(y1:Unit) (g1:Unit),z1= .inl y1∧Sb ⟨T [],G []⟩ s) ?_ ?_))
 refine A8 (F0 (U4 p1 p2) (fun (x1:Int) (g2:Unit)=>⟨T [(1,(dl A5 p2)),(2,(.ptr (2,u1) 0)),(6,(di x1))],G [((2,u1),some (.box 27 (A09 p1)))]⟩) 1 () _ hz1 (sbr rfl rfl) ?_)
 intro x1 g2 z2 hz2 ez2
 unfold U4 at hz2
 refine A7 (lr (fun u8 hu8=>sv rfl (sv rfl (sd rfl (F1 rfl) (sv rfl (A3 (cc rfl hz2 (fun c3 hz2=> ?_) (fun c3 hz2=> ?_))))))))
 refine B3 (A7 (A8 (A7 (N6 rfl fun u9 hu9=>sp rfl rfl (sl rfl G_hit rfl (sv rfl (sv rfl (sv rfl (bs hz2 fun v6 hv6 hz2=>sd rfl (G6 rfl rfl hv6 rfl) (sd rfl (E9 rfl hv6 rfl) (bs hz2 fun v7 hv7 hz2=>sd rfl (G6 rfl rfl hv7 rfl) (sv rfl (sd rfl (E9 rfl hv7 rfl) (sv rfl (sv rfl (bs hz2 fun v8 hv8 hz2=>sd rfl (G6 rfl rfl hv8 rfl) (sd rfl (E9 rfl hv8 rfl) (bs hz2 fun v9 hv9 hz2=>C4 rfl rfl A4 (B5p _ _ _ hv9) (.inl rfl) (F4 (.d (bo (!v9))) rfl rfl (A3 (cc rfl hz2 (fun c4 hz2=> ?_) (fun c4 hz2=> ?_))))))))))))))))))))))
 refine A7 (A9 (s0:=⟨T [],G []⟩) (sbr rfl rfl) ?_)
 refine B8 fun u10 hu10=>sv rfl (A3 (B5 ?_))
 cases hz2
 obtain rfl:=ez2 _ rfl
 refine ⟨nofun,F8 ?_⟩
 rw [Sum.elim_inr]at h
 cases h
 exact B0 (.inr rfl) (C1 (B4 rfl) I6) (.refl _)
 refine B3 (H9 (A9 (s0:=⟨T [(1,(.d _)),(2,(.ptr _ _)),(6,(.d _))],G [((2,u1),some (.box 27 _))]⟩) (sbr rfl rfl) ?_))
 refine B8 fun u11 hu11=>sv rfl (sv rfl (sv rfl (A3 (H4 ?_))))
 cases hz2
 exact ⟨rfl,(),(sbr rfl rfl)⟩
 refine C6 rfl ?_
 cases hz2
 obtain rfl:=ez2 _ rfl
 refine ⟨nofun,C2 rfl (l_j ?_)⟩
 exact ⟨_,(),rfl,(sbr rfl rfl)⟩
 rintro _ ⟨y1,g1,rfl,q1⟩
 rw [Sum.elim_inl]at h
 refine A9 q1 (lr (fun u12 hu12=>sv rfl (A3 (B5 ?_))))
 cases h
 exact B0 (.inr rfl) (C1 (B4 rfl) I6) (.refl _)
noncomputable def A71 (p1:Map)(p2:Int):Option Int:=
  (F3 p1.Lanes p2).bind fun v1=>(A2l v1.Curve_).bind fun v2=>some v2
theorem B7o (p1:Map)(p2:Int)(r:Int)(h:A71 p1 p2=some r):PCall Tryz.prog 166 [(.agg (A0s p1)),(i64 p2)] (i64 r):=by
 refine E1 (fk Tryz.func166 Tryz.ntmps166 m0 (by with_unfolding_all rfl)) (nl rfl) ?_
 unfold A71 at h
 refine A9 (s0:=⟨T [(0,(.d _)),(1,(.d _))],G []⟩) (sbr rfl rfl) ?_
 refine lr (fun u1 hu1=>sn rfl rfl (sv rfl (A3 (lr (fun u2 hu2=>sp rfl rfl (sl rfl G_hit rfl (sv rfl (bs h fun v1 hv1 h=>sd rfl (G6 rfl rfl hv1 rfl) (sv rfl (sd rfl (F7 rfl hv1 rfl rfl) (bs h fun v2 hv2 h=>C4 rfl rfl A4 (A87 _ _ hv2) (.inl rfl) (sv rfl (A3 (B5 ?_))))))))))))))
 cases h
 exact B0 (.inr rfl) (C1 (B4 rfl) I6) (.refl _)
noncomputable def A0y (p1:Map)(p2:(List Int))(x1:((List Int)×Int×Int)):Option (Stp ((List Int)×Int×Int) ((List Int)×Int)):=
  cond (decide (x1.2.2< (p2.length:Int))) ((B18 x1.1 [x1.2.1]).bind fun v1=>(F3 p2 x1.2.2).bind fun v2=>(A71 p1 v2).bind fun v3=>some (.go (v1,(w64 (x1.2.1+v3)),(w64 (x1.2.2+1))))) (some (.out (x1.1,x1.2.1)))
noncomputable def A5b (p1:Map)(p2:(List Int)):Option ((List Int)×Int):=
  (loop (A0y p1 p2) ([],0,0)).bind fun y1=>some (y1.1,y1.2)
theorem B1n (p1:Map)(p2:(List Int))(r:((List Int)×Int))(h:A5b p1 p2=some r):PCall Tryz.prog 139 [(.agg (A0s p1)),(.list (List.map A5 p2))] (.tup [(.list (List.map A5 r.1)),(i64 r.2)]):=by
 refine E1 (fk Tryz.func139 Tryz.ntmps139 (fun r=>if r==6 then [1002]else []) (by with_unfolding_all rfl)) (nl rfl) ?_
 unfold A5b at h
 refine A9 (s0:=⟨T [(0,(.d _)),(1,(.d _))],G []⟩) (sbr rfl rfl) ?_
 refine lr (fun u1 hu1=>sn rfl rfl (sv rfl (sv rfl (A3 (lr (fun u2 hu2=>sv rfl (A3 (lr (fun u3 hu3=>sv rfl (A3 (A7 (lr (fun u4 hu4=>sv rfl (A3 (bs h fun y1 hy1 h=>F2 (fun s=> ∃g1:Nat,Sb ⟨T [(6,(oS y1.1 (18,g1))),(7,(di y1.2))],G [((18,g1),oB 2 1 A5 y1.1)]⟩ s) ?_ ?_)))))))))))))))
 refine A8 (F0 (A0y p1 p2) (fun (x1:((List Int)×Int×Int)) (g2:Nat)=>⟨T [(1,(dl A5 p2)),(2,(.ptr (2,u1) 0)),(6,(oS x1.1 (18,g2))),(7,(di x1.2.1)),(8,(di x1.2.2))],G [((2,u1),some (.box 27 (A09 p1))),((18,g2),oB 2 1 A5 x1.1)]⟩) ([],0,0) 0 _ hy1 (J0 ⟨.of rfl, .of rfl, .of rfl, .of rfl, .of rfl,trivial⟩ (B6 G_hit (.of rfl) (A3f trivial))) ?_)
 intro x1 g2 z1 hz1 ez1
 unfold A0y at hz1
 refine A7 (lr (fun u5 hu5=>sv rfl (sv rfl (sd rfl (F1 rfl) (sv rfl (A3 (cc rfl hz1 (fun c1 hz1=> ?_) (fun c1 hz1=> ?_))))))))
 refine B3 (A7 (A8 (lr (fun u6 hu6=>F4 (oS x1.1 (18,g2)) rfl rfl (sv rfl (F4 (dl A5 [x1.2.1]) rfl rfl (bs hz1 fun v1 hv1 hz1=>X6 A5 (18,g2) x1.1 x1.2.1 [] _ (S7 (fun _=>rfl)) rfl (gq rfl) hv1 (ss rfl (A3 (N6 rfl fun u7 hu7=>sv rfl (sd rfl (B9 rfl (gq rfl) rfl rfl) (sv rfl (sv rfl (bs hz1 fun v2 hv2 hz1=>sd rfl (G6 rfl rfl hv2 rfl) (sd rfl (E9 rfl hv2 rfl) (bs hz1 fun v3 hv3 hz1=>C4 rfl rfl A4 (B7o _ _ _ hv3) (.inl rfl) (sv rfl (sv rfl (A3 (H9 (A9 (s0:=⟨T [(1,(.d _)),(2,(.ptr _ _)),(6,(.sl _)),(7,(.d _)),(8,(.d _))],G [((2,u1),some (.box 27 _)),((18,u6),some _)]⟩) (sbr rfl rfl) ?_)))))))))))))))))))))
 refine B8 fun u8 hu8=>sv rfl (sv rfl (sv rfl (A3 (H4 ?_))))
 cases hz1
 exact ⟨rfl,u6,(J0 ⟨.of rfl, .of rfl,(.of (A93 (A3e hv1)).symm), .of rfl, .of rfl,trivial⟩ (B6 G_hit (.of rfl) (A36 (gq rfl) trivial)))⟩
 refine C6 rfl ?_
 cases hz1
 obtain rfl:=ez1 _ rfl
 refine ⟨nofun,C2 rfl (l_j ?_)⟩
 exact ⟨g2,(J0 ⟨.of rfl, .of rfl,trivial⟩ (I7 (gq rfl) trivial))⟩
 rintro _ ⟨g1,q1⟩
 refine A9 q1 (lr (fun u9 hu9=>F4 (oS y1.1 (18,g1)) rfl rfl (sv rfl (F4 (oS y1.1 (18,g1)) rfl rfl (sv rfl (A3 (B5 ?_)))))))
 cases h
 exact B0 (.inr rfl) (C5v (B4 rfl) (B4 rfl) (B1b G_hit) I6) (.tup (.cons B1a A4))
noncomputable def A3v (p1:Map)(p2:(List Int)):Option (List Int):=
  (W0 p1 p2).bind fun v1=>cond (v1 !=0) (some []) ((A5b p1 p2).bind fun v2=>some v2.1)
theorem A89 (p1:Map)(p2:(List Int))(r:(List Int))(h:A3v p1 p2=some r):PCall Tryz.prog 42 [(.agg (A0s p1)),(.list (List.map A5 p2))] (.list (List.map A5 r)):=by
 refine E1 (fk Tryz.func42 Tryz.ntmps42 m0 (by with_unfolding_all rfl)) (nl rfl) ?_
 unfold A3v at h
 refine A9 (s0:=⟨T [(0,(.d _)),(1,(.d _))],G []⟩) (sbr rfl rfl) ?_
 refine lr (fun u1 hu1=>sn rfl rfl (sv rfl (A3 (A7 (lr (fun u2 hu2=>sd rfl (B9 rfl G_hit rfl rfl) (sv rfl (bs h fun v1 hv1 h=>C4 rfl rfl A4 (A2r _ _ _ hv1) (.inl rfl) (sv rfl (A3 (cc rfl h (fun c1 h=> ?_) (fun c1 h=> ?_))))))))))))
 refine lr (fun u3 hu3=>sv rfl (A3 (B5 ?_)))
 cases h
 exact B0 (.inr rfl) (C1 (B4 rfl) I6) DLe.nil
 refine B3 (lr (fun u4 hu4=>sd rfl (B9 rfl G_hit rfl rfl) (sv rfl (bs h fun v2 hv2 h=>C4 rfl rfl A4 (B1n _ _ _ hv2) (.inl rfl) (sv rfl (sv rfl (sv rfl (sv rfl (sv rfl (A3 (lr (fun u5 hu5=>sv rfl (sv rfl (A3 (B5 ?_)))))))))))))))
 cases h
 exact B0 (.inr rfl) (C1 (B4 rfl) I6) (.refl _)
noncomputable def A0r (p1:Map)(p2:(List Int)):Option Int:=
  (W0 p1 p2).bind fun v1=>cond (v1 !=0) (some 0) ((A5b p1 p2).bind fun v2=>some v2.2)
theorem A7m (p1:Map)(p2:(List Int))(r:Int)(h:A0r p1 p2=some r):PCall Tryz.prog 39 [(.agg (A0s p1)),(.list (List.map A5 p2))] (i64 r):=by
 refine E1 (fk Tryz.func39 Tryz.ntmps39 m0 (by with_unfolding_all rfl)) (nl rfl) ?_
 unfold A0r at h
 refine A9 (s0:=⟨T [(0,(.d _)),(1,(.d _))],G []⟩) (sbr rfl rfl) ?_
 refine lr (fun u1 hu1=>sn rfl rfl (sv rfl (A3 (A7 (lr (fun u2 hu2=>sd rfl (B9 rfl G_hit rfl rfl) (sv rfl (bs h fun v1 hv1 h=>C4 rfl rfl A4 (A2r _ _ _ hv1) (.inl rfl) (sv rfl (A3 (cc rfl h (fun c1 h=> ?_) (fun c1 h=> ?_))))))))))))
 refine lr (fun u3 hu3=>sv rfl (A3 (B5 ?_)))
 cases h
 exact B0 (.inr rfl) (C1 (B4 rfl) I6) (.refl _)
 refine B3 (lr (fun u4 hu4=>sd rfl (B9 rfl G_hit rfl rfl) (sv rfl (bs h fun v2 hv2 h=>C4 rfl rfl A4 (B1n _ _ _ hv2) (.inl rfl) (sv rfl (sv rfl (sv rfl (sv rfl (sv rfl (A3 (lr (fun u5 hu5=>sv rfl (sv rfl (A3 (B5 ?_)))))))))))))))
 cases h
 exact B0 (.inr rfl) (C1 (B4 rfl) I6) (.refl _)
noncomputable def A0o (p3:Int)(v1:(List Int))(x1:(Int×Int)):Option (Stp (Int×Int) Int):=
  cond (decide (x1.2< (v1.length:Int))) ((F3 v1 x1.2).bind fun v3=>cond (decide (v3≤p3)) (some (.go (x1.2,(w64 (x1.2+1))))) (some (.go (x1.1,(w64 (x1.2+1)))))) (some (.out x1.1))
noncomputable def A52 (p1:Map)(p2:(List Int))(p3:Int):Option (Int×Int×Bool):=
  (A3v p1 p2).bind fun v1=>((cond (!((decide (p3<0))||((v1.length:Int)==0))) (A0r p1 p2) (some default))).bind fun v2=>cond (((decide (p3<0))||((v1.length:Int)==0))||(decide (p3>v2))) (some (0,0,false)) ((loop (A0o p3 v1) (0,0)).bind fun y1=>(F3 p2 y1).bind fun v4=>(F3 v1 y1).bind fun v5=>some (v4,(w64 (p3 - v5)),true))
theorem B8y (p1:Map)(p2:(List Int))(p3:Int)(r:(Int×Int×Bool))(h:A52 p1 p2 p3=some r):PCall Tryz.prog 35 [(.agg (A0s p1)),(.list (List.map A5 p2)),(i64 p3)] (.tup [(i64 r.1),(i64 r.2.1),(bo r.2.2)]):=by
 refine E1 (fk Tryz.func35 Tryz.ntmps35 m0 (by with_unfolding_all rfl)) (nl rfl) ?_
 unfold A52 at h
 refine A9 (s0:=⟨T [(0,(.d _)),(1,(.d _)),(2,(.d _))],G []⟩) (sbr rfl rfl) ?_
 refine lr (fun u1 hu1=>sn rfl rfl (sv rfl (sv rfl (sv rfl (A3 (lr (fun u2 hu2=>sd rfl (B9 rfl G_hit rfl rfl) (sv rfl (bs h fun v1 hv1 h=>C4 rfl rfl A4 (A89 _ _ _ hv1) (.inl rfl) (sv rfl (A3 (A7 (lr (fun u3 hu3=>sv rfl (sv rfl (sv rfl (gf rfl (fun _=>rfl) (gf rfl (fun w2=>(F1 (A6 w2))) (gf rfl (vb rfl rfl rfl) (sd rfl (A4j rfl rfl (fun hc=>A6 (R5 hc))) (sv rfl (gf rfl (fun _=>rfl) (gf rfl (fun w5=>(B9 rfl G_hit rfl rfl)) (gf rfl (fun _=>rfl) (bs h fun v2 hv2 h=> ?_)))))))))))))))))))))))))
 refine U1 _ (i64 v2) (A0f rfl) (fun w7=>⟨_,[(.d (.agg (A0s p1))),(dl A5 p2)],_,_,(by simp only [A6 w7];rfl),rfl,A4,A7m _ _ _ (E8 w7 hv2),(.inl rfl)⟩) ?_
 refine gf rfl (fun w8=>(A1q (A6 w8) (A6 w8) rfl)) (sd rfl (A4j rfl rfl (fun hc=>A6 (R5 hc))) (A3 (cc rfl h (fun c1 h=> ?_) (fun c1 h=> ?_))))
 refine A7 (A9 (s0:=⟨T [],G []⟩) (sbr rfl rfl) ?_)
 refine B8 fun u4 hu4=>sv rfl (sv rfl (sv rfl (A3 (B5 ?_))))
 cases h
 exact B0 (.inr rfl) (B8q (B4 rfl) (B4 rfl) (B4 rfl) I6 I6 I6) (.refl _)
 refine B3 (A7 (A9 (s0:=⟨T [(1,(.d _)),(2,(.d _)),(9,(.d _))],G []⟩) (sbr rfl rfl) ?_))
 refine B8 fun u5 hu5=>sv rfl (A3 (A7 (lr (fun u6 hu6=>sv rfl (A3 (bs h fun y1 hy1 h=>F2 (fun s=> ∃g1:Unit,Sb ⟨T [(1,(dl A5 p2)),(2,(di p3)),(9,(dl A5 v1)),(10,(di y1))],G []⟩ s) ?_ ?_))))))
 refine A8 (F0 (A0o p3 v1) (fun (x1:(Int×Int)) (g2:Unit)=>⟨T [(1,(dl A5 p2)),(2,(di p3)),(9,(dl A5 v1)),(10,(di x1.1)),(11,(di x1.2))],G []⟩) (0,0) () _ hy1 (sbr rfl rfl) ?_)
 intro x1 g2 z1 hz1 ez1
 unfold A0o at hz1
 refine A7 (lr (fun u7 hu7=>sv rfl (sv rfl (sd rfl (F1 rfl) (sv rfl (A3 (cc rfl hz1 (fun c2 hz1=> ?_) (fun c2 hz1=> ?_))))))))
 refine B3 (A7 (A8 (lr (fun u8 hu8=>sv rfl (sv rfl (bs hz1 fun v3 hv3 hz1=>sd rfl (G6 rfl rfl hv3 rfl) (sd rfl (E9 rfl hv3 rfl) (sv rfl (sv rfl (A3 (cc rfl hz1 (fun c3 hz1=> ?_) (fun c3 hz1=> ?_))))))))))))
 refine B8 fun u9 hu9=>sv rfl (sv rfl (A3 (H9 (B8 fun u10 hu10=>sv rfl (sv rfl (sv rfl (A3 (H4 ?_))))))))
 cases hz1
 exact ⟨rfl,(),(sbr rfl rfl)⟩
 refine B3 (H9 (B8 fun u11 hu11=>sv rfl (sv rfl (sv rfl (A3 (H4 ?_))))))
 cases hz1
 exact ⟨rfl,(),(sbr rfl rfl)⟩
 refine C6 rfl ?_
 cases hz1
 obtain rfl:=ez1 _ rfl
 refine ⟨nofun,C2 rfl (l_j ?_)⟩
 exact ⟨(),(sbr rfl rfl)⟩
 rintro _ ⟨g1,q1⟩
 refine A9 q1 (A7 (N6 rfl fun u12 hu12=>sv rfl (sv rfl (bs h fun v4 hv4 h=>sd rfl (G6 rfl rfl hv4 rfl) (sd rfl (E9 rfl hv4 rfl) (sv rfl (sv rfl (sv rfl (bs h fun v5 hv5 h=>sd rfl (G6 rfl rfl hv5 rfl) (sd rfl (E9 rfl hv5 rfl) (sv rfl (sv rfl (sv rfl (sv rfl (A3 (B5 ?_))))))))))))))))
 cases h
 exact B0 (.inr rfl) (B8q (B4 rfl) (B4 rfl) (B4 rfl) I6 I6 I6) (.refl _)
end Go.Abs.Roadsz
