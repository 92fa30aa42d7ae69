/-
  The functions, part 4.
-/
import Derived.Test.YtgjdiioennhoeaaGreatFns3
set_option maxRecDepth 20000
set_option maxHeartbeats 4000000
set_option linter.unusedVariables false
namespace Go.Abs.World
open Go Go.Abs Go.Proofs
attribute [local irreducible] T9 B5q AWL
noncomputable def A6k (y1:WorldLooks)(x2:((List Span)×Int))(v12:Int)(x3:((List Span)×Int)):Option (Stp ((List Span)×Int) (List Span)):=
  cond (decide (x3.2<v12)) ((A11 y1 (Span.mk x2.2 x3.2 (mm2 false (w64 (x3.2+1000)) v12))).bind fun v13=>cond (!v13) (some (.go (x3.1,(w64 (x3.2+1000))))) (((cond (decide ((x3.1.length:Int)>0)) (D0 x3.1 (w64 ((x3.1.length:Int) - 1))) (some default))).bind fun v14=>cond ((decide ((x3.1.length:Int)>0))&& (v14.To==x3.2)) ((D0 x3.1 (w64 ((x3.1.length:Int) - 1))).bind fun v15=>some (.go ((B92 x3.1 (w64 ((x3.1.length:Int) - 1)) (Span.mk v15.Lane_ v15.From (mm2 false (w64 (x3.2+1000)) v12))),(w64 (x3.2+1000))))) ((A83 x3.1 [(Span.mk x2.2 x3.2 (mm2 false (w64 (x3.2+1000)) v12))]).bind fun v16=>some (.go (v16,(w64 (x3.2+1000))))))) (some (.out x3.1))
noncomputable def A8t (y1:WorldLooks)(x2:((List Span)×Int)):Option (List Span):=
  (A21 y1.m x2.2).bind fun v12=>(loop (A6k y1 x2 v12) ([],0)).bind fun y5=>some y5
noncomputable def A6l (p1:Map)(y1:WorldLooks)(x2:((List Span)×Int)):Option (Stp ((List Span)×Int) (List Span)):=
  cond (decide (x2.2< (p1.Lanes.length:Int))) ((A8t y1 x2).bind fun y4=>(A83 x2.1 y4).bind fun v17=>some (.go (v17,(w64 (x2.2+1))))) (some (.out x2.1))
noncomputable def A6m (p1:Map)(p2:State)(x1:(Int× ((List (List Span))× (List WorldBar)))):Option (Stp (Int× ((List (List Span))× (List WorldBar))) ((List (List Span))× (List WorldBar))):=
  cond (decide (x1.1< (p2.Agents.length:Int))) ((D0 p2.Agents x1.1).bind fun v5=>((cond (decide (x1.1>0)) (A1c p2 x1.1) (some default))).bind fun v6=>cond ((decide (x1.1>0))&&v6) ((A3z p1 v5).bind fun v7=>(A83 x1.2.1 [v7]).bind fun v8=>(B2l p1 v5.Route v5.S).bind fun v9=>(B2l p1 v5.Route (w64 (v5.S - v5.Len))).bind fun v10=>(A83 x1.2.2 [(WorldBar.mk v9 v10)]).bind fun v11=>some (.go ((w64 (x1.1+1)),(v8,v11)))) (some (.go ((w64 (x1.1+1)),x1.2)))) (some (.out x1.2))
noncomputable def A8u (p1:Map)(p2:State)(p3:Int):Option WorldLooks:=
  (D0 p2.Agents 0).bind fun v2=>(D0 p2.Agents 0).bind fun v3=>(B2l p1 v2.Route v3.S).bind fun v4=>(loop (A6m p1 p2) (0,([],[]))).bind fun y2=>some (WorldLooks.mk p1 v4 p3 y2.1 y2.2)
noncomputable def B1z (p1:Map)(p2:State)(p3:Int):Option (List Span):=
  (A91 p1 p2 p3).bind fun v1=>cond (!v1) (some []) ((A8u p1 p2 p3).bind fun y1=>(loop (A6l p1 y1) ([],0)).bind fun y3=>some y3)
theorem C0o (p1:Map)(p2:State)(p3:Int)(r:(List Span))(h:B1z p1 p2 p3=some r):PCall Tryz.prog 57 [(.agg (A5o p1)),(.agg (A1z p2)),(i64 p3)] (.list (List.map R8 r)):=by
 refine B8 (fk Tryz.func57 Tryz.ntmps57 (fun r=>if r==4 then [3]else if r==8 then [3]else []) (by with_unfolding_all rfl)) (nl rfl) ?_
 unfold B1z at h
 refine B5 (s0:=⟨T [(0,(.d _)),(1,(.d _)),(2,(.d _))],G []⟩) (sbr rfl rfl) ?_
 refine lr (fun u1 hu1=>sn rfl rfl (sn rfl rfl (sv rfl (A1 (A7 (lr (fun u2 hu2=>sd rfl (A6 rfl (gq rfl) rfl rfl) (sd rfl (A6 rfl G_hit rfl rfl) (sv rfl (bs h fun v1 hv1 h=>B2 rfl rfl A2 (B6h _ _ _ _ hv1) (.inl rfl) (C0 (.d (bo (!v1))) rfl rfl (A1 (cc rfl h (fun c1 h=> ?_) (fun c1 h=> ?_))))))))))))))
 refine lr (fun u3 hu3=>sv rfl (A1 (B4 ?_)))
 cases h
 exact A8 (.inr rfl) (B7 (B6 rfl) E5) DLe.nil
 refine B1 (lr (fun u4 hu4=>sv rfl (A1 (lr (fun u5 hu5=>sd rfl (A6 rfl (gq rfl) rfl rfl) (sd rfl (A6 rfl G_hit rfl rfl) (sv rfl (bs h fun y1 hy1 h=>B68 (fk Tryz.func123 Tryz.ntmps123 (fun r=>if r==6 then [1008]else if r==7 then [1021]else []) (by with_unfolding_all rfl)) (fun (g1:(Nat×Nat×Nat))=> [(3,(.ptr (3,u1) 0)),(7,(.d .nilS)),(18,(.ptr (25,g1.2.2) 0))]) (fun (g1:(Nat×Nat×Nat))=> [((3,u1),some (.box 33 (A02 p1))),((50,g1.1),oB 90 1 A84 y1.bodies),((75,g1.2.1),oB 248 4 A0u y1.bars),((25,g1.2.2),some (.box 246 (((A70 y1).set 8 (oS y1.bodies (50,g1.1))).set 9 (oS y1.bars (75,g1.2.1)))))]) rfl (nl rfl) ?_ ?_))))))))
 unfold A8u at hy1
 refine B5 (s0:=⟨T [(0,(.d _)),(1,(.d _)),(2,(.d _))],G [((3,u1),some (.box 33 _))]⟩) (sbr rfl rfl) ?_
 refine lr (fun u6 hu6=>sn rfl rfl (sn rfl rfl (sv rfl (A1 (A7 (I0 rfl fun u7 hu7=>sd rfl (A6 rfl (gq rfl) rfl rfl) (sv rfl (sd rfl (A6 rfl (gq rfl) rfl rfl) (sp rfl rfl (sl rfl G_hit rfl (bs hy1 fun v2 hv2 hy1=>sd rfl (F9 rfl rfl hv2 rfl) (sv rfl (sd rfl (F4 rfl hv2 rfl) (sp rfl rfl (sl rfl G_hit rfl (bs hy1 fun v3 hv3 hy1=>sd rfl (F9 rfl rfl hv3 rfl) (sv rfl (sd rfl (F4 rfl hv3 rfl) (bs hy1 fun v4 hv4 hy1=>B2 rfl rfl A2 (B5g _ _ _ _ hv4) (.inl rfl) (sv rfl (sn rfl rfl (sp rfl rfl (A1 (A7 (lr (fun u8 hu8=>sp rfl rfl (sl rfl (gq rfl) rfl (sd rfl (J6 rfl) (sv rfl (A1 (bs hy1 fun y2 hy2 hy1=>E7 (fun s=> ∃g2:(Nat×Nat),Sb ⟨T [(7,(.ptr (25,u7) 0))],G [((25,u7),some (.box 246 ((A02 p1)++ [(di v4.X),(di v4.Y),(di p3),(oS y2.1 (50,g2.1)),(oS y2.2 (75,g2.2))]))),((3,u1),some (.box 33 (A02 p1))),((50,g2.1),oB 90 1 A84 y2.1),((75,g2.2),oB 248 4 A0u y2.2)]⟩ s) ?_ ?_)))))))))))))))))))))))))))))))
 refine A9 (G5 (A6m p1 p2) (fun (x1:(Int× ((List (List Span))× (List WorldBar)))) (g3:(Nat×Nat))=>⟨T [(3,(.ptr (3,u6) 0)),(4,(.ptr (4,u6) 0)),(7,(.ptr (25,u7) 0)),(27,(dl C4 p2.Agents)),(28,(di (p2.Agents.length:Int))),(29,(di x1.1))],G [((3,u6),some (.box 33 (A02 p1))),((4,u6),some (.box 25 (N3 p2))),((25,u7),some (.box 246 ((A02 p1)++ [(di v4.X),(di v4.Y),(di p3),(oS x1.2.1 (50,g3.1)),(oS x1.2.2 (75,g3.2))]))),((3,u1),some (.box 33 (A02 p1))),((50,g3.1),oB 90 1 A84 x1.2.1),((75,g3.2),oB 248 4 A0u x1.2.2)]⟩) (0,([],[])) (0,0) _ hy2 (G2 ⟨.of rfl, .of rfl, .of rfl, .of rfl, .of rfl, .of rfl,trivial⟩ (sg rfl (sg rfl (B0 G_hit (.of rfl) (B0 (A3 rfl (A3 rfl (U5 (B4e hu6 G_hit) G_hit))) (.of rfl) (A2n (A2n trivial))))))) ?_)
 intro x1 g3 z1 hz1 ez1
 unfold A6m at hz1
 refine lr (fun u9 hu9=>sv rfl (A1 (A7 (cc rfl hz1 (fun c2 hz1=> ?_) (fun c2 hz1=> ?_)))))
 refine B1 (A7 (A9 (lr (fun u10 hu10=>sv rfl (bs hz1 fun v5 hv5 hz1=>sd rfl (F9 rfl rfl hv5 rfl) (sd rfl (C6 rfl hv5 rfl rfl) (sn rfl rfl (sv rfl (sst rfl G_hit (Y0 v5) rfl (A1 (lr (fun u11 hu11=>sv rfl (sv rfl (sv rfl (gt rfl (fun w1=>(A6 rfl (gq rfl) rfl rfl)) (gt rfl (fun _=>rfl) (bs hz1 fun v6 hv6 hz1=> ?_)))))))))))))))))
 refine O5 _ (bo v6) (V5 rfl) (fun w3=>⟨_,[(.d (.agg (A1z p2))),(di x1.1)],_,_,(by simp only [A4 w3];rfl),rfl,A2,A2l _ _ _ (B9 w3 hv6),(.inl rfl)⟩) ?_
 refine sa rfl rfl rfl (A1 (cc rfl hz1 (fun c3 hz1=> ?_) (fun c3 hz1=> ?_)))
 refine A7 (I0 rfl fun u12 hu12=>sp rfl rfl (sp rfl rfl (sp rfl rfl (sp rfl rfl (C0 (oS x1.2.1 (50,g3.1)) rfl (R7 rfl (gq rfl) rfl) (sd rfl (A6 rfl (gq rfl) rfl rfl) (sd rfl (A6 rfl G_hit rfl rfl) (bs hz1 fun v7 hv7 hz1=>B2 rfl rfl A2 (A67 _ _ _ hv7) (.inl rfl) (C0 (dl A84 [v7]) rfl rfl (bs hz1 fun v8 hv8 hz1=>U6 A84 (50,g3.1) x1.2.1 v7 [] _ (Q5 (fun _=>rfl)) rfl (gq rfl) hv8 (sp rfl rfl (sp rfl rfl (sst rfl (gq rfl) ((A02 p1)++ [(di v4.X),(di v4.Y),(di p3),(.sl (50,u12)),(oS x1.2.2 (75,g3.2))]) rfl (A1 (I0 rfl fun u13 hu13=>sp rfl rfl (sp rfl rfl (sp rfl rfl (sp rfl rfl (C0 (oS x1.2.2 (75,g3.2)) rfl (R7 rfl G_hit rfl) (sd rfl (A6 rfl (gq rfl) rfl rfl) (sp rfl rfl (sl rfl (gq rfl) rfl (sp rfl rfl (sl rfl (gq rfl) rfl (bs hz1 fun v9 hv9 hz1=>B2 rfl rfl A2 (B5g _ _ _ _ hv9) (.inl rfl) (sd rfl (A6 rfl (gq rfl) rfl rfl) (sp rfl rfl (sl rfl (gq rfl) rfl (sp rfl rfl (sl rfl (gq rfl) rfl (sp rfl rfl (sl rfl (gq rfl) rfl (sv rfl (bs hz1 fun v10 hv10 hz1=>B2 rfl rfl A2 (B5g _ _ _ _ hv10) (.inl rfl) (sv rfl (C0 (dl A0u [(WorldBar.mk v9 v10)]) rfl rfl (bs hz1 fun v11 hv11 hz1=>U6 A0u (75,g3.2) x1.2.2 (WorldBar.mk v9 v10) [] _ (Q5 (fun _=>rfl)) rfl (gq rfl) hv11 (sp rfl rfl (sp rfl rfl (sst rfl (gq rfl) ((A02 p1)++ [(di v4.X),(di v4.Y),(di p3),(.sl (50,u12)),(.sl (75,u13))]) rfl (A1 (J3 (C7 fun u14 hu14=>sv rfl (sv rfl (A1 (I3 ?_))))))))))))))))))))))))))))))))))))))))))))))
 cases hz1
 exact ⟨rfl,(u12,u13),(G2 ⟨.of rfl, .of rfl, .of rfl, .of rfl, .of rfl, .of rfl,trivial⟩ (sg rfl (sg rfl (B0 G_hit (.box (cv (cv (cv (cv (cv (cv (cv (cv (.cons (.of (A6z (A00 hv8)).symm) (.cons (.of (A6z (A00 hv11)).symm) .nil))))))))))) (B0 (A3 rfl (A3 rfl (A3 rfl (A3 rfl (A3 rfl (A3 rfl (A3 rfl (A3 rfl (U5 (B4e hu6 G_hit) (gq rfl)))))))))) (.of rfl) (A16 (gq rfl) (A16 (gq rfl) trivial)))))))⟩
 refine B1 (J3 (C7 fun u15 hu15=>sv rfl (sv rfl (A1 (I3 ?_)))))
 cases hz1
 exact ⟨rfl,(g3.1,g3.2),(G2 ⟨.of rfl, .of rfl, .of rfl, .of rfl, .of rfl, .of rfl,trivial⟩ (sg rfl (sg rfl (sg rfl (B0 (A3 rfl (A3 rfl (U5 (B4e hu6 G_hit) (gq rfl)))) (.of rfl) (B3 (gq rfl) (B3 (gq rfl) trivial)))))))⟩
 refine C5 rfl ?_
 cases hz1
 obtain rfl:=ez1 _ rfl
 refine ⟨nofun,C2 rfl (l_j ?_)⟩
 exact ⟨(g3.1,g3.2),(G2 ⟨.of rfl,trivial⟩ (sg rfl (B0 (U5 (B4e hu6 G_hit) (gq rfl)) (.of rfl) (B3 (gq rfl) (B3 (gq rfl) trivial)))))⟩
 rintro _ ⟨g2,q1⟩
 refine B5 q1 (lr (fun u16 hu16=>sp rfl rfl (sp rfl rfl (A1 (B4 ?_)))))
 cases hy1
 exact B8k (.inr rfl) (C4v (B6 rfl)) (g2.1,g2.2,u7) ⟨.of rfl, .of rfl, .of rfl,trivial⟩ (sg rfl (B3 (gq rfl) (B3 (gq rfl) (B0 G_hit (.of rfl) trivial))))
 intro g1
 intro u17 hu17
 refine sp rfl rfl (A1 (A7 (lr (fun u18 hu18=>sp rfl rfl (sl rfl G_hit rfl (sd rfl (J6 rfl) (sv rfl (A1 (bs h fun y3 hy3 h=>E7 (fun s=> ∃g4:Nat,Sb ⟨T [(7,(oS y3 (29,g4)))],G [((29,g4),oB 93 3 R8 y3)]⟩ s) ?_ ?_)))))))))
 refine A9 (G5 (A6l p1 y1) (fun (x2:((List Span)×Int)) (g5:Nat)=>⟨T [(7,(oS x2.1 (29,g5))),(8,(.ptr (25,g1.2.2) 0)),(21,(di (p1.Lanes.length:Int))),(22,(di x2.2))],G [((25,g1.2.2),some (.box 246 (((A70 y1).set 8 (oS y1.bodies (50,g1.1))).set 9 (oS y1.bars (75,g1.2.1))))),((50,g1.1),oB 90 1 A84 y1.bodies),((75,g1.2.1),oB 248 4 A0u y1.bars),((29,g5),oB 93 3 R8 x2.1)]⟩) ([],0) 0 _ hy3 (G2 ⟨.of rfl, .of rfl, .of rfl, .of rfl,trivial⟩ (sg rfl (B3 (gq rfl) (B3 (gq rfl) (A2n trivial))))) ?_)
 intro x2 g5 z2 hz2 ez2
 unfold A6l at hz2
 refine lr (fun u19 hu19=>sv rfl (A1 (A7 (cc rfl hz2 (fun c4 hz2=> ?_) (fun c4 hz2=> ?_)))))
 refine B1 (A7 (A9 (lr (fun u20 hu20=>sv rfl (sv rfl (A1 (C7 fun u21 hu21=>C0 (oS x2.1 (29,g5)) rfl rfl (sp rfl rfl (sv rfl (bs hz2 fun y4 hy4 hz2=>B68 (fk Tryz.func124 Tryz.ntmps124 (fun r=>if r==11 then [1002]else []) (by with_unfolding_all rfl)) (fun (g6:Nat)=> [(8,(.ptr (25,g1.2.2) 0)),(21,(di (p1.Lanes.length:Int))),(22,(di x2.2)),(25,(oS x2.1 (29,g5))),(28,(oS y4 (56,g6)))]) (fun (g6:Nat)=> [((25,g1.2.2),some (.box 246 (((A70 y1).set 8 (oS y1.bodies (50,g1.1))).set 9 (oS y1.bars (75,g1.2.1))))),((29,g5),oB 93 3 R8 x2.1),((50,g1.1),oB 90 1 A84 y1.bodies),((75,g1.2.1),oB 248 4 A0u y1.bars),((56,g6),oB 93 3 R8 y4)]) rfl (nl rfl) ?_ ?_))))))))))
 unfold A8t at hy4
 refine B5 (s0:=⟨T [(0,(.ptr (25,g1.2.2) 0)),(1,(di x2.2))],G [((25,g1.2.2),some (.box 246 (((A70 y1).set 8 (oS y1.bodies (50,g1.1))).set 9 (oS y1.bars (75,g1.2.1))))),((50,g1.1),oB 90 1 A84 y1.bodies),((75,g1.2.1),oB 248 4 A0u y1.bars),((29,g5),oB 93 3 R8 x2.1)]⟩) (G2 ⟨.of rfl, .of rfl,trivial⟩ (B0 G_hit (.of rfl) (B3 (gq rfl) (B3 (gq rfl) (B3 (gq rfl) trivial))))) ?_
 refine lr (fun u22 hu22=>sv rfl (A1 (lr (fun u23 hu23=>sv rfl (A1 (lr (fun u24 hu24=>sp rfl rfl (sp rfl rfl (sp rfl rfl (sd rfl (A6 rfl G_hit rfl rfl) (sv rfl (bs hy4 fun v12 hv12 hy4=>B2 rfl rfl A2 (A65 _ _ _ hv12) (.inl rfl) (sv rfl (A1 (A7 (lr (fun u25 hu25=>sv rfl (A1 (bs hy4 fun y5 hy5 hy4=>E7 (fun s=> ∃g7:Nat,Sb ⟨T [(5,(oS y5 (56,g7)))],G [((25,g1.2.2),some (.box 246 (((A70 y1).set 8 (oS y1.bodies (50,g1.1))).set 9 (oS y1.bars (75,g1.2.1))))),((29,g5),oB 93 3 R8 x2.1),((50,g1.1),oB 90 1 A84 y1.bodies),((75,g1.2.1),oB 248 4 A0u y1.bars),((56,g7),oB 93 3 R8 y5)]⟩ s) ?_ ?_)))))))))))))))))))
 refine A9 (G5 (A6k y1 x2 v12) (fun (x3:((List Span)×Int)) (g8:Nat)=>⟨T [(0,(.ptr (25,g1.2.2) 0)),(1,(di x2.2)),(5,(oS x3.1 (56,g8))),(6,(di v12)),(7,(di x3.2))],G [((25,g1.2.2),some (.box 246 (((A70 y1).set 8 (oS y1.bodies (50,g1.1))).set 9 (oS y1.bars (75,g1.2.1))))),((29,g5),oB 93 3 R8 x2.1),((50,g1.1),oB 90 1 A84 y1.bodies),((75,g1.2.1),oB 248 4 A0u y1.bars),((56,g8),oB 93 3 R8 x3.1)]⟩) ([],0) 0 _ hy5 (G2 ⟨.of rfl, .of rfl, .of rfl, .of rfl, .of rfl,trivial⟩ (B0 G_hit (.of rfl) (B3 (gq rfl) (B3 (gq rfl) (B3 (gq rfl) (A2n trivial)))))) ?_)
 intro x3 g8 z3 hz3 ez3
 unfold A6k at hz3
 refine A7 (lr (fun u26 hu26=>sv rfl (sv rfl (sv rfl (A1 (cc rfl hz3 (fun c5 hz3=> ?_) (fun c5 hz3=> ?_)))))))
 refine B1 (A7 (A9 (lr (fun u27 hu27=>sv rfl (sv rfl (sv rfl (sv rfl (sv rfl (sv rfl (sv rfl (sn rfl rfl (sst rfl G_hit [(di x2.2),(di x3.2),(di (mm2 false (w64 (x3.2+1000)) v12))] rfl (A1 (A7 (lr (fun u28 hu28=>sp rfl rfl (sd rfl (A6 rfl G_hit rfl rfl) (bs hz3 fun v13 hv13 hz3=>B2 rfl (C3 (A1e (gq rfl) (rD (rD (rD (rD (rD (rD (rD (rD (C3 (A3u (gq rfl)) (C3 (A3u (gq rfl)) D2))))))))))) (rD D2)) (.cons (DLe.bp (ca rfl (ca rfl (ca rfl (ca rfl (ca rfl (ca rfl (ca rfl (ca rfl (.cons ⟨A3t,rfl⟩ (.cons ⟨A3t,rfl⟩ .nil))))))))))) A2) (B3t _ _ _ hv13) (.inr rfl) (C0 (.d (bo (!v13))) rfl rfl (A1 (cc rfl hz3 (fun c6 hz3=> ?_) (fun c6 hz3=> ?_))))))))))))))))))))))
 refine B4w rfl (C7 fun u29 hu29=>sv rfl (sv rfl (sv rfl (A1 (I3 ?_)))))
 cases hz3
 exact ⟨rfl,g8,(G2 ⟨.of rfl, .of rfl, .of rfl, .of rfl, .of rfl,trivial⟩ (sg rfl (B3 (gq rfl) (B3 (gq rfl) (B3 (gq rfl) (B3 (gq rfl) trivial))))))⟩
 refine B1 (lr (fun u30 hu30=>C0 (oS x3.1 (56,g8)) rfl rfl (sd rfl (D0x (f:=R8) rfl (gq rfl)) (sv rfl (A1 (lr (fun u31 hu31=>sv rfl (sv rfl (sv rfl (U0 _ (oS x3.1 (56,g8)) rfl (V5 rfl) (fun _=>rfl) (gt rfl (fun _=>rfl) (gt rfl (vb rfl rfl rfl) (bs hz3 fun v14 hv14 hz3=>U0 _ (.aptr _ _ _ _) rfl (V5 rfl) (fun w7=>(C1k (A4 w7) (A4 w7) (gq rfl) (B9 w7 hv14))) ?_)))))))))))))
 refine U0 _ (.aptr _ _ _ _) rfl (V5 rfl) (fun w8=>(by simp only [A4 w8];rfl)) ?_
 refine gt rfl (fun w9=>(B8b (A4 w9) (B3j (gq rfl) (A98 (B9 w9 hv14))) (B9 w9 hv14) rfl)) (gt rfl (fun _=>rfl) (gt rfl (fun w11=>(X7 (A4 w11) (A4 w11) rfl)) (sa rfl rfl rfl (A1 (cc rfl hz3 (fun c7 hz3=> ?_) (fun c7 hz3=> ?_))))))
 refine C7 fun u32 hu32=>C0 (oS x3.1 (56,g8)) rfl rfl (sv rfl (sv rfl (sp rfl rfl (sl rfl G_hit rfl (bs hz3 fun v15 hv15 hz3=>C0 (.aptr _ _ _ _) rfl (C1k rfl rfl (gq rfl) hv15) (C0 (.aptr _ _ _ _) rfl rfl ?_))))))
 rw [A6z (A98 hv15)]
 refine B4f R8 _ _ _ ((w64 ((x3.1.length:Int) - 1))) _ (Span.mk v15.Lane_ v15.From (mm2 false (w64 (x3.2+1000)) v12)) [(i64 (mm2 false (w64 (x3.2+1000)) v12))] rfl rfl rfl (B3j (gq rfl) (A98 hv15)) hv15 (nl rfl) rfl (A1 (J3 (C7 fun u33 hu33=>sv rfl (sv rfl (sv rfl (A1 (I3 ?_)))))))
 cases hz3
 exact ⟨rfl,g8,(G2 ⟨.of rfl, .of rfl,(.of (A6z (C63 (A98 hv15))).symm), .of rfl, .of rfl,trivial⟩ (sg rfl (B3 (gq rfl) (B3 (gq rfl) (B3 (gq rfl) (A16 G_hit trivial))))))⟩
 refine C7 fun u34 hu34=>C0 (oS x3.1 (56,g8)) rfl rfl (sd rfl (A6 rfl G_hit rfl rfl) (C0 (dl R8 [(Span.mk x2.2 x3.2 (mm2 false (w64 (x3.2+1000)) v12))]) rfl rfl (bs hz3 fun v16 hv16 hz3=>U6 R8 (56,g8) x3.1 (Span.mk x2.2 x3.2 (mm2 false (w64 (x3.2+1000)) v12)) [] _ (Q5 (fun _=>rfl)) rfl (gq rfl) hv16 (ss rfl (A1 (J3 (C7 fun u35 hu35=>sv rfl (sv rfl (sv rfl (A1 (I3 ?_)))))))))))
 cases hz3
 exact ⟨rfl,u34,(G2 ⟨.of rfl, .of rfl,(.of (A6z (A00 hv16)).symm), .of rfl, .of rfl,trivial⟩ (sg rfl (B3 (gq rfl) (B3 (gq rfl) (B3 (gq rfl) (A16 G_hit trivial))))))⟩
 refine C5 rfl ?_
 cases hz3
 obtain rfl:=ez3 _ rfl
 refine ⟨nofun,C2 rfl (l_j ?_)⟩
 exact ⟨g8,(G2 ⟨.of rfl,trivial⟩ (B0 G_hit (.of rfl) (B3 (gq rfl) (B3 (gq rfl) (B3 (gq rfl) (B3 (gq rfl) trivial))))))⟩
 rintro _ ⟨g7,q2⟩
 refine B5 q2 (lr (fun u36 hu36=>C0 (oS y5 (56,g7)) rfl rfl (C0 (oS y5 (56,g7)) rfl rfl (A1 (B4 ?_)))))
 obtain rfl:=(Option.some.inj hy4)
 exact B8k (.inr rfl) (C4v (B6 rfl)) g7 ⟨.of rfl, .of rfl, .of rfl, .of rfl, .of rfl,trivial⟩ (B0 G_hit (.of rfl) (B3 (gq rfl) (B3 (gq rfl) (B3 (gq rfl) (B3 (gq rfl) trivial)))))
 intro g6
 intro u37 hu37
 refine bs hz2 fun v17 hv17 hz2=>C6b R8 (29,g5) x2.1 y4 _ (C9p (gq rfl)) rfl (gq rfl) hv17 (C4t hu37) (C0 (oS v17 (29,u37)) rfl rfl (A1 (J3 (C7 fun u38 hu38=>sv rfl (sv rfl (A1 (I3 ?_)))))))
 cases hz2
 exact ⟨rfl,u37,(G2 ⟨.of rfl, .of rfl, .of rfl, .of rfl,trivial⟩ (sg rfl (B3 (gq rfl) (B3 (gq rfl) (B3 G_hit trivial)))))⟩
 refine C5 rfl ?_
 cases hz2
 obtain rfl:=ez2 _ rfl
 refine ⟨nofun,C2 rfl (l_j ?_)⟩
 exact ⟨g5,(G2 ⟨.of rfl,trivial⟩ (B3 (gq rfl) trivial))⟩
 rintro _ ⟨g4,q3⟩
 refine B5 q3 (lr (fun u39 hu39=>C0 (oS y3 (29,g4)) rfl rfl (C0 (oS y3 (29,g4)) rfl rfl (A1 (B4 ?_)))))
 cases h
 exact A8 (.inr rfl) (B7 (B6 rfl) (A3u G_hit)) A3t
noncomputable def A9p (p1:Int)(p2:Int):Option Int:=
  (C2r p1 p2).bind fun v1=>(C2r (w64 (v1+p2)) p2).bind fun v2=>some v2
theorem B3u (p1:Int)(p2:Int)(r:Int)(h:A9p p1 p2=some r):PCall Tryz.prog 105 [(i64 p1),(i64 p2)] (i64 r):=by
 refine B8 (fk Tryz.func105 Tryz.ntmps105 m0 (by with_unfolding_all rfl)) (nl rfl) ?_
 unfold A9p at h
 refine B5 (s0:=⟨T [(0,(.d _)),(1,(.d _))],G []⟩) (sbr rfl rfl) ?_
 refine lr (fun u1 hu1=>sv rfl (A1 (lr (fun u2 hu2=>sv rfl (sv rfl (bs h fun v1 hv1 h=>sd rfl (C4u rfl rfl hv1) (sv rfl (sv rfl (sv rfl (bs h fun v2 hv2 h=>sd rfl (C4u rfl rfl hv2) (sv rfl (A1 (B4 ?_)))))))))))))
 cases h
 exact A8 (.inr rfl) (B7 (B6 rfl) E5) (.refl _)
noncomputable def W2 (p1:Int)(p2:Int)(p3:(List Int)):Option (Int×Int):=
  cond (decide (p2≥(p3.length:Int))) (some (0,p2)) ((D0 p3 (w64 ((w64 (p2+1)) - 1))).bind fun v1=>(A9p v1 (w64 ((w64 (2*p1))+1))).bind fun v2=>some ((w64 (v2 - p1)),(w64 (p2+1))))
theorem A4c (p1:Int)(p2:Int)(p3:(List Int))(r:(Int×Int))(h:W2 p1 p2 p3=some r):MCall Tryz.prog 128 [(di p1),(.ptr (900000,0) 0),(.ptr (900001,0) 0)] [(.box 3 [(di p2)]),(.box 48 [(dl A5 p3)])] (di r.1) [some (.box 3 [(di r.2)]),some (.box 48 [(dl A5 p3)])] []:=by
 refine B3k (fk Tryz.func128 Tryz.ntmps128 m0 (by with_unfolding_all rfl)) rfl (nl rfl) ?_
 unfold W2 at h
 refine B5 (s0:=⟨T [(0,(.d _)),(1,(.ptr _ _)),(2,(.ptr _ _))],G [((900000,0),some (.box 3 _)),((900001,0),some (.box 48 _))]⟩) (sbr rfl rfl) ?_
 refine lr (fun u1 hu1=>sv rfl (A1 (A7 (lr (fun u2 hu2=>sl rfl G_hit rfl (sl rfl (gq rfl) rfl (sd rfl (J6 rfl) (sv rfl (A1 (cc rfl h (fun c1 h=> ?_) (fun c1 h=> ?_)))))))))))
 refine lr (fun u3 hu3=>sv rfl (A1 (B4 ?_)))
 cases h
 exact B66 (.inr rfl) [] (C8l (B6 rfl) E5) (.refl _) ⟨⟨_,_,_,G_hit,U7,rfl,C3t,rfl⟩,⟨_,_,_,(gq rfl),U7,rfl,C3t,rfl⟩,trivial⟩
 refine B1 (lr (fun u4 hu4=>sl rfl G_hit rfl (sv rfl (sst rfl G_hit [(di (w64 (p2+1)))] rfl (A1 (lr (fun u5 hu5=>sl rfl (gq rfl) rfl (sl rfl G_hit rfl (sv rfl (bs h fun v1 hv1 h=>sd rfl (F9 rfl rfl hv1 rfl) (sd rfl (F4 rfl hv1 rfl) (sv rfl (sv rfl (sv rfl (bs h fun v2 hv2 h=>B2 rfl rfl A2 (B3u _ _ _ hv2) (.inl rfl) (sv rfl (sv rfl (sv rfl (A1 (B4 ?_))))))))))))))))))))
 cases h
 exact B66 (.inr rfl) [] (C8l (B6 rfl) E5) (.refl _) ⟨⟨_,_,_,G_hit,U7,rfl,C3t,rfl⟩,⟨_,_,_,(gq rfl),U7,rfl,C3t,rfl⟩,trivial⟩
noncomputable def A50 (p4:(List Int))(v4:Lane)(v5:Agent)(v8:(WorldSpan×Bool))(x3:(Int×Int×Scan)):Option (Stp (Int×Int×Scan) (Int×Scan)):=
  cond v8.2 ((B0i v4.Curve_ x3.1).bind fun v9=>(W2 50 x3.2.1 p4).bind fun v10=>(W2 50 v10.2 p4).bind fun v11=>(W2 5 v11.2 p4).bind fun v12=>(A83 x3.2.2.Points [(Point.mk (w64 (v9.X+v10.1)) (w64 (v9.Y+v11.1)) (w64 (v5.V+v12.1)))]).bind fun v13=>cond (x3.1==v8.1.to) (some (.out (v12.2,(Scan.mk x3.2.2.Stamp x3.2.2.Seen v13)))) (some (.go ((mm2 false (w64 (x3.1+500)) v8.1.to),v12.2,(Scan.mk x3.2.2.Stamp x3.2.2.Seen v13))))) (some (.out (x3.2.1,x3.2.2)))
noncomputable def A51 (p1:Map)(p2:State)(p4:(List Int))(v3:Span)(v4:Lane)(x2:(Int×Int×Scan)):Option (Stp (Int×Int×Scan) (Int×Scan)):=
  cond (decide (x2.1< (p2.Agents.length:Int))) ((D0 p2.Agents x2.1).bind fun v5=>((cond (!(x2.1==0)) (A1c p2 x2.1) (some default))).bind fun v6=>cond ((x2.1==0)||(!v6)) (some (.go ((w64 (x2.1+1)),x2.2.1,x2.2.2))) ((A3z p1 v5).bind fun v7=>(B2m v7 v3).bind fun v8=>(loop (A50 p4 v4 v5 v8) (v8.1.from_,x2.2.1,x2.2.2)).bind fun y3=>some (.go ((w64 (x2.1+1)),y3.1,y3.2)))) (some (.out (x2.2.1,x2.2.2)))
noncomputable def A52 (p1:Map)(p2:State)(p4:(List Int))(v2:(List Span))(x1:(Int×Int×Scan)):Option (Stp (Int×Int×Scan) Scan):=
  cond (decide (x1.1< (v2.length:Int))) ((D0 v2 x1.1).bind fun v3=>(D0 p1.Lanes v3.Lane_).bind fun v4=>(loop (A51 p1 p2 p4 v3 v4) (0,x1.2.1,x1.2.2)).bind fun y2=>some (.go ((w64 (x1.1+1)),y2.1,y2.2))) (some (.out x1.2.2))
noncomputable def A9q (p1:Map)(p2:State)(p3:Int)(p4:(List Int)):Option Scan:=
  (A91 p1 p2 p3).bind fun v1=>cond (!v1) (some (Scan.mk 0 [] [])) ((B1z p1 p2 p3).bind fun v2=>(loop (A52 p1 p2 p4 v2) (0,0,(Scan.mk p2.Tick v2 []))).bind fun y1=>some y1)
theorem B9d (p1:Map)(p2:State)(p3:Int)(p4:(List Int))(r:Scan)(h:A9q p1 p2 p3 p4=some r):PCall Tryz.prog 61 [(.agg (A5o p1)),(.agg (A1z p2)),(i64 p3),(.list (List.map A5 p4))] (.agg (D1u r)):=by
 refine B8 (fk Tryz.func61 Tryz.ntmps61 (fun r=>if r==19 then [1019003]else if r==20 then [1020003]else if r==21 then [1021003]else if r==22 then [1003]else []) (by with_unfolding_all rfl)) (nl rfl) ?_
 unfold A9q at h
 refine B5 (s0:=⟨T [(0,(.d _)),(1,(.d _)),(2,(.d _)),(3,(.d _))],G []⟩) (sbr rfl rfl) ?_
 refine lr (fun u1 hu1=>sn rfl rfl (sn rfl rfl (sn rfl rfl (sn rfl rfl (A1 (A7 (lr (fun u2 hu2=>sd rfl (A6 rfl (gq rfl) rfl rfl) (sd rfl (A6 rfl (gq rfl) rfl rfl) (sv rfl (bs h fun v1 hv1 h=>B2 rfl rfl A2 (B6h _ _ _ _ hv1) (.inl rfl) (C0 (.d (bo (!v1))) rfl rfl (A1 (cc rfl h (fun c1 h=> ?_) (fun c1 h=> ?_)))))))))))))))
 refine lr (fun u3 hu3=>sv rfl (sst rfl G_hit [(di 0),(.d .nilS),(.d .nilS)] rfl (A1 (B4 ?_))))
 cases h
 exact A8 (.inr rfl) (B7 (G1 rfl G_hit (nl rfl) rfl) E5) (.agg (ca rfl (.cons ⟨DLe.nil,rfl⟩ (.cons ⟨DLe.nil,rfl⟩ .nil))))
 refine B1 (lr (fun u4 hu4=>sn rfl rfl (sst rfl G_hit [(di 0)] rfl (A1 (lr (fun u5 hu5=>C0 (.fn _ _ _) rfl rfl (C0 (.fn _ _ _) rfl rfl (A1 (A7 (I0 rfl fun u6 hu6=>sp rfl rfl (sl rfl (gq rfl) rfl (sd rfl (A6 rfl (gq rfl) rfl rfl) (sd rfl (A6 rfl (gq rfl) rfl rfl) (sv rfl (bs h fun v2 hv2 h=>B2 rfl rfl A2 (C0o _ _ _ _ hv2) (.inl rfl) (sv rfl (sn rfl rfl (sst rfl G_hit [(di p2.Tick),(dl R8 v2),(.d .nilS)] rfl (A1 (A7 (lr (fun u7 hu7=>sp rfl rfl (sl rfl G_hit rfl (sd rfl (J6 rfl) (sv rfl (A1 (bs h fun y1 hy1 h=>E7 (fun s=> ∃g1:Nat,Sb ⟨T [(8,(.ptr (8,u1) 0)),(11,(.ptr (11,u6) 0))],G [((8,u1),some (.box 99 [(di 0),(.d .nilS),(.d .nilS)])),((11,u6),some (.box 99 [(di y1.Stamp),(dl R8 y1.Seen),(oS y1.Points (107,g1))])),((107,g1),oB 107 3 B4z y1.Points)]⟩ s) ?_ ?_)))))))))))))))))))))))))))
 refine A9 (G5 (A52 p1 p2 p4 v2) (fun (x1:(Int×Int×Scan)) (g2:Nat)=>⟨T [(4,(.ptr (4,u1) 0)),(5,(.ptr (5,u1) 0)),(8,(.ptr (8,u1) 0)),(10,(.fn (.func 128) [] [(.ptr (9,u4) 0),(.ptr (7,u1) 0)])),(11,(.ptr (11,u6) 0)),(37,(dl R8 v2)),(38,(di (v2.length:Int))),(39,(di x1.1))],G [((4,u1),some (.box 33 (A02 p1))),((5,u1),some (.box 25 (N3 p2))),((8,u1),some (.box 99 [(di 0),(.d .nilS),(.d .nilS)])),((9,u4),some (.box 3 [(di x1.2.1)])),((7,u1),some (.box 48 [(dl A5 p4)])),((11,u6),some (.box 99 [(di x1.2.2.Stamp),(dl R8 x1.2.2.Seen),(oS x1.2.2.Points (107,g2))])),((107,g2),oB 107 3 B4z x1.2.2.Points)]⟩) (0,0,(Scan.mk p2.Tick v2 [])) 0 _ hy1 (G2 ⟨.of rfl, .of rfl, .of rfl, .of rfl, .of rfl, .of rfl, .of rfl, .of rfl,trivial⟩ (sg rfl (sg rfl (sg rfl (sg rfl (sg rfl (B0 G_hit (.of rfl) (A2n trivial)))))))) ?_)
 intro x1 g2 z1 hz1 ez1
 unfold A52 at hz1
 refine lr (fun u8 hu8=>sv rfl (A1 (A7 (cc rfl hz1 (fun c2 hz1=> ?_) (fun c2 hz1=> ?_)))))
 refine B1 (A7 (A9 (lr (fun u9 hu9=>bs hz1 fun v3 hv3 hz1=>sd rfl (F9 rfl rfl hv3 rfl) (sd rfl (C6 rfl hv3 rfl rfl) (sn rfl rfl (sst rfl G_hit (B96 v3) rfl (A1 (lr (fun u10 hu10=>sp rfl rfl (sl rfl (gq rfl) rfl (sp rfl rfl (sl rfl G_hit rfl (bs hz1 fun v4 hv4 hz1=>sd rfl (F9 rfl rfl hv4 rfl) (sv rfl (sd rfl (C6 rfl hv4 rfl rfl) (sn rfl rfl (sst rfl G_hit [(dl A23 v4.Curve_.Pts)] rfl (A1 (lr (fun u11 hu11=>sp rfl rfl (sl rfl (gq rfl) rfl (sd rfl (J6 rfl) (sv rfl (A1 (bs hz1 fun y2 hy2 hz1=>E7 (fun s=> ∃g3:Nat,Sb ⟨T [(4,(.ptr (4,u1) 0)),(5,(.ptr (5,u1) 0)),(8,(.ptr (8,u1) 0)),(10,(.fn (.func 128) [] [(.ptr (9,u4) 0),(.ptr (7,u1) 0)])),(11,(.ptr (11,u6) 0)),(37,(dl R8 v2)),(38,(di (v2.length:Int))),(39,(di x1.1))],G [((4,u1),some (.box 33 (A02 p1))),((5,u1),some (.box 25 (N3 p2))),((8,u1),some (.box 99 [(di 0),(.d .nilS),(.d .nilS)])),((9,u4),some (.box 3 [(di y2.1)])),((7,u1),some (.box 48 [(dl A5 p4)])),((11,u6),some (.box 99 [(di y2.2.Stamp),(dl R8 y2.2.Seen),(oS y2.2.Points (107,g3))])),((107,g3),oB 107 3 B4z y2.2.Points)]⟩ s) ?_ ?_))))))))))))))))))))))))))
 refine A9 (G5 (A51 p1 p2 p4 v3 v4) (fun (x2:(Int×Int×Scan)) (g4:Nat)=>⟨T [(4,(.ptr (4,u1) 0)),(5,(.ptr (5,u1) 0)),(8,(.ptr (8,u1) 0)),(10,(.fn (.func 128) [] [(.ptr (9,u4) 0),(.ptr (7,u1) 0)])),(11,(.ptr (11,u6) 0)),(13,(.ptr (13,u9) 0)),(14,(.ptr (14,u10) 0)),(37,(dl R8 v2)),(38,(di (v2.length:Int))),(39,(di x1.1)),(51,(dl C4 p2.Agents)),(52,(di (p2.Agents.length:Int))),(53,(di x2.1))],G [((4,u1),some (.box 33 (A02 p1))),((5,u1),some (.box 25 (N3 p2))),((8,u1),some (.box 99 [(di 0),(.d .nilS),(.d .nilS)])),((9,u4),some (.box 3 [(di x2.2.1)])),((7,u1),some (.box 48 [(dl A5 p4)])),((11,u6),some (.box 99 [(di x2.2.2.Stamp),(dl R8 x2.2.2.Seen),(oS x2.2.2.Points (107,g4))])),((13,u9),some (.box 93 (B96 v3))),((14,u10),some (.box 61 [(dl A23 v4.Curve_.Pts)])),((107,g4),oB 107 3 B4z x2.2.2.Points)]⟩) (0,x1.2.1,x1.2.2) g2 _ hy2 (G2 ⟨.of rfl, .of rfl, .of rfl, .of rfl, .of rfl, .of rfl, .of rfl, .of rfl, .of rfl, .of rfl, .of rfl, .of rfl, .of rfl,trivial⟩ (sg rfl (sg rfl (sg rfl (sg rfl (sg rfl (sg rfl (sg rfl (B0 G_hit (.of rfl) (B3 (gq rfl) trivial)))))))))) ?_)
 intro x2 g4 z2 hz2 ez2
 unfold A51 at hz2
 refine lr (fun u12 hu12=>sv rfl (A1 (A7 (cc rfl hz2 (fun c3 hz2=> ?_) (fun c3 hz2=> ?_)))))
 refine B1 (A7 (A9 (lr (fun u13 hu13=>sv rfl (bs hz2 fun v5 hv5 hz2=>sd rfl (F9 rfl rfl hv5 rfl) (sd rfl (C6 rfl hv5 rfl rfl) (sn rfl rfl (sv rfl (sst rfl G_hit (Y0 v5) rfl (A1 (A7 (lr (fun u14 hu14=>sv rfl (sv rfl (sv rfl (gf rfl (fun w1=>(A6 rfl (gq rfl) rfl rfl)) (gf rfl (fun _=>rfl) (bs hz2 fun v6 hv6 hz2=> ?_))))))))))))))))))
 refine O5 _ (bo v6) (A0h rfl) (fun w3=>⟨_,[(.d (.agg (A1z p2))),(di x2.1)],_,_,(by simp only [A4 w3];rfl),rfl,A2,A2l _ _ _ (B9 w3 hv6),(.inl rfl)⟩) ?_
 refine U0 _ (.d (bo (!v6))) rfl (A0h rfl) (fun w4=>(by simp only [A4 w4];rfl)) ?_
 refine sd rfl (A49 rfl rfl (fun hc=>A4 (S3 hc))) (A1 (cc rfl hz2 (fun c4 hz2=> ?_) (fun c4 hz2=> ?_)))
 refine B4w rfl (C7 fun u15 hu15=>sv rfl (sv rfl (A1 (I3 ?_))))
 cases hz2
 exact ⟨rfl,g4,(G2 ⟨.of rfl, .of rfl, .of rfl, .of rfl, .of rfl, .of rfl, .of rfl, .of rfl, .of rfl, .of rfl, .of rfl, .of rfl, .of rfl,trivial⟩ (sg rfl (sg rfl (sg rfl (sg rfl (sg rfl (sg rfl (sg rfl (sg rfl (B3 (gq rfl) trivial))))))))))⟩
 refine B1 (A7 (I0 rfl fun u16 hu16=>sd rfl (A6 rfl (gq rfl) rfl rfl) (sd rfl (A6 rfl G_hit rfl rfl) (bs hz2 fun v7 hv7 hz2=>B2 rfl rfl A2 (A67 _ _ _ hv7) (.inl rfl) (sd rfl (A6 rfl (gq rfl) rfl rfl) (bs hz2 fun v8 hv8 hz2=>B2 rfl rfl A2 (B5h _ _ _ hv8) (.inl rfl) (sv rfl (sv rfl (sv rfl (sn rfl rfl (sst rfl G_hit [(di v8.1.from_),(di v8.1.to)] rfl (sv rfl (A1 (lr (fun u17 hu17=>sp rfl rfl (sl rfl G_hit rfl (sv rfl (A1 (bs hz2 fun y3 hy3 hz2=>E7 (fun s=> ∃g5:Nat,Sb ⟨T [(4,(.ptr (4,u1) 0)),(5,(.ptr (5,u1) 0)),(8,(.ptr (8,u1) 0)),(10,(.fn (.func 128) [] [(.ptr (9,u4) 0),(.ptr (7,u1) 0)])),(11,(.ptr (11,u6) 0)),(13,(.ptr (13,u9) 0)),(14,(.ptr (14,u10) 0)),(37,(dl R8 v2)),(38,(di (v2.length:Int))),(39,(di x1.1)),(51,(dl C4 p2.Agents)),(52,(di (p2.Agents.length:Int))),(53,(di x2.1))],G [((4,u1),some (.box 33 (A02 p1))),((5,u1),some (.box 25 (N3 p2))),((8,u1),some (.box 99 [(di 0),(.d .nilS),(.d .nilS)])),((9,u4),some (.box 3 [(di y3.1)])),((7,u1),some (.box 48 [(dl A5 p4)])),((11,u6),some (.box 99 [(di y3.2.Stamp),(dl R8 y3.2.Seen),(oS y3.2.Points (107,g5))])),((13,u9),some (.box 93 (B96 v3))),((14,u10),some (.box 61 [(dl A23 v4.Curve_.Pts)])),((107,g5),oB 107 3 B4z y3.2.Points)]⟩ s) ?_ ?_)))))))))))))))))))
 refine A9 (G5 (A50 p4 v4 v5 v8) (fun (x3:(Int×Int×Scan)) (g6:Nat)=>⟨T [(4,(.ptr (4,u1) 0)),(5,(.ptr (5,u1) 0)),(8,(.ptr (8,u1) 0)),(10,(.fn (.func 128) [] [(.ptr (9,u4) 0),(.ptr (7,u1) 0)])),(11,(.ptr (11,u6) 0)),(13,(.ptr (13,u9) 0)),(14,(.ptr (14,u10) 0)),(16,(.ptr (16,u13) 0)),(17,(.ptr (17,u16) 0)),(18,(.d (bo v8.2))),(19,(di x3.1)),(37,(dl R8 v2)),(38,(di (v2.length:Int))),(39,(di x1.1)),(51,(dl C4 p2.Agents)),(52,(di (p2.Agents.length:Int))),(53,(di x2.1))],G [((4,u1),some (.box 33 (A02 p1))),((5,u1),some (.box 25 (N3 p2))),((8,u1),some (.box 99 [(di 0),(.d .nilS),(.d .nilS)])),((9,u4),some (.box 3 [(di x3.2.1)])),((7,u1),some (.box 48 [(dl A5 p4)])),((11,u6),some (.box 99 [(di x3.2.2.Stamp),(dl R8 x3.2.2.Seen),(oS x3.2.2.Points (107,g6))])),((13,u9),some (.box 93 (B96 v3))),((14,u10),some (.box 61 [(dl A23 v4.Curve_.Pts)])),((16,u13),some (.box 45 (Y0 v5))),((17,u16),some (.box 191 [(di v8.1.from_),(di v8.1.to)])),((107,g6),oB 107 3 B4z x3.2.2.Points)]⟩) (v8.1.from_,x2.2.1,x2.2.2) g4 _ hy3 (G2 ⟨.of rfl, .of rfl, .of rfl, .of rfl, .of rfl, .of rfl, .of rfl, .of rfl, .of rfl, .of rfl, .of rfl, .of rfl, .of rfl, .of rfl, .of rfl, .of rfl, .of rfl,trivial⟩ (sg rfl (sg rfl (sg rfl (sg rfl (sg rfl (sg rfl (sg rfl (sg rfl (sg rfl (B0 G_hit (.of rfl) (B3 (gq rfl) trivial)))))))))))) ?_)
 intro x3 g6 z3 hz3 ez3
 unfold A50 at hz3
 refine A7 (lr (fun u18 hu18=>sv rfl (A1 (cc rfl hz3 (fun c5 hz3=> ?_) (fun c5 hz3=> ?_)))))
 refine B1 (A7 (A9 (lr (fun u19 hu19=>sd rfl (A6 rfl (gq rfl) rfl rfl) (sv rfl (bs hz3 fun v9 hv9 hz3=>B2 rfl rfl A2 (B2k _ _ _ hv9) (.inl rfl) (sn rfl rfl (sst rfl G_hit [(di v9.X),(di v9.Y)] rfl (A1 (A7 (B2b fun u20 hu20=>U2 (.ptr _ _) rfl rfl (U2 (.d _) rfl (R7 rfl G_hit rfl) (U2 (.fn _ _ _) rfl rfl (bs hz3 fun v10 hv10 hz3=>D13 (v:= .d (i64 v10.1)) (us:= [(9,u4),(7,u1)]) (C4w (A4c _ _ _ _ hv10) [(9,u4),(7,u1)] [(9,u4),(7,u1)] _ (((7,u1),some (.box 48 [(dl A5 p4)]))::(((9,u4),some (.box 3 [(di v10.2)]))::_)) rfl A5x (T1 C1p (T1 (B8g (A3 rfl (A3 rfl (A3 rfl (A3 rfl (A3 rfl G_hit))))) rfl) (T1 (B8g (A3 rfl (A3 rfl (A3 rfl (A3 rfl (A3 rfl (A3 rfl G_hit)))))) rfl) B34))) (A01 (A3 rfl (A3 rfl (A3 rfl (A3 rfl (A3 rfl G_hit))))) (A01 (A3 rfl (A3 rfl (A3 rfl (A3 rfl (A3 rfl (A3 rfl G_hit)))))) A2w)) ⟨⟨_,(A3 rfl (A3 rfl (A3 rfl (A3 rfl (A3 rfl G_hit))))), .of rfl⟩,⟨_,(A3 rfl (A3 rfl (A3 rfl (A3 rfl (A3 rfl (A3 rfl G_hit)))))), .of rfl⟩,trivial⟩ (fun _ h=>h) (nd2 (C3s rfl)) rfl rfl rfl) (U2 (.d _) rfl rfl (U2 (.d _) rfl rfl (C9r (.ptr _ _) (.box _ _) rfl rfl (B2c _ _ _ _ _ rfl rfl rfl G_hit (nl rfl) [(di (w64 (v9.X+v10.1))),(di 0),(di 0)] rfl (C0c ⟨rfl,?_⟩)))))))))))))))))))
 refine A7 (B2b fun u21 hu21=>U2 (.ptr _ _) rfl rfl (U2 (.d _) rfl (R7 rfl (gq rfl) rfl) (U2 (.fn _ _ _) rfl rfl (bs hz3 fun v11 hv11 hz3=>D13 (v:= .d (i64 v11.1)) (us:= [(9,u4),(7,u1)]) (C4w (A4c _ _ _ _ hv11) [(9,u4),(7,u1)] [(9,u4),(7,u1)] _ (((7,u1),some (.box 48 [(dl A5 p4)]))::(((9,u4),some (.box 3 [(di v11.2)]))::_)) rfl A5x (T1 C1p (T1 (B8g (A3 rfl (A3 rfl (A3 rfl G_hit))) rfl) (T1 (B8g (A3 rfl (A3 rfl G_hit)) rfl) B34))) (A01 (A3 rfl (A3 rfl (A3 rfl G_hit))) (A01 (A3 rfl (A3 rfl G_hit)) A2w)) ⟨⟨_,(A3 rfl (A3 rfl (A3 rfl G_hit))), .of rfl⟩,⟨_,(A3 rfl (A3 rfl G_hit)), .of rfl⟩,trivial⟩ (fun _ h=>h) (nd2 (C3s rfl)) rfl rfl rfl) (U2 (.d _) rfl rfl (U2 (.ptr _ _) rfl rfl (B2c _ _ _ _ _ rfl rfl rfl (gq rfl) (nl rfl) [(di (w64 (v9.X+v10.1))),(di (w64 (v9.Y+v11.1))),(di 0)] rfl (C0c ⟨rfl,?_⟩))))))))
 refine A7 (B2b fun u22 hu22=>U2 (.ptr _ _) rfl rfl (U2 (.d _) rfl (R7 rfl (gq rfl) rfl) (U2 (.fn _ _ _) rfl rfl (bs hz3 fun v12 hv12 hz3=>D13 (v:= .d (i64 v12.1)) (us:= [(9,u4),(7,u1)]) (C4w (A4c _ _ _ _ hv12) [(9,u4),(7,u1)] [(9,u4),(7,u1)] _ (((7,u1),some (.box 48 [(dl A5 p4)]))::(((9,u4),some (.box 3 [(di v12.2)]))::_)) rfl A5x (T1 C1p (T1 (B8g (A3 rfl (A3 rfl G_hit)) rfl) (T1 (B8g (A3 rfl G_hit) rfl) B34))) (A01 (A3 rfl (A3 rfl G_hit)) (A01 (A3 rfl G_hit) A2w)) ⟨⟨_,(A3 rfl (A3 rfl G_hit)), .of rfl⟩,⟨_,(A3 rfl G_hit), .of rfl⟩,trivial⟩ (fun _ h=>h) (nd2 (C3s rfl)) rfl rfl rfl) (U2 (.d _) rfl rfl (U2 (.ptr _ _) rfl rfl (B2c _ _ _ _ _ rfl rfl rfl (gq rfl) (nl rfl) [(di (w64 (v9.X+v10.1))),(di (w64 (v9.Y+v11.1))),(di (w64 (v5.V+v12.1)))] rfl (C0c ⟨rfl,?_⟩))))))))
 refine lr (fun u23 hu23=>sp rfl rfl (C0 (oS x3.2.2.Points (107,g6)) rfl (R7 rfl (gq rfl) rfl) (sd rfl (A6 rfl G_hit rfl rfl) (C0 (dl B4z [(Point.mk (w64 (v9.X+v10.1)) (w64 (v9.Y+v11.1)) (w64 (v5.V+v12.1)))]) rfl rfl (bs hz3 fun v13 hv13 hz3=>U6 B4z (107,g6) x3.2.2.Points (Point.mk (w64 (v9.X+v10.1)) (w64 (v9.Y+v11.1)) (w64 (v5.V+v12.1))) [] _ (Q5 (fun _=>rfl)) rfl (gq rfl) hv13 (sp rfl rfl (sst rfl (gq rfl) [(di x3.2.2.Stamp),(dl R8 x3.2.2.Seen),(.sl (107,u23))] rfl (A1 (lr (fun u24 hu24=>sv rfl (sp rfl rfl (sl rfl (gq rfl) rfl (sv rfl (A1 (cc rfl hz3 (fun c6 hz3=> ?_) (fun c6 hz3=> ?_))))))))))))))))
 refine C5 rfl ?_
 cases hz3
 obtain rfl:=ez3 _ rfl
 refine ⟨nofun,C2 rfl (l_j ?_)⟩
 exact ⟨u23,(G2 ⟨.of rfl, .of rfl, .of rfl, .of rfl, .of rfl, .of rfl, .of rfl, .of rfl, .of rfl, .of rfl, .of rfl, .of rfl, .of rfl,trivial⟩ (sg rfl (sg rfl (sg rfl (sg rfl (sg rfl (B0 G_hit (.box (cv (cv (.cons (.of (A6z (A00 hv13)).symm) .nil)))) (sg rfl (sg rfl (A16 (gq rfl) trivial))))))))))⟩
 refine B1 (J3 (C7 fun u25 hu25=>sv rfl (sv rfl (sp rfl rfl (sl rfl (gq rfl) rfl (sv rfl (sv rfl (A1 (I3 ?_)))))))))
 cases hz3
 exact ⟨rfl,u23,(G2 ⟨.of rfl, .of rfl, .of rfl, .of rfl, .of rfl, .of rfl, .of rfl, .of rfl, .of rfl, .of rfl, .of rfl, .of rfl, .of rfl, .of rfl, .of rfl, .of rfl, .of rfl,trivial⟩ (sg rfl (sg rfl (sg rfl (sg rfl (sg rfl (B0 G_hit (.box (cv (cv (.cons (.of (A6z (A00 hv13)).symm) .nil)))) (sg rfl (sg rfl (sg rfl (sg rfl (A16 (gq rfl) trivial))))))))))))⟩
 refine C5 rfl ?_
 cases hz3
 obtain rfl:=ez3 _ rfl
 refine ⟨nofun,C2 rfl (l_j ?_)⟩
 exact ⟨g6,(G2 ⟨.of rfl, .of rfl, .of rfl, .of rfl, .of rfl, .of rfl, .of rfl, .of rfl, .of rfl, .of rfl, .of rfl, .of rfl, .of rfl,trivial⟩ (B0 G_hit (.of rfl) (sg rfl (sg rfl (sg rfl (sg rfl (sg rfl (sg rfl (sg rfl (B3 (gq rfl) trivial))))))))))⟩
 rintro _ ⟨g5,q1⟩
 refine J3 (B5 q1 (C7 fun u26 hu26=>sv rfl (sv rfl (A1 (I3 ?_)))))
 cases hz2
 exact ⟨rfl,g5,(G2 ⟨.of rfl, .of rfl, .of rfl, .of rfl, .of rfl, .of rfl, .of rfl, .of rfl, .of rfl, .of rfl, .of rfl, .of rfl, .of rfl,trivial⟩ (B0 G_hit (.of rfl) (sg rfl (sg rfl (sg rfl (sg rfl (sg rfl (sg rfl (sg rfl (B3 (gq rfl) trivial))))))))))⟩
 refine C5 rfl ?_
 cases hz2
 obtain rfl:=ez2 _ rfl
 refine ⟨nofun,C2 rfl (l_j ?_)⟩
 exact ⟨g4,(G2 ⟨.of rfl, .of rfl, .of rfl, .of rfl, .of rfl, .of rfl, .of rfl, .of rfl,trivial⟩ (B0 G_hit (.of rfl) (sg rfl (sg rfl (sg rfl (sg rfl (sg rfl (B3 (gq rfl) trivial))))))))⟩
 rintro _ ⟨g3,q2⟩
 refine J3 (B5 q2 (C7 fun u27 hu27=>sv rfl (sv rfl (A1 (I3 ?_)))))
 cases hz1
 exact ⟨rfl,g3,(G2 ⟨.of rfl, .of rfl, .of rfl, .of rfl, .of rfl, .of rfl, .of rfl, .of rfl,trivial⟩ (B0 G_hit (.of rfl) (sg rfl (sg rfl (sg rfl (sg rfl (sg rfl (B3 (gq rfl) trivial))))))))⟩
 refine C5 rfl ?_
 cases hz1
 obtain rfl:=ez1 _ rfl
 refine ⟨nofun,C2 rfl (l_j ?_)⟩
 exact ⟨g2,(G2 ⟨.of rfl, .of rfl,trivial⟩ (sg rfl (sg rfl (B3 (gq rfl) trivial))))⟩
 rintro _ ⟨g1,q3⟩
 refine B5 q3 (lr (fun u28 hu28=>C0 (A31 [(di y1.Stamp),(dl R8 y1.Seen),(oS y1.Points (107,g1))]) rfl (A6 rfl (gq rfl) rfl rfl) (B2a _ _ _ _ _ (A0s _) rfl rfl G_hit (nl rfl) [(di y1.Stamp),(dl R8 y1.Seen),(oS y1.Points (107,g1))] rfl (A1 (B4 ?_)))))
 cases h
 exact A8 (.inr rfl) (B7 (G1 rfl G_hit (nl rfl) rfl) (B4g (rD (rD (C3 (A3u (gq rfl)) D2))))) (.agg (ca rfl (ca rfl (.cons ⟨A3t,rfl⟩ .nil))))
noncomputable def A44 (p1:State):Option (Agent×Bool):=
  cond ((p1.Agents.length:Int)==0) (some ((Agent.mk [] 0 0 0 0 false false),false)) ((D0 p1.Agents 0).bind fun v1=>some (v1,((decide ((mm2 false v1.V v1.S)≥0))&& (decide ((mm2 true v1.V v1.S)≤1099511627776)))))
theorem B38 (p1:State)(r:(Agent×Bool))(h:A44 p1=some r):PCall Tryz.prog 104 [(.agg (A1z p1))] (.tup [(.agg (C4 r.1)),(bo r.2)]):=by
 refine B8 (fk Tryz.func104 Tryz.ntmps104 m0 (by with_unfolding_all rfl)) (nl rfl) ?_
 unfold A44 at h
 refine B5 (s0:=⟨T [(0,(.d _))],G []⟩) (sbr rfl rfl) ?_
 refine lr (fun u1 hu1=>sn rfl rfl (sn rfl rfl (sv rfl (A1 (A7 (lr (fun u2 hu2=>sp rfl rfl (sl rfl (gq rfl) rfl (sd rfl (J6 rfl) (sv rfl (A1 (cc rfl h (fun c1 h=> ?_) (fun c1 h=> ?_)))))))))))))
 refine lr (fun u3 hu3=>sv rfl (sst rfl G_hit ([(.d .nilS)]++ (zs 4)++ [(.d (bo false)),(.d (bo false))]) rfl (sv rfl (A1 (B4 ?_)))))
 cases h
 exact A8 (.inr rfl) (B4m (G1 rfl G_hit (nl rfl) rfl) (B6 rfl) E5 E5) (.tup (.cons (.agg (.cons ⟨DLe.nil,rfl⟩ (cz rfl))) A2))
 refine B1 (lr (fun u4 hu4=>sp rfl rfl (sl rfl (gq rfl) rfl (bs h fun v1 hv1 h=>sd rfl (F9 rfl rfl hv1 rfl) (sd rfl (C6 rfl hv1 rfl rfl) (sn rfl rfl (sst rfl G_hit (Y0 v1) rfl (A1 (A7 (B2b fun u5 hu5=>U2 (.d _) rfl (A6 rfl G_hit rfl rfl) (U2 (.ptr _ _) rfl rfl (U2 (.d _) rfl (R7 rfl G_hit rfl) (U2 (.ptr _ _) rfl rfl (U2 (.d _) rfl (R7 rfl G_hit rfl) (U2 (.d _) rfl rfl (U2 (.d _) rfl rfl (U2 (.d _) rfl rfl (B9p (decide ((mm2 false v1.V v1.S)≥0)) (.ptr _ _) rfl (V5 rfl) (fun _=>rfl) (B9p (decide ((mm2 false v1.V v1.S)≥0)) (.d _) rfl (V5 rfl) (vl rfl G_hit rfl) (B9p (decide ((mm2 false v1.V v1.S)≥0)) (.ptr _ _) rfl (V5 rfl) (fun _=>rfl) (B9p (decide ((mm2 false v1.V v1.S)≥0)) (.d _) rfl (V5 rfl) (vl rfl G_hit rfl) ?_)))))))))))))))))))))
 refine B9p (decide ((mm2 false v1.V v1.S)≥0)) (.d _) rfl (V5 rfl) (fun w5=>(by simp only [A4 w5];rfl)) ?_
 refine B9p (decide ((mm2 false v1.V v1.S)≥0)) (.d _) rfl (V5 rfl) (vb rfl rfl rfl) (U2 (.d _) rfl (C2s rfl (fun hc=>A4 hc) rfl) (B2c _ _ _ _ _ rfl rfl rfl (gq rfl) (nl rfl) (Y0 v1) rfl (U2 (.d _) rfl rfl (C0c ⟨by first|rfl|((generalize (decide ((mm2 false v1.V v1.S)≥0))=q0;cases q0)<;>rfl),?_⟩))))
 refine B4 ?_
 cases h
 exact A8 (.inr rfl) (B4m (G1 rfl G_hit (nl rfl) rfl) (B6 rfl) E5 E5) (.refl _)
noncomputable def A78 (p1:State)(p2:Int):Option Mark:=
  (A44 p1).bind fun v1=>cond (!v1.2) (some (Mark.mk 0 0 0)) ((A9p p2 7).bind fun v2=>some (Mark.mk p1.Tick (mm2 true 0 (w64 ((w64 ((w64 (v1.1.V+v2)) - 3)) - 3))) (w64 ((w64 ((w64 (v1.1.V+v2)) - 3))+3))))
theorem B52 (p1:State)(p2:Int)(r:Mark)(h:A78 p1 p2=some r):PCall Tryz.prog 47 [(.agg (A1z p1)),(i64 p2)] (.agg (C86 r)):=by
 refine B8 (fk Tryz.func47 Tryz.ntmps47 m0 (by with_unfolding_all rfl)) (nl rfl) ?_
 unfold A78 at h
 refine B5 (s0:=⟨T [(0,(.d _)),(1,(.d _))],G []⟩) (sbr rfl rfl) ?_
 refine lr (fun u1 hu1=>sn rfl rfl (sn rfl rfl (A1 (lr (fun u2 hu2=>sd rfl (A6 rfl (gq rfl) rfl rfl) (bs h fun v1 hv1 h=>B2 rfl rfl A2 (B38 _ _ hv1) (.inl rfl) (sv rfl (sv rfl (sv rfl (sn rfl rfl (sst rfl G_hit (Y0 v1.1) rfl (sv rfl (A1 (A7 (lr (fun u3 hu3=>sv rfl (C0 (.d (bo (!v1.2))) rfl rfl (A1 (cc rfl h (fun c1 h=> ?_) (fun c1 h=> ?_))))))))))))))))))))
 refine lr (fun u4 hu4=>sv rfl (sst rfl (gq rfl) [(di 0),(di 0),(di 0)] rfl (A1 (B4 ?_))))
 cases h
 exact A8 (.inr rfl) (B7 (G1 rfl G_hit (nl rfl) rfl) E5) (.refl _)
 refine B1 (A7 (I0 rfl fun u5 hu5=>sp rfl rfl (sl rfl G_hit rfl (sv rfl (bs h fun v2 hv2 h=>B2 rfl rfl A2 (B3u _ _ _ hv2) (.inl rfl) (sv rfl (sv rfl (sv rfl (A1 (lr (fun u6 hu6=>sp rfl rfl (sl rfl (gq rfl) rfl (sv rfl (sv rfl (sv rfl (sv rfl (sv rfl (sv rfl (sst rfl (gq rfl) [(di p1.Tick),(di (mm2 true 0 (w64 ((w64 ((w64 (v1.1.V+v2)) - 3)) - 3)))),(di (w64 ((w64 ((w64 (v1.1.V+v2)) - 3))+3)))] rfl (A1 (B4 ?_)))))))))))))))))))))
 cases h
 exact A8 (.inr rfl) (B7 (G1 rfl G_hit (nl rfl) rfl) E5) (.refl _)
noncomputable def B3v (p1:State)(p2:Int):Option Mark:=
  (A44 p1).bind fun v1=>cond (!v1.2) (some (Mark.mk 0 0 0)) ((A9p p2 401).bind fun v2=>some (Mark.mk p1.Tick (w64 ((w64 ((w64 (v1.1.S+v2)) - 200)) - 200)) (w64 ((w64 ((w64 (v1.1.S+v2)) - 200))+200))))
theorem C22 (p1:State)(p2:Int)(r:Mark)(h:B3v p1 p2=some r):PCall Tryz.prog 49 [(.agg (A1z p1)),(i64 p2)] (.agg (C86 r)):=by
 refine B8 (fk Tryz.func49 Tryz.ntmps49 m0 (by with_unfolding_all rfl)) (nl rfl) ?_
 unfold B3v at h
 refine B5 (s0:=⟨T [(0,(.d _)),(1,(.d _))],G []⟩) (sbr rfl rfl) ?_
 refine lr (fun u1 hu1=>sn rfl rfl (sn rfl rfl (A1 (lr (fun u2 hu2=>sd rfl (A6 rfl (gq rfl) rfl rfl) (bs h fun v1 hv1 h=>B2 rfl rfl A2 (B38 _ _ hv1) (.inl rfl) (sv rfl (sv rfl (sv rfl (sn rfl rfl (sst rfl G_hit (Y0 v1.1) rfl (sv rfl (A1 (A7 (lr (fun u3 hu3=>sv rfl (C0 (.d (bo (!v1.2))) rfl rfl (A1 (cc rfl h (fun c1 h=> ?_) (fun c1 h=> ?_))))))))))))))))))))
 refine lr (fun u4 hu4=>sv rfl (sst rfl (gq rfl) [(di 0),(di 0),(di 0)] rfl (A1 (B4 ?_))))
 cases h
 exact A8 (.inr rfl) (B7 (G1 rfl G_hit (nl rfl) rfl) E5) (.refl _)
 refine B1 (A7 (I0 rfl fun u5 hu5=>sp rfl rfl (sl rfl G_hit rfl (sv rfl (bs h fun v2 hv2 h=>B2 rfl rfl A2 (B3u _ _ _ hv2) (.inl rfl) (sv rfl (sv rfl (sv rfl (A1 (lr (fun u6 hu6=>sp rfl rfl (sl rfl (gq rfl) rfl (sv rfl (sv rfl (sv rfl (sv rfl (sv rfl (sst rfl (gq rfl) [(di p1.Tick),(di (w64 ((w64 ((w64 (v1.1.S+v2)) - 200)) - 200))),(di (w64 ((w64 ((w64 (v1.1.S+v2)) - 200))+200)))] rfl (A1 (B4 ?_))))))))))))))))))))
 cases h
 exact A8 (.inr rfl) (B7 (G1 rfl G_hit (nl rfl) rfl) E5) (.refl _)
noncomputable def A9r:Option Bool:=
  (B1p).bind fun v1=>(A03 0 10000 1000).bind fun v2=>(A03 1 46000 1000).bind fun v3=>(A9j v1 [v2,v3]).bind fun v4=>cond (((v4.2 !=0)||((v4.1.In.length:Int) !=0))||((v4.1.Agents.length:Int) !=2)) (some false) ((A76 v1 v4.1 [50,(-90)]).bind fun v5=>((cond (((v5.2.2==0)&& ((v5.2.1.length:Int)==0))&& ((v5.1.Agents.length:Int)==2)) (D0 v5.1.Agents 0) (some default))).bind fun v6=>((cond ((((v5.2.2==0)&& ((v5.2.1.length:Int)==0))&& ((v5.1.Agents.length:Int)==2))&& (v6.S==11030)) (D0 v5.1.Agents 1) (some default))).bind fun v7=>((cond (((((v5.2.2==0)&& ((v5.2.1.length:Int)==0))&& ((v5.1.Agents.length:Int)==2))&& (v6.S==11030))&& (v7.V==910)) (A3v 100 30) (some default))).bind fun v8=>some ((((((v5.2.2==0)&& ((v5.2.1.length:Int)==0))&& ((v5.1.Agents.length:Int)==2))&& (v6.S==11030))&& (v7.V==910))&& (v8==120)))
theorem B9e (r:Bool)(h:A9r=some r):PCall Tryz.prog 21 [] (bo r):=by
 refine B8 (fk Tryz.func21 Tryz.ntmps21 (fun r=>if r==2 then [1003]else if r==5 then [1002]else []) (by with_unfolding_all rfl)) (nl rfl) ?_
 unfold A9r at h
 refine B5 (s0:=⟨T [],G []⟩) (sbr rfl rfl) ?_
 refine lr (fun u1 hu1=>sv rfl (A1 (lr (fun u2 hu2=>bs h fun v1 hv1 h=>B2 rfl rfl A2 (B74 _ hv1) (.inl rfl) (sn rfl rfl (sst rfl G_hit (A02 v1) rfl (A1 (A7 (I0 rfl fun u3 hu3=>sd rfl (A6 rfl G_hit rfl rfl) (bs h fun v2 hv2 h=>B2 rfl rfl A2 (A17 _ _ _ _ hv2) (.inl rfl) (bs h fun v3 hv3 h=>B2 rfl rfl A2 (A17 _ _ _ _ hv3) (.inl rfl) (C0 (dl C4 [v2,v3]) rfl (B67 C4 ([v2,v3]:List Agent) (fun _=>rfl) rfl rfl ⟨rfl,rfl,rfl,rfl,rfl,rfl,trivial⟩ (fun _=>rfl)) (bs h fun v4 hv4 h=>B2 rfl rfl A2 (B3o _ _ _ hv4) (.inl rfl) (sv rfl (sv rfl (sv rfl (sn rfl rfl (sst rfl G_hit (N3 v4.1) rfl (sv rfl (A1 (A7 (lr (fun u4 hu4=>sv rfl (sv rfl (sv rfl (gp rfl (A0h rfl) (fun _=>rfl) (gf rfl (vl rfl G_hit rfl) (gf rfl (fun w3=>(J6 (A4 w3))) (gf rfl (vb rfl rfl rfl) (sd rfl (A49 rfl rfl (fun hc=>A4 (S3 hc))) (sv rfl (gp rfl (A0h rfl) (fun _=>rfl) (gf rfl (vl rfl G_hit rfl) (gf rfl (fun w7=>(J6 (A4 w7))) (gf rfl (vb rfl rfl rfl) (sd rfl (A49 rfl rfl (fun hc=>A4 (S3 hc))) (A1 (cc rfl h (fun c1 h=> ?_) (fun c1 h=> ?_)))))))))))))))))))))))))))))))))))))))
 refine lr (fun u5 hu5=>sv rfl (A1 (B4 ?_)))
 cases h
 exact A8 (.inr rfl) (B7 (B6 rfl) E5) (.refl _)
 refine B1 (lr (fun u6 hu6=>sd rfl (A6 rfl (gq rfl) rfl rfl) (sd rfl (A6 rfl G_hit rfl rfl) (C0 (dl A5 [50,(-90)]) rfl rfl (bs h fun v5 hv5 h=>B2 rfl rfl A2 (B2j _ _ _ _ hv5) (.inl rfl) (sv rfl (sv rfl (sv rfl (sv rfl (sn rfl rfl (sst rfl G_hit (N3 v5.1) rfl (sv rfl (sv rfl (A1 (lr (fun u7 hu7=>sv rfl (sv rfl (sv rfl (gt rfl (fun _=>rfl) (gt rfl (fun w10=>(J6 (A4 w10))) (gt rfl (vb rfl rfl rfl) (sa rfl rfl rfl (sv rfl (gp rfl (V5 rfl) (fun _=>rfl) (gt rfl (vl rfl G_hit rfl) (gt rfl (fun w14=>(J6 (A4 w14))) (gt rfl (vb rfl rfl rfl) (sa rfl rfl rfl (sv rfl (gp rfl (V5 rfl) (fun _=>rfl) (gt rfl (vl rfl G_hit rfl) (bs h fun v6 hv6 h=>gt rfl (fun w18=>(F9 (A4 w18) rfl (B9 w18 hv6) rfl)) ?_))))))))))))))))))))))))))))))))
 refine gt rfl (fun w19=>(by simp only [A4 w19];rfl)) ?_
 refine gt rfl (fun w20=>(F4 (A4 w20) (B9 w20 hv6) rfl)) (gt rfl (vb rfl rfl rfl) (sa rfl rfl rfl (sv rfl (gp rfl (V5 rfl) (fun _=>rfl) (gt rfl (vl rfl G_hit rfl) (bs h fun v7 hv7 h=>gt rfl (fun w24=>(F9 (A4 w24) rfl (B9 w24 hv7) rfl)) ?_))))))
 refine gt rfl (fun w25=>(by simp only [A4 w25];rfl)) ?_
 refine gt rfl (fun w26=>(F4 (A4 w26) (B9 w26 hv7) rfl)) (gt rfl (vb rfl rfl rfl) (sa rfl rfl rfl (sv rfl (bs h fun v8 hv8 h=>O5 _ (i64 v8) (V5 rfl) (fun w28=>⟨_,_,_,_,rfl,rfl,A2,A5y _ _ _ (B9 w28 hv8),(.inl rfl)⟩) (gt rfl (vb rfl rfl rfl) (sa rfl rfl rfl (sv rfl (A1 (B4 ?_)))))))))
 cases h
 exact A8 (.inr rfl) (B7 (B6 rfl) E5) (.refl _)
noncomputable def A0c (v18:Scan)(x1:Int):Option (Stp Int (Sum Unit Bool)):=
  cond (decide (x1<9)) ((D0 v18.Points x1).bind fun v19=>cond (!(v19.X==(w64 (11000+ (w64 (500*x1))))&& (v19.Y==0&& (v19.V==0&&true)))) (some (.out (.inr false))) (some (.go (w64 (x1+1))))) (some (.out (.inl ())))
noncomputable def A2h:Option Bool:=
  (B1p).bind fun v1=>(A03 0 10000 1000).bind fun v2=>(A03 1 46000 1000).bind fun v3=>(A03 0 15000 0).bind fun v4=>(A3v 90 90).bind fun v5=>((cond (!(v5 !=0)) (A3v 0 9) (some default))).bind fun v6=>((cond (!((v5 !=0)||(v6 !=0))) (A3z v1 v2) (some default))).bind fun v7=>((cond (!((v5 !=0)||(v6 !=0))) (A68 v7 [(Span.mk 0 6000 10000)]) (some default))).bind fun v8=>((cond (!(((v5 !=0)||(v6 !=0))||(!v8))) (A2k v1 v2 v3) (some default))).bind fun v9=>cond ((((v5 !=0)||(v6 !=0))||(!v8))||v9) (some false) ((A03 0 47500 1000).bind fun v10=>(A03 1 47500 1000).bind fun v11=>(A9j v1 [v10,v11]).bind fun v12=>(A76 v1 v12.1 []).bind fun v13=>((cond (!((v12.2 !=0)||(v13.2.2 !=0))) (A1t v13.2.1 [(Crash.mk 0 0 1 (-1) 0 [1])]) (some default))).bind fun v14=>cond (((v12.2 !=0)||(v13.2.2 !=0))||(!v14)) (some false) ((A9j v1 [v2,v4]).bind fun v15=>(A76 v1 v15.1 [0]).bind fun v16=>((cond (!((v15.2 !=0)||(v16.2.2 !=0))) (A1t v16.2.1 [(Crash.mk 0 0 1 0 (-1) [0])]) (some default))).bind fun v17=>cond (((v15.2 !=0)||(v16.2.2 !=0))||(!v17)) (some false) ((A9q v1 v15.1 100000 []).bind fun v18=>cond ((v18.Points.length:Int) !=9) (some false) (thenS (loop (A0c v18) 0) (fun _=>(A78 v15.1 0).bind fun v20=>((cond (v20.Stamp==0&& (v20.Lo==994&& (v20.Hi==1000&&true))) (A78 v15.1 3) (some default))).bind fun v21=>((cond ((v20.Stamp==0&& (v20.Lo==994&& (v20.Hi==1000&&true)))&& (v21.Stamp==0&& (v21.Lo==997&& (v21.Hi==1003&&true)))) (B3v v15.1 200) (some default))).bind fun v22=>((cond (((v20.Stamp==0&& (v20.Lo==994&& (v20.Hi==1000&&true)))&& (v21.Stamp==0&& (v21.Lo==997&& (v21.Hi==1003&&true))))&& (v22.Stamp==0&& (v22.Lo==9800&& (v22.Hi==10200&&true)))) (A9r) (some default))).bind fun v23=>some ((((v20.Stamp==0&& (v20.Lo==994&& (v20.Hi==1000&&true)))&& (v21.Stamp==0&& (v21.Lo==997&& (v21.Hi==1003&&true))))&& (v22.Stamp==0&& (v22.Lo==9800&& (v22.Hi==10200&&true))))&&v23)) (fun r=>some r)))))
theorem B5i (r:Bool)(h:A2h=some r):PCall Tryz.prog 19 [] (bo r):=by
 refine B8 (fk Tryz.func19 Tryz.ntmps19 (fun r=>if r==3 then [1011]else if r==5 then [1003]else if r==7 then [1008,1010]else if r==9 then [1003]else if r==10 then [1002]else if r==11 then [1008,1010]else []) (by with_unfolding_all rfl)) (nl rfl) ?_
 unfold A2h at h
 refine B5 (s0:=⟨T [],G []⟩) (sbr rfl rfl) ?_
 refine lr (fun u1 hu1=>sv rfl (A1 (lr (fun u2 hu2=>bs h fun v1 hv1 h=>B2 rfl rfl A2 (B74 _ hv1) (.inl rfl) (sn rfl rfl (sst rfl G_hit (A02 v1) rfl (A1 (lr (fun u3 hu3=>bs h fun v2 hv2 h=>B2 rfl rfl A2 (A17 _ _ _ _ hv2) (.inl rfl) (bs h fun v3 hv3 h=>B2 rfl rfl A2 (A17 _ _ _ _ hv3) (.inl rfl) (bs h fun v4 hv4 h=>B2 rfl rfl A2 (A17 _ _ _ _ hv4) (.inl rfl) (sn rfl rfl (sn rfl rfl (sn rfl rfl (sst rfl (gq rfl) (Y0 v2) rfl (sst rfl (gq rfl) (Y0 v3) rfl (sst rfl (gq rfl) (Y0 v4) rfl (A1 (A7 (lr (fun u4 hu4=>bs h fun v5 hv5 h=>B2 rfl rfl A2 (A5y _ _ _ hv5) (.inl rfl) (sv rfl (sv rfl (bs h fun v6 hv6 h=>O5 _ (i64 v6) (A0h rfl) (fun w1=>⟨_,_,_,_,rfl,rfl,A2,A5y _ _ _ (B9 w1 hv6),(.inl rfl)⟩) (gf rfl (vb rfl rfl rfl) (sd rfl (A49 rfl rfl (fun hc=>A4 (S3 hc))) (sv rfl (gf rfl (fun w3=>(A6 rfl (gq rfl) rfl rfl)) (gf rfl (fun w4=>(A6 rfl (gq rfl) rfl rfl)) (bs h fun v7 hv7 h=> ?_))))))))))))))))))))))))))))))
 refine O5 _ (.list (List.map R8 v7)) (A0h rfl) (fun w5=>⟨_,[(.d (.agg (A5o v1))),(.d (.agg (C4 v2)))],_,_,(by simp only [A4 w5];rfl),rfl,A2,A67 _ _ _ (B9 w5 hv7),(.inl rfl)⟩) ?_
 refine gf rfl (fun _=>rfl) ?_
 refine U0 _ (dl R8 [(Span.mk 0 6000 10000)]) rfl (A0h rfl) (fun w7=>(by simp only [A4 w7];rfl)) ?_
 refine bs h fun v8 hv8 h=> ?_
 refine O5 _ (bo v8) (A0h rfl) (fun w8=>⟨_,[(dl R8 v7),(dl R8 [(Span.mk 0 6000 10000)])],_,_,(by simp only [A4 w8];rfl),rfl,A2,B7b _ _ _ (B9 w8 hv8),(.inl rfl)⟩) ?_
 refine U0 _ (.d (bo (!v8))) rfl (A0h rfl) (fun w9=>(by simp only [A4 w9];rfl)) ?_
 refine sd rfl (A49 rfl rfl (fun hc=>A4 (S3 hc))) (sv rfl (gf rfl (fun w10=>(A6 rfl (gq rfl) rfl rfl)) (gf rfl (fun w11=>(A6 rfl (gq rfl) rfl rfl)) (gf rfl (fun w12=>(A6 rfl (gq rfl) rfl rfl)) (bs h fun v9 hv9 h=> ?_)))))
 refine O5 _ (bo v9) (A0h rfl) (fun w13=>⟨_,[(.d (.agg (A5o v1))),(.d (.agg (C4 v2))),(.d (.agg (C4 v3)))],_,_,(by simp only [A4 w13];rfl),rfl,A2,B1s _ _ _ _ (B9 w13 hv9),(.inl rfl)⟩) ?_
 refine sd rfl (A49 rfl rfl (fun hc=>A4 (S3 hc))) (A1 (cc rfl h (fun c1 h=> ?_) (fun c1 h=> ?_)))
 refine lr (fun u5 hu5=>sv rfl (A1 (B4 ?_)))
 cases h
 exact A8 (.inr rfl) (B7 (B6 rfl) E5) (.refl _)
 refine B1 (A7 (I0 rfl fun u6 hu6=>sd rfl (A6 rfl (gq rfl) rfl rfl) (bs h fun v10 hv10 h=>B2 rfl rfl A2 (A17 _ _ _ _ hv10) (.inl rfl) (bs h fun v11 hv11 h=>B2 rfl rfl A2 (A17 _ _ _ _ hv11) (.inl rfl) (C0 (dl C4 [v10,v11]) rfl (B67 C4 ([v10,v11]:List Agent) (fun _=>rfl) rfl rfl ⟨rfl,rfl,rfl,rfl,rfl,rfl,trivial⟩ (fun _=>rfl)) (bs h fun v12 hv12 h=>B2 rfl rfl A2 (B3o _ _ _ hv12) (.inl rfl) (sv rfl (sv rfl (sv rfl (sn rfl rfl (sst rfl G_hit (N3 v12.1) rfl (sv rfl (A1 (lr (fun u7 hu7=>sd rfl (A6 rfl (gq rfl) rfl rfl) (sd rfl (A6 rfl G_hit rfl rfl) (bs h fun v13 hv13 h=>B2 rfl rfl (.cons (.refl _) (.cons (.refl _) (.cons DLe.nil .nil))) (B2j _ _ _ _ hv13) (.inl rfl) (sv rfl (sv rfl (sv rfl (sv rfl (sn rfl rfl (sst rfl G_hit (N3 v13.1) rfl (sv rfl (sv rfl (A1 (A7 (lr (fun u8 hu8=>sv rfl (sv rfl (sv rfl (gf rfl (fun _=>rfl) (gf rfl (vb rfl rfl rfl) (sd rfl (A49 rfl rfl (fun hc=>A4 (S3 hc))) (sv rfl (gf rfl (fun _=>rfl) (U0 _ (dl A5 [1]) rfl (A0h rfl) (fun _=>rfl) ?_)))))))))))))))))))))))))))))))))))))
 refine gf rfl (fun w18=>(by simp only [A4 w18];rfl)) ?_
 refine U0 _ (dl X9 [(Crash.mk 0 0 1 (-1) 0 [1])]) rfl (A0h rfl) (fun w19=>(by simp only [A4 w19];rfl)) ?_
 refine bs h fun v14 hv14 h=> ?_
 refine O5 _ (bo v14) (A0h rfl) (fun w20=>⟨_,[(dl X9 v13.2.1),(dl X9 [(Crash.mk 0 0 1 (-1) 0 [1])])],_,_,(by simp only [A4 w20];rfl),rfl,A2,B0h _ _ _ (B9 w20 hv14),(.inl rfl)⟩) ?_
 refine U0 _ (.d (bo (!v14))) rfl (A0h rfl) (fun w21=>(by simp only [A4 w21];rfl)) ?_
 refine sd rfl (A49 rfl rfl (fun hc=>A4 (S3 hc))) (A1 (cc rfl h (fun c2 h=> ?_) (fun c2 h=> ?_)))
 refine lr (fun u9 hu9=>sv rfl (A1 (B4 ?_)))
 cases h
 exact A8 (.inr rfl) (B7 (B6 rfl) E5) (.refl _)
 refine B1 (lr (fun u10 hu10=>sd rfl (A6 rfl (gq rfl) rfl rfl) (sd rfl (A6 rfl (gq rfl) rfl rfl) (sd rfl (A6 rfl (gq rfl) rfl rfl) (C0 (dl C4 [v2,v4]) rfl (B67 C4 ([v2,v4]:List Agent) (fun _=>rfl) rfl rfl ⟨rfl,rfl,rfl,rfl,rfl,rfl,trivial⟩ (fun _=>rfl)) (bs h fun v15 hv15 h=>B2 rfl rfl A2 (B3o _ _ _ hv15) (.inl rfl) (sv rfl (sv rfl (sv rfl (sst rfl (gq rfl) (N3 v15.1) rfl (sv rfl (A1 (A7 (B5 (s0:=⟨T [(1,(.ptr _ _)),(5,(.ptr _ _)),(6,(.d _))],G [((1,u2),some (.box 33 _)),((5,u6),some (.box 25 _))]⟩) (sbr rfl rfl) ?_))))))))))))))
 refine C7 fun u11 hu11=>sd rfl (A6 rfl G_hit rfl rfl) (sd rfl (A6 rfl (gq rfl) rfl rfl) (C0 (dl A5 [0]) rfl rfl (bs h fun v16 hv16 h=>B2 rfl rfl A2 (B2j _ _ _ _ hv16) (.inl rfl) (sv rfl (sv rfl (sv rfl (sv rfl (sv rfl (sv rfl (A1 (A7 (lr (fun u12 hu12=>sv rfl (sv rfl (sv rfl (gf rfl (fun _=>rfl) (gf rfl (vb rfl rfl rfl) (sd rfl (A49 rfl rfl (fun hc=>A4 (S3 hc))) (sv rfl (gf rfl (fun _=>rfl) (U0 _ (dl A5 [0]) rfl (A0h rfl) (fun _=>rfl) ?_)))))))))))))))))))))
 refine gf rfl (fun w26=>(by simp only [A4 w26];rfl)) ?_
 refine U0 _ (dl X9 [(Crash.mk 0 0 1 0 (-1) [0])]) rfl (A0h rfl) (fun w27=>(by simp only [A4 w27];rfl)) ?_
 refine bs h fun v17 hv17 h=> ?_
 refine O5 _ (bo v17) (A0h rfl) (fun w28=>⟨_,[(dl X9 v16.2.1),(dl X9 [(Crash.mk 0 0 1 0 (-1) [0])])],_,_,(by simp only [A4 w28];rfl),rfl,A2,B0h _ _ _ (B9 w28 hv17),(.inl rfl)⟩) ?_
 refine U0 _ (.d (bo (!v17))) rfl (A0h rfl) (fun w29=>(by simp only [A4 w29];rfl)) ?_
 refine sd rfl (A49 rfl rfl (fun hc=>A4 (S3 hc))) (A1 (cc rfl h (fun c3 h=> ?_) (fun c3 h=> ?_)))
 refine lr (fun u13 hu13=>sv rfl (A1 (B4 ?_)))
 cases h
 exact A8 (.inr rfl) (B7 (B6 rfl) E5) (.refl _)
 refine B1 (lr (fun u14 hu14=>sd rfl (A6 rfl G_hit rfl rfl) (sd rfl (A6 rfl (gq rfl) rfl rfl) (bs h fun v18 hv18 h=>B2 rfl rfl (.cons (.refl _) (.cons (.refl _) (.cons (.refl _) (.cons DLe.nil .nil)))) (B9d _ _ _ _ _ hv18) (.inl rfl) (sn rfl rfl (sst rfl G_hit (D19 v18) rfl (A1 (A7 (lr (fun u15 hu15=>sp rfl rfl (sl rfl G_hit rfl (sd rfl (J6 rfl) (sv rfl (A1 (cc rfl h (fun c4 h=> ?_) (fun c4 h=> ?_))))))))))))))))
 refine lr (fun u16 hu16=>sv rfl (A1 (B4 ?_)))
 cases h
 exact A8 (.inr rfl) (B7 (B6 rfl) E5) (.refl _)
 refine B1 (A7 (lr (fun u17 hu17=>sv rfl (A1 (js h fun z1 hz1 h=>E7 (fun s=> ∃(y1:Unit) (g1:Unit),z1= .inl y1∧Sb ⟨T [(5,(.ptr (5,u6) 0))],G [((5,u6),some (.box 25 (N3 v15.1)))]⟩ s) ?_ ?_)))))
 refine A9 (G5 (A0c v18) (fun (x1:Int) (g2:Unit)=>⟨T [(5,(.ptr (5,u6) 0)),(10,(.ptr (10,u14) 0)),(11,(di x1))],G [((5,u6),some (.box 25 (N3 v15.1))),((10,u14),some (.box 99 (D19 v18)))]⟩) 0 () _ hz1 (sbr rfl rfl) ?_)
 intro x1 g2 z2 hz2 ez2
 unfold A0c at hz2
 refine A7 (lr (fun u18 hu18=>sv rfl (sv rfl (A1 (cc rfl hz2 (fun c5 hz2=> ?_) (fun c5 hz2=> ?_))))))
 refine B1 (A7 (A9 (lr (fun u19 hu19=>sp rfl rfl (sl rfl (gq rfl) rfl (sv rfl (bs hz2 fun v19 hv19 hz2=>sd rfl (F9 rfl rfl hv19 rfl) (sd rfl (C6 rfl hv19 rfl rfl) (sv rfl (sv rfl (sv rfl (sv rfl (C0 (.d (bo (!(v19.X==(w64 (11000+ (w64 (500*x1))))&& (v19.Y==0&& (v19.V==0&&true)))))) rfl rfl (A1 (cc rfl hz2 (fun c6 hz2=> ?_) (fun c6 hz2=> ?_))))))))))))))))
 refine lr (fun u20 hu20=>sv rfl (A1 (B4 ?_)))
 cases hz2
 obtain rfl:=ez2 _ rfl
 refine ⟨nofun,G0 ?_⟩
 rw [Sum.elim_inr]at h
 cases h
 exact A8 (.inr rfl) (B7 (B6 rfl) E5) (.refl _)
 refine B1 (J3 (C7 fun u21 hu21=>sv rfl (sv rfl (sv rfl (A1 (I3 ?_))))))
 cases hz2
 exact ⟨rfl,(),(sbr rfl rfl)⟩
 refine C5 rfl ?_
 cases hz2
 obtain rfl:=ez2 _ rfl
 refine ⟨nofun,C2 rfl (l_j ?_)⟩
 exact ⟨_,(),rfl,(sbr rfl rfl)⟩
 rintro _ ⟨y1,g1,rfl,q1⟩
 rw [Sum.elim_inl]at h
 refine B5 q1 (lr (fun u22 hu22=>sd rfl (A6 rfl G_hit rfl rfl) (bs h fun v20 hv20 h=>B2 rfl rfl A2 (B52 _ _ _ hv20) (.inl rfl) (sv rfl (C0 (.d (bo (v20.Stamp==0&& (v20.Lo==994&& (v20.Hi==1000&&true))))) rfl rfl (sv rfl (gt rfl (fun w30=>(A6 rfl G_hit rfl rfl)) (bs h fun v21 hv21 h=> ?_))))))))
 refine O5 _ (.agg (C86 v21)) (V5 rfl) (fun w31=>⟨_,[(.d (.agg (A1z v15.1))),(di 3)],_,_,(by simp only [A4 w31];rfl),rfl,A2,B52 _ _ _ (B9 w31 hv21),(.inl rfl)⟩) ?_
 refine gt rfl (fun _=>rfl) ?_
 refine U0 _ (.d (bo (v21.Stamp==0&& (v21.Lo==997&& (v21.Hi==1003&&true))))) rfl (V5 rfl) (fun w33=>(by simp only [A4 w33];rfl)) ?_
 refine sa rfl rfl rfl (sv rfl (gt rfl (fun w34=>(A6 rfl G_hit rfl rfl)) (bs h fun v22 hv22 h=> ?_)))
 refine O5 _ (.agg (C86 v22)) (V5 rfl) (fun w35=>⟨_,[(.d (.agg (A1z v15.1))),(di 200)],_,_,(by simp only [A4 w35];rfl),rfl,A2,C22 _ _ _ (B9 w35 hv22),(.inl rfl)⟩) ?_
 refine gt rfl (fun _=>rfl) ?_
 refine U0 _ (.d (bo (v22.Stamp==0&& (v22.Lo==9800&& (v22.Hi==10200&&true))))) rfl (V5 rfl) (fun w37=>(by simp only [A4 w37];rfl)) ?_
 refine sa rfl rfl rfl (sv rfl (bs h fun v23 hv23 h=>O5 _ (bo v23) (V5 rfl) (fun w38=>⟨_,_,_,_,rfl,rfl,A2,B9e _ (B9 w38 hv23),(.inl rfl)⟩) (sa rfl rfl rfl (sv rfl (A1 (B4 ?_))))))
 cases h
 exact A8 (.inr rfl) (B7 (B6 rfl) E5) (.refl _)
end Go.Abs.World
