/-
  The functions, part 3.
-/
import Derived.Test.YtgjdiioennhoeaaGreatFns2
set_option maxRecDepth 20000
set_option maxHeartbeats 4000000
set_option linter.unusedVariables false
namespace Go.Abs.World
open Go Go.Abs Go.Proofs
attribute [local irreducible] Y7 B5v AWL
noncomputable def A1e (p1:Map)(p2:Int)(p3:Int)(v1:Zone)(x2:((List Int)×Int)):Option (Stp ((List Int)×Int) (List Int)):=
  cond (decide (x2.2< (v1.Parts.length:Int))) ((D4 v1.Parts x2.2).bind fun v2=>((cond (v2.Lane_==p2) (D4 p1.Signals (w64 (v1.Signal_ - 1))) (some default))).bind fun v3=>((cond (v2.Lane_==p2) (A5c v3 p2 p3) (some default))).bind fun v4=>cond ((v2.Lane_==p2)&& (!v4)) ((A7p x2.1 [v2.From]).bind fun v5=>some (.go (v5,(w64 (x2.2+1))))) (some (.go (x2.1,(w64 (x2.2+1)))))) (some (.out x2.1))
noncomputable def A1f (p1:Map)(p2:Int)(p3:Int)(x1:((List Int)×Int)):Option (Stp ((List Int)×Int) (List Int)):=
  cond (decide (x1.2< (p1.Zones.length:Int))) ((D4 p1.Zones x1.2).bind fun v1=>cond (v1.Signal_==0) (some (.go (x1.1,(w64 (x1.2+1))))) ((loop (A1e p1 p2 p3 v1) (x1.1,0)).bind fun y2=>some (.go (y2,(w64 (x1.2+1)))))) (some (.out x1.1))
noncomputable def B16 (p1:Map)(p2:Int)(p3:Int):Option (List Int):=
  (loop (A1f p1 p2 p3) ([],0)).bind fun y1=>cond (List.isEmpty y1) ((O9).bind fun v8=>some []) ((O8 y1).bind fun v6=>(B7s v6).bind fun v7=>some v7)
theorem C6r (p1:Map)(p2:Int)(p3:Int)(r:(List Int))(h:B16 p1 p2 p3=some r):PCall Tryz.prog 223 [(.agg (A3b p1)),(i64 p2),(i64 p3)] (.list (List.map A4 r)):=by
 refine B7 (fk Tryz.func223 Tryz.ntmps223 (fun r=>if r==10 then [1003]else if r==13 then [1013001]else if r==14 then [1014001]else []) (by with_unfolding_all rfl)) (nl rfl) ?_
 unfold B16 at h
 refine B5 (s0:=⟨T [(0,(.d _)),(1,(.d _)),(2,(.d _))],G []⟩) (sbr rfl rfl) ?_
 refine lr (fun u1 hu1=>sn rfl rfl (sv rfl (A1 (lr (fun u2 hu2=>sv rfl (A1 (A6 (lr (fun u3 hu3=>sp rfl rfl (sl rfl G_hit rfl (sd rfl (E7 rfl) (sv rfl (A1 (bs h fun y1 hy1 h=>D7 (fun s=> ∃g1:Nat,Sb ⟨T [(7,(oS y1 (50,g1)))],G [((50,g1),oB 2 1 A4 y1)]⟩ s) ?_ ?_))))))))))))))
 refine A8 (F1 (A1f p1 p2 p3) (fun (x1:((List Int)×Int)) (g2:Nat)=>⟨T [(1,(di p2)),(2,(di p3)),(3,(.ptr (3,u1) 0)),(7,(oS x1.1 (50,g2))),(13,(dl A8i p1.Zones)),(14,(di (p1.Zones.length:Int))),(15,(di x1.2))],G [((3,u1),some (.box 33 (A09 p1))),((50,g2),oB 2 1 A4 x1.1)]⟩) ([],0) 0 _ hy1 (H9 ⟨.of rfl, .of rfl, .of rfl, .of rfl, .of rfl, .of rfl, .of rfl,trivial⟩ (B1 G_hit (.of rfl) (A04 trivial))) ?_)
 intro x1 g2 z1 hz1 ez1
 unfold A1f at hz1
 refine lr (fun u4 hu4=>sv rfl (A1 (A6 (cc rfl hz1 (fun c1 hz1=> ?_) (fun c1 hz1=> ?_)))))
 refine A9 (A6 (A8 (lr (fun u5 hu5=>bs hz1 fun v1 hv1 hz1=>sd rfl (E2 rfl rfl hv1 rfl) (sd rfl (C3 rfl hv1 rfl rfl) (sn rfl rfl (sst rfl G_hit [(dl A53 v1.Parts),(di v1.Signal_)] rfl (A1 (A6 (lr (fun u6 hu6=>sp rfl rfl (sl rfl G_hit rfl (sv rfl (A1 (cc rfl hz1 (fun c2 hz1=> ?_) (fun c2 hz1=> ?_))))))))))))))))
 refine B7n rfl (C8 fun u7 hu7=>sv rfl (sv rfl (A1 (G4 ?_))))
 cases hz1
 exact ⟨rfl,g2,(H9 ⟨.of rfl, .of rfl, .of rfl, .of rfl, .of rfl, .of rfl, .of rfl,trivial⟩ (sg rfl (B8 (gq rfl) trivial)))⟩
 refine A9 (lr (fun u8 hu8=>sp rfl rfl (sl rfl G_hit rfl (sd rfl (E7 rfl) (sv rfl (A1 (bs hz1 fun y2 hy2 hz1=>D7 (fun s=> ∃g3:Nat,Sb ⟨T [(1,(di p2)),(2,(di p3)),(3,(.ptr (3,u1) 0)),(7,(oS y2 (50,g3))),(13,(dl A8i p1.Zones)),(14,(di (p1.Zones.length:Int))),(15,(di x1.2))],G [((3,u1),some (.box 33 (A09 p1))),((50,g3),oB 2 1 A4 y2)]⟩ s) ?_ ?_)))))))
 refine A8 (F1 (A1e p1 p2 p3 v1) (fun (x2:((List Int)×Int)) (g4:Nat)=>⟨T [(1,(di p2)),(2,(di p3)),(3,(.ptr (3,u1) 0)),(7,(oS x2.1 (50,g4))),(9,(.ptr (9,u5) 0)),(13,(dl A8i p1.Zones)),(14,(di (p1.Zones.length:Int))),(15,(di x1.2)),(23,(dl A53 v1.Parts)),(24,(di (v1.Parts.length:Int))),(25,(di x2.2))],G [((3,u1),some (.box 33 (A09 p1))),((9,u5),some (.box 117 [(dl A53 v1.Parts),(di v1.Signal_)])),((50,g4),oB 2 1 A4 x2.1)]⟩) (x1.1,0) g2 _ hy2 (H9 ⟨.of rfl, .of rfl, .of rfl, .of rfl, .of rfl, .of rfl, .of rfl, .of rfl, .of rfl, .of rfl, .of rfl,trivial⟩ (sg rfl (B1 G_hit (.of rfl) (B8 (gq rfl) trivial)))) ?_)
 intro x2 g4 z2 hz2 ez2
 unfold A1e at hz2
 refine lr (fun u9 hu9=>sv rfl (A1 (A6 (cc rfl hz2 (fun c3 hz2=> ?_) (fun c3 hz2=> ?_)))))
 refine A9 (A6 (A8 (lr (fun u10 hu10=>bs hz2 fun v2 hv2 hz2=>sd rfl (E2 rfl rfl hv2 rfl) (sd rfl (C3 rfl hv2 rfl rfl) (sn rfl rfl (sst rfl G_hit (C04 v2) rfl (A1 (lr (fun u11 hu11=>sp rfl rfl (sl rfl G_hit rfl (sv rfl (sv rfl (sv rfl (gp rfl (A0d rfl) (fun _=>rfl) (gt rfl (vl rfl (gq rfl) rfl) (gp rfl (A0d rfl) (fun _=>rfl) (gt rfl (vl rfl (gq rfl) rfl) (gt rfl (vb rfl rfl rfl) (bs hz2 fun v3 hv3 hz2=>gt rfl (fun w6=>(E2 (A3 w6) (A3 w6) (C0 w6 hv3) rfl)) (gt rfl (fun w7=>(C3 (A3 w7) (C0 w7 hv3) rfl rfl)) (gt rfl (fun _=>rfl) (gt rfl (fun _=>rfl) (bs hz2 fun v4 hv4 hz2=> ?_))))))))))))))))))))))))
 refine S4 _ (bo v4) (A0d rfl) (fun w10=>⟨_,[(.d (.agg [(i64 v3.Offset),(.list (List.map A39 v3.Phases))])),(di p2),(di p3)],_,_,(by simp only [A3 w10];rfl),rfl,A2,B6d _ _ _ _ (C0 w10 hv4),(.inl rfl)⟩) ?_
 refine A01 _ (.d (bo (!v4))) rfl (A0d rfl) (fun w11=>(by simp only [A3 w11];rfl)) ?_
 refine sa rfl rfl rfl (A1 (cc rfl hz2 (fun c4 hz2=> ?_) (fun c4 hz2=> ?_)))
 refine C8 fun u12 hu12=>C1 (oS x2.1 (50,g4)) rfl rfl (sp rfl rfl (sl rfl G_hit rfl (C1 (dl A4 [v2.From]) rfl rfl (bs hz2 fun v5 hv5 hz2=>Z3 A4 (50,g4) x2.1 v2.From [] _ (O0 (fun _=>rfl)) rfl (gq rfl) hv5 (ss rfl (A1 (G3 (C8 fun u13 hu13=>sv rfl (sv rfl (A1 (G4 ?_)))))))))))
 cases hz2
 exact ⟨rfl,u12,(H9 ⟨.of rfl, .of rfl, .of rfl,(.of (A3p (A21 hv5)).symm), .of rfl, .of rfl, .of rfl, .of rfl, .of rfl, .of rfl, .of rfl,trivial⟩ (sg rfl (sg rfl (U5 G_hit trivial))))⟩
 refine A9 (G3 (C8 fun u14 hu14=>sv rfl (sv rfl (A1 (G4 ?_)))))
 cases hz2
 exact ⟨rfl,g4,(H9 ⟨.of rfl, .of rfl, .of rfl, .of rfl, .of rfl, .of rfl, .of rfl, .of rfl, .of rfl, .of rfl, .of rfl,trivial⟩ (sg rfl (sg rfl (B8 (gq rfl) trivial))))⟩
 refine C2 rfl ?_
 cases hz2
 obtain rfl:=ez2 _ rfl
 refine ⟨nofun,B9 rfl (l_j ?_)⟩
 exact ⟨g4,(H9 ⟨.of rfl, .of rfl, .of rfl, .of rfl, .of rfl, .of rfl, .of rfl,trivial⟩ (B1 G_hit (.of rfl) (B8 (gq rfl) trivial)))⟩
 rintro _ ⟨g3,q1⟩
 refine G3 (B5 q1 (C8 fun u15 hu15=>sv rfl (sv rfl (A1 (G4 ?_)))))
 cases hz1
 exact ⟨rfl,g3,(H9 ⟨.of rfl, .of rfl, .of rfl, .of rfl, .of rfl, .of rfl, .of rfl,trivial⟩ (B1 G_hit (.of rfl) (B8 (gq rfl) trivial)))⟩
 refine C2 rfl ?_
 cases hz1
 obtain rfl:=ez1 _ rfl
 refine ⟨nofun,B9 rfl (l_j ?_)⟩
 exact ⟨g2,(H9 ⟨.of rfl,trivial⟩ (B8 (gq rfl) trivial))⟩
 rintro _ ⟨g1,q2⟩
 refine B5 q2 (A6 ?_)
 rcases C6m h with ⟨e1,h⟩|⟨e1,h⟩
 refine B5 (s0:=⟨T [(7,(.d .nilS))],G []⟩) (H9 ⟨.of (D7l e1),trivial⟩ trivial) ?_
 refine C8 fun u19 hu19=>sv rfl (bs h fun v8 hv8 h=>D1v (v:= .d (.tup [])) (us:= []) (E1v [] _ rfl rfl A2 (B0a _ hv8) rfl rfl) (A1 (lr (fun u20 hu20=>sv rfl (D1v (v:= .d .nilS) (us:= []) (E1v [] _ rfl rfl A2 D96 rfl rfl) (sv rfl (A1 (B3 ?_))))))))
 cases h
 exact A7 (.inr rfl) (B6 (B4 rfl) E0) DLe.nil
 refine B5 (s0:=⟨T [(7,(.sl (50,g1)))],G [((50,g1),some (.arr 2 1 (List.map A4 y1)))]⟩) (H9 ⟨.of (A3p e1),trivial⟩ (B1 (B8y G_hit e1) (.of rfl) trivial)) ?_
 refine C8 fun u17 hu17=>ss rfl (bs h fun v6 hv6 h=>D1v (v:= .d (.tup [])) (us:= [(50,g1)]) (D4s (B09 _ _ hv6) [(50,g1)] [(50,g1)] _ (((50,g1),some (.arr 2 1 (List.map A4 v6)))::_) rfl B0s (A1p C6i B7r) (A7t G_hit A7s) ⟨⟨_,G_hit, .of rfl⟩,trivial⟩ (fun _ h=>h) nd1 rfl rfl rfl) (A1 (lr (fun u18 hu18=>ss rfl (bs h fun v7 hv7 h=>D1v (v:= .sl (10140010,u18)) (us:= [(50,g1),(10140010,u18)]) (D4s (E23 _ _ hv7) [(50,g1)] [(50,g1)] _ (((10140010,u18),some (.arr 2 1 (List.map A4 v7)))::((50,g1),none)::_) rfl B0s (A1p C6i B7r) (A7t G_hit A7s) ⟨⟨_,G_hit, .of rfl⟩,trivial⟩ (fun _ h=>h) nd1 rfl rfl rfl) (ss rfl (A1 (B3 ?_))))))))
 cases h
 exact A7 (.inr rfl) (B6 (B4 rfl) (C7x G_hit)) (.refl _)
noncomputable def A5e (p1:Map)(p2:Int)(p3:Int):Option (List Int):=
  ((cond (!(decide (p3<0))) (B08 p1 p2) (some default))).bind fun v1=>cond ((decide (p3<0))||(!v1)) (some []) ((B16 p1 p2 p3).bind fun v2=>some v2)
theorem C6s (p1:Map)(p2:Int)(p3:Int)(r:(List Int))(h:A5e p1 p2 p3=some r):PCall Tryz.prog 180 [(.agg (A3b p1)),(i64 p2),(i64 p3)] (.list (List.map A4 r)):=by
 refine B7 (fk Tryz.func180 Tryz.ntmps180 m0 (by with_unfolding_all rfl)) (nl rfl) ?_
 unfold A5e at h
 refine B5 (s0:=⟨T [(0,(.d _)),(1,(.d _)),(2,(.d _))],G []⟩) (sbr rfl rfl) ?_
 refine lr (fun u1 hu1=>sn rfl rfl (sv rfl (A1 (A6 (lr (fun u2 hu2=>sv rfl (sv rfl (sv rfl (gf rfl (fun w1=>(B2 rfl G_hit rfl rfl)) (gf rfl (fun _=>rfl) (bs h fun v1 hv1 h=> ?_)))))))))))
 refine S4 _ (bo v1) (T8 rfl) (fun w3=>⟨_,[(.d (.agg (A3b p1))),(di p2)],_,_,(by simp only [A3 w3];rfl),rfl,A2,B6v _ _ _ (C0 w3 hv1),(.inl rfl)⟩) ?_
 refine A01 _ (.d (bo (!v1))) rfl (T8 rfl) (fun w4=>(by simp only [A3 w4];rfl)) ?_
 refine sd rfl (A0s rfl rfl (fun hc=>A3 (K9 hc))) (A1 (cc rfl h (fun c1 h=> ?_) (fun c1 h=> ?_)))
 refine lr (fun u3 hu3=>sv rfl (A1 (B3 ?_)))
 cases h
 exact A7 (.inr rfl) (B6 (B4 rfl) E0) DLe.nil
 refine A9 (lr (fun u4 hu4=>sd rfl (B2 rfl G_hit rfl rfl) (sv rfl (sv rfl (bs h fun v2 hv2 h=>B0 rfl rfl A2 (C6r _ _ _ _ hv2) (.inl rfl) (sv rfl (A1 (B3 ?_))))))))
 cases h
 exact A7 (.inr rfl) (B6 (B4 rfl) E0) (.refl _)
noncomputable def V3 (p1:Int)(p2:Agent)(p3:Int):Option Int:=
  some (mm2 true 0 (mm2 false (w64 (p2.V+p1)) p3))
theorem B17 (p1:Int)(p2:Agent)(p3:Int)(r:Int)(h:V3 p1 p2 p3=some r):PCall Tryz.prog 179 [(i64 p1),(.bp (D8 p2) 0),(.bp [(i64 p3)] 0)] (i64 r):=by
 refine B7 (fk Tryz.func179 Tryz.ntmps179 m0 (by with_unfolding_all rfl)) (nl rfl) ?_
 unfold V3 at h
 refine B5 (s0:=⟨T [(0,(.d _)),(1,(.d _)),(2,(.d _))],G []⟩) (sbr rfl rfl) ?_
 refine lr (fun u1 hu1=>sv rfl (A1 (lr (fun u2 hu2=>sv rfl (sv rfl (sv rfl (sv rfl (sv rfl (sv rfl (sv rfl (sv rfl (A1 (B3 ?_)))))))))))))
 cases h
 exact A7 (.inr rfl) (B6 (B4 rfl) E0) (.refl _)
noncomputable def A62 (p1:Int)(p2:Int):Option Int:=
  cond ((decide (p1<1))||(decide (p2<1))) (some 0) ((D9v .i64 (w64 ((mm2 false p1 1000000) - 1)) (mm2 false p2 1000000)).bind fun v1=>some (w64 ((w64 (v1* (mm2 false p1 1000000))) - (w64 ((mm2 false p2 1000000)* (w64 ((w64 (v1* (w64 (v1+1)))).tdiv 2)))))))
theorem B3y (p1:Int)(p2:Int)(r:Int)(h:A62 p1 p2=some r):PCall Tryz.prog 41 [(i64 p1),(i64 p2)] (i64 r):=by
 refine B7 (fk Tryz.func41 Tryz.ntmps41 m0 (by with_unfolding_all rfl)) (nl rfl) ?_
 unfold A62 at h
 refine B5 (s0:=⟨T [(0,(.d _)),(1,(.d _))],G []⟩) (sbr rfl rfl) ?_
 refine lr (fun u1 hu1=>sv rfl (A1 (A6 (lr (fun u2 hu2=>sv rfl (sv rfl (sv rfl (gf rfl (fun _=>rfl) (gf rfl (vb rfl rfl rfl) (sd rfl (A0s rfl rfl (fun hc=>A3 (K9 hc))) (A1 (cc rfl h (fun c1 h=> ?_) (fun c1 h=> ?_)))))))))))))
 refine lr (fun u3 hu3=>sv rfl (A1 (B3 ?_)))
 cases h
 exact A7 (.inr rfl) (B6 (B4 rfl) E0) (.refl _)
 refine A9 (lr (fun u4 hu4=>sv rfl (sv rfl (sv rfl (sv rfl (sv rfl (sv rfl (A1 (lr (fun u5 hu5=>sv rfl (sv rfl (sv rfl (bs h fun v1 hv1 h=>sd rfl (E1s rfl rfl hv1) (sv rfl (A1 (lr (fun u6 hu6=>sv rfl (sv rfl (sv rfl (sv rfl (sv rfl (sv rfl (sv rfl (sv rfl (sv rfl (sv rfl (sv rfl (sv rfl (A1 (B3 ?_))))))))))))))))))))))))))))))
 cases h
 exact A7 (.inr rfl) (B6 (B4 rfl) E0) (.refl _)
noncomputable def Y4 (p1:Int)(p2:Int)(p3:Int)(p4:Int)(p5:Int):Option Bool:=
  ((cond (decide (p1>p2)) (A62 p3 p4) (some default))).bind fun v1=>((cond ((decide (p1>p2))&& (decide ((w64 (p2+v1))<p1))) (A62 p5 p4) (some default))).bind fun v2=>some (((decide (p1>p2))&& (decide ((w64 (p2+v1))<p1)))&& (decide ((w64 ((w64 (p2+p5))+v2))≥p1)))
theorem B3h (p1:Int)(p2:Int)(p3:Int)(p4:Int)(p5:Int)(r:Bool)(h:Y4 p1 p2 p3 p4 p5=some r):PCall Tryz.prog 225 [(i64 p1),(.bp [(i64 p2)] 0),(.bp [(i64 p3)] 0),(.bp [(i64 p4)] 0),(.bp [(i64 p5)] 0)] (bo r):=by
 refine B7 (fk Tryz.func225 Tryz.ntmps225 m0 (by with_unfolding_all rfl)) (nl rfl) ?_
 unfold Y4 at h
 refine B5 (s0:=⟨T [(0,(.d _)),(1,(.d _)),(2,(.d _)),(3,(.d _)),(4,(.d _))],G []⟩) (sbr rfl rfl) ?_
 refine lr (fun u1 hu1=>sv rfl (A1 (A6 (I0 rfl fun u2 hu2=>sv rfl (sv rfl (sv rfl (sv rfl (gt rfl (fun _=>rfl) (gt rfl (fun _=>rfl) (gt rfl (fun _=>rfl) (bs h fun v1 hv1 h=> ?_)))))))))))
 refine S4 _ (i64 v1) (A0d rfl) (fun w4=>⟨_,[(di p3),(di p4)],_,_,(by simp only [A3 w4];rfl),rfl,A2,B3y _ _ _ (C0 w4 hv1),(.inl rfl)⟩) ?_
 refine gt rfl (fun w5=>(S3 (A3 w5) (A3 w5) rfl)) (gt rfl (fun _=>rfl) (gt rfl (fun w7=>(S3 (A3 w7) (A3 w7) rfl)) (sa rfl rfl rfl (sv rfl (gt rfl (fun _=>rfl) (gt rfl (fun _=>rfl) (gt rfl (fun w10=>(S3 (A3 w10) (A3 w10) rfl)) (gt rfl (fun _=>rfl) (gt rfl (fun _=>rfl) (bs h fun v2 hv2 h=> ?_))))))))))
 refine S4 _ (i64 v2) (A0d rfl) (fun w13=>⟨_,[(di p5),(di p4)],_,_,(by simp only [A3 w13];rfl),rfl,A2,B3y _ _ _ (C0 w13 hv2),(.inl rfl)⟩) ?_
 refine gt rfl (fun w14=>(S3 (A3 w14) (A3 w14) rfl)) (gt rfl (fun _=>rfl) (gt rfl (fun w16=>(S3 (A3 w16) (A3 w16) rfl)) (sa rfl rfl rfl (sv rfl (A1 (B3 ?_))))))
 cases h
 exact A7 (.inr rfl) (B6 (B4 rfl) E0) (.refl _)
noncomputable def D2 (p1:(List Int))(p2:Int)(p3:Int)(p4:Int)(p5:Int)(x1:Int):Option (Stp Int (Sum Unit Int)):=
  cond (decide (x1< (p1.length:Int))) ((D4 p1 x1).bind fun v1=>(Y4 v1 p2 p3 p4 p5).bind fun v2=>cond v2 (some (.out (.inr x1))) (some (.go (w64 (x1+1))))) (some (.out (.inl ())))
noncomputable def F5 (p1:(List Int))(p2:Int)(p3:Int)(p4:Int)(p5:Int):Option Int:=
  thenS (loop (D2 p1 p2 p3 p4 p5) 0) (fun _=>some (-1)) (fun r=>some r)
theorem A24 (p1:(List Int))(p2:Int)(p3:Int)(p4:Int)(p5:Int)(r:Int)(h:F5 p1 p2 p3 p4 p5=some r):PCall Tryz.prog 254 [(.list (List.map A4 p1)),(.fn (.func 225) [] [(.bp [(i64 p2)] 0),(.bp [(i64 p3)] 0),(.bp [(i64 p4)] 0),(.bp [(i64 p5)] 0)])] (i64 r):=by
 refine B7 (fk Tryz.func254 Tryz.ntmps254 m0 (by with_unfolding_all rfl)) (nl rfl) ?_
 unfold F5 at h
 refine B5 (s0:=⟨T [(0,(.d _)),(1,(.d _))],G []⟩) (sbr rfl rfl) ?_
 refine lr (fun u1 hu1=>sv rfl (A1 (A6 (lr (fun u2 hu2=>sv rfl (sd rfl (E7 rfl) (sv rfl (A1 (js h fun z1 hz1 h=>D7 (fun s=> ∃(y1:Unit) (g1:Unit),z1= .inl y1∧Sb ⟨T [],G []⟩ s) ?_ ?_)))))))))
 refine A8 (F1 (D2 p1 p2 p3 p4 p5) (fun (x1:Int) (g2:Unit)=>⟨T [(0,(dl A4 p1)),(1,(.d (.fn (.func 225) [] [(.bp [(i64 p2)] 0),(.bp [(i64 p3)] 0),(.bp [(i64 p4)] 0),(.bp [(i64 p5)] 0)]))),(7,(di (p1.length:Int))),(8,(di x1))],G []⟩) 0 () _ hz1 (sbr rfl rfl) ?_)
 intro x1 g2 z2 hz2 ez2
 unfold D2 at hz2
 refine lr (fun u3 hu3=>sv rfl (A1 (A6 (cc rfl hz2 (fun c1 hz2=> ?_) (fun c1 hz2=> ?_)))))
 refine A9 (A6 (A8 (lr (fun u4 hu4=>sv rfl (sv rfl (A1 (lr (fun u5 hu5=>sv rfl (sv rfl (sv rfl (bs hz2 fun v1 hv1 hz2=>sd rfl (E2 rfl rfl hv1 rfl) (sd rfl (D9 rfl hv1 rfl) (bs hz2 fun v2 hv2 hz2=>B0 rfl rfl A2 (B3h _ _ _ _ _ _ hv2) (.inl rfl) (A1 (cc rfl hz2 (fun c2 hz2=> ?_) (fun c2 hz2=> ?_))))))))))))))))
 refine lr (fun u6 hu6=>sv rfl (sv rfl (A1 (B3 ?_))))
 cases hz2
 obtain rfl:=ez2 _ rfl
 refine ⟨nofun,E1 ?_⟩
 rw [Sum.elim_inr]at h
 cases h
 exact A7 (.inr rfl) (B6 (B4 rfl) E0) (.refl _)
 refine A9 (G3 (C8 fun u7 hu7=>sv rfl (sv rfl (A1 (G4 ?_)))))
 cases hz2
 exact ⟨rfl,(),(sbr rfl rfl)⟩
 refine C2 rfl ?_
 cases hz2
 obtain rfl:=ez2 _ rfl
 refine ⟨nofun,B9 rfl (l_j ?_)⟩
 exact ⟨_,(),rfl,(sbr rfl rfl)⟩
 rintro _ ⟨y1,g1,rfl,q1⟩
 rw [Sum.elim_inl]at h
 refine B5 q1 (lr (fun u8 hu8=>sv rfl (A1 (B3 ?_))))
 cases h
 exact A7 (.inr rfl) (B6 (B4 rfl) E0) (.refl _)
noncomputable def F0 (p1:(List Int))(p2:Int)(p3:Int)(p4:Int)(p5:Int):Option Bool:=
  (F5 p1 p2 p3 p4 p5).bind fun v1=>some (decide (v1≥0))
theorem A1l (p1:(List Int))(p2:Int)(p3:Int)(p4:Int)(p5:Int)(r:Bool)(h:F0 p1 p2 p3 p4 p5=some r):PCall Tryz.prog 224 [(.list (List.map A4 p1)),(.fn (.func 225) [] [(.bp [(i64 p2)] 0),(.bp [(i64 p3)] 0),(.bp [(i64 p4)] 0),(.bp [(i64 p5)] 0)])] (bo r):=by
 refine B7 (fk Tryz.func224 Tryz.ntmps224 m0 (by with_unfolding_all rfl)) (nl rfl) ?_
 unfold F0 at h
 refine B5 (s0:=⟨T [(0,(.d _)),(1,(.d _))],G []⟩) (sbr rfl rfl) ?_
 refine lr (fun u1 hu1=>sv rfl (A1 (lr (fun u2 hu2=>sv rfl (sv rfl (bs h fun v1 hv1 h=>B0 rfl rfl A2 (A24 _ _ _ _ _ _ hv1) (.inl rfl) (sv rfl (sv rfl (A1 (B3 ?_))))))))))
 cases h
 exact A7 (.inr rfl) (B6 (B4 rfl) E0) (.refl _)
noncomputable def A70 (p1:(List Int))(p2:Int)(p3:Int)(p4:Int)(p5:Int):Option Bool:=
  (F0 p1 p2 p3 p5 p4).bind fun v1=>some (!v1)
theorem C2z (p1:(List Int))(p2:Int)(p3:Int)(p4:Int)(p5:Int)(r:Bool)(h:A70 p1 p2 p3 p4 p5=some r):PCall Tryz.prog 181 [(.list (List.map A4 p1)),(i64 p2),(i64 p3),(i64 p4),(i64 p5)] (bo r):=by
 refine B7 (fk Tryz.func181 Tryz.ntmps181 m0 (by with_unfolding_all rfl)) (nl rfl) ?_
 unfold A70 at h
 refine B5 (s0:=⟨T [(0,(.d _)),(1,(.d _)),(2,(.d _)),(3,(.d _)),(4,(.d _))],G []⟩) (sbr rfl rfl) ?_
 refine lr (fun u1 hu1=>sn rfl rfl (sn rfl rfl (sn rfl rfl (sn rfl rfl (sv rfl (A1 (lr (fun u2 hu2=>sv rfl (C1 (.fn _ _ _) rfl rfl (bs h fun v1 hv1 h=>B0 rfl (rD (D3 (C2s F2 (D3 (A38 (gq rfl) (rD F2)) (D3 (A38 (gq rfl) (rD F2)) (D3 (A38 G_hit (rD F2)) (D3 (A38 (gq rfl) (rD F2)) F2))))) F2)) A2 (A1l _ _ _ _ _ _ hv1) (.inr rfl) (C1 (.d (bo (!v1))) rfl rfl (sv rfl (A1 (B3 ?_))))))))))))))
 cases h
 exact A7 (.inr rfl) (B6 (B4 rfl) E0) (.refl _)
noncomputable def Z7 (p2:Agent)(v1:(Int×Int))(v3:(Int×Int×Int))(v5:(List Int))(x1:Int):Option (Stp Int Int):=
  ((cond (decide (x1>(w64 (0 - v3.2.2)))) (V3 x1 p2 v3.1) (some default))).bind fun v6=>((cond (decide (x1>(w64 (0 - v3.2.2)))) (A70 v5 v1.2 p2.V v6 v3.2.2) (some default))).bind fun v7=>cond ((decide (x1>(w64 (0 - v3.2.2))))&& (!v7)) (some (.go (w64 (x1 - 1)))) (some (.out x1))
noncomputable def A63 (p1:Map)(p2:Agent)(p3:Int)(p4:Int):Option Agent:=
  (A7d p1 p2).bind fun v1=>(D4 p1.Lanes v1.1).bind fun v2=>(A1a v2.Kind).bind fun v3=>((cond p2.Obey (A2h p1 v1.1) (some default))).bind fun v4=>(cond (p2.Obey&& (decide (v1.2≤v4))) ((A5e p1 v1.1 p3).bind fun v5=>(loop (Z7 p2 v1 v3 v5) (mm2 true (w64 (0 - v3.2.2)) (mm2 false p4 v3.2.1))).bind fun y2=>some y2) (some (mm2 true (w64 (0 - v3.2.2)) (mm2 false p4 v3.2.1)))).bind fun y1=>(V3 y1 p2 v3.1).bind fun v8=>(A5y p1 (Agent.mk p2.Route (w64 (p2.S+v8)) v8 p2.Len p2.Begin p2.Obey p2.Gone)).bind fun v9=>some (Agent.mk p2.Route (w64 (p2.S+v8)) v8 p2.Len p2.Begin p2.Obey v9)
theorem C4y (p1:Map)(p2:Agent)(p3:Int)(p4:Int)(r:Agent)(h:A63 p1 p2 p3 p4=some r):PCall Tryz.prog 88 [(.agg (A3b p1)),(.agg (D8 p2)),(i64 p3),(i64 p4)] (.agg (D8 r)):=by
 refine B7 (fk Tryz.func88 Tryz.ntmps88 m0 (by with_unfolding_all rfl)) (nl rfl) ?_
 unfold A63 at h
 refine B5 (s0:=⟨T [(0,(.d _)),(1,(.d _)),(2,(.d _)),(3,(.d _))],G []⟩) (sbr rfl rfl) ?_
 refine lr (fun u1 hu1=>sn rfl rfl (sn rfl rfl (sn rfl rfl (A1 (lr (fun u2 hu2=>sd rfl (B2 rfl (gq rfl) rfl rfl) (sd rfl (B2 rfl (gq rfl) rfl rfl) (bs h fun v1 hv1 h=>B0 rfl rfl A2 (B7x _ _ _ hv1) (.inl rfl) (sv rfl (sv rfl (sv rfl (sv rfl (sv rfl (A1 (lr (fun u3 hu3=>sp rfl rfl (sl rfl (gq rfl) rfl (sv rfl (bs h fun v2 hv2 h=>sd rfl (E2 rfl rfl hv2 rfl) (sv rfl (sd rfl (D9 rfl hv2 rfl) (bs h fun v3 hv3 h=>B0 rfl rfl A2 (A7v _ _ hv3) (.inl rfl) (sv rfl (sv rfl (sv rfl (sv rfl (sn rfl rfl (sst rfl G_hit [(di v3.1)] rfl (sv rfl (sv rfl (A1 (lr (fun u4 hu4=>C1 (.fn _ _ _) rfl rfl (C1 (.fn _ _ _) rfl rfl (A1 (lr (fun u5 hu5=>sv rfl (C1 (di (w64 (0 - v3.2.2))) rfl rfl (sv rfl (sv rfl (sv rfl (sv rfl (sv rfl (A1 (A6 (lr (fun u6 hu6=>sp rfl rfl (sl rfl (gq rfl) rfl (sv rfl (gt rfl (fun _=>rfl) ?_))))))))))))))))))))))))))))))))))))))))))))))))))
 refine gt rfl (fun w2=>(B2 rfl (gq rfl) rfl rfl)) (gt rfl (fun _=>rfl) (bs h fun v4 hv4 h=> ?_))
 refine S4 p2.Obey (i64 v4) (A0d rfl) (fun w4=>⟨_,[(.d (.agg (A3b p1))),(di v1.1)],_,_,(by simp only [A3 w4];rfl),rfl,A2,B14 _ _ _ (C0 w4 hv4),(.inl rfl)⟩) ?_
 refine gt rfl (fun w5=>(S3 (A3 w5) (A3 w5) rfl)) (sa rfl rfl rfl (A1 (bs h fun y1 hy1 h=>D7 (fun s=> ∃g1:Unit,Sb ⟨T [(3,(di y1)),(4,(.ptr (4,u1) 0)),(5,(.ptr (5,u1) 0)),(8,(.ptr (8,u1) 0)),(14,(.fn (.func 179) [] [(.ptr (5,u1) 0),(.ptr (11,u3) 0)]))],G [((4,u1),some (.box 33 (A09 p1))),((5,u1),some (.box 45 (V4 p2))),((8,u1),some (.box 45 ([(.d .nilS)]++ (zs 4)++ [(.d (bo false)),(.d (bo false))]))),((11,u3),some (.box 2 [(di v3.1)]))]⟩ s) ?_ ?_)))
 refine cc rfl hy1 (fun c1 hy1=> ?_) (fun c1 hy1=> ?_)
 refine lr (fun u7 hu7=>sd rfl (B2 rfl (gq rfl) rfl rfl) (sv rfl (sv rfl (bs hy1 fun v5 hv5 hy1=>B0 rfl rfl A2 (C6s _ _ _ _ hv5) (.inl rfl) (sv rfl (A1 (bs hy1 fun y2 hy2 hy1=>D7 (fun s=> ∃g2:Unit,Sb ⟨T [(3,(di y2)),(4,(.ptr (4,u1) 0)),(5,(.ptr (5,u1) 0)),(8,(.ptr (8,u1) 0)),(14,(.fn (.func 179) [] [(.ptr (5,u1) 0),(.ptr (11,u3) 0)]))],G [((4,u1),some (.box 33 (A09 p1))),((5,u1),some (.box 45 (V4 p2))),((8,u1),some (.box 45 ([(.d .nilS)]++ (zs 4)++ [(.d (bo false)),(.d (bo false))]))),((11,u3),some (.box 2 [(di v3.1)]))]⟩ s) ?_ ?_)))))))
 refine A8 (F1 (Z7 p2 v1 v3 v5) (fun (x1:Int) (g3:Unit)=>⟨T [(3,(di x1)),(4,(.ptr (4,u1) 0)),(5,(.ptr (5,u1) 0)),(8,(.ptr (8,u1) 0)),(10,(di v1.2)),(13,(di v3.2.2)),(14,(.fn (.func 179) [] [(.ptr (5,u1) 0),(.ptr (11,u3) 0)])),(15,(dl A4 v5))],G [((4,u1),some (.box 33 (A09 p1))),((5,u1),some (.box 45 (V4 p2))),((8,u1),some (.box 45 ([(.d .nilS)]++ (zs 4)++ [(.d (bo false)),(.d (bo false))]))),((11,u3),some (.box 2 [(di v3.1)]))]⟩) (mm2 true (w64 (0 - v3.2.2)) (mm2 false p4 v3.2.1)) () _ hy2 (sbr rfl rfl) ?_)
 intro x1 g3 z1 hz1 ez1
 unfold Z7 at hz1
 refine A6 (A6 (I0 rfl fun u8 hu8=>sv rfl (sv rfl (C1 (di (w64 (0 - v3.2.2))) rfl rfl (sv rfl (sv rfl (gt rfl (fun _=>rfl) (gt rfl (fun _=>rfl) (gp rfl (A0d rfl) (fun _=>rfl) (gt rfl (vl rfl (gq rfl) rfl) (A01 _ (.fn _ _ _) rfl (A0d rfl) (fun _=>rfl) (gt rfl (fun _=>rfl) (bs hz1 fun v6 hv6 hz1=> ?_)))))))))))))
 refine S4 _ (i64 v6) (A0d rfl) (fun w12=>⟨_,[(di x1),(.ptr (5,u1) 0),(.ptr (11,u3) 0)],_,_,(by simp only [A3 w12];rfl),(rD (D3 (A38 (gq rfl) (rD (rD (rD (rD (rD (rD (rD F2)))))))) (D3 (A38 (gq rfl) (rD F2)) F2))),A2,B17 _ _ _ _ (C0 w12 hv6),(.inr rfl)⟩) ?_
 refine gt rfl (fun _=>rfl) (bs hz1 fun v7 hv7 hz1=> ?_)
 refine S4 _ (bo v7) (A0d rfl) (fun w14=>⟨_,[(dl A4 v5),(di v1.2),(di p2.V),(di v6),(di v3.2.2)],_,_,(by simp only [A3 w14];rfl),rfl,A2,C2z _ _ _ _ _ _ (C0 w14 hv7),(.inl rfl)⟩) ?_
 refine A01 _ (.d (bo (!v7))) rfl (A0d rfl) (fun w15=>(by simp only [A3 w15];rfl)) ?_
 refine sa rfl rfl rfl (A1 (cc rfl hz1 (fun c2 hz1=> ?_) (fun c2 hz1=> ?_)))
 refine A9 (A8 (C8 fun u9 hu9=>sv rfl (sv rfl (sv rfl (A1 (G3 (G4 ?_)))))))
 cases hz1
 exact ⟨rfl,(),(sbr rfl rfl)⟩
 refine C2 rfl ?_
 cases hz1
 obtain rfl:=ez1 _ rfl
 refine ⟨nofun,B9 rfl (l_j ?_)⟩
 exact ⟨(),(sbr rfl rfl)⟩
 rintro _ ⟨g2,q1⟩
 obtain rfl:=(Option.some.inj hy1)
 exact l_j ⟨(),(Sb.after q1 (sbr rfl rfl))⟩
 refine A9 ?_
 cases hy1
 exact l_j ⟨(),(sbr rfl rfl)⟩
 rintro _ ⟨g1,q2⟩
 refine B5 q2 (lr (fun u10 hu10=>C1 (.fn _ _ _) rfl rfl (sv rfl (bs h fun v8 hv8 h=>B0 rfl (rD (D3 (A38 (gq rfl) (rD (rD (rD (rD (rD (rD (rD F2)))))))) (D3 (A38 (gq rfl) (rD F2)) F2))) A2 (B17 _ _ _ _ hv8) (.inr rfl) (sp rfl rfl (sst rfl (gq rfl) ((V4 p2).set 2 (di v8)) rfl (A1 (lr (fun u11 hu11=>sp rfl rfl (sl rfl G_hit rfl (sp rfl rfl (sl rfl G_hit rfl (sv rfl (sp rfl rfl (sst rfl G_hit (((V4 p2).set 1 (di (w64 (p2.S+v8)))).set 2 (di v8)) rfl (A1 (lr (fun u12 hu12=>sd rfl (B2 rfl (gq rfl) rfl rfl) (sd rfl (B2 rfl G_hit rfl rfl) (bs h fun v9 hv9 h=>B0 rfl rfl A2 (B7y _ _ _ hv9) (.inl rfl) (sp rfl rfl (sst rfl G_hit ((((V4 p2).set 1 (di (w64 (p2.S+v8)))).set 2 (di v8)).set 6 (.d (bo v9))) rfl (A1 (lr (fun u13 hu13=>sd rfl (B2 rfl G_hit rfl rfl) (sst rfl (gq rfl) ((((V4 p2).set 1 (di (w64 (p2.S+v8)))).set 2 (di v8)).set 6 (.d (bo v9))) rfl (A1 (B3 ?_))))))))))))))))))))))))))))
 cases h
 exact A7 (.inr rfl) (B6 (K0 rfl G_hit (nl rfl) rfl) E0) (.refl _)
noncomputable def A7e (p1:Map)(p2:State)(p3:Int)(p4:Int):Option Agent:=
  cond ((decide (p3<0))||(decide (p3≥(p2.Agents.length:Int)))) (some (Agent.mk [] 0 0 0 0 false false)) ((D4 p2.Agents p3).bind fun v1=>(A0e v1).bind fun v2=>(A2t p2 p3).bind fun v3=>((cond (!(!v3)) (A3y p1 p2) (some default))).bind fun v4=>cond ((!v3)||(v4 !=0)) (some v2) ((A63 p1 v2 p2.Tick p4).bind fun v5=>some v5))
theorem B83 (p1:Map)(p2:State)(p3:Int)(p4:Int)(r:Agent)(h:A7e p1 p2 p3 p4=some r):PCall Tryz.prog 29 [(.agg (A3b p1)),(.agg (A30 p2)),(i64 p3),(i64 p4)] (.agg (D8 r)):=by
 refine B7 (fk Tryz.func29 Tryz.ntmps29 m0 (by with_unfolding_all rfl)) (nl rfl) ?_
 unfold A7e at h
 refine B5 (s0:=⟨T [(0,(.d _)),(1,(.d _)),(2,(.d _)),(3,(.d _))],G []⟩) (sbr rfl rfl) ?_
 refine lr (fun u1 hu1=>sn rfl rfl (sn rfl rfl (sn rfl rfl (A1 (A6 (lr (fun u2 hu2=>sv rfl (sv rfl (sv rfl (gf rfl (fun _=>rfl) (gp rfl (T8 rfl) (fun _=>rfl) (gf rfl (vl rfl (gq rfl) rfl) (gf rfl (fun w4=>(E7 (A3 w4))) (gf rfl (fun w5=>(S3 (A3 w5) (A3 w5) rfl)) (sd rfl (A0s rfl rfl (fun hc=>A3 (K9 hc))) (A1 (cc rfl h (fun c1 h=> ?_) (fun c1 h=> ?_))))))))))))))))))
 refine lr (fun u3 hu3=>sv rfl (sst rfl G_hit ([(.d .nilS)]++ (zs 4)++ [(.d (bo false)),(.d (bo false))]) rfl (A1 (B3 ?_))))
 cases h
 exact A7 (.inr rfl) (B6 (K0 rfl G_hit (nl rfl) rfl) E0) (.agg (.cons ⟨DLe.nil,rfl⟩ (cz rfl)))
 refine A9 (lr (fun u4 hu4=>sp rfl rfl (sl rfl (gq rfl) rfl (sv rfl (bs h fun v1 hv1 h=>sd rfl (E2 rfl rfl hv1 rfl) (sd rfl (C3 rfl hv1 rfl rfl) (bs h fun v2 hv2 h=>B0 rfl rfl A2 (A8o _ _ hv2) (.inl rfl) (sn rfl rfl (sst rfl G_hit (V4 v2) rfl (A1 (A6 (lr (fun u5 hu5=>sd rfl (B2 rfl (gq rfl) rfl rfl) (sv rfl (bs h fun v3 hv3 h=>B0 rfl rfl A2 (A90 _ _ _ hv3) (.inl rfl) (C1 (.d (bo (!v3))) rfl rfl (sv rfl (gf rfl (fun w6=>(B2 rfl (gq rfl) rfl rfl)) (gf rfl (fun w7=>(B2 rfl (gq rfl) rfl rfl)) (bs h fun v4 hv4 h=> ?_))))))))))))))))))))
 refine S4 _ (i64 v4) (T8 rfl) (fun w8=>⟨_,[(.d (.agg (A3b p1))),(.d (.agg (A30 p2)))],_,_,(by simp only [A3 w8];rfl),rfl,A2,B2g _ _ _ (C0 w8 hv4),(.inl rfl)⟩) ?_
 refine gf rfl (vb rfl rfl rfl) (sd rfl (A0s rfl rfl (fun hc=>A3 (K9 hc))) (A1 (cc rfl h (fun c2 h=> ?_) (fun c2 h=> ?_))))
 refine lr (fun u6 hu6=>sd rfl (B2 rfl G_hit rfl rfl) (sst rfl (gq rfl) (V4 v2) rfl (A1 (B3 ?_))))
 cases h
 exact A7 (.inr rfl) (B6 (K0 rfl G_hit (nl rfl) rfl) E0) (.refl _)
 refine A9 (lr (fun u7 hu7=>sd rfl (B2 rfl (gq rfl) rfl rfl) (sd rfl (B2 rfl G_hit rfl rfl) (sp rfl rfl (sl rfl (gq rfl) rfl (sv rfl (bs h fun v5 hv5 h=>B0 rfl rfl A2 (C4y _ _ _ _ _ hv5) (.inl rfl) (sst rfl (gq rfl) (V4 v5) rfl (A1 (B3 ?_))))))))))
 cases h
 exact A7 (.inr rfl) (B6 (K0 rfl G_hit (nl rfl) rfl) E0) (.refl _)
theorem B24 (p1:List Stay)(r:List Stay)(h:W6 p1=some r):MCall Tryz.prog 121 [.d (.list (List.map N1 p1))] [] (oE r (800000,0)) [] [oB 127 4 N1 r]:=by
  cases p1 with
  |nil=>
   have hr:r= []:=by obtain ⟨_,rfl⟩:=A7q h;rfl
   subst hr
   exact MCall.ofP (A6l [] [] h)
  |cons x xs=>
  have hr:A7p ([]:List Stay) (x::xs)=some r:=h
  have e:=(A7q hr).2
  rw [List.nil_append]at e
  rw [E1w (A21 hr),D8q (A21 hr)]
  refine D35 (fk Tryz.func121 Tryz.ntmps121 m0 (by with_unfolding_all rfl)) rfl (Nat.le_of_ble_eq_true rfl) ?_
  refine (B5 (s0:=⟨T [(0, .d (.list (List.map N1 (x::xs))))],G []⟩) (H9 ⟨.of rfl,trivial⟩ trivial) ?_)
  refine A6 ?_
  refine C8 fun u1 hu1=> ?_
  refine C1 (.d .nilS) rfl rfl ?_
  refine A1 ?_
  refine A6 ?_
  refine A6 ?_
  refine C8 fun u2 hu2=> ?_
  refine C1 (.d (.list (List.map N1 (x::xs)))) rfl rfl ?_
  refine C1 (.d (bo false)) rfl rfl ?_
  refine A1 ?_
  refine B4t rfl ?_
  refine A9 ?_
  refine A6 ?_
  refine C8 fun u3 hu3=> ?_
  refine B5x (.sl _) (.arr 127 4 (List.map N1 ([]:List Stay))) rfl rfl ?_
  refine C1 (.d (.list (List.map N1 (x::xs)))) rfl rfl ?_
  refine B7p N1 _ [] (x::xs) _ (O0 (fun _=>rfl)) rfl G_hit hr ?_
  refine C1 (.sl _) rfl rfl ?_
  refine A1 ?_
  refine B3 ?_
  exact E0v (v1:= .sl (7,u3)) (.inr rfl) (D66 (B4 rfl)) (.of rfl) [((7,u3),some (.arr 127 4 (List.map N1 r)))] (B1 G_hit (.of rfl) trivial) (D65 [(7,u3)] rfl trivial ⟨G_hit,trivial⟩ rfl (by simp only [List.mem_cons,List.not_mem_nil,or_false,forall_eq];exact fun i=>D7i rfl i) nd1)
noncomputable def A4d (p1:State)(x1:(Int×State)):Option (Stp (Int×State) State):=
  cond (decide (x1.1< (p1.Agents.length:Int))) ((D4 p1.Agents x1.1).bind fun v2=>(A0e v2).bind fun v3=>(A7p x1.2.Agents [v3]).bind fun v4=>some (.go ((w64 (x1.1+1)),(State.mk x1.2.Tick v4 x1.2.In)))) (some (.out x1.2))
noncomputable def A81 (p1:State):Option State:=
  (W6 p1.In).bind fun v1=>(loop (A4d p1) (0,(State.mk p1.Tick [] v1))).bind fun y1=>some y1
theorem C07 (p1:State)(r:State)(h:A81 p1=some r):MCall Tryz.prog 56 [(.d (.agg (A30 p1)))] [] (A4b [(di r.Tick),(oS r.Agents (800000,0)),(oE r.In (800001,0))]) [] [oB 45 7 D8 r.Agents,oB 127 4 N1 r.In]:=by
 refine D35 (fk Tryz.func56 Tryz.ntmps56 (fun r=>if r==1 then [1001004]else if r==5 then [1004]else []) (by with_unfolding_all rfl)) (by generalize r.Agents=x1;generalize r.In=x2;cases x1<;>cases x2<;>rfl) (nl rfl) ?_
 unfold A81 at h
 refine B5 (s0:=⟨T [(0,(.d _))],G []⟩) (sbr rfl rfl) ?_
 refine lr (fun u1 hu1=>sn rfl rfl (sn rfl rfl (A1 (A6 (B8z fun u2 hu2=>A16 (.ptr _ _) rfl rfl (A16 (.d _) rfl (Z4 rfl (gq rfl) rfl) (A16 (.ptr _ _) rfl rfl (A16 (.d _) rfl (Z4 rfl (gq rfl) rfl) (bs h fun v1 hv1 h=> ?_)))))))))
 refine t_oc (v:=oE v1 (10010040,u2)) (us:= [(10010040,u2)]) (E0y (B24 _ _ hv1) [] [] _ (((10010040,u2),oB 127 4 N1 v1)::_) rfl B0s rfl A7s trivial (fun _ h=>h) List.nodup_nil (by generalize v1=x1;cases x1<;>rfl) rfl (D3a (rfl)) rfl) ?_
 refine A16 (A4b [(di p1.Tick),(.d .nilS),(oE v1 (10010040,u2))]) rfl (by generalize v1=x1;cases x1<;>rfl) ?_
 refine D31 (.ptr _ _) (.box _ _) rfl rfl (C4l _ _ _ _ _ (A0j _) rfl rfl G_hit (nl rfl) [(di p1.Tick),(.d .nilS),(oE v1 (10010040,u2))] rfl (D12 ⟨rfl,?_⟩))
 refine A6 (lr (fun u3 hu3=>sp rfl rfl (sl rfl (gq rfl) rfl (sd rfl (E7 rfl) (sv rfl (A1 (bs h fun y1 hy1 h=>D7 (fun s=> ∃g1:(Nat×Nat),Sb ⟨T [(2,(.ptr (2,u1) 0)),(3,(.ptr (3,u2) 0))],G [((2,u1),some (.box 25 [(di 0),(.d .nilS),(.d .nilS)])),((3,u2),some (.box 25 [(di y1.Tick),(oS y1.Agents (24,g1.1)),(oE y1.In (10010040,g1.2))])),((24,g1.1),oB 45 7 D8 y1.Agents),((10010040,g1.2),oB 127 4 N1 y1.In)]⟩ s) ?_ ?_)))))))
 refine A8 (F1 (A4d p1) (fun (x1:(Int×State)) (g2:(Nat×Nat))=>⟨T [(2,(.ptr (2,u1) 0)),(3,(.ptr (3,u2) 0)),(13,(dl D8 p1.Agents)),(14,(di (p1.Agents.length:Int))),(15,(di x1.1))],G [((2,u1),some (.box 25 [(di 0),(.d .nilS),(.d .nilS)])),((3,u2),some (.box 25 [(di x1.2.Tick),(oS x1.2.Agents (24,g2.1)),(oE x1.2.In (10010040,g2.2))])),((24,g2.1),oB 45 7 D8 x1.2.Agents),((10010040,g2.2),oB 127 4 N1 x1.2.In)]⟩) (0,(State.mk p1.Tick [] v1)) (0,u2) _ hy1 (H9 ⟨.of rfl, .of rfl, .of rfl, .of rfl, .of rfl,trivial⟩ (sg rfl (B1 G_hit (.of rfl) (A04 (B8 (gq rfl) trivial))))) ?_)
 intro x1 g2 z1 hz1 ez1
 unfold A4d at hz1
 refine lr (fun u4 hu4=>sv rfl (A1 (A6 (cc rfl hz1 (fun c1 hz1=> ?_) (fun c1 hz1=> ?_)))))
 refine A9 (A6 (A8 (lr (fun u5 hu5=>bs hz1 fun v2 hv2 hz1=>sd rfl (E2 rfl rfl hv2 rfl) (sd rfl (C3 rfl hv2 rfl rfl) (sn rfl rfl (sst rfl G_hit (V4 v2) rfl (A1 (I0 rfl fun u6 hu6=>sp rfl rfl (C1 (oS x1.2.Agents (24,g2.1)) rfl (Z4 rfl (gq rfl) rfl) (sd rfl (B2 rfl G_hit rfl rfl) (bs hz1 fun v3 hv3 hz1=>B0 rfl rfl A2 (A8o _ _ hv3) (.inl rfl) (C1 (dl D8 [v3]) rfl rfl (bs hz1 fun v4 hv4 hz1=>Z3 D8 (24,g2.1) x1.2.Agents v3 [] _ (O0 (fun _=>rfl)) rfl (gq rfl) hv4 (sp rfl rfl (sst rfl (gq rfl) [(di x1.2.Tick),(.sl (24,u6)),(oE x1.2.In (10010040,g2.2))] rfl (A1 (G3 (C8 fun u7 hu7=>sv rfl (sv rfl (A1 (G4 ?_))))))))))))))))))))))
 cases hz1
 exact ⟨rfl,(u6,g2.2),(H9 ⟨.of rfl, .of rfl, .of rfl, .of rfl, .of rfl,trivial⟩ (sg rfl (B1 G_hit (.box (cv (.cons (.of (A3p (A21 hv4)).symm) cw))) (U5 (gq rfl) (B8 (gq rfl) trivial)))))⟩
 refine C2 rfl ?_
 cases hz1
 obtain rfl:=ez1 _ rfl
 refine ⟨nofun,B9 rfl (l_j ?_)⟩
 exact ⟨(g2.1,g2.2),(H9 ⟨.of rfl, .of rfl,trivial⟩ (B1 G_hit (.of rfl) (sg rfl (B8 (gq rfl) (B8 (gq rfl) trivial)))))⟩
 rintro _ ⟨g1,q1⟩
 refine B5 q1 (lr (fun u8 hu8=>C1 (A4b [(di y1.Tick),(oS y1.Agents (24,g1.1)),(oE y1.In (10010040,g1.2))]) rfl (B2 rfl (gq rfl) rfl rfl) (A9o _ _ _ _ _ (A0j _) rfl rfl G_hit (nl rfl) [(di y1.Tick),(oS y1.Agents (24,g1.1)),(oE y1.In (10010040,g1.2))] rfl (A1 (B3 ?_)))))
 obtain rfl:=(Option.some.inj h)
 exact E0v (v1:=(A4b [(di y1.Tick),(oS y1.Agents (24,g1.1)),(oE y1.In (10010040,g1.2))])) (.inr rfl) (D66 (K0 rfl G_hit (Nat.le_of_ble_eq_true rfl) rfl)) (.of rfl) [((24,g1.1),oB 45 7 D8 y1.Agents),((10010040,g1.2),oB 127 4 N1 y1.In)] (B8 (gq rfl) (B8 (gq rfl) trivial)) (D91 [(24,g1.1),(10010040,g1.2)] (by generalize y1.Agents=x1;generalize y1.In=x2;cases x1<;>cases x2<;>rfl) trivial ⟨(G_hit).trans oB_ren.symm,((gq rfl)).trans oB_ren.symm,trivial⟩ rfl (List.forall_mem_cons.2 ⟨fun i hi=>D3b rfl hi,(List.forall_mem_cons.2 ⟨fun i hi=>D3b rfl hi,(fun _ h=>nomatch h)⟩)⟩) (nd2 (C1l rfl)))
noncomputable def A0b (p1:WorldScene)(p2:Int)(p3:Int):Option (Int×Bool):=
  (D4 p1.before.Agents p2).bind fun v1=>(W0 v1.Route p3).bind fun v2=>cond (decide (v2<0)) (some (0,false)) ((A2e p1.m v1.Route).bind fun v3=>(D4 v3 v2).bind fun v4=>some (v4,true))
theorem A8m (p1:WorldScene)(p2:Int)(p3:Int)(r:(Int×Bool))(h:A0b p1 p2 p3=some r):PCall Tryz.prog 227 [(.bp (B0u p1) 0),(i64 p2),(i64 p3)] (.tup [(i64 r.1),(bo r.2)]):=by
 refine B7 (fk Tryz.func227 Tryz.ntmps227 m0 (by with_unfolding_all rfl)) (nl rfl) ?_
 unfold A0b at h
 refine B5 (s0:=⟨T [(0,(.d _)),(1,(.d _)),(2,(.d _))],G []⟩) (sbr rfl rfl) ?_
 refine lr (fun u1 hu1=>sv rfl (sv rfl (A1 (lr (fun u2 hu2=>sv rfl (sv rfl (sv rfl (sv rfl (sv rfl (sv rfl (bs h fun v1 hv1 h=>sd rfl (E2 rfl rfl hv1 rfl) (sv rfl (sd rfl (D9 rfl hv1 rfl) (sv rfl (A1 (lr (fun u3 hu3=>sv rfl (sv rfl (bs h fun v2 hv2 h=>B0 rfl rfl A2 (A7x _ _ _ hv2) (.inl rfl) (sv rfl (A1 (A6 (lr (fun u4 hu4=>sv rfl (sv rfl (A1 (cc rfl h (fun c1 h=> ?_) (fun c1 h=> ?_))))))))))))))))))))))))))))
 refine lr (fun u5 hu5=>sv rfl (sv rfl (A1 (B3 ?_))))
 cases h
 exact A7 (.inr rfl) (B5w (B4 rfl) (B4 rfl) E0 E0) (.refl _)
 refine A9 (lr (fun u6 hu6=>sv rfl (sv rfl (sv rfl (sv rfl (sv rfl (bs h fun v3 hv3 h=>B0 rfl rfl A2 (B10 _ _ _ hv3) (.inl rfl) (sv rfl (bs h fun v4 hv4 h=>sd rfl (E2 rfl rfl hv4 rfl) (sd rfl (D9 rfl hv4 rfl) (sv rfl (sv rfl (A1 (B3 ?_))))))))))))))
 cases h
 exact A7 (.inr rfl) (B5w (B4 rfl) (B4 rfl) E0 E0) (.refl _)
noncomputable def A0v (p1:WorldScene)(p2:Int)(p3:Int):Option Stay:=
  (D0 p1.after.In (Stay.mk p2 p3 0 0)).bind fun v1=>(D4 p1.after.In v1.1).bind fun v2=>some v2
theorem A9d (p1:WorldScene)(p2:Int)(p3:Int)(r:Stay)(h:A0v p1 p2 p3=some r):PCall Tryz.prog 228 [(.bp (B0u p1) 0),(i64 p2),(i64 p3)] (.agg (N1 r)):=by
 refine B7 (fk Tryz.func228 Tryz.ntmps228 m0 (by with_unfolding_all rfl)) (nl rfl) ?_
 unfold A0v at h
 refine B5 (s0:=⟨T [(0,(.d _)),(1,(.d _)),(2,(.d _))],G []⟩) (sbr rfl rfl) ?_
 refine lr (fun u1 hu1=>sn rfl rfl (A1 (lr (fun u2 hu2=>sv rfl (sv rfl (sv rfl (sv rfl (sv rfl (sv rfl (sv rfl (sv rfl (bs h fun v1 hv1 h=>B0 rfl rfl A2 (M3 _ _ _ hv1) (.inl rfl) (sv rfl (sv rfl (sv rfl (sv rfl (sv rfl (A1 (lr (fun u3 hu3=>sv rfl (sv rfl (sv rfl (sv rfl (sv rfl (sv rfl (bs h fun v2 hv2 h=>sd rfl (E2 rfl rfl hv2 rfl) (sd rfl (C3 rfl hv2 rfl rfl) (sst rfl G_hit (C05 v2) rfl (A1 (B3 ?_))))))))))))))))))))))))))))))
 cases h
 exact A7 (.inr rfl) (B6 (K0 rfl G_hit (nl rfl) rfl) E0) (.refl _)
noncomputable def A6r (p1:Map)(p2:State)(p3:(List Int))(v2:State)(y2:(List Agent))(y5:(List Stay))(a1:(Int×Int))(x6:(Int× (List Crash))):Option (Stp (Int× (List Crash)) (List Crash)):=
  cond (decide (x6.1< (p1.Zones.length:Int))) ((A0a (WorldScene.mk p1 p2 (State.mk v2.Tick y2 y5) p3 x6.2) a1.1 a1.2 x6.1).bind fun v28=>cond (!v28) (some (.go ((w64 (x6.1+1)),x6.2))) ((A0v (WorldScene.mk p1 p2 (State.mk v2.Tick y2 y5) p3 x6.2) a1.1 x6.1).bind fun v29=>(A0v (WorldScene.mk p1 p2 (State.mk v2.Tick y2 y5) p3 x6.2) a1.2 x6.1).bind fun v30=>(W9 v29.Rank v30.Rank).bind fun v31=>(A1j v30.Since v29.Since).bind fun v32=>(A5z [v31,v32]).bind fun v33=>(cond (v33==(-1)) (some [a1.1]) (cond (v33==1) (some [a1.2]) (some [a1.1,a1.2]))).bind fun y17=>(A7p x6.2 [(Crash.mk p2.Tick a1.1 a1.2 (-1) x6.1 y17)]).bind fun v34=>some (.go ((w64 (x6.1+1)),v34)))) (some (.out x6.2))
noncomputable def A91 (p1:Map)(p2:State)(p3:(List Int))(v2:State)(y2:(List Agent))(y5:(List Stay))(a1:(Int×Int))(y12:(List Crash)):Option (List Crash):=
  (loop (A6r p1 p2 p3 v2 y2 y5 a1) (0,y12)).bind fun y16=>some y16
noncomputable def A6s (p1:Map)(p2:State)(p3:(List Int))(v2:State)(y2:(List Agent))(y5:(List Stay))(x4:(List Crash))(a1:(Int×Int))(x5:Int):Option (Stp Int (Sum Unit (List Crash))):=
  cond (decide (x5< (p1.Lanes.length:Int))) ((A0b (WorldScene.mk p1 p2 (State.mk v2.Tick y2 y5) p3 x4) a1.1 x5).bind fun v13=>(A0b (WorldScene.mk p1 p2 (State.mk v2.Tick y2 y5) p3 x4) a1.2 x5).bind fun v14=>cond ((!v13.2)||(!v14.2)) (some (.go (w64 (x5+1)))) ((D4 p2.Agents a1.1).bind fun v15=>(D4 p2.Agents a1.2).bind fun v16=>(cond (decide ((w64 (v15.S - v13.1))< (w64 (v16.S - v14.1)))) (some (v14.1,v13.1,a1.2,a1.1)) (some (v13.1,v14.1,a1.1,a1.2))).bind fun y14=>(D4 y2 y14.2.2.1).bind fun v17=>(A3e v17).bind fun v18=>(A0o v18 y14.1).bind fun v19=>(D4 y2 y14.2.2.2).bind fun v20=>(A3e v20).bind fun v21=>(A0o v21 y14.2.1).bind fun v22=>(D4 p2.Agents y14.2.2.2).bind fun v23=>(A3e v23).bind fun v24=>(A0o v24 y14.2.1).bind fun v25=>(A2h p1 x5).bind fun v26=>cond (((((decide (v19.to≥0))&& (decide (v22.to≥0)))&& (decide (v25.from_≤v26)))&& (decide (v19.from_≤v26)))&& (decide (v22.to≥v19.from_))) ((A7p x4 [(Crash.mk p2.Tick a1.1 a1.2 x5 (-1) [y14.2.2.2])]).bind fun v27=>some (.out (.inr v27))) (some (.go (w64 (x5+1)))))) (some (.out (.inl ())))
noncomputable def B0b (p1:Map)(p2:State)(p3:(List Int))(v2:State)(y2:(List Agent))(y5:(List Stay))(x4:(List Crash))(a1:(Int×Int)):Option (List Crash):=
  thenS (loop (A6s p1 p2 p3 v2 y2 y5 x4 a1) 0) (fun _=>some x4) (fun r=>some r)
noncomputable def A82 (p1:Map)(p2:State)(p3:(List Int))(v2:State)(y2:(List Agent))(y5:(List Stay))(x4:(List Crash))(a1:(Int×Int)):Option (Stp (List Crash) (List Crash)):=
  (B0b p1 p2 p3 v2 y2 y5 x4 a1).bind fun y12=>(A91 p1 p2 p3 v2 y2 y5 a1 y12).bind fun y15=>some (.go y15)
noncomputable def B0c:Option Unit:=
  some ()
noncomputable def B0d (p1:Map)(p2:State)(p3:(List Int))(v2:State)(y2:(List Agent))(y5:(List Stay)):Option (List Crash):=
  (B0c).bind fun y10=>((C3o p2).bind fun v12=>loopL (A82 p1 p2 p3 v2 y2 y5) (fun (x4:(List Crash))=>x4) v12 []).bind fun y11=>some y11
noncomputable def A83 (p1:Map)(p2:State)(p3:(List Int))(v2:State)(y2:(List Agent))(x2:(Int× (List Stay)))(v6:Agent)(x3:(Int× (List Stay))):Option (Stp (Int× (List Stay)) (List Stay)):=
  cond (decide (x3.1< (p1.Zones.length:Int))) ((R4 (WorldScene.mk p1 p2 (State.mk v2.Tick y2 x3.2) p3 []) x2.1 x3.1).bind fun v7=>cond (!v7) (some (.go ((w64 (x3.1+1)),x3.2))) ((D0 p2.In (Stay.mk x2.1 x3.1 p2.Tick 0)).bind fun v8=>(cond v8.2 ((D4 p2.In v8.1).bind fun v9=>some v9) ((B0i p1 v6 x3.1 p2.Tick).bind fun v10=>some (Stay.mk x2.1 x3.1 p2.Tick v10))).bind fun y8=>(A7p x3.2 [y8]).bind fun v11=>some (.go ((w64 (x3.1+1)),v11)))) (some (.out x3.2))
noncomputable def A84 (p1:Map)(p2:State)(p3:(List Int))(v2:State)(y2:(List Agent))(x2:(Int× (List Stay))):Option (Stp (Int× (List Stay)) (List Stay)):=
  cond (decide (x2.1< (p2.Agents.length:Int))) ((D4 p2.Agents x2.1).bind fun v6=>(loop (A83 p1 p2 p3 v2 y2 x2 v6) (0,x2.2)).bind fun y7=>some (.go ((w64 (x2.1+1)),y7))) (some (.out x2.2))
noncomputable def B0e (p1:Map)(p2:State)(p3:(List Int))(v2:State)(y2:(List Agent)):Option (List Stay):=
  (loop (A84 p1 p2 p3 v2 y2) (0,[])).bind fun y6=>some y6
noncomputable def A85 (p1:Map)(p2:State)(p3:(List Int))(x1:(Int× (List Agent))):Option (Stp (Int× (List Agent)) (List Agent)):=
  cond (decide (x1.1< (p2.Agents.length:Int))) ((cond (decide (x1.1< (p3.length:Int))) ((D4 p3 x1.1).bind fun v3=>some v3) (some 0)).bind fun y4=>(A7e p1 p2 x1.1 y4).bind fun v4=>(D4 x1.2 x1.1).bind fun v5=>some (.go ((w64 (x1.1+1)),(B79 x1.2 x1.1 v4)))) (some (.out x1.2))
noncomputable def B0f (p1:Map)(p2:State)(p3:(List Int))(v2:State):Option (List Agent):=
  (loop (A85 p1 p2 p3) (0,v2.Agents)).bind fun y3=>some y3
noncomputable def B3i (p1:Map)(p2:State)(p3:(List Int)):Option (State× (List Crash)×Int):=
  (A3y p1 p2).bind fun v1=>cond (v1 !=0) (some ((State.mk 0 [] []),[],v1)) (cond (decide (p2.Tick≥1099511627776)) (some ((State.mk 0 [] []),[],2)) ((A81 p2).bind fun v2=>((B0f p1 p2 p3 v2).bind fun y2=>(B0e p1 p2 p3 v2 y2).bind fun y5=>(B0d p1 p2 p3 v2 y2 y5).bind fun y9=>some (y2,y5,y9)).bind fun y1=>some ((State.mk (w64 (v2.Tick+1)) y1.1 y1.2.1),y1.2.2,0)))
theorem C4z (p1:Map)(p2:State)(p3:(List Int))(r:(State× (List Crash)×Int))(h:B3i p1 p2 p3=some r):PCall Tryz.prog 31 [(.agg (A3b p1)),(.agg (A30 p2)),(.list (List.map A4 p3))] (.tup [(.agg (A30 r.1)),(.list (List.map A4w r.2.1)),(i64 r.2.2)]):=by
 refine B7 (fk Tryz.func31 Tryz.ntmps31 (fun r=>if r==6 then [1006003]else if r==10 then [2]else []) (by with_unfolding_all rfl)) (nl rfl) ?_
 unfold B3i at h
 refine B5 (s0:=⟨T [(0,(.d _)),(1,(.d _)),(2,(.d _))],G []⟩) (sbr rfl rfl) ?_
 refine lr (fun u1 hu1=>sn rfl rfl (sn rfl rfl (sn rfl rfl (sv rfl (sv rfl (A1 (A6 (lr (fun u2 hu2=>sd rfl (B2 rfl (gq rfl) rfl rfl) (sd rfl (B2 rfl (gq rfl) rfl rfl) (bs h fun v1 hv1 h=>B0 rfl rfl A2 (B2g _ _ _ hv1) (.inl rfl) (sv rfl (A1 (lr (fun u3 hu3=>sv rfl (sv rfl (A1 (cc rfl h (fun c1 h=> ?_) (fun c1 h=> ?_)))))))))))))))))))
 refine lr (fun u4 hu4=>sv rfl (sv rfl (sst rfl G_hit [(di 0),(.d .nilS),(.d .nilS)] rfl (sv rfl (sv rfl (A1 (B3 ?_)))))))
 cases h
 exact A7 (.inr rfl) (C4h (K0 rfl G_hit (nl rfl) rfl) (B4 rfl) (B4 rfl) E0 E0 E0) (.tup (.cons (.agg (ca rfl (.cons ⟨DLe.nil,rfl⟩ (.cons ⟨DLe.nil,rfl⟩ .nil)))) (.cons DLe.nil A2)))
 refine A9 (A6 (lr (fun u5 hu5=>sp rfl rfl (sl rfl (gq rfl) rfl (sv rfl (A1 (cc rfl h (fun c2 h=> ?_) (fun c2 h=> ?_))))))))
 refine lr (fun u6 hu6=>sv rfl (sst rfl G_hit [(di 0),(.d .nilS),(.d .nilS)] rfl (sv rfl (sv rfl (A1 (B3 ?_))))))
 cases h
 exact A7 (.inr rfl) (C4h (K0 rfl G_hit (nl rfl) rfl) (B4 rfl) (B4 rfl) E0 E0 E0) (.tup (.cons (.agg (ca rfl (.cons ⟨DLe.nil,rfl⟩ (.cons ⟨DLe.nil,rfl⟩ .nil)))) (.cons DLe.nil A2)))
 refine A9 (A6 (B8z fun u7 hu7=>A16 (.d _) rfl (B2 rfl (gq rfl) rfl rfl) (A16 (.d _) rfl (B2 rfl (gq rfl) rfl rfl) (A16 (.d _) rfl (B2 rfl (gq rfl) rfl rfl) (bs h fun v2 hv2 h=> ?_)))))
 refine t_oc (v:=A4b [(di v2.Tick),(oS v2.Agents (10060030,u7)),(oE v2.In (10060031,u7))]) (us:= [(10060030,u7),(10060031,u7)]) (E0y (C07 _ _ hv2) [] [] _ (((10060031,u7),oB 127 4 N1 v2.In)::(((10060030,u7),oB 45 7 D8 v2.Agents)::_)) rfl B0s rfl A7s trivial (fun _ h=>h) List.nodup_nil (by generalize v2.Agents=x1;generalize v2.In=x2;cases x1<;>cases x2<;>rfl) rfl (D3a (D3a (rfl))) rfl) ?_
 refine A16 (.d _) rfl rfl ?_
 refine A16 (A4b ((A09 p1)++ (N0 p2)++ [(di v2.Tick),(oS v2.Agents (10060030,u7)),(oE v2.In (10060031,u7)),(dl A4 p3),(.d .nilS)])) rfl (by generalize v2.Agents=x1;generalize v2.In=x2;cases x1<;>cases x2<;>rfl) ?_
 refine D31 (.ptr _ _) (.box _ _) rfl (D14 rfl) (A16 (.ptr _ _) rfl rfl (D12 ⟨rfl,?_⟩))
 refine A6 (lr (fun u8 hu8=>sv rfl (sv rfl (A1 (bs h fun y1 hy1 h=>D7 (fun s=> ∃g1:(Nat×Nat× ({d:Nat // d∈ [72,158]}×Nat)),Sb ⟨T [(6,(.ptr (6,u1) 0)),(10,(.ptr (30,u7) 0))],G [((6,u1),some (.box 25 [(di 0),(.d .nilS),(.d .nilS)])),((30,u7),some (.box 135 ((A09 p1)++ (N0 p2)++ [(di v2.Tick),(oS y1.1 (10060030,g1.1)),(oS y1.2.1 (85,g1.2.1)),(dl A4 p3),(oS y1.2.2 (g1.2.2.1.val,g1.2.2.2))]))),((10060030,g1.1),oB 45 7 D8 y1.1),((85,g1.2.1),oB 127 4 N1 y1.2.1),((g1.2.2.1.val,g1.2.2.2),oB 77 6 A4w y1.2.2)]⟩ s) ?_ ?_)))))
 refine A8 (C0o (lr (fun u9 hu9=>sv rfl (A1 (A6 (B8x rfl (A9 (A6 (A8 (lr (fun u10 hu10=>sv rfl (sv rfl (A1 (C8 fun u11 hu11=>sv rfl (sp rfl rfl (bs hy1 fun y2 hy2 hy1=>C1r (fk Tryz.func90 Tryz.ntmps90 m0 (by with_unfolding_all rfl)) (fun (g2:Nat)=> [(6,(.ptr (6,u1) 0)),(10,(.ptr (30,u7) 0)),(31,(.d (.agg [(.fn (.func 90) [] []),(.fn (.func 80) [] []),(.fn (.func 91) [] [])]))),(32,(di 0))]) (fun (g2:Nat)=> [((6,u1),some (.box 25 [(di 0),(.d .nilS),(.d .nilS)])),((30,u7),some (.box 135 ((A09 p1)++ (N0 p2)++ [(di v2.Tick),(oS y2 (10060030,g2)),(oE v2.In (10060031,u7)),(dl A4 p3),(.d .nilS)]))),((10060031,u7),oB 127 4 N1 v2.In),((10060030,g2),oB 45 7 D8 y2)]) rfl (nl rfl) ?_ ?_))))))))))))))))
 unfold B0f at hy2
 refine B5 (s0:=⟨T [(0,(.ptr (30,u7) 0))],G [((30,u7),some (.box 135 ((A09 p1)++ (N0 p2)++ [(di v2.Tick),(oS v2.Agents (10060030,u7)),(oE v2.In (10060031,u7)),(dl A4 p3),(.d .nilS)]))),((10060030,u7),oB 45 7 D8 v2.Agents),((10060031,u7),oB 127 4 N1 v2.In),((6,u1),some (.box 25 [(di 0),(.d .nilS),(.d .nilS)]))]⟩) (H9 ⟨.of rfl,trivial⟩ (B1 G_hit (.of rfl) (B8 (gq rfl) (B8 (gq rfl) (sg rfl trivial))))) ?_
 refine lr (fun u12 hu12=>sp rfl rfl (sp rfl rfl (sp rfl rfl (sp rfl rfl (sl rfl G_hit rfl (sd rfl (E7 rfl) (sv rfl (A1 (bs hy2 fun y3 hy3 hy2=>D7 (fun s=> ∃g3:Nat,Sb ⟨T [],G [((6,u1),some (.box 25 [(di 0),(.d .nilS),(.d .nilS)])),((30,u7),some (.box 135 ((A09 p1)++ (N0 p2)++ [(di v2.Tick),(oS y3 (10060030,g3)),(oE v2.In (10060031,u7)),(dl A4 p3),(.d .nilS)]))),((10060031,u7),oB 127 4 N1 v2.In),((10060030,g3),oB 45 7 D8 y3)]⟩ s) ?_ ?_)))))))))
 refine A8 (F1 (A85 p1 p2 p3) (fun (x1:(Int× (List Agent))) (g4:Nat)=>⟨T [(0,(.ptr (30,u7) 0)),(9,(di (p2.Agents.length:Int))),(10,(di x1.1))],G [((30,u7),some (.box 135 ((A09 p1)++ (N0 p2)++ [(di v2.Tick),(oS x1.2 (10060030,g4)),(oE v2.In (10060031,u7)),(dl A4 p3),(.d .nilS)]))),((6,u1),some (.box 25 [(di 0),(.d .nilS),(.d .nilS)])),((10060031,u7),oB 127 4 N1 v2.In),((10060030,g4),oB 45 7 D8 x1.2)]⟩) (0,v2.Agents) u7 _ hy3 (H9 ⟨.of rfl, .of rfl, .of rfl,trivial⟩ (B1 G_hit (.of rfl) (sg rfl (B8 (gq rfl) (B8 (gq rfl) trivial))))) ?_)
 intro x1 g4 z1 hz1 ez1
 unfold A85 at hz1
 refine lr (fun u13 hu13=>sv rfl (A1 (A6 (cc rfl hz1 (fun c3 hz1=> ?_) (fun c3 hz1=> ?_)))))
 refine A9 (A6 (A8 (lr (fun u14 hu14=>sv rfl (sv rfl (A1 (lr (fun u15 hu15=>sv rfl (A1 (A6 (lr (fun u16 hu16=>sv rfl (sp rfl rfl (sp rfl rfl (sp rfl rfl (sl rfl G_hit rfl (sd rfl (E7 rfl) (sv rfl (A1 (bs hz1 fun y4 hy4 hz1=>D7 (fun s=> ∃g5:Unit,Sb ⟨T [(0,(.ptr (30,u7) 0)),(2,(di x1.1)),(3,(di y4)),(9,(di (p2.Agents.length:Int))),(10,(di x1.1))],G [((30,u7),some (.box 135 ((A09 p1)++ (N0 p2)++ [(di v2.Tick),(oS x1.2 (10060030,g4)),(oE v2.In (10060031,u7)),(dl A4 p3),(.d .nilS)]))),((6,u1),some (.box 25 [(di 0),(.d .nilS),(.d .nilS)])),((10060030,g4),oB 45 7 D8 x1.2),((10060031,u7),oB 127 4 N1 v2.In)]⟩ s) ?_ ?_))))))))))))))))))))
 refine cc rfl hy4 (fun c4 hy4=> ?_) (fun c4 hy4=> ?_)
 refine C8 fun u17 hu17=>sp rfl rfl (sp rfl rfl (sp rfl rfl (sl rfl G_hit rfl (sv rfl (bs hy4 fun v3 hv3 hy4=>sd rfl (E2 rfl rfl hv3 rfl) (sd rfl (D9 rfl hv3 rfl) (sv rfl (A1 ?_))))))))
 obtain rfl:=(Option.some.inj hy4)
 exact l_j ⟨(),(H9 ⟨.of rfl, .of rfl, .of rfl, .of rfl, .of rfl,trivial⟩ (B1 G_hit (.of rfl) (sg rfl (B8 (gq rfl) (B8 (gq rfl) trivial)))))⟩
 refine A9 ?_
 cases hy4
 exact l_j ⟨(),(H9 ⟨.of rfl, .of rfl, .of rfl, .of rfl, .of rfl,trivial⟩ (B1 G_hit (.of rfl) (sg rfl (B8 (gq rfl) (B8 (gq rfl) trivial)))))⟩
 rintro _ ⟨g5,q1⟩
 refine B5 q1 (I0 rfl fun u18 hu18=>sp rfl rfl (sp rfl rfl (sp rfl rfl (sp rfl rfl (C1 (oS x1.2 (10060030,g4)) rfl (Z4 rfl G_hit rfl) (sv rfl (sp rfl rfl (sp rfl rfl (sp rfl rfl (sd rfl (B2 rfl G_hit rfl rfl) (sp rfl rfl (sp rfl rfl (sp rfl rfl (sd rfl (B2 rfl G_hit rfl rfl) (sv rfl (sv rfl (bs hz1 fun v4 hv4 hz1=>B0 rfl rfl A2 (B83 _ _ _ _ _ hv4) (.inl rfl) (bs hz1 fun v5 hv5 hz1=>C1 (.aptr _ _ _ _) rfl (D2z rfl rfl (gq rfl) hv5) ?_))))))))))))))))))
 rw [A3p (B6r hv5)]
 refine B5q D8 _ _ _ (x1.1) _ v4 (D8 v4) rfl rfl rfl (B8y (gq rfl) (B6r hv5)) hv5 (nl rfl) rfl (A1 (G3 (C8 fun u19 hu19=>sv rfl (sv rfl (A1 (G4 ?_))))))
 cases hz1
 exact ⟨rfl,g4,(H9 ⟨.of rfl, .of rfl, .of rfl,trivial⟩ (B1 (gq rfl) (.box (cv (cv (cv (cv (cv (cv (cv (cv (cv (.cons (.of (A3p (C4j (B6r hv5))).symm) cw))))))))))) (sg rfl (B8 (gq rfl) (U5 G_hit trivial)))))⟩
 refine C2 rfl ?_
 cases hz1
 obtain rfl:=ez1 _ rfl
 refine ⟨nofun,B9 rfl (l_j ?_)⟩
 exact ⟨g4,(H9 trivial (sg rfl (B1 G_hit (.of rfl) (B8 (gq rfl) (B8 (gq rfl) trivial)))))⟩
 rintro _ ⟨g3,q2⟩
 refine G4 ?_
 obtain rfl:=(Option.some.inj hy2)
 exact B7t q2 (.inl rfl) g3 ⟨.of rfl, .of rfl, .of rfl, .of rfl,trivial⟩ (B1 G_hit (.of rfl) (sg rfl (B8 (gq rfl) (B8 (gq rfl) trivial))))
 intro g2
 intro u20 hu20
 refine A1 (G3 (C8 fun u21 hu21=>sv rfl (sv rfl (A1 (C0o (lr (fun u22 hu22=>sv rfl (A1 (A6 (B8x rfl (A9 (A6 (A8 (lr (fun u23 hu23=>sv rfl (sv rfl (A1 (C8 fun u24 hu24=>sv rfl (sp rfl rfl (bs hy1 fun y5 hy5 hy1=>C1r (fk Tryz.func80 Tryz.ntmps80 (fun r=>if r==13 then [1007]else []) (by with_unfolding_all rfl)) (fun (g6:Nat)=> [(6,(.ptr (6,u1) 0)),(10,(.ptr (30,u7) 0)),(31,(.d (.agg [(.fn (.func 90) [] []),(.fn (.func 80) [] []),(.fn (.func 91) [] [])]))),(32,(di 1))]) (fun (g6:Nat)=> [((6,u1),some (.box 25 [(di 0),(.d .nilS),(.d .nilS)])),((30,u7),some (.box 135 ((A09 p1)++ (N0 p2)++ [(di v2.Tick),(oS y2 (10060030,g2)),(oS y5 (85,g6)),(dl A4 p3),(.d .nilS)]))),((10060030,g2),oB 45 7 D8 y2),((85,g6),oB 127 4 N1 y5)]) rfl (nl rfl) ?_ ?_))))))))))))))))))))
 unfold B0e at hy5
 refine B5 (s0:=⟨T [(0,(.ptr (30,u7) 0))],G [((30,u7),some (.box 135 ((A09 p1)++ (N0 p2)++ [(di v2.Tick),(oS y2 (10060030,g2)),(oE v2.In (10060031,u7)),(dl A4 p3),(.d .nilS)]))),((10060030,g2),oB 45 7 D8 y2),((10060031,u7),oB 127 4 N1 v2.In),((6,u1),some (.box 25 [(di 0),(.d .nilS),(.d .nilS)]))]⟩) (H9 ⟨.of rfl,trivial⟩ (sg rfl (B8 (gq rfl) (B8 (gq rfl) (B1 G_hit (.of rfl) trivial))))) ?_
 refine lr (fun u25 hu25=>sp rfl rfl (sp rfl rfl (sp rfl rfl (sp rfl rfl (sst rfl G_hit ((A09 p1)++ (N0 p2)++ [(di v2.Tick),(oS y2 (10060030,g2)),(.d .nilS),(dl A4 p3),(.d .nilS)]) rfl (A1 (lr (fun u26 hu26=>sp rfl rfl (sp rfl rfl (sp rfl rfl (sp rfl rfl (sl rfl G_hit rfl (sd rfl (E7 rfl) (sv rfl (A1 (bs hy5 fun y6 hy6 hy5=>D7 (fun s=> ∃g7:Nat,Sb ⟨T [],G [((6,u1),some (.box 25 [(di 0),(.d .nilS),(.d .nilS)])),((30,u7),some (.box 135 ((A09 p1)++ (N0 p2)++ [(di v2.Tick),(oS y2 (10060030,g2)),(oS y6 (85,g7)),(dl A4 p3),(.d .nilS)]))),((10060030,g2),oB 45 7 D8 y2),((85,g7),oB 127 4 N1 y6)]⟩ s) ?_ ?_))))))))))))))))
 refine A8 (F1 (A84 p1 p2 p3 v2 y2) (fun (x2:(Int× (List Stay))) (g8:Nat)=>⟨T [(0,(.ptr (30,u7) 0)),(16,(dl D8 p2.Agents)),(17,(di (p2.Agents.length:Int))),(18,(di x2.1))],G [((30,u7),some (.box 135 ((A09 p1)++ (N0 p2)++ [(di v2.Tick),(oS y2 (10060030,g2)),(oS x2.2 (85,g8)),(dl A4 p3),(.d .nilS)]))),((6,u1),some (.box 25 [(di 0),(.d .nilS),(.d .nilS)])),((10060030,g2),oB 45 7 D8 y2),((85,g8),oB 127 4 N1 x2.2)]⟩) (0,[]) 0 _ hy6 (H9 ⟨.of rfl, .of rfl, .of rfl, .of rfl,trivial⟩ (B1 G_hit (.of rfl) (sg rfl (B8 (gq rfl) (A04 trivial))))) ?_)
 intro x2 g8 z2 hz2 ez2
 unfold A84 at hz2
 refine lr (fun u27 hu27=>sv rfl (A1 (A6 (cc rfl hz2 (fun c5 hz2=> ?_) (fun c5 hz2=> ?_)))))
 refine A9 (A6 (A8 (lr (fun u28 hu28=>sv rfl (bs hz2 fun v6 hv6 hz2=>sd rfl (E2 rfl rfl hv6 rfl) (sd rfl (C3 rfl hv6 rfl rfl) (sn rfl rfl (sv rfl (sst rfl G_hit (V4 v6) rfl (A1 (lr (fun u29 hu29=>sp rfl rfl (sp rfl rfl (sp rfl rfl (sp rfl rfl (sl rfl (gq rfl) rfl (sd rfl (E7 rfl) (sv rfl (A1 (bs hz2 fun y7 hy7 hz2=>D7 (fun s=> ∃g9:Nat,Sb ⟨T [(0,(.ptr (30,u7) 0)),(16,(dl D8 p2.Agents)),(17,(di (p2.Agents.length:Int))),(18,(di x2.1))],G [((30,u7),some (.box 135 ((A09 p1)++ (N0 p2)++ [(di v2.Tick),(oS y2 (10060030,g2)),(oS y7 (85,g9)),(dl A4 p3),(.d .nilS)]))),((6,u1),some (.box 25 [(di 0),(.d .nilS),(.d .nilS)])),((10060030,g2),oB 45 7 D8 y2),((85,g9),oB 127 4 N1 y7)]⟩ s) ?_ ?_))))))))))))))))))))
 refine A8 (F1 (A83 p1 p2 p3 v2 y2 x2 v6) (fun (x3:(Int× (List Stay))) (g10:Nat)=>⟨T [(0,(.ptr (30,u7) 0)),(2,(di x2.1)),(3,(.ptr (3,u28) 0)),(16,(dl D8 p2.Agents)),(17,(di (p2.Agents.length:Int))),(18,(di x2.1)),(28,(di (p1.Zones.length:Int))),(29,(di x3.1))],G [((30,u7),some (.box 135 ((A09 p1)++ (N0 p2)++ [(di v2.Tick),(oS y2 (10060030,g2)),(oS x3.2 (85,g10)),(dl A4 p3),(.d .nilS)]))),((3,u28),some (.box 45 (V4 v6))),((6,u1),some (.box 25 [(di 0),(.d .nilS),(.d .nilS)])),((10060030,g2),oB 45 7 D8 y2),((85,g10),oB 127 4 N1 x3.2)]⟩) (0,x2.2) g8 _ hy7 (H9 ⟨.of rfl, .of rfl, .of rfl, .of rfl, .of rfl, .of rfl, .of rfl, .of rfl,trivial⟩ (sg rfl (B1 G_hit (.of rfl) (sg rfl (B8 (gq rfl) (B8 (gq rfl) trivial)))))) ?_)
 intro x3 g10 z3 hz3 ez3
 unfold A83 at hz3
 refine lr (fun u30 hu30=>sv rfl (A1 (A6 (cc rfl hz3 (fun c6 hz3=> ?_) (fun c6 hz3=> ?_)))))
 refine A9 (A6 (A8 (lr (fun u31 hu31=>sv rfl (sv rfl (A1 (A6 (lr (fun u32 hu32=>sp rfl rfl (sv rfl (sv rfl (bs hz3 fun v7 hv7 hz3=>B0 rfl (D3 (A38 G_hit (rD (rD (rD (rD (rD (rD (rD (rD (rD (D3 (A2r (gq rfl)) (D3 (A2r (gq rfl)) (rD (rD F2)))))))))))))) (rD (rD F2))) (.cons (DLe.bp (ca rfl (ca rfl (ca rfl (ca rfl (ca rfl (ca rfl (ca rfl (ca rfl (ca rfl (.cons ⟨A2q,rfl⟩ (.cons ⟨A2q,rfl⟩ (ca rfl (.cons ⟨DLe.nil,rfl⟩ .nil)))))))))))))) (.cons (.refl _) A2)) (A0u _ _ _ _ hv7) (.inr rfl) (C1 (.d (bo (!v7))) rfl rfl (A1 (cc rfl hz3 (fun c7 hz3=> ?_) (fun c7 hz3=> ?_))))))))))))))))
 refine B7n rfl (C8 fun u33 hu33=>sv rfl (sv rfl (A1 (G4 ?_))))
 cases hz3
 exact ⟨rfl,g10,(H9 ⟨.of rfl, .of rfl, .of rfl, .of rfl, .of rfl, .of rfl, .of rfl, .of rfl,trivial⟩ (B1 G_hit (.of rfl) (sg rfl (sg rfl (B8 (gq rfl) (B8 (gq rfl) trivial))))))⟩
 refine A9 (lr (fun u34 hu34=>sv rfl (sv rfl (sp rfl rfl (sp rfl rfl (sp rfl rfl (sp rfl rfl (sl rfl G_hit rfl (sv rfl (sn rfl rfl (sst rfl G_hit [(di x2.1),(di x3.1),(di p2.Tick),(di 0)] rfl (A1 (A6 (A6 (I0 rfl fun u35 hu35=>sp rfl rfl (sp rfl rfl (sp rfl rfl (sp rfl rfl (sl rfl (gq rfl) rfl (sd rfl (B2 rfl G_hit rfl rfl) (bs hz3 fun v8 hv8 hz3=>B0 rfl rfl A2 (M3 _ _ _ hv8) (.inl rfl) (sv rfl (sv rfl (sv rfl (sv rfl (sv rfl (A1 (lr (fun u36 hu36=>sv rfl (A1 (bs hz3 fun y8 hy8 hz3=>D7 (fun s=> ∃g11:Unit,Sb ⟨T [(0,(.ptr (30,u7) 0)),(2,(di x2.1)),(3,(.ptr (3,u28) 0)),(5,(.ptr (5,u34) 0)),(16,(dl D8 p2.Agents)),(17,(di (p2.Agents.length:Int))),(18,(di x2.1)),(28,(di (p1.Zones.length:Int))),(29,(di x3.1))],G [((30,u7),some (.box 135 ((A09 p1)++ (N0 p2)++ [(di v2.Tick),(oS y2 (10060030,g2)),(oS x3.2 (85,g10)),(dl A4 p3),(.d .nilS)]))),((3,u28),some (.box 45 (V4 v6))),((5,u34),some (.box 127 (C05 y8))),((6,u1),some (.box 25 [(di 0),(.d .nilS),(.d .nilS)])),((10060030,g2),oB 45 7 D8 y2),((85,g10),oB 127 4 N1 x3.2)]⟩ s) ?_ ?_)))))))))))))))))))))))))))))))
 refine cc rfl hy8 (fun c8 hy8=> ?_) (fun c8 hy8=> ?_)
 refine C8 fun u37 hu37=>sp rfl rfl (sp rfl rfl (sp rfl rfl (sp rfl rfl (sl rfl (gq rfl) rfl (sv rfl (bs hy8 fun v9 hv9 hy8=>sd rfl (E2 rfl rfl hv9 rfl) (sd rfl (C3 rfl hv9 rfl rfl) (sst rfl G_hit (C05 v9) rfl (A1 ?_)))))))))
 obtain rfl:=(Option.some.inj hy8)
 exact l_j ⟨(),(H9 ⟨.of rfl, .of rfl, .of rfl, .of rfl, .of rfl, .of rfl, .of rfl, .of rfl, .of rfl,trivial⟩ (sg rfl (sg rfl (B1 G_hit (.of rfl) (sg rfl (B8 (gq rfl) (B8 (gq rfl) trivial)))))))⟩
 refine I0 rfl fun u38 hu38=>sp rfl rfl (sp rfl rfl (sp rfl rfl (sd rfl (B2 rfl (gq rfl) rfl rfl) (sd rfl (B2 rfl (gq rfl) rfl rfl) (sv rfl (sp rfl rfl (sp rfl rfl (sp rfl rfl (sp rfl rfl (sl rfl (gq rfl) rfl (bs hy8 fun v10 hv10 hy8=>B0 rfl rfl A2 (B80 _ _ _ _ _ hv10) (.inl rfl) (sp rfl rfl (sst rfl G_hit [(di x2.1),(di x3.1),(di p2.Tick),(di v10)] rfl (A1 ?_))))))))))))))
 cases hy8
 exact l_j ⟨(),(H9 ⟨.of rfl, .of rfl, .of rfl, .of rfl, .of rfl, .of rfl, .of rfl, .of rfl, .of rfl,trivial⟩ (sg rfl (sg rfl (B1 G_hit (.of rfl) (sg rfl (B8 (gq rfl) (B8 (gq rfl) trivial)))))))⟩
 rintro _ ⟨g11,q3⟩
 refine B5 q3 (I0 rfl fun u39 hu39=>sp rfl rfl (sp rfl rfl (sp rfl rfl (sp rfl rfl (sp rfl rfl (C1 (oS x3.2 (85,g10)) rfl (Z4 rfl G_hit rfl) (sd rfl (B2 rfl (gq rfl) rfl rfl) (C1 (dl N1 [y8]) rfl rfl (bs hz3 fun v11 hv11 hz3=>Z3 N1 (85,g10) x3.2 y8 [] _ (O0 (fun _=>rfl)) rfl (gq rfl) hv11 (sp rfl rfl (sp rfl rfl (sp rfl rfl (sst rfl (gq rfl) ((A09 p1)++ (N0 p2)++ [(di v2.Tick),(oS y2 (10060030,g2)),(.sl (85,u39)),(dl A4 p3),(.d .nilS)]) rfl (A1 (G3 (C8 fun u40 hu40=>sv rfl (sv rfl (A1 (G4 ?_)))))))))))))))))))
 cases hz3
 exact ⟨rfl,u39,(H9 ⟨.of rfl, .of rfl, .of rfl, .of rfl, .of rfl, .of rfl, .of rfl, .of rfl,trivial⟩ (B1 G_hit (.box (cv (cv (cv (cv (cv (cv (cv (cv (cv (cv (.cons (.of (A3p (A21 hv11)).symm) cw)))))))))))) (sg rfl (sg rfl (B8 (gq rfl) (U5 (gq rfl) trivial))))))⟩
 refine C2 rfl ?_
 cases hz3
 obtain rfl:=ez3 _ rfl
 refine ⟨nofun,B9 rfl (l_j ?_)⟩
 exact ⟨g10,(H9 ⟨.of rfl, .of rfl, .of rfl, .of rfl,trivial⟩ (B1 G_hit (.of rfl) (sg rfl (B8 (gq rfl) (B8 (gq rfl) trivial)))))⟩
 rintro _ ⟨g9,q4⟩
 refine G3 (B5 q4 (C8 fun u41 hu41=>sv rfl (sv rfl (A1 (G4 ?_)))))
 cases hz2
 exact ⟨rfl,g9,(H9 ⟨.of rfl, .of rfl, .of rfl, .of rfl,trivial⟩ (B1 G_hit (.of rfl) (sg rfl (B8 (gq rfl) (B8 (gq rfl) trivial)))))⟩
 refine C2 rfl ?_
 cases hz2
 obtain rfl:=ez2 _ rfl
 refine ⟨nofun,B9 rfl (l_j ?_)⟩
 exact ⟨g8,(H9 trivial (sg rfl (B1 G_hit (.of rfl) (B8 (gq rfl) (B8 (gq rfl) trivial)))))⟩
 rintro _ ⟨g7,q5⟩
 refine G4 ?_
 obtain rfl:=(Option.some.inj hy5)
 exact B7t q5 (.inl rfl) g7 ⟨.of rfl, .of rfl, .of rfl, .of rfl,trivial⟩ (B1 G_hit (.of rfl) (sg rfl (B8 (gq rfl) (B8 (gq rfl) trivial))))
 intro g6
 intro u42 hu42
 refine A1 (G3 (C8 fun u43 hu43=>sv rfl (sv rfl (A1 (C0o (lr (fun u44 hu44=>sv rfl (A1 (A6 (B8x rfl (A9 (A6 (A8 (lr (fun u45 hu45=>sv rfl (sv rfl (A1 (C8 fun u46 hu46=>sv rfl (sp rfl rfl (bs hy1 fun y9 hy9 hy1=>C1r (fk Tryz.func91 Tryz.ntmps91 (fun r=>if r==1 then [1]else if r==4 then [3]else if r==5 then [3]else []) (by with_unfolding_all rfl)) (fun (g12:({d:Nat // d∈ [72,158]}×Nat))=> [(6,(.ptr (6,u1) 0)),(10,(.ptr (30,u7) 0)),(31,(.d (.agg [(.fn (.func 90) [] []),(.fn (.func 80) [] []),(.fn (.func 91) [] [])]))),(32,(di 2))]) (fun (g12:({d:Nat // d∈ [72,158]}×Nat))=> [((6,u1),some (.box 25 [(di 0),(.d .nilS),(.d .nilS)])),((30,u7),some (.box 135 ((A09 p1)++ (N0 p2)++ [(di v2.Tick),(oS y2 (10060030,g2)),(oS y5 (85,g6)),(dl A4 p3),(oS y9 (g12.1.val,g12.2))]))),((10060030,g2),oB 45 7 D8 y2),((85,g6),oB 127 4 N1 y5),((g12.1.val,g12.2),oB 77 6 A4w y9)]) rfl (nl rfl) ?_ ?_))))))))))))))))))))
 unfold B0d at hy9
 refine B5 (s0:=⟨T [(0,(.ptr (30,u7) 0))],G [((30,u7),some (.box 135 ((A09 p1)++ (N0 p2)++ [(di v2.Tick),(oS y2 (10060030,g2)),(oS y5 (85,g6)),(dl A4 p3),(.d .nilS)]))),((10060030,g2),oB 45 7 D8 y2),((85,g6),oB 127 4 N1 y5),((6,u1),some (.box 25 [(di 0),(.d .nilS),(.d .nilS)]))]⟩) (H9 ⟨.of rfl,trivial⟩ (sg rfl (B8 (gq rfl) (B8 (gq rfl) (B1 G_hit (.of rfl) trivial))))) ?_
 refine lr (fun u47 hu47=>sn rfl rfl (A1 (lr (fun u48 hu48=>sp rfl (Z4 rfl G_hit rfl) (bs hy9 fun y10 hy10 hy9=>C1r (fk Tryz.func81 Tryz.ntmps81 m0 (by with_unfolding_all rfl)) (fun (g13:{g:Nat // g≠u47})=> [(1,(.ptr (1,u47) 0)),(5,(.fn (.func 174) [] [(.ptr (1,g13.1) 0)]))]) (fun (g13:{g:Nat // g≠u47})=> [((1,u47),some (.box 133 [(.ptr (30,u7) 0)])),((30,u7),some (.box 135 ((A09 p1)++ (N0 p2)++ [(di v2.Tick),(oS y2 (10060030,g2)),(oS y5 (85,g6)),(dl A4 p3),(.d .nilS)]))),((6,u1),some (.box 25 [(di 0),(.d .nilS),(.d .nilS)])),((10060030,g2),oB 45 7 D8 y2),((85,g6),oB 127 4 N1 y5),((1,g13.1),some (.box 133 [(.ptr (30,u7) 0)]))]) rfl (nl rfl) ?_ ?_)))))
 unfold B0c at hy10
 refine B5 (s0:=⟨T [(0,(.ptr (30,u7) 0))],G [((30,u7),some (.box 135 ((A09 p1)++ (N0 p2)++ [(di v2.Tick),(oS y2 (10060030,g2)),(oS y5 (85,g6)),(dl A4 p3),(.d .nilS)]))),((10060030,g2),oB 45 7 D8 y2),((85,g6),oB 127 4 N1 y5),((6,u1),some (.box 25 [(di 0),(.d .nilS),(.d .nilS)])),((1,u47),some (.box 133 [(.ptr (30,u7) 0)]))]⟩) (H9 ⟨.of rfl,trivial⟩ (sg rfl (B8 (gq rfl) (B8 (gq rfl) (sg rfl (B1 G_hit (.of rfl) trivial)))))) ?_
 refine lr (fun u49 hu49=>sn rfl rfl (sv rfl (A1 (lr (fun u50 hu50=>C1 (.fn _ _ _) rfl rfl (C1 (.fn _ _ _) rfl rfl (A1 (B3 ?_))))))))
 cases hy10
 exact C84 (.inr rfl) (D66 (B4 rfl)) ⟨u49,(Ne.symm (C9c (k:=(1,u47)) hu49 (gq rfl)))⟩ ⟨.of rfl, .of rfl,trivial⟩ (B1 (A0z (C9c hu49 (gq rfl)) (gq rfl)) (.of rfl) (sg rfl (sg rfl (B8 (gq rfl) (B8 (gq rfl) (B1 G_hit (.of rfl) trivial))))))
 intro g13
 intro u51 hu51
 refine A1 (bs hy9 fun y11 hy11 hy9=>D7 (fun s=> ∃g14:({d:Nat // d∈ [72,158]}×Nat),Sb ⟨T [],G [((6,u1),some (.box 25 [(di 0),(.d .nilS),(.d .nilS)])),((30,u7),some (.box 135 ((A09 p1)++ (N0 p2)++ [(di v2.Tick),(oS y2 (10060030,g2)),(oS y5 (85,g6)),(dl A4 p3),(oS y11 (g14.1.val,g14.2))]))),((10060030,g2),oB 45 7 D8 y2),((85,g6),oB 127 4 N1 y5),((g14.1.val,g14.2),oB 77 6 A4w y11)]⟩ s) ?_ ?_)
 refine A8 (bs hy11 fun v12 hv12 hy11=>B5 (s0:=⟨T [(1,(.ptr (1,u47) 0)),(5,(.fn (.func 174) [] [(.ptr (1,g13.1) 0)]))],G [((1,u47),some (.box 133 [(.ptr (30,u7) 0)])),((30,u7),some (.box 135 ((A09 p1)++ (N0 p2)++ [(di v2.Tick),(oS y2 (10060030,g2)),(oS y5 (85,g6)),(dl A4 p3),(.d .nilS)]))),((10060030,g2),oB 45 7 D8 y2),((85,g6),oB 127 4 N1 y5),((1,g13.1),some (.box 133 [(.ptr (30,u7) 0)])),((6,u1),some (.box 25 [(di 0),(.d .nilS),(.d .nilS)]))]⟩) (H9 ⟨.of rfl, .of rfl,trivial⟩ (B1 G_hit (.of rfl) (sg rfl (B8 (gq rfl) (B8 (gq rfl) (B1 (A0z g13.2 (gq rfl)) (.of rfl) (sg rfl trivial))))))) ?_)
 refine C9r (.fn (.func 174) [] [(.ptr (1,g13.1) 0)]) (B6w (1,g13.1) (30,u7) p2) C89 v12 (A82 p1 p2 p3 v2 y2 y5) (fun (x4:(List Crash))=>x4) (fun (x4:(List Crash)) (g15:({d:Nat // d∈ [72,158]}×Nat))=> [((1,u47),some (.box 133 [(.ptr (30,u7) 0)])),((1,g13.1),some (.box 133 [(.ptr (30,u7) 0)])),((6,u1),some (.box 25 [(di 0),(.d .nilS),(.d .nilS)])),((30,u7),some (.box 135 ((A09 p1)++ (N0 p2)++ [(di v2.Tick),(oS y2 (10060030,g2)),(oS y5 (85,g6)),(dl A4 p3),(oS x4 (g15.1.val,g15.2))]))),((10060030,g2),oB 45 7 D8 y2),((85,g6),oB 127 4 N1 y5),((g15.1.val,g15.2),oB 77 6 A4w x4)]) [] (⟨72, .head _⟩,0) _ rfl (C3p hv12 _ _) (fun x4 g15 _ _=>⟨A5 rfl (A0z g13.2 G_hit),_,_,_,_,_,_,_,_,_,_,A5 rfl (gq rfl)⟩) (fun _=>rfl) hy11 (H9 trivial (B1 G_hit (.of rfl) (B1 (A0z g13.2 (gq rfl)) (.of rfl) (sg rfl (sg rfl (B8 (gq rfl) (B8 (gq rfl) (A04 trivial)))))))) nofun ?_ ?_
 intro u53 hu53 hku53
 refine ⟨fun x4 g15=>(A5 rfl (A5 rfl (A5 rfl (A5 rfl (A5 rfl (A5 rfl (A5 (neR g15.1.property rfl) rfl))))))),?_⟩
 intro r1 x4 g15 a1 z4 hrr1 hz4 ez4
 unfold A82 at hz4
 show AWL _ _ _ _ _ _ ⟨T [(7,(di a1.2)),(6,(di a1.1)),(1,(.ptr (1,u47) 0)),(5,(.fn (.func 174) [] [(.ptr (1,g13.1) 0)]))],G [((1000000,u53),some (.obj (T [(1,(.ptr (1,u47) 0)),(5,(.fn (.func 174) [] [(.ptr (1,g13.1) 0)]))]) r1)),((1,u47),some (.box 133 [(.ptr (30,u7) 0)])),((1,g13.1),some (.box 133 [(.ptr (30,u7) 0)])),((6,u1),some (.box 25 [(di 0),(.d .nilS),(.d .nilS)])),((30,u7),some (.box 135 ((A09 p1)++ (N0 p2)++ [(di v2.Tick),(oS y2 (10060030,g2)),(oS y5 (85,g6)),(dl A4 p3),(oS x4 (g15.1.val,g15.2))]))),((10060030,g2),oB 45 7 D8 y2),((85,g6),oB 127 4 N1 y5),((g15.1.val,g15.2),oB 77 6 A4w x4)]⟩
 refine lr (fun u54 hu54=>sv rfl (A1 (C8 fun u55 hu55=>sv rfl (A1 (l_j (D2x G_hit ?_))))))
 refine A8 (lr (fun u56 hu56=>sp rfl (Z4 rfl (gq rfl) rfl) (sv rfl (sv rfl (bs hz4 fun y12 hy12 hz4=>C1r (fk Tryz.func183 Tryz.ntmps183 (fun r=>if r==13 then [1014,1016]else []) (by with_unfolding_all rfl)) (fun (g16:({d:Nat // d∈ [72,158]}×Nat))=> [(1,(.ptr (1,u47) 0)),(2,(di a1.1)),(3,(di a1.2))]) (fun (g16:({d:Nat // d∈ [72,158]}×Nat))=> [((1,u47),some (.box 133 [(.ptr (30,u7) 0)])),((6,u1),some (.box 25 [(di 0),(.d .nilS),(.d .nilS)])),((30,u7),some (.box 135 ((A09 p1)++ (N0 p2)++ [(di v2.Tick),(oS y2 (10060030,g2)),(oS y5 (85,g6)),(dl A4 p3),(oS y12 (g16.1.val,g16.2))]))),((1,g13.1),some (.box 133 [(.ptr (30,u7) 0)])),((1000000,u53),some (.obj (T [(1,(.ptr (1,u47) 0)),(5,(.fn (.func 174) [] [(.ptr (1,g13.1) 0)]))]) {r1 with state:= .busy})),((10060030,g2),oB 45 7 D8 y2),((85,g6),oB 127 4 N1 y5),((g16.1.val,g16.2),oB 77 6 A4w y12)]) rfl (nl rfl) ?_ ?_)))))
 unfold B0b at hy12
 refine B5 (s0:=⟨T [(0,(.ptr (30,u7) 0)),(1,(di a1.1)),(2,(di a1.2))],G [((30,u7),some (.box 135 ((A09 p1)++ (N0 p2)++ [(di v2.Tick),(oS y2 (10060030,g2)),(oS y5 (85,g6)),(dl A4 p3),(oS x4 (g15.1.val,g15.2))]))),((10060030,g2),oB 45 7 D8 y2),((85,g6),oB 127 4 N1 y5),((g15.1.val,g15.2),oB 77 6 A4w x4),((6,u1),some (.box 25 [(di 0),(.d .nilS),(.d .nilS)])),((1,u47),some (.box 133 [(.ptr (30,u7) 0)])),((1,g13.1),some (.box 133 [(.ptr (30,u7) 0)])),((1000000,u53),some (.obj (T [(1,(.ptr (1,u47) 0)),(5,(.fn (.func 174) [] [(.ptr (1,g13.1) 0)]))]) {r1 with state:= .busy}))]⟩) (H9 ⟨.of rfl, .of rfl, .of rfl,trivial⟩ (sg rfl (B8 (gq rfl) (B8 (gq rfl) (B8 (A5 (neL g15.1.property rfl) (A5 (neL g15.1.property rfl) (A5 (neL g15.1.property rfl) (A5 (neL g15.1.property rfl) (A5 (neL g15.1.property rfl) (A5 (neL g15.1.property rfl) (A5 (neL g15.1.property rfl) (A5 (neL g15.1.property rfl) G_hit)))))))) (sg rfl (sg rfl (B1 (A5 rfl (A5 rfl (A0z g13.2 G_hit))) (.of rfl) (B1 G_hit (.of rfl) trivial))))))))) ?_
 refine lr (fun u57 hu57=>sp rfl rfl (sp rfl rfl (sp rfl rfl (sp rfl rfl (sl rfl G_hit rfl (sd rfl (E7 rfl) (sv rfl (A1 (js hy12 fun z5 hz5 hy12=>D7 (fun s=> ∃(y13:Unit) (g17:Unit),z5= .inl y13∧Sb ⟨T [],G [((6,u1),some (.box 25 [(di 0),(.d .nilS),(.d .nilS)])),((30,u7),some (.box 135 ((A09 p1)++ (N0 p2)++ [(di v2.Tick),(oS y2 (10060030,g2)),(oS y5 (85,g6)),(dl A4 p3),(oS x4 (g15.1.val,g15.2))]))),((1,u47),some (.box 133 [(.ptr (30,u7) 0)])),((1,g13.1),some (.box 133 [(.ptr (30,u7) 0)])),((1000000,u53),some (.obj (T [(1,(.ptr (1,u47) 0)),(5,(.fn (.func 174) [] [(.ptr (1,g13.1) 0)]))]) {r1 with state:= .busy})),((10060030,g2),oB 45 7 D8 y2),((85,g6),oB 127 4 N1 y5),((g15.1.val,g15.2),oB 77 6 A4w x4)]⟩ s) ?_ ?_)))))))))
 refine A8 (F1 (A6s p1 p2 p3 v2 y2 y5 x4 a1) (fun (x5:Int) (g18:Unit)=>⟨T [(0,(.ptr (30,u7) 0)),(1,(di a1.1)),(2,(di a1.2)),(22,(di (p1.Lanes.length:Int))),(23,(di x5))],G [((30,u7),some (.box 135 ((A09 p1)++ (N0 p2)++ [(di v2.Tick),(oS y2 (10060030,g2)),(oS y5 (85,g6)),(dl A4 p3),(oS x4 (g15.1.val,g15.2))]))),((6,u1),some (.box 25 [(di 0),(.d .nilS),(.d .nilS)])),((1,u47),some (.box 133 [(.ptr (30,u7) 0)])),((1,g13.1),some (.box 133 [(.ptr (30,u7) 0)])),((1000000,u53),some (.obj (T [(1,(.ptr (1,u47) 0)),(5,(.fn (.func 174) [] [(.ptr (1,g13.1) 0)]))]) {r1 with state:= .busy})),((10060030,g2),oB 45 7 D8 y2),((85,g6),oB 127 4 N1 y5),((g15.1.val,g15.2),oB 77 6 A4w x4)]⟩) 0 () _ hz5 (H9 ⟨.of rfl, .of rfl, .of rfl, .of rfl, .of rfl,trivial⟩ (B1 G_hit (.of rfl) (B1 (A5 rfl (A5 rfl (A5 rfl (A5 (neR g15.1.property rfl) G_hit)))) (.of rfl) (B1 (A5 rfl (A5 rfl (A5 rfl (A5 (neR g15.1.property rfl) (gq rfl))))) (.of rfl) (B1 (A5 rfl (A5 rfl (A5 rfl (A5 (neR g15.1.property rfl) (A5 rfl (A0z g13.2 G_hit)))))) (.of rfl) (B1 (A5 rfl (A5 rfl (A5 rfl (A5 (neR g15.1.property rfl) (gq rfl))))) (.of rfl) (B8 (gq rfl) (B8 (gq rfl) (B8 (A5 (neL g15.1.property rfl) (A5 (neL g15.1.property rfl) (A5 (neL g15.1.property rfl) G_hit))) trivial))))))))) ?_)
 intro x5 g18 z6 hz6 ez6
 unfold A6s at hz6
 refine lr (fun u58 hu58=>sv rfl (A1 (A6 (cc rfl hz6 (fun c9 hz6=> ?_) (fun c9 hz6=> ?_)))))
 refine A9 (A6 (A8 (lr (fun u59 hu59=>sv rfl (sv rfl (A1 (lr (fun u60 hu60=>sp rfl rfl (sv rfl (sv rfl (bs hz6 fun v13 hv13 hz6=>B0 rfl (D3 (A38 G_hit (rD (rD (rD (rD (rD (rD (rD (rD (rD (D3 (A2r (gq rfl)) (D3 (A2r (gq rfl)) (rD (D3 (A2r (A5 (neL g15.1.property rfl) (A5 (neL g15.1.property rfl) (A5 (neL g15.1.property rfl) (A5 (neL g15.1.property rfl) (A5 (neL g15.1.property rfl) (A5 (neL g15.1.property rfl) (A5 (neL g15.1.property rfl) G_hit)))))))) F2)))))))))))))) (rD (rD F2))) (.cons (DLe.bp (ca rfl (ca rfl (ca rfl (ca rfl (ca rfl (ca rfl (ca rfl (ca rfl (ca rfl (.cons ⟨A2q,rfl⟩ (.cons ⟨A2q,rfl⟩ (ca rfl (.cons ⟨A2q,rfl⟩ .nil)))))))))))))) (.cons (.refl _) A2)) (A8m _ _ _ _ hv13) (.inr rfl) (sv rfl (sv rfl (sv rfl (sv rfl (sv rfl (A1 (lr (fun u61 hu61=>sp rfl rfl (sv rfl (sv rfl (bs hz6 fun v14 hv14 hz6=>B0 rfl (D3 (A38 G_hit (rD (rD (rD (rD (rD (rD (rD (rD (rD (D3 (A2r (gq rfl)) (D3 (A2r (gq rfl)) (rD (D3 (A2r (A5 (neL g15.1.property rfl) (A5 (neL g15.1.property rfl) (A5 (neL g15.1.property rfl) (A5 (neL g15.1.property rfl) (A5 (neL g15.1.property rfl) (A5 (neL g15.1.property rfl) (A5 (neL g15.1.property rfl) G_hit)))))))) F2)))))))))))))) (rD (rD F2))) (.cons (DLe.bp (ca rfl (ca rfl (ca rfl (ca rfl (ca rfl (ca rfl (ca rfl (ca rfl (ca rfl (.cons ⟨A2q,rfl⟩ (.cons ⟨A2q,rfl⟩ (ca rfl (.cons ⟨A2q,rfl⟩ .nil)))))))))))))) (.cons (.refl _) A2)) (A8m _ _ _ _ hv14) (.inr rfl) (sv rfl (sv rfl (sv rfl (sv rfl (sv rfl (A1 (A6 (lr (fun u62 hu62=>sv rfl (C1 (.d (bo (!v13.2))) rfl rfl (sv rfl (gf rfl (fun _=>rfl) ?_))))))))))))))))))))))))))))))))))
 refine A01 _ (.d (bo (!v14.2))) rfl (T8 rfl) (fun w2=>(by simp only [A3 w2];rfl)) ?_
 refine sd rfl (A0s rfl rfl (fun hc=>A3 (K9 hc))) (A1 (cc rfl hz6 (fun c10 hz6=> ?_) (fun c10 hz6=> ?_)))
 refine B7n rfl (C8 fun u63 hu63=>sv rfl (sv rfl (A1 (G4 ?_))))
 cases hz6
 exact ⟨rfl,(),(H9 ⟨.of rfl, .of rfl, .of rfl, .of rfl, .of rfl,trivial⟩ (B1 G_hit (.of rfl) (sg rfl (sg rfl (B1 (A5 rfl (A5 rfl (A0z g13.2 G_hit))) (.of rfl) (sg rfl (B8 (gq rfl) (B8 (gq rfl) (B8 (A5 (neL g15.1.property rfl) (A5 (neL g15.1.property rfl) (A5 (neL g15.1.property rfl) (A5 (neL g15.1.property rfl) (A5 (neL g15.1.property rfl) (A5 (neL g15.1.property rfl) (A5 (neL g15.1.property rfl) G_hit))))))) trivial)))))))))⟩
 refine A9 (lr (fun u64 hu64=>sv rfl (sv rfl (sv rfl (sv rfl (A1 (A6 (A6 (I0 rfl fun u65 hu65=>sp rfl rfl (sp rfl rfl (sp rfl rfl (sp rfl rfl (sl rfl G_hit rfl (sv rfl (bs hz6 fun v15 hv15 hz6=>sd rfl (E2 rfl rfl hv15 rfl) (sv rfl (sd rfl (D9 rfl hv15 rfl) (sv rfl (sv rfl (sp rfl rfl (sp rfl rfl (sp rfl rfl (sp rfl rfl (sl rfl G_hit rfl (sv rfl (bs hz6 fun v16 hv16 hz6=>sd rfl (E2 rfl rfl hv16 rfl) (sv rfl (sd rfl (D9 rfl hv16 rfl) (sv rfl (sv rfl (sv rfl (A1 (bs hz6 fun y14 hy14 hz6=>D7 (fun s=> ∃g19:Unit,Sb ⟨T [(0,(.ptr (30,u7) 0)),(1,(di a1.1)),(2,(di a1.2)),(6,(di x5)),(7,(di y14.1)),(9,(di y14.2.1)),(11,(di y14.2.2.1)),(12,(di y14.2.2.2)),(22,(di (p1.Lanes.length:Int))),(23,(di x5))],G [((30,u7),some (.box 135 ((A09 p1)++ (N0 p2)++ [(di v2.Tick),(oS y2 (10060030,g2)),(oS y5 (85,g6)),(dl A4 p3),(oS x4 (g15.1.val,g15.2))]))),((6,u1),some (.box 25 [(di 0),(.d .nilS),(.d .nilS)])),((1,u47),some (.box 133 [(.ptr (30,u7) 0)])),((1,g13.1),some (.box 133 [(.ptr (30,u7) 0)])),((1000000,u53),some (.obj (T [(1,(.ptr (1,u47) 0)),(5,(.fn (.func 174) [] [(.ptr (1,g13.1) 0)]))]) {r1 with state:= .busy})),((10060030,g2),oB 45 7 D8 y2),((85,g6),oB 127 4 N1 y5),((g15.1.val,g15.2),oB 77 6 A4w x4)]⟩ s) ?_ ?_)))))))))))))))))))))))))))))))))
 refine cc rfl hy14 (fun c11 hy14=> ?_) (fun c11 hy14=> ?_)
 refine C8 fun u66 hu66=>sv rfl (sv rfl (sv rfl (sv rfl (sv rfl (sv rfl (sv rfl (sv rfl (A1 ?_))))))))
 cases hy14
 exact l_j ⟨(),(H9 ⟨.of rfl, .of rfl, .of rfl, .of rfl, .of rfl, .of rfl, .of rfl, .of rfl, .of rfl, .of rfl,trivial⟩ (B1 G_hit (.of rfl) (sg rfl (sg rfl (B1 (A5 rfl (A5 rfl (A0z g13.2 G_hit))) (.of rfl) (sg rfl (B8 (gq rfl) (B8 (gq rfl) (B8 (A5 (neL g15.1.property rfl) (A5 (neL g15.1.property rfl) (A5 (neL g15.1.property rfl) (A5 (neL g15.1.property rfl) (A5 (neL g15.1.property rfl) (A5 (neL g15.1.property rfl) (A5 (neL g15.1.property rfl) G_hit))))))) trivial)))))))))⟩
 refine A9 ?_
 cases hy14
 exact l_j ⟨(),(H9 ⟨.of rfl, .of rfl, .of rfl, .of rfl, .of rfl, .of rfl, .of rfl, .of rfl, .of rfl, .of rfl,trivial⟩ (B1 G_hit (.of rfl) (sg rfl (sg rfl (B1 (A5 rfl (A5 rfl (A0z g13.2 G_hit))) (.of rfl) (sg rfl (B8 (gq rfl) (B8 (gq rfl) (B8 (A5 (neL g15.1.property rfl) (A5 (neL g15.1.property rfl) (A5 (neL g15.1.property rfl) (A5 (neL g15.1.property rfl) (A5 (neL g15.1.property rfl) (A5 (neL g15.1.property rfl) (A5 (neL g15.1.property rfl) G_hit))))))) trivial)))))))))⟩
 rintro _ ⟨g19,q6⟩
 refine B5 q6 (A6 (I0 rfl fun u67 hu67=>sp rfl rfl (sp rfl rfl (sp rfl rfl (sp rfl rfl (C1 (oS y2 (10060030,g2)) rfl (Z4 rfl G_hit rfl) (sv rfl (bs hz6 fun v17 hv17 hz6=>C1 (.aptr _ _ _ _) rfl (D2z rfl rfl (gq rfl) hv17) (sd rfl (B5r rfl (B8y (gq rfl) (B6r hv17)) hv17 rfl rfl) (bs hz6 fun v18 hv18 hz6=>B0 rfl rfl A2 (A5x _ _ hv18) (.inl rfl) (sv rfl (bs hz6 fun v19 hv19 hz6=>B0 rfl rfl A2 (A4z _ _ _ hv19) (.inl rfl) (sp rfl rfl (sp rfl rfl (sp rfl rfl (sp rfl rfl (C1 (oS y2 (10060030,g2)) rfl (Z4 rfl G_hit rfl) (sv rfl (bs hz6 fun v20 hv20 hz6=>C1 (.aptr _ _ _ _) rfl (D2z rfl rfl (gq rfl) hv20) (sd rfl (B5r rfl (B8y (gq rfl) (B6r hv20)) hv20 rfl rfl) (bs hz6 fun v21 hv21 hz6=>B0 rfl rfl A2 (A5x _ _ hv21) (.inl rfl) (sv rfl (bs hz6 fun v22 hv22 hz6=>B0 rfl rfl A2 (A4z _ _ _ hv22) (.inl rfl) (sn rfl rfl (sn rfl rfl (sst rfl (gq rfl) [(di v19.from_),(di v19.to)] rfl (sst rfl (gq rfl) [(di v22.from_),(di v22.to)] rfl (A1 (lr (fun u68 hu68=>sp rfl rfl (sp rfl rfl (sp rfl rfl (sp rfl rfl (sl rfl (gq rfl) rfl (sv rfl (bs hz6 fun v23 hv23 hz6=>sd rfl (E2 rfl rfl hv23 rfl) (sd rfl (C3 rfl hv23 rfl rfl) (bs hz6 fun v24 hv24 hz6=>B0 rfl rfl A2 (A5x _ _ hv24) (.inl rfl) (sv rfl (bs hz6 fun v25 hv25 hz6=>B0 rfl rfl A2 (A4z _ _ _ hv25) (.inl rfl) (sn rfl rfl (sst rfl G_hit [(di v25.from_),(di v25.to)] rfl (A1 (lr (fun u69 hu69=>sp rfl rfl (sp rfl rfl (sp rfl rfl ?_)))))))))))))))))))))))))))))))))))))))))))))))
 refine sd rfl (B2 rfl (gq rfl) rfl rfl) (sv rfl (bs hz6 fun v26 hv26 hz6=>B0 rfl rfl A2 (B14 _ _ _ hv26) (.inl rfl) (sv rfl (A1 (lr (fun u70 hu70=>sp rfl rfl (sl rfl (gq rfl) rfl (sv rfl (sv rfl (gp rfl (A0d rfl) (fun _=>rfl) (gt rfl (vl rfl (gq rfl) rfl) (gt rfl (vb rfl rfl rfl) (sa rfl rfl rfl (sv rfl (gp rfl (A0d rfl) (fun _=>rfl) (gt rfl (vl rfl G_hit rfl) (gt rfl (fun _=>rfl) (gt rfl (fun w9=>(S3 (A3 w9) (A3 w9) rfl)) (sa rfl rfl rfl (sv rfl (gp rfl (A0d rfl) (fun _=>rfl) (gt rfl (vl rfl (gq rfl) rfl) (gt rfl (fun _=>rfl) (gt rfl (fun w13=>(S3 (A3 w13) (A3 w13) rfl)) (sa rfl rfl rfl (sv rfl (gp rfl (A0d rfl) (fun _=>rfl) (gt rfl (vl rfl (gq rfl) rfl) (gp rfl (A0d rfl) (fun _=>rfl) (gt rfl (vl rfl (gq rfl) rfl) (gt rfl (fun w18=>(S3 (A3 w18) (A3 w18) rfl)) (sa rfl rfl rfl (A1 (cc rfl hz6 (fun c12 hz6=> ?_) (fun c12 hz6=> ?_)))))))))))))))))))))))))))))))))))
 refine A6 (B5 (s0:=⟨T [(0,(.ptr (30,u7) 0)),(1,(di a1.1)),(2,(di a1.2)),(6,(di x5)),(12,(di y14.2.2.2))],G [((30,u7),some (.box 135 ((A09 p1)++ (N0 p2)++ [(di v2.Tick),(oS y2 (10060030,g2)),(oS y5 (85,g6)),(dl A4 p3),(oS x4 (g15.1.val,g15.2))]))),((10060030,g2),oB 45 7 D8 y2),((85,g6),oB 127 4 N1 y5),((g15.1.val,g15.2),oB 77 6 A4w x4),((6,u1),some (.box 25 [(di 0),(.d .nilS),(.d .nilS)])),((1,u47),some (.box 133 [(.ptr (30,u7) 0)])),((1,g13.1),some (.box 133 [(.ptr (30,u7) 0)])),((1000000,u53),some (.obj (T [(1,(.ptr (1,u47) 0)),(5,(.fn (.func 174) [] [(.ptr (1,g13.1) 0)]))]) {r1 with state:= .busy}))]⟩) (H9 ⟨.of rfl, .of rfl, .of rfl, .of rfl, .of rfl,trivial⟩ (sg rfl (B8 (gq rfl) (B8 (gq rfl) (B8 (A5 (neL g15.1.property rfl) (A5 (neL g15.1.property rfl) (A5 (neL g15.1.property rfl) (A5 (neL g15.1.property rfl) (A5 (neL g15.1.property rfl) (A5 (neL g15.1.property rfl) (A5 (neL g15.1.property rfl) (A5 (neL g15.1.property rfl) (A5 (neL g15.1.property rfl) (A5 (neL g15.1.property rfl) (A5 (neL g15.1.property rfl) (A5 (neL g15.1.property rfl) (A5 (neL g15.1.property rfl) G_hit))))))))))))) (sg rfl (sg rfl (B1 (A5 rfl (A5 rfl (A5 rfl (A5 rfl (A5 rfl (A5 rfl (A5 rfl (A5 rfl (A0z g13.2 G_hit))))))))) (.of rfl) (sg rfl trivial))))))))) ?_)
 refine I0 rfl fun u71 hu71=>sp rfl rfl (sp rfl rfl (sp rfl rfl (sp rfl rfl (C1 (oS x4 (g15.1.val,g15.2)) rfl (Z4 rfl G_hit rfl) (sp rfl rfl (sp rfl rfl (sp rfl rfl (sp rfl rfl (sl rfl G_hit rfl (sv rfl (sv rfl (sv rfl (sv rfl (C1 (dl A4 [y14.2.2.2]) rfl rfl (sv rfl (C1 (dl A4w [(Crash.mk p2.Tick a1.1 a1.2 x5 (-1) [y14.2.2.2])]) rfl rfl (bs hz6 fun v27 hv27 hz6=>Z3 A4w (g15.1.val,g15.2) x4 (Crash.mk p2.Tick a1.1 a1.2 x5 (-1) [y14.2.2.2]) [] _ (O0 (fun _=>rfl)) rfl (A5 (neL g15.1.property rfl) (A5 (neL g15.1.property rfl) (A5 (neL g15.1.property rfl) G_hit))) hv27 (sp rfl rfl (sp rfl rfl (A9o _ _ _ _ _ rfl rfl rfl (A5 rfl (A5 (neR g15.1.property rfl) G_hit)) (nl rfl) ((A09 p1)++ (N0 p2)++ [(di v2.Tick),(oS y2 (10060030,g2)),(oS y5 (85,g6)),(dl A4 p3),(.sl (158,u71))]) rfl (A1 (B3 ?_))))))))))))))))))))))
 cases hz6
 obtain rfl:=ez6 _ rfl
 refine ⟨nofun,E1 ?_⟩
 rw [Sum.elim_inr]at hy12
 cases hy12
 exact C84 (.inr rfl) (E1u) (⟨158, .tail _ (.head _)⟩,u71) ⟨.of rfl, .of rfl, .of rfl,trivial⟩ (B1 (A5 rfl (A5 rfl (A5 (neR g15.1.property rfl) (A5 rfl (A5 rfl (A5 rfl (A5 (neR g15.1.property rfl) (gq rfl)))))))) (.of rfl) (B1 (A5 rfl (A5 rfl (A5 (neR g15.1.property rfl) (A5 rfl (A5 rfl (A5 rfl (A5 (neR g15.1.property rfl) G_hit))))))) (.of rfl) (B1 G_hit (.box (cv (cv (cv (cv (cv (cv (cv (cv (cv (cv (cv (cv (.cons (.of (A3p (A21 hv27)).symm) .nil)))))))))))))) (B1 (A5 rfl (A5 rfl (A5 (neR g15.1.property rfl) (A5 rfl (A5 rfl (A5 rfl (A5 (neR g15.1.property rfl) (A5 rfl (A0z g13.2 G_hit))))))))) (.of rfl) (B1 (A5 rfl (A5 rfl (A5 (neR g15.1.property rfl) (A5 rfl (A5 rfl (A5 rfl (A5 (neR g15.1.property rfl) (gq rfl)))))))) (.of rfl) (B8 (A5 rfl (A5 rfl (A5 (neR g15.1.property rfl) (gq rfl)))) (B8 (A5 rfl (A5 rfl (A5 (neR g15.1.property rfl) (gq rfl)))) (U5 (gq rfl) trivial))))))))
 refine A9 (G3 (B5 (s0:=⟨T [(0,(.ptr (30,u7) 0)),(1,(di a1.1)),(2,(di a1.2)),(22,(di (p1.Lanes.length:Int))),(23,(di x5))],G [((30,u7),some (.box 135 ((A09 p1)++ (N0 p2)++ [(di v2.Tick),(oS y2 (10060030,g2)),(oS y5 (85,g6)),(dl A4 p3),(oS x4 (g15.1.val,g15.2))]))),((10060030,g2),oB 45 7 D8 y2),((85,g6),oB 127 4 N1 y5),((g15.1.val,g15.2),oB 77 6 A4w x4),((6,u1),some (.box 25 [(di 0),(.d .nilS),(.d .nilS)])),((1,u47),some (.box 133 [(.ptr (30,u7) 0)])),((1,g13.1),some (.box 133 [(.ptr (30,u7) 0)])),((1000000,u53),some (.obj (T [(1,(.ptr (1,u47) 0)),(5,(.fn (.func 174) [] [(.ptr (1,g13.1) 0)]))]) {r1 with state:= .busy}))]⟩) (H9 ⟨.of rfl, .of rfl, .of rfl, .of rfl, .of rfl,trivial⟩ (sg rfl (B8 (gq rfl) (B8 (gq rfl) (B8 (A5 (neL g15.1.property rfl) (A5 (neL g15.1.property rfl) (A5 (neL g15.1.property rfl) (A5 (neL g15.1.property rfl) (A5 (neL g15.1.property rfl) (A5 (neL g15.1.property rfl) (A5 (neL g15.1.property rfl) (A5 (neL g15.1.property rfl) (A5 (neL g15.1.property rfl) (A5 (neL g15.1.property rfl) (A5 (neL g15.1.property rfl) (A5 (neL g15.1.property rfl) (A5 (neL g15.1.property rfl) G_hit))))))))))))) (sg rfl (sg rfl (B1 (A5 rfl (A5 rfl (A5 rfl (A5 rfl (A5 rfl (A5 rfl (A5 rfl (A5 rfl (A0z g13.2 G_hit))))))))) (.of rfl) (sg rfl trivial))))))))) ?_))
 refine C8 fun u72 hu72=>sv rfl (sv rfl (A1 (G4 ?_)))
 cases hz6
 exact ⟨rfl,(),(H9 ⟨.of rfl, .of rfl, .of rfl, .of rfl, .of rfl,trivial⟩ (B1 G_hit (.of rfl) (B1 (A5 rfl (A5 rfl (A5 rfl (A5 (neR g15.1.property rfl) G_hit)))) (.of rfl) (B1 (A5 rfl (A5 rfl (A5 rfl (A5 (neR g15.1.property rfl) (gq rfl))))) (.of rfl) (B1 (A5 rfl (A5 rfl (A5 rfl (A5 (neR g15.1.property rfl) (A5 rfl (A0z g13.2 G_hit)))))) (.of rfl) (B1 (A5 rfl (A5 rfl (A5 rfl (A5 (neR g15.1.property rfl) (gq rfl))))) (.of rfl) (B8 (gq rfl) (B8 (gq rfl) (B8 (A5 (neL g15.1.property rfl) (A5 (neL g15.1.property rfl) (A5 (neL g15.1.property rfl) G_hit))) trivial)))))))))⟩
 refine C2 rfl ?_
 cases hz6
 obtain rfl:=ez6 _ rfl
 refine ⟨nofun,B9 rfl (l_j ?_)⟩
 exact ⟨_,(),rfl,(H9 trivial (sg rfl (B1 G_hit (.of rfl) (sg rfl (B1 (A5 rfl (A5 rfl (A0z g13.2 G_hit))) (.of rfl) (sg rfl (B8 (gq rfl) (B8 (gq rfl) (B8 (A5 (neL g15.1.property rfl) (A5 (neL g15.1.property rfl) (A5 (neL g15.1.property rfl) (A5 (neL g15.1.property rfl) (A5 (neL g15.1.property rfl) (A5 (neL g15.1.property rfl) (A5 (neL g15.1.property rfl) G_hit))))))) trivial)))))))))⟩
 rintro _ ⟨y13,g17,rfl,q7⟩
 rw [Sum.elim_inl]at hy12
 refine G4 ?_
 obtain rfl:=(Option.some.inj hy12)
 exact B7t q7 (.inl rfl) (g15.1,g15.2) ⟨.of rfl, .of rfl, .of rfl,trivial⟩ (sg rfl (B1 G_hit (.of rfl) (sg rfl (B1 (A5 rfl (A5 rfl (A0z g13.2 G_hit))) (.of rfl) (sg rfl (B8 (gq rfl) (B8 (gq rfl) (B8 (A5 (neL g15.1.property rfl) (A5 (neL g15.1.property rfl) (A5 (neL g15.1.property rfl) (A5 (neL g15.1.property rfl) (A5 (neL g15.1.property rfl) (A5 (neL g15.1.property rfl) (A5 (neL g15.1.property rfl) G_hit))))))) trivial))))))))
 intro g16
 intro u73 hu73
 refine A1 (C8 fun u74 hu74=>sp rfl (Z4 rfl G_hit rfl) (sv rfl (sv rfl (bs hz4 fun y15 hy15 hz4=>C1r (fk Tryz.func184 Tryz.ntmps184 (fun r=>if r==5 then [1002]else if r==6 then [1010]else if r==8 then [1001]else if r==10 then [1001]else if r==11 then [1015]else []) (by with_unfolding_all rfl)) (fun (g20:({d:Nat // d∈ [72,158]}×Nat))=> []) (fun (g20:({d:Nat // d∈ [72,158]}×Nat))=> [((6,u1),some (.box 25 [(di 0),(.d .nilS),(.d .nilS)])),((30,u7),some (.box 135 ((A09 p1)++ (N0 p2)++ [(di v2.Tick),(oS y2 (10060030,g2)),(oS y5 (85,g6)),(dl A4 p3),(oS y15 (g20.1.val,g20.2))]))),((1,u47),some (.box 133 [(.ptr (30,u7) 0)])),((1,g13.1),some (.box 133 [(.ptr (30,u7) 0)])),((1000000,u53),some (.obj (T [(1,(.ptr (1,u47) 0)),(5,(.fn (.func 174) [] [(.ptr (1,g13.1) 0)]))]) {r1 with state:= .busy})),((10060030,g2),oB 45 7 D8 y2),((85,g6),oB 127 4 N1 y5),((g20.1.val,g20.2),oB 77 6 A4w y15)]) rfl (nl rfl) ?_ ?_))))
 unfold A91 at hy15
 refine B5 (s0:=⟨T [(0,(.ptr (30,u7) 0)),(1,(di a1.1)),(2,(di a1.2))],G [((30,u7),some (.box 135 ((A09 p1)++ (N0 p2)++ [(di v2.Tick),(oS y2 (10060030,g2)),(oS y5 (85,g6)),(dl A4 p3),(oS y12 (g16.1.val,g16.2))]))),((10060030,g2),oB 45 7 D8 y2),((85,g6),oB 127 4 N1 y5),((g16.1.val,g16.2),oB 77 6 A4w y12),((6,u1),some (.box 25 [(di 0),(.d .nilS),(.d .nilS)])),((1,u47),some (.box 133 [(.ptr (30,u7) 0)])),((1,g13.1),some (.box 133 [(.ptr (30,u7) 0)])),((1000000,u53),some (.obj (T [(1,(.ptr (1,u47) 0)),(5,(.fn (.func 174) [] [(.ptr (1,g13.1) 0)]))]) {r1 with state:= .busy}))]⟩) (H9 ⟨.of rfl, .of rfl, .of rfl,trivial⟩ (sg rfl (B8 (gq rfl) (B8 (gq rfl) (B8 (A5 (neL g16.1.property rfl) (A5 (neL g16.1.property rfl) (A5 (neL g16.1.property rfl) (A5 (neL g16.1.property rfl) (A5 (neL g16.1.property rfl) (A5 (neL g16.1.property rfl) (A5 (neL g16.1.property rfl) G_hit))))))) (sg rfl (B1 G_hit (.of rfl) (B1 (A0z g13.2 (gq rfl)) (.of rfl) (sg rfl trivial))))))))) ?_
 refine lr (fun u75 hu75=>sp rfl rfl (sp rfl rfl (sp rfl rfl (sp rfl rfl (sl rfl G_hit rfl (sd rfl (E7 rfl) (sv rfl (A1 (bs hy15 fun y16 hy16 hy15=>D7 (fun s=> ∃g21:({d:Nat // d∈ [72,158]}×Nat),Sb ⟨T [],G [((6,u1),some (.box 25 [(di 0),(.d .nilS),(.d .nilS)])),((30,u7),some (.box 135 ((A09 p1)++ (N0 p2)++ [(di v2.Tick),(oS y2 (10060030,g2)),(oS y5 (85,g6)),(dl A4 p3),(oS y16 (g21.1.val,g21.2))]))),((1,u47),some (.box 133 [(.ptr (30,u7) 0)])),((1,g13.1),some (.box 133 [(.ptr (30,u7) 0)])),((1000000,u53),some (.obj (T [(1,(.ptr (1,u47) 0)),(5,(.fn (.func 174) [] [(.ptr (1,g13.1) 0)]))]) {r1 with state:= .busy})),((10060030,g2),oB 45 7 D8 y2),((85,g6),oB 127 4 N1 y5),((g21.1.val,g21.2),oB 77 6 A4w y16)]⟩ s) ?_ ?_)))))))))
 refine A8 (F1 (A6r p1 p2 p3 v2 y2 y5 a1) (fun (x6:(Int× (List Crash))) (g22:({d:Nat // d∈ [72,158]}×Nat))=>⟨T [(0,(.ptr (30,u7) 0)),(1,(di a1.1)),(2,(di a1.2)),(15,(di (p1.Zones.length:Int))),(16,(di x6.1))],G [((30,u7),some (.box 135 ((A09 p1)++ (N0 p2)++ [(di v2.Tick),(oS y2 (10060030,g2)),(oS y5 (85,g6)),(dl A4 p3),(oS x6.2 (g22.1.val,g22.2))]))),((6,u1),some (.box 25 [(di 0),(.d .nilS),(.d .nilS)])),((1,u47),some (.box 133 [(.ptr (30,u7) 0)])),((1,g13.1),some (.box 133 [(.ptr (30,u7) 0)])),((1000000,u53),some (.obj (T [(1,(.ptr (1,u47) 0)),(5,(.fn (.func 174) [] [(.ptr (1,g13.1) 0)]))]) {r1 with state:= .busy})),((10060030,g2),oB 45 7 D8 y2),((85,g6),oB 127 4 N1 y5),((g22.1.val,g22.2),oB 77 6 A4w x6.2)]⟩) (0,y12) (g16.1,g16.2) _ hy16 (H9 ⟨.of rfl, .of rfl, .of rfl, .of rfl, .of rfl,trivial⟩ (B1 G_hit (.of rfl) (B1 (A5 rfl (A5 rfl (A5 rfl (A5 (neR g16.1.property rfl) G_hit)))) (.of rfl) (B1 (A5 rfl (A5 rfl (A5 rfl (A5 (neR g16.1.property rfl) (gq rfl))))) (.of rfl) (B1 (A5 rfl (A5 rfl (A5 rfl (A5 (neR g16.1.property rfl) (A5 rfl (A0z g13.2 G_hit)))))) (.of rfl) (B1 (A5 rfl (A5 rfl (A5 rfl (A5 (neR g16.1.property rfl) (gq rfl))))) (.of rfl) (B8 (gq rfl) (B8 (gq rfl) (B8 (A5 (neL g16.1.property rfl) (A5 (neL g16.1.property rfl) (A5 (neL g16.1.property rfl) G_hit))) trivial))))))))) ?_)
 intro x6 g22 z7 hz7 ez7
 unfold A6r at hz7
 refine lr (fun u76 hu76=>sv rfl (A1 (A6 (cc rfl hz7 (fun c13 hz7=> ?_) (fun c13 hz7=> ?_)))))
 refine A9 (A6 (A8 (lr (fun u77 hu77=>sv rfl (sv rfl (A1 (A6 (lr (fun u78 hu78=>sp rfl rfl (sv rfl (sv rfl (sv rfl (bs hz7 fun v28 hv28 hz7=>B0 rfl (D3 (A38 G_hit (rD (rD (rD (rD (rD (rD (rD (rD (rD (D3 (A2r (gq rfl)) (D3 (A2r (gq rfl)) (rD (D3 (A2r (A5 (neL g22.1.property rfl) (A5 (neL g22.1.property rfl) (A5 (neL g22.1.property rfl) (A5 (neL g22.1.property rfl) (A5 (neL g22.1.property rfl) (A5 (neL g22.1.property rfl) (A5 (neL g22.1.property rfl) G_hit)))))))) F2)))))))))))))) (rD (rD (rD F2)))) (.cons (DLe.bp (ca rfl (ca rfl (ca rfl (ca rfl (ca rfl (ca rfl (ca rfl (ca rfl (ca rfl (.cons ⟨A2q,rfl⟩ (.cons ⟨A2q,rfl⟩ (ca rfl (.cons ⟨A2q,rfl⟩ .nil)))))))))))))) (.cons (.refl _) (.cons (.refl _) A2))) (A8l _ _ _ _ _ hv28) (.inr rfl) (C1 (.d (bo (!v28))) rfl rfl (A1 (cc rfl hz7 (fun c14 hz7=> ?_) (fun c14 hz7=> ?_)))))))))))))))))
 refine B7n rfl (C8 fun u79 hu79=>sv rfl (sv rfl (A1 (G4 ?_))))
 cases hz7
 exact ⟨rfl,(g22.1,g22.2),(H9 ⟨.of rfl, .of rfl, .of rfl, .of rfl, .of rfl,trivial⟩ (B1 G_hit (.of rfl) (sg rfl (sg rfl (B1 (A5 rfl (A5 rfl (A0z g13.2 G_hit))) (.of rfl) (sg rfl (B8 (gq rfl) (B8 (gq rfl) (B8 (A5 (neL g22.1.property rfl) (A5 (neL g22.1.property rfl) (A5 (neL g22.1.property rfl) (A5 (neL g22.1.property rfl) (A5 (neL g22.1.property rfl) (A5 (neL g22.1.property rfl) (A5 (neL g22.1.property rfl) G_hit))))))) trivial)))))))))⟩
 refine A9 (lr (fun u80 hu80=>sp rfl rfl (sv rfl (sv rfl (bs hz7 fun v29 hv29 hz7=>B0 rfl (D3 (A38 G_hit (rD (rD (rD (rD (rD (rD (rD (rD (rD (D3 (A2r (gq rfl)) (D3 (A2r (gq rfl)) (rD (D3 (A2r (A5 (neL g22.1.property rfl) (A5 (neL g22.1.property rfl) (A5 (neL g22.1.property rfl) (A5 (neL g22.1.property rfl) (A5 (neL g22.1.property rfl) (A5 (neL g22.1.property rfl) (A5 (neL g22.1.property rfl) G_hit)))))))) F2)))))))))))))) (rD (rD F2))) (.cons (DLe.bp (ca rfl (ca rfl (ca rfl (ca rfl (ca rfl (ca rfl (ca rfl (ca rfl (ca rfl (.cons ⟨A2q,rfl⟩ (.cons ⟨A2q,rfl⟩ (ca rfl (.cons ⟨A2q,rfl⟩ .nil)))))))))))))) (.cons (.refl _) A2)) (A9d _ _ _ _ hv29) (.inr rfl) (sp rfl rfl (sv rfl (sv rfl (bs hz7 fun v30 hv30 hz7=>B0 rfl (D3 (A38 G_hit (rD (rD (rD (rD (rD (rD (rD (rD (rD (D3 (A2r (gq rfl)) (D3 (A2r (gq rfl)) (rD (D3 (A2r (A5 (neL g22.1.property rfl) (A5 (neL g22.1.property rfl) (A5 (neL g22.1.property rfl) (A5 (neL g22.1.property rfl) (A5 (neL g22.1.property rfl) (A5 (neL g22.1.property rfl) (A5 (neL g22.1.property rfl) G_hit)))))))) F2)))))))))))))) (rD (rD F2))) (.cons (DLe.bp (ca rfl (ca rfl (ca rfl (ca rfl (ca rfl (ca rfl (ca rfl (ca rfl (ca rfl (.cons ⟨A2q,rfl⟩ (.cons ⟨A2q,rfl⟩ (ca rfl (.cons ⟨A2q,rfl⟩ .nil)))))))))))))) (.cons (.refl _) A2)) (A9d _ _ _ _ hv30) (.inr rfl) (sn rfl rfl (sn rfl rfl (sst rfl (gq rfl) (C05 v29) rfl (sst rfl (gq rfl) (C05 v30) rfl (A1 (lr (fun u81 hu81=>sv rfl (sv rfl (C1 (dl A4 [a1.1,a1.2]) rfl rfl (C1 (dl A4 [a1.1,a1.2]) rfl rfl (A1 (A6 (A6 (I0 rfl fun u82 hu82=>sp rfl rfl (sl rfl (gq rfl) rfl (sp rfl rfl (sl rfl G_hit rfl (bs hz7 fun v31 hv31 hz7=>B0 rfl rfl A2 (A4x _ _ _ hv31) (.inl rfl) (sp rfl rfl (sl rfl G_hit rfl (sp rfl rfl (sl rfl (gq rfl) rfl (bs hz7 fun v32 hv32 hz7=>B0 rfl rfl A2 (B05 _ _ _ hv32) (.inl rfl) (C1 (dl A4 [v31,v32]) rfl rfl (bs hz7 fun v33 hv33 hz7=>B0 rfl rfl A2 (B3v _ _ hv33) (.inl rfl) (A1 (bs hz7 fun y17 hy17 hz7=>D7 (fun s=> ∃g23:Unit,Sb ⟨T [(0,(.ptr (30,u7) 0)),(1,(di a1.1)),(2,(di a1.2)),(6,(di x6.1)),(9,(dl A4 y17)),(15,(di (p1.Zones.length:Int))),(16,(di x6.1))],G [((30,u7),some (.box 135 ((A09 p1)++ (N0 p2)++ [(di v2.Tick),(oS y2 (10060030,g2)),(oS y5 (85,g6)),(dl A4 p3),(oS x6.2 (g22.1.val,g22.2))]))),((6,u1),some (.box 25 [(di 0),(.d .nilS),(.d .nilS)])),((1,u47),some (.box 133 [(.ptr (30,u7) 0)])),((1,g13.1),some (.box 133 [(.ptr (30,u7) 0)])),((1000000,u53),some (.obj (T [(1,(.ptr (1,u47) 0)),(5,(.fn (.func 174) [] [(.ptr (1,g13.1) 0)]))]) {r1 with state:= .busy})),((10060030,g2),oB 45 7 D8 y2),((85,g6),oB 127 4 N1 y5),((g22.1.val,g22.2),oB 77 6 A4w x6.2)]⟩ s) ?_ ?_))))))))))))))))))))))))))))))))))))
 refine A8 (lr (fun u83 hu83=>sv rfl (sv rfl (A1 (cc rfl hy17 (fun c15 hy17=> ?_) (fun c15 hy17=> ?_))))))
 refine C8 fun u84 hu84=>sv rfl (C1 (dl A4 [a1.1]) rfl rfl (C1 (dl A4 [a1.1]) rfl rfl (A1 (G3 ?_))))
 cases hy17
 exact l_j ⟨(),(H9 ⟨.of rfl, .of rfl, .of rfl, .of rfl, .of rfl, .of rfl, .of rfl,trivial⟩ (sg rfl (sg rfl (sg rfl (B1 (A5 rfl (A5 rfl (A5 rfl (A5 rfl (A5 rfl (A5 rfl (A0z g13.2 G_hit))))))) (.of rfl) (sg rfl (B8 (gq rfl) (B8 (gq rfl) (B8 (A5 (neL g22.1.property rfl) (A5 (neL g22.1.property rfl) (A5 (neL g22.1.property rfl) (A5 (neL g22.1.property rfl) (A5 (neL g22.1.property rfl) (A5 (neL g22.1.property rfl) (A5 (neL g22.1.property rfl) (A5 (neL g22.1.property rfl) (A5 (neL g22.1.property rfl) (A5 (neL g22.1.property rfl) (A5 (neL g22.1.property rfl) G_hit))))))))))) trivial)))))))))⟩
 refine lr (fun u85 hu85=>sv rfl (sv rfl (A1 (cc rfl hy17 (fun c16 hy17=> ?_) (fun c16 hy17=> ?_)))))
 refine C8 fun u86 hu86=>sv rfl (C1 (dl A4 [a1.2]) rfl rfl (C1 (dl A4 [a1.2]) rfl rfl (A1 (G3 ?_))))
 cases hy17
 exact l_j ⟨(),(H9 ⟨.of rfl, .of rfl, .of rfl, .of rfl, .of rfl, .of rfl, .of rfl,trivial⟩ (sg rfl (sg rfl (sg rfl (B1 (A5 rfl (A5 rfl (A5 rfl (A5 rfl (A5 rfl (A5 rfl (A0z g13.2 G_hit))))))) (.of rfl) (sg rfl (B8 (gq rfl) (B8 (gq rfl) (B8 (A5 (neL g22.1.property rfl) (A5 (neL g22.1.property rfl) (A5 (neL g22.1.property rfl) (A5 (neL g22.1.property rfl) (A5 (neL g22.1.property rfl) (A5 (neL g22.1.property rfl) (A5 (neL g22.1.property rfl) (A5 (neL g22.1.property rfl) (A5 (neL g22.1.property rfl) (A5 (neL g22.1.property rfl) (A5 (neL g22.1.property rfl) G_hit))))))))))) trivial)))))))))⟩
 refine A9 (G3 ?_)
 cases hy17
 exact l_j ⟨(),(H9 ⟨.of rfl, .of rfl, .of rfl, .of rfl, .of rfl, .of rfl, .of rfl,trivial⟩ (sg rfl (sg rfl (sg rfl (B1 (A5 rfl (A5 rfl (A5 rfl (A5 rfl (A5 rfl (A5 rfl (A0z g13.2 G_hit))))))) (.of rfl) (sg rfl (B8 (gq rfl) (B8 (gq rfl) (B8 (A5 (neL g22.1.property rfl) (A5 (neL g22.1.property rfl) (A5 (neL g22.1.property rfl) (A5 (neL g22.1.property rfl) (A5 (neL g22.1.property rfl) (A5 (neL g22.1.property rfl) (A5 (neL g22.1.property rfl) (A5 (neL g22.1.property rfl) (A5 (neL g22.1.property rfl) (A5 (neL g22.1.property rfl) (A5 (neL g22.1.property rfl) G_hit))))))))))) trivial)))))))))⟩
 rintro _ ⟨g23,q8⟩
 refine B5 q8 (I0 rfl fun u87 hu87=>sp rfl rfl (sp rfl rfl (sp rfl rfl (sp rfl rfl (C1 (oS x6.2 (g22.1.val,g22.2)) rfl (Z4 rfl G_hit rfl) (sp rfl rfl (sp rfl rfl (sp rfl rfl (sp rfl rfl (sl rfl G_hit rfl (sv rfl (sv rfl (sv rfl (sv rfl (sv rfl (C1 (dl A4w [(Crash.mk p2.Tick a1.1 a1.2 (-1) x6.1 y17)]) rfl rfl (bs hz7 fun v34 hv34 hz7=>Z3 A4w (g22.1.val,g22.2) x6.2 (Crash.mk p2.Tick a1.1 a1.2 (-1) x6.1 y17) [] _ (O0 (fun _=>rfl)) rfl (A5 (neL g22.1.property rfl) (A5 (neL g22.1.property rfl) (A5 (neL g22.1.property rfl) (A5 (neL g22.1.property rfl) (A5 (neL g22.1.property rfl) (A5 (neL g22.1.property rfl) (A5 (neL g22.1.property rfl) G_hit))))))) hv34 (sp rfl rfl (sp rfl rfl (A9o _ _ _ _ _ rfl rfl rfl (A5 rfl (A5 (neR g22.1.property rfl) G_hit)) (nl rfl) ((A09 p1)++ (N0 p2)++ [(di v2.Tick),(oS y2 (10060030,g2)),(oS y5 (85,g6)),(dl A4 p3),(.sl (72,u87))]) rfl (A1 (G3 (C8 fun u88 hu88=>sv rfl (sv rfl (A1 (G4 ?_))))))))))))))))))))))))))
 cases hz7
 exact ⟨rfl,(⟨72, .head _⟩,u87),(H9 ⟨.of rfl, .of rfl, .of rfl, .of rfl, .of rfl,trivial⟩ (B1 G_hit (.box (cv (cv (cv (cv (cv (cv (cv (cv (cv (cv (cv (cv (.cons (.of (A3p (A21 hv34)).symm) .nil)))))))))))))) (B1 (A5 rfl (A5 rfl (A5 (neR g22.1.property rfl) (gq rfl)))) (.of rfl) (B1 (A5 rfl (A5 rfl (A5 (neR g22.1.property rfl) (gq rfl)))) (.of rfl) (B1 (A5 rfl (A5 rfl (A5 (neR g22.1.property rfl) (A5 rfl (A5 rfl (A0z g13.2 G_hit)))))) (.of rfl) (B1 (A5 rfl (A5 rfl (A5 (neR g22.1.property rfl) (gq rfl)))) (.of rfl) (B8 (A5 rfl (A5 rfl (A5 (neR g22.1.property rfl) (gq rfl)))) (B8 (A5 rfl (A5 rfl (A5 (neR g22.1.property rfl) (gq rfl)))) (U5 (gq rfl) trivial)))))))))⟩
 refine C2 rfl ?_
 cases hz7
 obtain rfl:=ez7 _ rfl
 refine ⟨nofun,B9 rfl (l_j ?_)⟩
 exact ⟨(g22.1,g22.2),(H9 trivial (sg rfl (B1 G_hit (.of rfl) (sg rfl (B1 (A5 rfl (A5 rfl (A0z g13.2 G_hit))) (.of rfl) (sg rfl (B8 (gq rfl) (B8 (gq rfl) (B8 (A5 (neL g22.1.property rfl) (A5 (neL g22.1.property rfl) (A5 (neL g22.1.property rfl) (A5 (neL g22.1.property rfl) (A5 (neL g22.1.property rfl) (A5 (neL g22.1.property rfl) (A5 (neL g22.1.property rfl) G_hit))))))) trivial)))))))))⟩
 rintro _ ⟨g21,q9⟩
 refine G4 ?_
 obtain rfl:=(Option.some.inj hy15)
 exact B7t q9 (.inl rfl) (g21.1,g21.2) trivial (B1 G_hit (.of rfl) (sg rfl (sg rfl (B1 (A5 rfl (A5 rfl (A0z g13.2 G_hit))) (.of rfl) (sg rfl (B8 (gq rfl) (B8 (gq rfl) (B8 (A5 (neL g21.1.property rfl) (A5 (neL g21.1.property rfl) (A5 (neL g21.1.property rfl) (A5 (neL g21.1.property rfl) (A5 (neL g21.1.property rfl) (A5 (neL g21.1.property rfl) (A5 (neL g21.1.property rfl) G_hit))))))) trivial))))))))
 intro g20
 intro u89 hu89
 refine A1 (G3 (G4 ?_))
 cases hz4
 exact D7d (gq rfl) (g20.1,g20.2) (sg rfl (B1 (A5 rfl (A5 rfl (A0z g13.2 G_hit))) (.of rfl) (B1 G_hit (.of rfl) (sg rfl (B8 (gq rfl) (B8 (gq rfl) (B8 (A5 (neL g20.1.property rfl) (A5 (neL g20.1.property rfl) (A5 (neL g20.1.property rfl) (A5 (neL g20.1.property rfl) (A5 (neL g20.1.property rfl) (A5 (neL g20.1.property rfl) (A5 (neL g20.1.property rfl) G_hit))))))) trivial)))))))
 rintro x4 g15 _ rfl qx4
 refine G3 (l_j ?_)
 exact ⟨(g15.1,g15.2),(Sb.after qx4 (H9 trivial (sg rfl (sg rfl (B8 (gq rfl) (B8 (gq rfl) (B8 (A5 (neL g15.1.property rfl) (A5 (neL g15.1.property rfl) (A5 (neL g15.1.property rfl) (A5 (neL g15.1.property rfl) (A5 (neL g15.1.property rfl) (A5 (neL g15.1.property rfl) G_hit)))))) trivial)))))))⟩
 rintro _ ⟨g14,q10⟩
 refine G4 ?_
 obtain rfl:=(Option.some.inj hy9)
 exact B7t q10 (.inl rfl) (g14.1,g14.2) ⟨.of rfl, .of rfl, .of rfl, .of rfl,trivial⟩ (B1 G_hit (.of rfl) (sg rfl (B8 (gq rfl) (B8 (gq rfl) (B8 (A5 (neL g14.1.property rfl) (A5 (neL g14.1.property rfl) (A5 (neL g14.1.property rfl) (A5 (neL g14.1.property rfl) G_hit)))) trivial)))))
 intro g12
 intro u90 hu90
 refine A1 (G3 (C8 fun u91 hu91=>sv rfl (sv rfl (A1 (C0o (lr (fun u92 hu92=>sv rfl (A1 (A6 (B4t rfl (B7n rfl ?_)))))))))))
 cases hy1
 exact l_j ⟨(g2,g6,(g12.1,g12.2)),(H9 ⟨.of rfl, .of rfl,trivial⟩ (B1 G_hit (.of rfl) (sg rfl (B8 (gq rfl) (B8 (gq rfl) (B8 (A5 (neL g12.1.property rfl) (A5 (neL g12.1.property rfl) (A5 (neL g12.1.property rfl) (A5 (neL g12.1.property rfl) G_hit)))) trivial))))))⟩
 rintro _ ⟨g1,q11⟩
 refine B5 q11 (lr (fun u93 hu93=>sp rfl rfl (sp rfl rfl (sp rfl rfl (sp rfl rfl (sl rfl (gq rfl) rfl (sv rfl (sp rfl rfl (sp rfl rfl (sp rfl rfl (sst rfl (gq rfl) ((A09 p1)++ (N0 p2)++ [(di (w64 (v2.Tick+1))),(oS y1.1 (10060030,g1.1)),(oS y1.2.1 (85,g1.2.1)),(dl A4 p3),(oS y1.2.2 (g1.2.2.1.val,g1.2.2.2))]) rfl (A1 (A6 (B8z fun u94 hu94=>A16 (.ptr _ _) rfl rfl (A16 (.ptr _ _) rfl rfl (A16 (.ptr _ _) rfl rfl (A16 (A4b [(di (w64 (v2.Tick+1))),(oS y1.1 (10060030,g1.1)),(oS y1.2.1 (85,g1.2.1))]) rfl (B2 rfl G_hit rfl rfl) (A16 (.ptr _ _) rfl rfl (A16 (.ptr _ _) rfl rfl (A16 (.ptr _ _) rfl rfl (A16 (oS y1.2.2 (g1.2.2.1.val,g1.2.2.2)) rfl (Z4 rfl G_hit rfl) (C4l _ _ _ _ _ (A0j _) rfl rfl (gq rfl) (nl rfl) [(di (w64 (v2.Tick+1))),(oS y1.1 (10060030,g1.1)),(oS y1.2.1 (85,g1.2.1))] rfl (A16 (oS y1.2.2 (g1.2.2.1.val,g1.2.2.2)) rfl rfl (A16 (.d _) rfl rfl (D12 ⟨by first|rfl|((generalize g1.2.2.1=q0;rcases q0 with ⟨d0,_|⟨_,_|⟨_,h0⟩⟩⟩)<;>(generalize y1.2.2=z4;cases z4)<;>first|rfl|contradiction),?_⟩)))))))))))))))))))))))))
 refine B3 ?_
 cases h
 exact A7 (.inr rfl) (C4h (K0 rfl G_hit (nl rfl) rfl) (B4 rfl) (B4 rfl) (B27 (rD (D3 (A2r (gq rfl)) (D3 (A2r (gq rfl)) F2)))) (A2r (A5 (neL g1.2.2.1.property rfl) (A5 (neL g1.2.2.1.property rfl) (A5 (neL g1.2.2.1.property rfl) (A5 (neL g1.2.2.1.property rfl) (A5 (neL g1.2.2.1.property rfl) (A5 (neL g1.2.2.1.property rfl) G_hit))))))) E0) (.tup (.cons (.agg (ca rfl (.cons ⟨A2q,rfl⟩ (.cons ⟨A2q,rfl⟩ .nil)))) (.cons A2q A2)))
noncomputable def A71:Option Bool:=
  (B4u).bind fun v1=>(A8n 0 10000 1000).bind fun v2=>(A8n 1 46000 1000).bind fun v3=>(B4y v1 [v2,v3]).bind fun v4=>cond (((v4.2 !=0)||((v4.1.In.length:Int) !=0))||((v4.1.Agents.length:Int) !=2)) (some false) ((B3i v1 v4.1 [50,(-90)]).bind fun v5=>((cond (((v5.2.2==0)&& ((v5.2.1.length:Int)==0))&& ((v5.1.Agents.length:Int)==2)) (D4 v5.1.Agents 0) (some default))).bind fun v6=>((cond ((((v5.2.2==0)&& ((v5.2.1.length:Int)==0))&& ((v5.1.Agents.length:Int)==2))&& (v6.S==11030)) (D4 v5.1.Agents 1) (some default))).bind fun v7=>((cond (((((v5.2.2==0)&& ((v5.2.1.length:Int)==0))&& ((v5.1.Agents.length:Int)==2))&& (v6.S==11030))&& (v7.V==910)) (A62 100 30) (some default))).bind fun v8=>some ((((((v5.2.2==0)&& ((v5.2.1.length:Int)==0))&& ((v5.1.Agents.length:Int)==2))&& (v6.S==11030))&& (v7.V==910))&& (v8==120)))
theorem B6e (r:Bool)(h:A71=some r):PCall Tryz.prog 21 [] (bo r):=by
 refine B7 (fk Tryz.func21 Tryz.ntmps21 (fun r=>if r==2 then [1003]else if r==5 then [1002]else []) (by with_unfolding_all rfl)) (nl rfl) ?_
 unfold A71 at h
 refine B5 (s0:=⟨T [],G []⟩) (sbr rfl rfl) ?_
 refine lr (fun u1 hu1=>sv rfl (A1 (lr (fun u2 hu2=>bs h fun v1 hv1 h=>B0 rfl rfl A2 (C6o _ hv1) (.inl rfl) (sn rfl rfl (sst rfl G_hit (A09 v1) rfl (A1 (A6 (I0 rfl fun u3 hu3=>sd rfl (B2 rfl G_hit rfl rfl) (bs h fun v2 hv2 h=>B0 rfl rfl A2 (B6b _ _ _ _ hv2) (.inl rfl) (bs h fun v3 hv3 h=>B0 rfl rfl A2 (B6b _ _ _ _ hv3) (.inl rfl) (C1 (dl D8 [v2,v3]) rfl (C1o D8 ([v2,v3]:List Agent) (fun _=>rfl) rfl rfl ⟨rfl,rfl,rfl,rfl,rfl,rfl,trivial⟩ (fun _=>rfl)) (bs h fun v4 hv4 h=>B0 rfl rfl A2 (C6p _ _ _ hv4) (.inl rfl) (sv rfl (sv rfl (sv rfl (sn rfl rfl (sst rfl G_hit (N0 v4.1) rfl (sv rfl (A1 (A6 (lr (fun u4 hu4=>sv rfl (sv rfl (sv rfl (gp rfl (T8 rfl) (fun _=>rfl) (gf rfl (vl rfl G_hit rfl) (gf rfl (fun w3=>(E7 (A3 w3))) (gf rfl (vb rfl rfl rfl) (sd rfl (A0s rfl rfl (fun hc=>A3 (K9 hc))) (sv rfl (gp rfl (T8 rfl) (fun _=>rfl) (gf rfl (vl rfl G_hit rfl) (gf rfl (fun w7=>(E7 (A3 w7))) (gf rfl (vb rfl rfl rfl) (sd rfl (A0s rfl rfl (fun hc=>A3 (K9 hc))) (A1 (cc rfl h (fun c1 h=> ?_) (fun c1 h=> ?_)))))))))))))))))))))))))))))))))))))))
 refine lr (fun u5 hu5=>sv rfl (A1 (B3 ?_)))
 cases h
 exact A7 (.inr rfl) (B6 (B4 rfl) E0) (.refl _)
 refine A9 (lr (fun u6 hu6=>sd rfl (B2 rfl (gq rfl) rfl rfl) (sd rfl (B2 rfl G_hit rfl rfl) (C1 (dl A4 [50,(-90)]) rfl rfl (bs h fun v5 hv5 h=>B0 rfl rfl A2 (C4z _ _ _ _ hv5) (.inl rfl) (sv rfl (sv rfl (sv rfl (sv rfl (sn rfl rfl (sst rfl G_hit (N0 v5.1) rfl (sv rfl (sv rfl (A1 (lr (fun u7 hu7=>sv rfl (sv rfl (sv rfl (gt rfl (fun _=>rfl) (gt rfl (fun w10=>(E7 (A3 w10))) (gt rfl (vb rfl rfl rfl) (sa rfl rfl rfl (sv rfl (gp rfl (A0d rfl) (fun _=>rfl) (gt rfl (vl rfl G_hit rfl) (gt rfl (fun w14=>(E7 (A3 w14))) (gt rfl (vb rfl rfl rfl) (sa rfl rfl rfl (sv rfl (gp rfl (A0d rfl) (fun _=>rfl) (gt rfl (vl rfl G_hit rfl) (bs h fun v6 hv6 h=>gt rfl (fun w18=>(E2 (A3 w18) rfl (C0 w18 hv6) rfl)) ?_))))))))))))))))))))))))))))))))
 refine gt rfl (fun w19=>(by simp only [A3 w19];rfl)) ?_
 refine gt rfl (fun w20=>(D9 (A3 w20) (C0 w20 hv6) rfl)) (gt rfl (vb rfl rfl rfl) (sa rfl rfl rfl (sv rfl (gp rfl (A0d rfl) (fun _=>rfl) (gt rfl (vl rfl G_hit rfl) (bs h fun v7 hv7 h=>gt rfl (fun w24=>(E2 (A3 w24) rfl (C0 w24 hv7) rfl)) ?_))))))
 refine gt rfl (fun w25=>(by simp only [A3 w25];rfl)) ?_
 refine gt rfl (fun w26=>(D9 (A3 w26) (C0 w26 hv7) rfl)) (gt rfl (vb rfl rfl rfl) (sa rfl rfl rfl (sv rfl (bs h fun v8 hv8 h=>S4 _ (i64 v8) (A0d rfl) (fun w28=>⟨_,_,_,_,rfl,rfl,A2,B3y _ _ _ (C0 w28 hv8),(.inl rfl)⟩) (gt rfl (vb rfl rfl rfl) (sa rfl rfl rfl (sv rfl (A1 (B3 ?_)))))))))
 cases h
 exact A7 (.inr rfl) (B6 (B4 rfl) E0) (.refl _)
noncomputable def C1z (p1:Int)(p2:Int):Option Int:=
  (C7a p1 p2).bind fun v1=>cond (decide (v1<0)) (some (w64 (v1+p2))) (some v1)
theorem D16 (p1:Int)(p2:Int)(r:Int)(h:C1z p1 p2=some r):PCall Tryz.prog 37 [(i64 p1),(i64 p2)] (i64 r):=by
 refine B7 (fk Tryz.func37 Tryz.ntmps37 m0 (by with_unfolding_all rfl)) (nl rfl) ?_
 unfold C1z at h
 refine B5 (s0:=⟨T [(0,(.d _)),(1,(.d _))],G []⟩) (sbr rfl rfl) ?_
 refine lr (fun u1 hu1=>sv rfl (A1 (lr (fun u2 hu2=>sv rfl (sv rfl (bs h fun v1 hv1 h=>sd rfl (C7y rfl rfl hv1) (sv rfl (A1 (A6 (lr (fun u3 hu3=>sv rfl (sv rfl (A1 (cc rfl h (fun c1 h=> ?_) (fun c1 h=> ?_)))))))))))))))
 refine C8 fun u4 hu4=>sv rfl (sv rfl (sv rfl (sv rfl (A1 (lr (fun u5 hu5=>sv rfl (sv rfl (A1 (B3 ?_)))))))))
 cases h
 exact A7 (.inr rfl) (B6 (B4 rfl) E0) (.refl _)
 refine A9 (lr (fun u6 hu6=>sv rfl (sv rfl (A1 (B3 ?_)))))
 cases h
 exact A7 (.inr rfl) (B6 (B4 rfl) E0) (.refl _)
noncomputable def B3j (p1:Int)(p2:Int)(p3:Int):Option Signal:=
  some (Signal.mk p1 [(Phase.mk 12 [p2]),(Phase.mk 5 []),(Phase.mk 9 [p3]),(Phase.mk 4 [])])
theorem B3z (p1:Int)(p2:Int)(p3:Int)(r:Signal)(h:B3j p1 p2 p3=some r):PCall Tryz.prog 70 [(i64 p1),(i64 p2),(i64 p3)] (.agg [(i64 r.Offset),(.list (List.map A39 r.Phases))]):=by
 refine B7 (fk Tryz.func70 Tryz.ntmps70 (fun r=>if r==1 then [1002,1006,1009]else []) (by with_unfolding_all rfl)) (nl rfl) ?_
 unfold B3j at h
 refine B5 (s0:=⟨T [(0,(.d _)),(1,(.d _)),(2,(.d _))],G []⟩) (sbr rfl rfl) ?_
 refine lr (fun u1 hu1=>sn rfl rfl (A1 (lr (fun u2 hu2=>sv rfl (sv rfl (C1 (dl A4 [p2]) rfl rfl (sv rfl (sv rfl (sv rfl (C1 (dl A4 [p3]) rfl rfl (sv rfl (sv rfl (C1 (dl A39 [(Phase.mk 12 [p2]),(Phase.mk 5 []),(Phase.mk 9 [p3]),(Phase.mk 4 [])]) rfl rfl (sv rfl (sst rfl G_hit [(di p1),(dl A39 [(Phase.mk 12 [p2]),(Phase.mk 5 []),(Phase.mk 9 [p3]),(Phase.mk 4 [])])] rfl (A1 (B3 ?_)))))))))))))))))
 cases h
 exact A7 (.inr rfl) (B6 (K0 rfl G_hit (nl rfl) rfl) E0) (.refl _)
noncomputable def B9a (p1:Int):Option Map:=
  (C1z p1 16777216).bind fun v1=>(D4 [1500,600,1000,300] ((w64 (v1.tdiv 7)).tmod 4)).bind fun v2=>(cond ((v1.tmod 7)==0) ((Y8 1 v2 [] [0,0,60000,0]).bind fun v3=>some ([v3],[],[])) ((cond ((v1.tmod 7)==1) (some ((v1.tmod 7)==1)) (some ((v1.tmod 7)==2))).bind fun y2=>cond y2 ((Y8 1 v2 [] [0,0,50000,0]).bind fun v4=>(Y8 1 1500 [] [30000,(-20000),30000,20000]).bind fun v5=>cond ((v1.tmod 7)==2) ((D4 [(Zone.mk [(Part.mk 0 28000 32000 ((w64 (v1.tdiv 28)).tmod 2)),(Part.mk 1 18000 22000 (w64 (2 - (w64 (2* ((w64 (v1.tdiv 28)).tmod 2))))))] 0)] 0).bind fun v6=>(B3j ((w64 (v1.tdiv 28)).tmod 31) 0 1).bind fun v7=>some ([v4,v5],(B79 [(Zone.mk [(Part.mk 0 28000 32000 ((w64 (v1.tdiv 28)).tmod 2)),(Part.mk 1 18000 22000 (w64 (2 - (w64 (2* ((w64 (v1.tdiv 28)).tmod 2))))))] 0)] 0 (Zone.mk v6.Parts 1)),[v7])) (some ([v4,v5],[(Zone.mk [(Part.mk 0 28000 32000 ((w64 (v1.tdiv 28)).tmod 2)),(Part.mk 1 18000 22000 (w64 (2 - (w64 (2* ((w64 (v1.tdiv 28)).tmod 2))))))] 0)],[]))) (cond ((v1.tmod 7)==3) ((Y8 1 v2 [1,2] [0,0,30000,0]).bind fun v8=>(Y8 1 1500 [] [30000,0,60000,0]).bind fun v9=>(Y8 1 800 [] [30000,0,54000,10000]).bind fun v10=>some ([v8,v9,v10],[],[])) (cond ((v1.tmod 7)==4) ((Y8 1 v2 [2] [0,0,30000,0]).bind fun v11=>(Y8 1 1500 [2] [6000,(-10000),30000,0]).bind fun v12=>(Y8 1 1500 [] [30000,0,60000,0]).bind fun v13=>some ([v11,v12,v13],[(Zone.mk [(Part.mk 0 25000 30000 1),(Part.mk 1 20000 26000 0),(Part.mk 2 0 5000 0)] 0)],[])) (cond ((v1.tmod 7)==5) ((Y8 1 v2 [1] [0,0,20000,0]).bind fun v14=>(Y8 1 v2 [] [20000,0,50000,0]).bind fun v15=>(Y8 3 200 [] [35000,(-8000),35000,8000]).bind fun v16=>some ([v14,v15,v16],[(Zone.mk [(Part.mk 1 14000 16000 0),(Part.mk 2 6000 10000 3)] 0)],[])) (cond ((v1.tmod 7)==6) ((Y8 1 v2 [1,2] [0,0,20000,0]).bind fun v17=>(Y8 1 1500 [] [20000,0,50000,0]).bind fun v18=>(Y8 1 1000 [] [20000,0,44000,10000]).bind fun v19=>(Y8 2 700 [] [36000,(-12000),36000,18000]).bind fun v20=>cond (((w64 (v1.tdiv 28)).tmod 2)==1) ((D4 [(Zone.mk [(Part.mk 1 14000 18000 1),(Part.mk 3 10000 14000 0)] 0),(Zone.mk [(Part.mk 2 14000 21000 1),(Part.mk 3 14500 23000 0)] 0)] 0).bind fun v21=>(D4 (B79 [(Zone.mk [(Part.mk 1 14000 18000 1),(Part.mk 3 10000 14000 0)] 0),(Zone.mk [(Part.mk 2 14000 21000 1),(Part.mk 3 14500 23000 0)] 0)] 0 (Zone.mk v21.Parts 1)) 1).bind fun v22=>(B3j ((w64 (v1.tdiv 56)).tmod 31) 1 3).bind fun v23=>(B3j ((w64 (v1.tdiv 56)).tmod 17) 2 3).bind fun v24=>some ([v17,v18,v19,v20],(B79 (B79 [(Zone.mk [(Part.mk 1 14000 18000 1),(Part.mk 3 10000 14000 0)] 0),(Zone.mk [(Part.mk 2 14000 21000 1),(Part.mk 3 14500 23000 0)] 0)] 0 (Zone.mk v21.Parts 1)) 1 (Zone.mk v22.Parts 2)),[v23,v24])) (some ([v17,v18,v19,v20],[(Zone.mk [(Part.mk 1 14000 18000 1),(Part.mk 3 10000 14000 0)] 0),(Zone.mk [(Part.mk 2 14000 21000 1),(Part.mk 3 14500 23000 0)] 0)],[]))) (some ([],[],[])))))))).bind fun y1=>cond (((w64 (v1.tdiv 1736)).tmod 3)==1) (some (Map.mk ((w64 (v1.tdiv 28)).tmod 5) y1.1 y1.2.1 y1.2.2 [(Work.mk 0 10000 15000 ((w64 (v1.tdiv 5208)).tmod 40) (w64 (((w64 (v1.tdiv 5208)).tmod 40)+20)) (w64 (((w64 (v1.tdiv 208320)).tmod 3)*200)))])) (some (Map.mk ((w64 (v1.tdiv 28)).tmod 5) y1.1 y1.2.1 y1.2.2 []))
theorem D17 (p1:Int)(r:Map)(h:B9a p1=some r):PCall Tryz.prog 22 [(i64 p1)] (.agg (A3b r)):=by
 refine B7 (fk Tryz.func22 Tryz.ntmps22 (fun r=>if r==2 then [1000]else if r==6 then [1001]else if r==9 then [1001,1003]else if r==10 then [1010]else if r==15 then [1001,1002,1004,1006]else if r==17 then [1001,1002,1004,1005,1007]else if r==18 then [1003]else if r==20 then [1001,1002,1005,1007]else if r==21 then [1002]else if r==23 then [1001,1002,1004,1006,1008]else if r==24 then [1002,1006]else if r==30 then [1012]else []) (by with_unfolding_all rfl)) (nl rfl) ?_
 unfold B9a at h
 refine B5 (s0:=⟨T [(0,(.d _))],G []⟩) (sbr rfl rfl) ?_
 refine lr (fun u1 hu1=>sn rfl rfl (A1 (lr (fun u2 hu2=>sv rfl (bs h fun v1 hv1 h=>B0 rfl rfl A2 (D16 _ _ _ hv1) (.inl rfl) (sv rfl (A1 (lr (fun u3 hu3=>C1 (dl A4 [1500,600,1000,300]) rfl rfl (sv rfl (sv rfl (sv rfl (bs h fun v2 hv2 h=>sd rfl (E2 rfl rfl hv2 rfl) (sd rfl (D9 rfl hv2 rfl) (sv rfl (A1 (lr (fun u4 hu4=>sn rfl rfl (A1 (A6 (lr (fun u5 hu5=>sv rfl (sv rfl (A1 (bs h fun y1 hy1 h=>D7 (fun s=> ∃g1:(({d:Nat // d∈ [20,30,69,82,102,122]}×Nat)× ({d:Nat // d∈ [44,89,108,132]}×Nat)× ({d:Nat // d∈ [57,154]}×Nat)),Sb ⟨T [(0,(di v1)),(2,(.ptr (2,u1) 0)),(4,(.ptr (4,u4) 0))],G [((2,u1),some (.box 33 [(di 0),(.d .nilS),(.d .nilS),(.d .nilS),(.d .nilS)])),((4,u4),some (.box 33 [(di 0),(oS y1.1 (g1.1.1.val,g1.1.2)),(oS y1.2.1 (g1.2.1.1.val,g1.2.1.2)),(oS y1.2.2 (g1.2.2.1.val,g1.2.2.2)),(.d .nilS)])),((g1.1.1.val,g1.1.2),oB 63 5 A8h y1.1),((g1.2.1.1.val,g1.2.1.2),oB 117 2 A8i y1.2.1),((g1.2.2.1.val,g1.2.2.2),oB 120 2 B0t y1.2.2)]⟩ s) ?_ ?_)))))))))))))))))))))))))
 refine A8 (lr (fun u6 hu6=>sv rfl (sv rfl (A1 (cc rfl hy1 (fun c1 hy1=> ?_) (fun c1 hy1=> ?_))))))
 refine C8 fun u7 hu7=>sv rfl (C1 (dl A4 [0,0,60000,0]) rfl rfl (bs hy1 fun v3 hv3 hy1=>B0 rfl rfl (.cons (.refl _) (.cons (.refl _) (.cons DLe.nil A2))) (T1 _ _ _ _ _ hv3) (.inl rfl) (B5x (.sl _) (.arr 63 5 (List.map A8h ([v3]:List Lane))) rfl rfl (sp rfl rfl (sst rfl (gq rfl) [(di 0),(.sl (20,u7)),(.d .nilS),(.d .nilS),(.d .nilS)] rfl (A1 (G3 ?_)))))))
 cases hy1
 exact l_j ⟨((⟨20, .head _⟩,u7),(⟨44, .head _⟩,0),(⟨57, .head _⟩,0)),(H9 ⟨.of rfl, .of rfl, .of rfl,trivial⟩ (sg rfl (B1 G_hit (.box (cv (.cons (.of (A3p (List.cons_ne_nil _ _)).symm) cw))) (U5 (gq rfl) (A04 (A04 trivial))))))⟩
 refine A6 (lr (fun u8 hu8=>sv rfl (sv rfl (A1 (bs hy1 fun y2 hy2 hy1=>D7 (fun s=> ∃g2:Unit,Sb ⟨T [(0,(di v1)),(2,(.ptr (2,u1) 0)),(3,(di v2)),(4,(.ptr (4,u4) 0)),(14,(di (v1.tmod 7))),(22,(.d (bo y2)))],G [((2,u1),some (.box 33 [(di 0),(.d .nilS),(.d .nilS),(.d .nilS),(.d .nilS)])),((4,u4),some (.box 33 [(di 0),(.d .nilS),(.d .nilS),(.d .nilS),(.d .nilS)]))]⟩ s) ?_ ?_)))))
 refine cc rfl hy2 (fun c2 hy2=> ?_) (fun c2 hy2=> ?_)
 refine A9 ?_
 cases hy2
 exact l_j ⟨(),(sbr rfl rfl)⟩
 refine C8 fun u9 hu9=>sv rfl (sv rfl (A1 ?_))
 cases hy2
 exact l_j ⟨(),(sbr rfl rfl)⟩
 rintro _ ⟨g2,q1⟩
 refine B5 q1 (cc rfl hy1 (fun c3 hy1=> ?_) (fun c3 hy1=> ?_))
 refine lr (fun u10 hu10=>sv rfl (C1 (dl A4 [0,0,50000,0]) rfl rfl (bs hy1 fun v4 hv4 hy1=>B0 rfl rfl (.cons (.refl _) (.cons (.refl _) (.cons DLe.nil A2))) (T1 _ _ _ _ _ hv4) (.inl rfl) (C1 (dl A4 [30000,(-20000),30000,20000]) rfl rfl (bs hy1 fun v5 hv5 hy1=>B0 rfl rfl (.cons (.refl _) (.cons (.refl _) (.cons DLe.nil A2))) (T1 _ _ _ _ _ hv5) (.inl rfl) (B5x (.sl _) (.arr 63 5 (List.map A8h ([v4,v5]:List Lane))) rfl (A99 A8h _ (fun _=>rfl) rfl rfl ⟨rfl,rfl,rfl,rfl,rfl,rfl,trivial⟩) (sp rfl rfl (sst rfl (gq rfl) [(di 0),(.sl (30,u10)),(.d .nilS),(.d .nilS),(.d .nilS)] rfl (A1 (lr (fun u11 hu11=>sv rfl (sv rfl (sv rfl (sv rfl (sv rfl (sv rfl (sv rfl (sv rfl (sv rfl (sv rfl (C1 (dl A53 [(Part.mk 0 28000 32000 ((w64 (v1.tdiv 28)).tmod 2)),(Part.mk 1 18000 22000 (w64 (2 - (w64 (2* ((w64 (v1.tdiv 28)).tmod 2))))))]) rfl rfl (sv rfl (B5x (.sl _) (.arr 117 2 (List.map A8i ([(Zone.mk [(Part.mk 0 28000 32000 ((w64 (v1.tdiv 28)).tmod 2)),(Part.mk 1 18000 22000 (w64 (2 - (w64 (2* ((w64 (v1.tdiv 28)).tmod 2))))))] 0)]:List Zone))) rfl rfl (sp rfl rfl (sst rfl (gq rfl) [(di 0),(.sl (30,u10)),(.sl (44,u11)),(.d .nilS),(.d .nilS)] rfl (A1 (lr (fun u12 hu12=>sv rfl (sv rfl (sv rfl (A1 (cc rfl hy1 (fun c4 hy1=> ?_) (fun c4 hy1=> ?_)))))))))))))))))))))))))))))))))
 refine lr (fun u13 hu13=>sp rfl rfl (C1 (.sl _) rfl (Z4 rfl G_hit rfl) (bs hy1 fun v6 hv6 hy1=>C1 (.aptr _ _ _ _) rfl (B03 rfl rfl (gq rfl) hv6) (C1 (.aptr _ _ _ _) rfl rfl (B5q A8i _ _ _ (0) _ (Zone.mk v6.Parts 1) [(i64 1)] rfl rfl rfl (gq rfl) hv6 (nl rfl) rfl (A1 (C8 fun u14 hu14=>sv rfl (sv rfl (sv rfl (bs hy1 fun v7 hv7 hy1=>B0 rfl rfl A2 (B3z _ _ _ _ hv7) (.inl rfl) (B5x (.sl _) (.arr 120 2 (List.map B0t ([v7]:List Signal))) rfl rfl (sp rfl rfl (sst rfl (gq rfl) [(di 0),(.sl (30,u10)),(.sl (44,u11)),(.sl (57,u14)),(.d .nilS)] rfl (A1 (G3 ?_)))))))))))))))
 cases hy1
 exact l_j ⟨((⟨30, .tail _ (.head _)⟩,u10),(⟨44, .head _⟩,u11),(⟨57, .head _⟩,u14)),(H9 ⟨.of rfl, .of rfl, .of rfl,trivial⟩ (sg rfl (B1 G_hit (.box (cv (.cons (.of (A3p (List.cons_ne_nil _ _)).symm) (.cons (.of (A3p (C4j (List.cons_ne_nil _ _))).symm) (.cons (.of (A3p (List.cons_ne_nil _ _)).symm) cw))))) (U5 (gq rfl) (U5 (gq rfl) (U5 (gq rfl) trivial))))))⟩
 refine A9 (G3 ?_)
 cases hy1
 exact l_j ⟨((⟨30, .tail _ (.head _)⟩,u10),(⟨44, .head _⟩,u11),(⟨57, .head _⟩,0)),(H9 ⟨.of rfl, .of rfl, .of rfl,trivial⟩ (sg rfl (B1 G_hit (.box (cv (.cons (.of (A3p (List.cons_ne_nil _ _)).symm) (.cons (.of (A3p (List.cons_ne_nil _ _)).symm) cw)))) (U5 (gq rfl) (U5 (gq rfl) (A04 trivial))))))⟩
 refine lr (fun u15 hu15=>sv rfl (sv rfl (A1 (cc rfl hy1 (fun c5 hy1=> ?_) (fun c5 hy1=> ?_)))))
 refine C8 fun u16 hu16=>sv rfl (C1 (dl A4 [1,2]) rfl rfl (C1 (dl A4 [0,0,30000,0]) rfl rfl (bs hy1 fun v8 hv8 hy1=>B0 rfl rfl A2 (T1 _ _ _ _ _ hv8) (.inl rfl) (C1 (dl A4 [30000,0,60000,0]) rfl rfl (bs hy1 fun v9 hv9 hy1=>B0 rfl rfl (.cons (.refl _) (.cons (.refl _) (.cons DLe.nil A2))) (T1 _ _ _ _ _ hv9) (.inl rfl) (C1 (dl A4 [30000,0,54000,10000]) rfl rfl (bs hy1 fun v10 hv10 hy1=>B0 rfl rfl (.cons (.refl _) (.cons (.refl _) (.cons DLe.nil A2))) (T1 _ _ _ _ _ hv10) (.inl rfl) (B5x (.sl _) (.arr 63 5 (List.map A8h ([v8,v9,v10]:List Lane))) rfl (A99 A8h _ (fun _=>rfl) rfl rfl ⟨rfl,rfl,rfl,rfl,rfl,rfl,rfl,rfl,rfl,trivial⟩) (sp rfl rfl (sst rfl (gq rfl) [(di 0),(.sl (69,u16)),(.d .nilS),(.d .nilS),(.d .nilS)] rfl (A1 (G3 ?_))))))))))))
 cases hy1
 exact l_j ⟨((⟨69, .tail _ (.tail _ (.head _))⟩,u16),(⟨44, .head _⟩,0),(⟨57, .head _⟩,0)),(H9 ⟨.of rfl, .of rfl, .of rfl,trivial⟩ (sg rfl (B1 G_hit (.box (cv (.cons (.of (A3p (List.cons_ne_nil _ _)).symm) cw))) (U5 (gq rfl) (A04 (A04 trivial))))))⟩
 refine lr (fun u17 hu17=>sv rfl (sv rfl (A1 (cc rfl hy1 (fun c6 hy1=> ?_) (fun c6 hy1=> ?_)))))
 refine lr (fun u18 hu18=>sv rfl (C1 (dl A4 [2]) rfl rfl (C1 (dl A4 [0,0,30000,0]) rfl rfl (bs hy1 fun v11 hv11 hy1=>B0 rfl rfl A2 (T1 _ _ _ _ _ hv11) (.inl rfl) (C1 (dl A4 [2]) rfl rfl (C1 (dl A4 [6000,(-10000),30000,0]) rfl rfl (bs hy1 fun v12 hv12 hy1=>B0 rfl rfl A2 (T1 _ _ _ _ _ hv12) (.inl rfl) (C1 (dl A4 [30000,0,60000,0]) rfl rfl (bs hy1 fun v13 hv13 hy1=>B0 rfl rfl (.cons (.refl _) (.cons (.refl _) (.cons DLe.nil A2))) (T1 _ _ _ _ _ hv13) (.inl rfl) (B5x (.sl _) (.arr 63 5 (List.map A8h ([v11,v12,v13]:List Lane))) rfl (A99 A8h _ (fun _=>rfl) rfl rfl ⟨rfl,rfl,rfl,rfl,rfl,rfl,rfl,rfl,rfl,trivial⟩) (sp rfl rfl (sst rfl (gq rfl) [(di 0),(.sl (82,u18)),(.d .nilS),(.d .nilS),(.d .nilS)] rfl (A1 (C8 fun u19 hu19=>sv rfl (sv rfl (sv rfl (C1 (dl A53 [(Part.mk 0 25000 30000 1),(Part.mk 1 20000 26000 0),(Part.mk 2 0 5000 0)]) rfl (C1o A53 ([(Part.mk 0 25000 30000 1),(Part.mk 1 20000 26000 0),(Part.mk 2 0 5000 0)]:List Part) (fun _=>rfl) rfl rfl ⟨rfl,rfl,rfl,rfl,rfl,rfl,rfl,rfl,rfl,trivial⟩ (fun _=>rfl)) (sv rfl (B5x (.sl _) (.arr 117 2 (List.map A8i ([(Zone.mk [(Part.mk 0 25000 30000 1),(Part.mk 1 20000 26000 0),(Part.mk 2 0 5000 0)] 0)]:List Zone))) rfl rfl (sp rfl rfl (sst rfl (gq rfl) [(di 0),(.sl (82,u18)),(.sl (89,u19)),(.d .nilS),(.d .nilS)] rfl (A1 (G3 ?_)))))))))))))))))))))))
 cases hy1
 exact l_j ⟨((⟨82, .tail _ (.tail _ (.tail _ (.head _)))⟩,u18),(⟨89, .tail _ (.head _)⟩,u19),(⟨57, .head _⟩,0)),(H9 ⟨.of rfl, .of rfl, .of rfl,trivial⟩ (sg rfl (B1 G_hit (.box (cv (.cons (.of (A3p (List.cons_ne_nil _ _)).symm) (.cons (.of (A3p (List.cons_ne_nil _ _)).symm) cw)))) (U5 (gq rfl) (U5 (gq rfl) (A04 trivial))))))⟩
 refine lr (fun u20 hu20=>sv rfl (sv rfl (A1 (cc rfl hy1 (fun c7 hy1=> ?_) (fun c7 hy1=> ?_)))))
 refine lr (fun u21 hu21=>sv rfl (C1 (dl A4 [1]) rfl rfl (C1 (dl A4 [0,0,20000,0]) rfl rfl (bs hy1 fun v14 hv14 hy1=>B0 rfl rfl A2 (T1 _ _ _ _ _ hv14) (.inl rfl) (sv rfl (C1 (dl A4 [20000,0,50000,0]) rfl rfl (bs hy1 fun v15 hv15 hy1=>B0 rfl rfl (.cons (.refl _) (.cons (.refl _) (.cons DLe.nil A2))) (T1 _ _ _ _ _ hv15) (.inl rfl) (C1 (dl A4 [35000,(-8000),35000,8000]) rfl rfl (bs hy1 fun v16 hv16 hy1=>B0 rfl rfl (.cons (.refl _) (.cons (.refl _) (.cons DLe.nil A2))) (T1 _ _ _ _ _ hv16) (.inl rfl) (B5x (.sl _) (.arr 63 5 (List.map A8h ([v14,v15,v16]:List Lane))) rfl (A99 A8h _ (fun _=>rfl) rfl rfl ⟨rfl,rfl,rfl,rfl,rfl,rfl,rfl,rfl,rfl,trivial⟩) (sp rfl rfl (sst rfl (gq rfl) [(di 0),(.sl (102,u21)),(.d .nilS),(.d .nilS),(.d .nilS)] rfl (A1 (C8 fun u22 hu22=>sv rfl (sv rfl (C1 (dl A53 [(Part.mk 1 14000 16000 0),(Part.mk 2 6000 10000 3)]) rfl rfl (sv rfl (B5x (.sl _) (.arr 117 2 (List.map A8i ([(Zone.mk [(Part.mk 1 14000 16000 0),(Part.mk 2 6000 10000 3)] 0)]:List Zone))) rfl rfl (sp rfl rfl (sst rfl (gq rfl) [(di 0),(.sl (102,u21)),(.sl (108,u22)),(.d .nilS),(.d .nilS)] rfl (A1 (G3 ?_))))))))))))))))))))))
 cases hy1
 exact l_j ⟨((⟨102, .tail _ (.tail _ (.tail _ (.tail _ (.head _))))⟩,u21),(⟨108, .tail _ (.tail _ (.head _))⟩,u22),(⟨57, .head _⟩,0)),(H9 ⟨.of rfl, .of rfl, .of rfl,trivial⟩ (sg rfl (B1 G_hit (.box (cv (.cons (.of (A3p (List.cons_ne_nil _ _)).symm) (.cons (.of (A3p (List.cons_ne_nil _ _)).symm) cw)))) (U5 (gq rfl) (U5 (gq rfl) (A04 trivial))))))⟩
 refine lr (fun u23 hu23=>sv rfl (sv rfl (A1 (cc rfl hy1 (fun c8 hy1=> ?_) (fun c8 hy1=> ?_)))))
 refine lr (fun u24 hu24=>sv rfl (C1 (dl A4 [1,2]) rfl rfl (C1 (dl A4 [0,0,20000,0]) rfl rfl (bs hy1 fun v17 hv17 hy1=>B0 rfl rfl A2 (T1 _ _ _ _ _ hv17) (.inl rfl) (C1 (dl A4 [20000,0,50000,0]) rfl rfl (bs hy1 fun v18 hv18 hy1=>B0 rfl rfl (.cons (.refl _) (.cons (.refl _) (.cons DLe.nil A2))) (T1 _ _ _ _ _ hv18) (.inl rfl) (C1 (dl A4 [20000,0,44000,10000]) rfl rfl (bs hy1 fun v19 hv19 hy1=>B0 rfl rfl (.cons (.refl _) (.cons (.refl _) (.cons DLe.nil A2))) (T1 _ _ _ _ _ hv19) (.inl rfl) (C1 (dl A4 [36000,(-12000),36000,18000]) rfl rfl (bs hy1 fun v20 hv20 hy1=>B0 rfl rfl (.cons (.refl _) (.cons (.refl _) (.cons DLe.nil A2))) (T1 _ _ _ _ _ hv20) (.inl rfl) (B5x (.sl _) (.arr 63 5 (List.map A8h ([v17,v18,v19,v20]:List Lane))) rfl (A99 A8h _ (fun _=>rfl) rfl rfl ⟨rfl,rfl,rfl,rfl,rfl,rfl,rfl,rfl,rfl,rfl,rfl,rfl,trivial⟩) (sp rfl rfl (sst rfl (gq rfl) [(di 0),(.sl (122,u24)),(.d .nilS),(.d .nilS),(.d .nilS)] rfl (A1 (lr (fun u25 hu25=>sv rfl (sv rfl (C1 (dl A53 [(Part.mk 1 14000 18000 1),(Part.mk 3 10000 14000 0)]) rfl rfl (sv rfl (sv rfl (sv rfl (C1 (dl A53 [(Part.mk 2 14000 21000 1),(Part.mk 3 14500 23000 0)]) rfl rfl (sv rfl (B5x (.sl _) (.arr 117 2 (List.map A8i ([(Zone.mk [(Part.mk 1 14000 18000 1),(Part.mk 3 10000 14000 0)] 0),(Zone.mk [(Part.mk 2 14000 21000 1),(Part.mk 3 14500 23000 0)] 0)]:List Zone))) rfl rfl (sp rfl rfl (sst rfl (gq rfl) [(di 0),(.sl (122,u24)),(.sl (132,u25)),(.d .nilS),(.d .nilS)] rfl (A1 (lr (fun u26 hu26=>sv rfl (sv rfl (sv rfl (sv rfl (A1 (cc rfl hy1 (fun c9 hy1=> ?_) (fun c9 hy1=> ?_)))))))))))))))))))))))))))))))))))
 refine A6 (B8z fun u27 hu27=>A16 (.ptr _ _) rfl rfl (A16 (.sl _) rfl (Z4 rfl G_hit rfl) (A16 (.ptr _ _) rfl rfl (A16 (.sl _) rfl (Z4 rfl G_hit rfl) (bs hy1 fun v21 hv21 hy1=>A16 (.aptr _ _ _ _) rfl (B03 rfl rfl (gq rfl) hv21) (A16 (.aptr _ _ _ _) rfl rfl (C9q A8i _ _ _ (0) _ (Zone.mk v21.Parts 1) [(i64 1)] rfl rfl rfl (gq rfl) hv21 (nl rfl) rfl (bs hy1 fun v22 hv22 hy1=>A16 (.aptr _ _ _ _) rfl (B03 rfl rfl G_hit hv22) (A16 (.aptr _ _ _ _) rfl rfl (C9q A8i _ _ _ (1) _ (Zone.mk v22.Parts 2) [(i64 2)] rfl rfl rfl G_hit hv22 (nl rfl) rfl (D12 ⟨rfl,?_⟩)))))))))))
 refine C8 fun u28 hu28=>sv rfl (sv rfl (sv rfl (bs hy1 fun v23 hv23 hy1=>B0 rfl rfl A2 (B3z _ _ _ _ hv23) (.inl rfl) (sv rfl (sv rfl (sv rfl (bs hy1 fun v24 hv24 hy1=>B0 rfl rfl A2 (B3z _ _ _ _ hv24) (.inl rfl) (B5x (.sl _) (.arr 120 2 (List.map B0t ([v23,v24]:List Signal))) rfl rfl (sp rfl rfl (sst rfl (gq rfl) [(di 0),(.sl (122,u24)),(.sl (132,u25)),(.sl (154,u28)),(.d .nilS)] rfl (A1 (G3 ?_))))))))))))
 cases hy1
 exact l_j ⟨((⟨122, .tail _ (.tail _ (.tail _ (.tail _ (.tail _ (.head _)))))⟩,u24),(⟨132, .tail _ (.tail _ (.tail _ (.head _)))⟩,u25),(⟨154, .tail _ (.head _)⟩,u28)),(H9 ⟨.of rfl, .of rfl, .of rfl,trivial⟩ (sg rfl (B1 G_hit (.box (cv (.cons (.of (A3p (List.cons_ne_nil _ _)).symm) (.cons (.of (A3p (C4j (C4j (List.cons_ne_nil _ _)))).symm) (.cons (.of (A3p (List.cons_ne_nil _ _)).symm) cw))))) (U5 (gq rfl) (U5 (gq rfl) (U5 (gq rfl) trivial))))))⟩
 refine A9 (G3 ?_)
 cases hy1
 exact l_j ⟨((⟨122, .tail _ (.tail _ (.tail _ (.tail _ (.tail _ (.head _)))))⟩,u24),(⟨132, .tail _ (.tail _ (.tail _ (.head _)))⟩,u25),(⟨57, .head _⟩,0)),(H9 ⟨.of rfl, .of rfl, .of rfl,trivial⟩ (sg rfl (B1 G_hit (.box (cv (.cons (.of (A3p (List.cons_ne_nil _ _)).symm) (.cons (.of (A3p (List.cons_ne_nil _ _)).symm) cw)))) (U5 (gq rfl) (U5 (gq rfl) (A04 trivial))))))⟩
 refine A9 (G3 ?_)
 cases hy1
 exact l_j ⟨((⟨20, .head _⟩,0),(⟨44, .head _⟩,0),(⟨57, .head _⟩,0)),(H9 ⟨.of rfl, .of rfl, .of rfl,trivial⟩ (B1 G_hit (.of rfl) (sg rfl (A04 (A04 (A04 trivial))))))⟩
 rintro _ ⟨g1,q2⟩
 refine B5 q2 (lr (fun u29 hu29=>sv rfl (sv rfl (sv rfl (sp rfl rfl (sst rfl (gq rfl) [(di ((w64 (v1.tdiv 28)).tmod 5)),(oS y1.1 (g1.1.1.val,g1.1.2)),(oS y1.2.1 (g1.2.1.1.val,g1.2.1.2)),(oS y1.2.2 (g1.2.2.1.val,g1.2.2.2)),(.d .nilS)] rfl (A1 (A6 (lr (fun u30 hu30=>sv rfl (sv rfl (sv rfl (sv rfl (A1 (cc rfl h (fun c10 h=> ?_) (fun c10 h=> ?_))))))))))))))))
 refine C8 fun u31 hu31=>sv rfl (sv rfl (sv rfl (sv rfl (sv rfl (sv rfl (sv rfl (sv rfl (sv rfl (sv rfl (sv rfl (sv rfl (C1 (dl B93 [(Work.mk 0 10000 15000 ((w64 (v1.tdiv 5208)).tmod 40) (w64 (((w64 (v1.tdiv 5208)).tmod 40)+20)) (w64 (((w64 (v1.tdiv 208320)).tmod 3)*200)))]) rfl rfl (sp rfl rfl (sst rfl G_hit [(di ((w64 (v1.tdiv 28)).tmod 5)),(oS y1.1 (g1.1.1.val,g1.1.2)),(oS y1.2.1 (g1.2.1.1.val,g1.2.1.2)),(oS y1.2.2 (g1.2.2.1.val,g1.2.2.2)),(dl B93 [(Work.mk 0 10000 15000 ((w64 (v1.tdiv 5208)).tmod 40) (w64 (((w64 (v1.tdiv 5208)).tmod 40)+20)) (w64 (((w64 (v1.tdiv 208320)).tmod 3)*200)))])] rfl (A1 (lr (fun u32 hu32=>C1 (A4b [(di ((w64 (v1.tdiv 28)).tmod 5)),(oS y1.1 (g1.1.1.val,g1.1.2)),(oS y1.2.1 (g1.2.1.1.val,g1.2.1.2)),(oS y1.2.2 (g1.2.2.1.val,g1.2.2.2)),(dl B93 [(Work.mk 0 10000 15000 ((w64 (v1.tdiv 5208)).tmod 40) (w64 (((w64 (v1.tdiv 5208)).tmod 40)+20)) (w64 (((w64 (v1.tdiv 208320)).tmod 3)*200)))])]) rfl (B2 rfl G_hit rfl rfl) (A9o _ _ _ _ _ (A0j _) rfl rfl (gq rfl) (nl rfl) [(di ((w64 (v1.tdiv 28)).tmod 5)),(oS y1.1 (g1.1.1.val,g1.1.2)),(oS y1.2.1 (g1.2.1.1.val,g1.2.1.2)),(oS y1.2.2 (g1.2.2.1.val,g1.2.2.2)),(dl B93 [(Work.mk 0 10000 15000 ((w64 (v1.tdiv 5208)).tmod 40) (w64 (((w64 (v1.tdiv 5208)).tmod 40)+20)) (w64 (((w64 (v1.tdiv 208320)).tmod 3)*200)))])] rfl (A1 (B3 ?_))))))))))))))))))))
 cases h
 exact A7 (.inr rfl) (B6 (K0 rfl G_hit (nl rfl) rfl) (B27 (rD (D3 (A2r (A5 (neL g1.1.1.property rfl) (A5 (neL g1.1.1.property rfl) (A5 (neL g1.1.1.property rfl) (A5 (neL g1.1.1.property rfl) (A5 (neL g1.1.1.property rfl) G_hit)))))) (D3 (A2r (A5 (neL g1.2.1.1.property rfl) (A5 (neL g1.2.1.1.property rfl) (A5 (neL g1.2.1.1.property rfl) (A5 (neL g1.2.1.1.property rfl) (A5 (neL g1.2.1.1.property rfl) (A5 (D9x g1.2.1.1.property g1.1.1.property rfl) G_hit))))))) (D3 (A2r (A5 (neL g1.2.2.1.property rfl) (A5 (neL g1.2.2.1.property rfl) (A5 (neL g1.2.2.1.property rfl) (A5 (neL g1.2.2.1.property rfl) (A5 (neL g1.2.2.1.property rfl) (A5 (D9x g1.2.2.1.property g1.1.1.property rfl) (A5 (D9x g1.2.2.1.property g1.2.1.1.property rfl) G_hit)))))))) (rD F2))))))) (.agg (ca rfl (.cons ⟨A2q,rfl⟩ (.cons ⟨A2q,rfl⟩ (.cons ⟨A2q,rfl⟩ (cz rfl))))))
 refine A9 (lr (fun u33 hu33=>C1 (A4b [(di ((w64 (v1.tdiv 28)).tmod 5)),(oS y1.1 (g1.1.1.val,g1.1.2)),(oS y1.2.1 (g1.2.1.1.val,g1.2.1.2)),(oS y1.2.2 (g1.2.2.1.val,g1.2.2.2)),(.d .nilS)]) rfl (B2 rfl G_hit rfl rfl) (A9o _ _ _ _ _ (A0j _) rfl rfl (gq rfl) (nl rfl) [(di ((w64 (v1.tdiv 28)).tmod 5)),(oS y1.1 (g1.1.1.val,g1.1.2)),(oS y1.2.1 (g1.2.1.1.val,g1.2.1.2)),(oS y1.2.2 (g1.2.2.1.val,g1.2.2.2)),(.d .nilS)] rfl (A1 (B3 ?_)))))
 cases h
 exact A7 (.inr rfl) (B6 (K0 rfl G_hit (nl rfl) rfl) (B27 (rD (D3 (A2r (A5 (neL g1.1.1.property rfl) (A5 (neL g1.1.1.property rfl) (A5 (neL g1.1.1.property rfl) (A5 (neL g1.1.1.property rfl) G_hit))))) (D3 (A2r (A5 (neL g1.2.1.1.property rfl) (A5 (neL g1.2.1.1.property rfl) (A5 (neL g1.2.1.1.property rfl) (A5 (neL g1.2.1.1.property rfl) (A5 (D9x g1.2.1.1.property g1.1.1.property rfl) G_hit)))))) (D3 (A2r (A5 (neL g1.2.2.1.property rfl) (A5 (neL g1.2.2.1.property rfl) (A5 (neL g1.2.2.1.property rfl) (A5 (neL g1.2.2.1.property rfl) (A5 (D9x g1.2.2.1.property g1.1.1.property rfl) (A5 (D9x g1.2.2.1.property g1.2.1.1.property rfl) G_hit))))))) (rD F2))))))) (.agg (ca rfl (.cons ⟨A2q,rfl⟩ (.cons ⟨A2q,rfl⟩ (.cons ⟨A2q,rfl⟩ (.cons ⟨DLe.nil,rfl⟩ .nil))))))
noncomputable def A2k (p1:Int)(p2:Int)(p3:Int):Option Bool:=
  some ((decide (p1≥p2))&& (decide (p1≤p3)))
theorem A3j (p1:Int)(p2:Int)(p3:Int)(r:Bool)(h:A2k p1 p2 p3=some r):PCall Tryz.prog 162 [(i64 p1),(i64 p2),(i64 p3)] (bo r):=by
 refine B7 (fk Tryz.func162 Tryz.ntmps162 m0 (by with_unfolding_all rfl)) (nl rfl) ?_
 unfold A2k at h
 refine B5 (s0:=⟨T [(0,(.d _)),(1,(.d _)),(2,(.d _))],G []⟩) (sbr rfl rfl) ?_
 refine lr (fun u1 hu1=>sv rfl (A1 (lr (fun u2 hu2=>sv rfl (sv rfl (sv rfl (sv rfl (gt rfl (fun _=>rfl) (gt rfl (fun _=>rfl) (gt rfl (fun w3=>(S3 (A3 w3) (A3 w3) rfl)) (sa rfl rfl rfl (sv rfl (A1 (B3 ?_))))))))))))))
 cases h
 exact A7 (.inr rfl) (B6 (B4 rfl) E0) (.refl _)
noncomputable def B18 (p1:Spot):Option Bool:=
  some ((((decide (p1.X≥(-16777216)))&& (decide (p1.X≤16777216)))&& (decide (p1.Y≥(-16777216))))&& (decide (p1.Y≤16777216)))
theorem C30 (p1:Spot)(r:Bool)(h:B18 p1=some r):PCall Tryz.prog 234 [(.agg [(i64 p1.X),(i64 p1.Y)])] (bo r):=by
 refine B7 (fk Tryz.func234 Tryz.ntmps234 m0 (by with_unfolding_all rfl)) (nl rfl) ?_
 unfold B18 at h
 refine B5 (s0:=⟨T [(0,(.d _))],G []⟩) (sbr rfl rfl) ?_
 refine lr (fun u1 hu1=>sn rfl rfl (sv rfl (A1 (lr (fun u2 hu2=>sp rfl rfl (sl rfl G_hit rfl (sv rfl (sv rfl (gp rfl (A0d rfl) (fun _=>rfl) (gt rfl (vl rfl G_hit rfl) (gt rfl (vb rfl rfl rfl) (sa rfl rfl rfl (sv rfl (gp rfl (A0d rfl) (fun _=>rfl) (gt rfl (vl rfl G_hit rfl) (gt rfl (vb rfl rfl rfl) (sa rfl rfl rfl (sv rfl (gp rfl (A0d rfl) (fun _=>rfl) (gt rfl (vl rfl G_hit rfl) (gt rfl (vb rfl rfl rfl) (sa rfl rfl rfl (sv rfl (A1 (B3 ?_)))))))))))))))))))))))))
 cases h
 exact A7 (.inr rfl) (B6 (B4 rfl) E0) (.refl _)
noncomputable def A72 (p1:Spot)(p2:Spot):Option Spot:=
  some (Spot.mk (w64 (p1.X - p2.X)) (w64 (p1.Y - p2.Y)))
theorem B2i (p1:Spot)(p2:Spot)(r:Spot)(h:A72 p1 p2=some r):PCall Tryz.prog 136 [(.agg [(i64 p1.X),(i64 p1.Y)]),(.agg [(i64 p2.X),(i64 p2.Y)])] (.agg [(i64 r.X),(i64 r.Y)]):=by
 refine B7 (fk Tryz.func136 Tryz.ntmps136 m0 (by with_unfolding_all rfl)) (nl rfl) ?_
 unfold A72 at h
 refine B5 (s0:=⟨T [(0,(.d _)),(1,(.d _))],G []⟩) (sbr rfl rfl) ?_
 refine lr (fun u1 hu1=>sn rfl rfl (sn rfl rfl (sn rfl rfl (A1 (lr (fun u2 hu2=>sp rfl rfl (sl rfl (gq rfl) rfl (sp rfl rfl (sl rfl (gq rfl) rfl (sv rfl (sp rfl rfl (sl rfl (gq rfl) rfl (sp rfl rfl (sl rfl (gq rfl) rfl (sv rfl (sv rfl (sst rfl G_hit [(di (w64 (p1.X - p2.X))),(di (w64 (p1.Y - p2.Y)))] rfl (A1 (B3 ?_)))))))))))))))))))
 cases h
 exact A7 (.inr rfl) (B6 (K0 rfl G_hit (nl rfl) rfl) E0) (.refl _)
noncomputable def A9e (p1:Spot)(p2:Spot):Option Int:=
  some (w64 ((w64 (p1.X*p2.X))+ (w64 (p1.Y*p2.Y))))
theorem B29 (p1:Spot)(p2:Spot)(r:Int)(h:A9e p1 p2=some r):PCall Tryz.prog 203 [(.agg [(i64 p1.X),(i64 p1.Y)]),(.agg [(i64 p2.X),(i64 p2.Y)])] (i64 r):=by
 refine B7 (fk Tryz.func203 Tryz.ntmps203 m0 (by with_unfolding_all rfl)) (nl rfl) ?_
 unfold A9e at h
 refine B5 (s0:=⟨T [(0,(.d _)),(1,(.d _))],G []⟩) (sbr rfl rfl) ?_
 refine lr (fun u1 hu1=>sn rfl rfl (sn rfl rfl (sv rfl (A1 (lr (fun u2 hu2=>sp rfl rfl (sl rfl (gq rfl) rfl (sp rfl rfl (sl rfl G_hit rfl (sv rfl (sp rfl rfl (sl rfl (gq rfl) rfl (sp rfl rfl (sl rfl G_hit rfl (sv rfl (sv rfl (sv rfl (A1 (B3 ?_)))))))))))))))))))
 cases h
 exact A7 (.inr rfl) (B6 (B4 rfl) E0) (.refl _)
noncomputable def A86 (p1:Int)(x1:(Int×Int)):Option (Stp (Int×Int) Int):=
  cond (decide (x1.2>0)) (cond (decide ((w64 ((w64 (x1.1+x1.2))* (w64 (x1.1+x1.2))))≤p1)) (some (.go ((w64 (x1.1+x1.2)),(w64 (x1.2.tdiv 2))))) (some (.go (x1.1,(w64 (x1.2.tdiv 2)))))) (some (.out x1.1))
noncomputable def A7f (p1:Int):Option Int:=
  (loop (A86 p1) (0,67108864)).bind fun y1=>some y1
theorem B84 (p1:Int)(r:Int)(h:A7f p1=some r):PCall Tryz.prog 202 [(i64 p1)] (i64 r):=by
 refine B7 (fk Tryz.func202 Tryz.ntmps202 m0 (by with_unfolding_all rfl)) (nl rfl) ?_
 unfold A7f at h
 refine B5 (s0:=⟨T [(0,(.d _))],G []⟩) (sbr rfl rfl) ?_
 refine lr (fun u1 hu1=>sv rfl (A1 (lr (fun u2 hu2=>sv rfl (A1 (A6 (lr (fun u3 hu3=>sv rfl (A1 (bs h fun y1 hy1 h=>D7 (fun s=> ∃g1:Unit,Sb ⟨T [(3,(di y1))],G []⟩ s) ?_ ?_))))))))))
 refine A8 (F1 (A86 p1) (fun (x1:(Int×Int)) (g2:Unit)=>⟨T [(0,(di p1)),(3,(di x1.1)),(4,(di x1.2))],G []⟩) (0,67108864) () _ hy1 (sbr rfl rfl) ?_)
 intro x1 g2 z1 hz1 ez1
 unfold A86 at hz1
 refine A6 (lr (fun u4 hu4=>sv rfl (sv rfl (A1 (cc rfl hz1 (fun c1 hz1=> ?_) (fun c1 hz1=> ?_))))))
 refine A9 (A6 (A8 (lr (fun u5 hu5=>sv rfl (sv rfl (sv rfl (sv rfl (sv rfl (sv rfl (sv rfl (sv rfl (sv rfl (A1 (cc rfl hz1 (fun c2 hz1=> ?_) (fun c2 hz1=> ?_)))))))))))))))
 refine C8 fun u6 hu6=>sv rfl (sv rfl (sv rfl (sv rfl (A1 (G3 (C8 fun u7 hu7=>sv rfl (sv rfl (sv rfl (A1 (G4 ?_))))))))))
 cases hz1
 exact ⟨rfl,(),(sbr rfl rfl)⟩
 refine A9 (G3 (C8 fun u8 hu8=>sv rfl (sv rfl (sv rfl (A1 (G4 ?_))))))
 cases hz1
 exact ⟨rfl,(),(sbr rfl rfl)⟩
 refine C2 rfl ?_
 cases hz1
 obtain rfl:=ez1 _ rfl
 refine ⟨nofun,B9 rfl (l_j ?_)⟩
 exact ⟨(),(sbr rfl rfl)⟩
 rintro _ ⟨g1,q1⟩
 refine B5 q1 (lr (fun u9 hu9=>sv rfl (sv rfl (A1 (B3 ?_)))))
 cases h
 exact A7 (.inr rfl) (B6 (B4 rfl) E0) (.refl _)
noncomputable def A2x (p1:Curve)(x2:Int):Option (Stp Int (Sum Unit Int)):=
  cond (decide ((w64 (x2+1))< (p1.Pts.length:Int))) ((D4 p1.Pts (w64 (x2+1))).bind fun v3=>(D4 p1.Pts x2).bind fun v4=>(A72 v3 v4).bind fun v5=>(A9e v5 v5).bind fun v6=>(A7f v6).bind fun v7=>(A9e v5 v5).bind fun v8=>cond ((w64 (v7*v7)) !=v8) (some (.out (.inr 3))) (cond ((decide (v7<1000))||(decide (v7>1048576))) (some (.out (.inr 2))) (((cond (decide (x2>0)) (D4 p1.Pts x2) (some default))).bind fun v9=>((cond (decide (x2>0)) (D4 p1.Pts (w64 (x2 - 1))) (some default))).bind fun v10=>((cond (decide (x2>0)) (A72 v9 v10) (some default))).bind fun v11=>((cond (decide (x2>0)) (A9e v5 v11) (some default))).bind fun v12=>cond ((decide (x2>0))&& (decide (v12≤0))) (some (.out (.inr 12))) (some (.go (w64 (x2+1))))))) (some (.out (.inl ())))
noncomputable def A2y (p1:Curve)(x1:Int):Option (Stp Int (Sum Unit Int)):=
  cond (decide (x1< (p1.Pts.length:Int))) ((D4 p1.Pts x1).bind fun v1=>(B18 v1).bind fun v2=>cond (!v2) (some (.out (.inr 2))) (some (.go (w64 (x1+1))))) (some (.out (.inl ())))
noncomputable def A8r (p1:Curve):Option Int:=
  cond (decide ((p1.Pts.length:Int)<2)) (some 6) (cond (decide ((p1.Pts.length:Int)>16)) (some 5) (thenS (loop (A2y p1) 0) (fun _=>thenS (loop (A2x p1) 0) (fun _=>some 0) (fun r=>some r)) (fun r=>some r)))
theorem B6f (p1:Curve)(r:Int)(h:A8r p1=some r):PCall Tryz.prog 201 [(.agg [(.list (List.map A5v p1.Pts))])] (i64 r):=by
 refine B7 (fk Tryz.func201 Tryz.ntmps201 m0 (by with_unfolding_all rfl)) (nl rfl) ?_
 unfold A8r at h
 refine B5 (s0:=⟨T [(0,(.d _))],G []⟩) (sbr rfl rfl) ?_
 refine lr (fun u1 hu1=>sn rfl rfl (sv rfl (A1 (A6 (lr (fun u2 hu2=>sp rfl rfl (sl rfl G_hit rfl (sd rfl (E7 rfl) (sv rfl (A1 (cc rfl h (fun c1 h=> ?_) (fun c1 h=> ?_))))))))))))
 refine lr (fun u3 hu3=>sv rfl (A1 (B3 ?_)))
 cases h
 exact A7 (.inr rfl) (B6 (B4 rfl) E0) (.refl _)
 refine A9 (A6 (lr (fun u4 hu4=>sp rfl rfl (sl rfl G_hit rfl (sd rfl (E7 rfl) (sv rfl (A1 (cc rfl h (fun c2 h=> ?_) (fun c2 h=> ?_)))))))))
 refine lr (fun u5 hu5=>sv rfl (A1 (B3 ?_)))
 cases h
 exact A7 (.inr rfl) (B6 (B4 rfl) E0) (.refl _)
 refine A9 (A6 (lr (fun u6 hu6=>sv rfl (A1 (js h fun z1 hz1 h=>D7 (fun s=> ∃(y1:Unit) (g1:Unit),z1= .inl y1∧Sb ⟨T [(1,(.ptr (1,u1) 0))],G [((1,u1),some (.box 61 [(dl A5v p1.Pts)]))]⟩ s) ?_ ?_)))))
 refine A8 (F1 (A2y p1) (fun (x1:Int) (g2:Unit)=>⟨T [(1,(.ptr (1,u1) 0)),(3,(di x1))],G [((1,u1),some (.box 61 [(dl A5v p1.Pts)]))]⟩) 0 () _ hz1 (sbr rfl rfl) ?_)
 intro x1 g2 z2 hz2 ez2
 unfold A2y at hz2
 refine A6 (lr (fun u7 hu7=>sv rfl (sp rfl rfl (sl rfl G_hit rfl (sd rfl (E7 rfl) (sv rfl (A1 (cc rfl hz2 (fun c3 hz2=> ?_) (fun c3 hz2=> ?_)))))))))
 refine A9 (A6 (A8 (lr (fun u8 hu8=>sp rfl rfl (sl rfl G_hit rfl (sv rfl (bs hz2 fun v1 hv1 hz2=>sd rfl (E2 rfl rfl hv1 rfl) (sd rfl (C3 rfl hv1 rfl rfl) (bs hz2 fun v2 hv2 hz2=>B0 rfl rfl A2 (C30 _ _ hv2) (.inl rfl) (C1 (.d (bo (!v2))) rfl rfl (A1 (cc rfl hz2 (fun c4 hz2=> ?_) (fun c4 hz2=> ?_)))))))))))))
 refine lr (fun u9 hu9=>sv rfl (A1 (B3 ?_)))
 cases hz2
 obtain rfl:=ez2 _ rfl
 refine ⟨nofun,E1 ?_⟩
 rw [Sum.elim_inr]at h
 cases h
 exact A7 (.inr rfl) (B6 (B4 rfl) E0) (.refl _)
 refine A9 (G3 (C8 fun u10 hu10=>sv rfl (sv rfl (sv rfl (A1 (G4 ?_))))))
 cases hz2
 exact ⟨rfl,(),(sbr rfl rfl)⟩
 refine C2 rfl ?_
 cases hz2
 obtain rfl:=ez2 _ rfl
 refine ⟨nofun,B9 rfl (l_j ?_)⟩
 exact ⟨_,(),rfl,(sbr rfl rfl)⟩
 rintro _ ⟨y1,g1,rfl,q1⟩
 rw [Sum.elim_inl]at h
 refine B5 q1 (A6 (lr (fun u11 hu11=>sv rfl (A1 (js h fun z3 hz3 h=>D7 (fun s=> ∃(y2:Unit) (g3:Unit),z3= .inl y2∧Sb ⟨T [],G []⟩ s) ?_ ?_)))))
 refine A8 (F1 (A2x p1) (fun (x2:Int) (g4:Unit)=>⟨T [(1,(.ptr (1,u1) 0)),(4,(di x2))],G [((1,u1),some (.box 61 [(dl A5v p1.Pts)]))]⟩) 0 () _ hz3 (sbr rfl rfl) ?_)
 intro x2 g4 z4 hz4 ez4
 unfold A2x at hz4
 refine A6 (lr (fun u12 hu12=>sv rfl (sv rfl (sp rfl rfl (sl rfl G_hit rfl (sd rfl (E7 rfl) (sv rfl (A1 (cc rfl hz4 (fun c5 hz4=> ?_) (fun c5 hz4=> ?_))))))))))
 refine A9 (A6 (A8 (A6 (I0 rfl fun u13 hu13=>sp rfl rfl (sl rfl G_hit rfl (sv rfl (sv rfl (bs hz4 fun v3 hv3 hz4=>sd rfl (E2 rfl rfl hv3 rfl) (sd rfl (C3 rfl hv3 rfl rfl) (sp rfl rfl (sl rfl G_hit rfl (sv rfl (bs hz4 fun v4 hv4 hz4=>sd rfl (E2 rfl rfl hv4 rfl) (sd rfl (C3 rfl hv4 rfl rfl) (bs hz4 fun v5 hv5 hz4=>B0 rfl rfl A2 (B2i _ _ _ hv5) (.inl rfl) (sn rfl rfl (sst rfl G_hit [(di v5.X),(di v5.Y)] rfl (A1 (lr (fun u14 hu14=>sd rfl (B2 rfl G_hit rfl rfl) (sd rfl (B2 rfl G_hit rfl rfl) (bs hz4 fun v6 hv6 hz4=>B0 rfl rfl A2 (B29 _ _ _ hv6) (.inl rfl) (bs hz4 fun v7 hv7 hz4=>B0 rfl rfl A2 (B84 _ _ hv7) (.inl rfl) (sv rfl (A1 (A6 (lr (fun u15 hu15=>sv rfl (sv rfl (sv rfl (sd rfl (B2 rfl G_hit rfl rfl) (sd rfl (B2 rfl G_hit rfl rfl) (bs hz4 fun v8 hv8 hz4=>B0 rfl rfl A2 (B29 _ _ _ hv8) (.inl rfl) (sv rfl (A1 (cc rfl hz4 (fun c6 hz4=> ?_) (fun c6 hz4=> ?_)))))))))))))))))))))))))))))))))))))
 refine lr (fun u16 hu16=>sv rfl (A1 (B3 ?_)))
 cases hz4
 obtain rfl:=ez4 _ rfl
 refine ⟨nofun,E1 ?_⟩
 rw [Sum.elim_inr]at h
 cases h
 exact A7 (.inr rfl) (B6 (B4 rfl) E0) (.refl _)
 refine A9 (A6 (lr (fun u17 hu17=>sv rfl (sv rfl (sv rfl (gf rfl (fun _=>rfl) (gf rfl (vb rfl rfl rfl) (sd rfl (A0s rfl rfl (fun hc=>A3 (K9 hc))) (A1 (cc rfl hz4 (fun c7 hz4=> ?_) (fun c7 hz4=> ?_)))))))))))
 refine lr (fun u18 hu18=>sv rfl (A1 (B3 ?_)))
 cases hz4
 obtain rfl:=ez4 _ rfl
 refine ⟨nofun,E1 ?_⟩
 rw [Sum.elim_inr]at h
 cases h
 exact A7 (.inr rfl) (B6 (B4 rfl) E0) (.refl _)
 refine A9 (A6 (I0 rfl fun u19 hu19=>sv rfl (sv rfl (sv rfl (gt rfl (fun w3=>(B2 rfl G_hit rfl rfl)) (gp rfl (A0d rfl) (fun _=>rfl) (gt rfl (vl rfl (gq rfl) rfl) (gt rfl (fun _=>rfl) (bs hz4 fun v9 hv9 hz4=>gt rfl (fun w7=>(E2 (A3 w7) (A3 w7) (C0 w7 hv9) rfl)) (gt rfl (fun w8=>(C3 (A3 w8) (C0 w8 hv9) rfl rfl)) (gp rfl (A0d rfl) (fun _=>rfl) (gt rfl (vl rfl (gq rfl) rfl) (gt rfl (fun _=>rfl) (gt rfl (vb rfl rfl rfl) (bs hz4 fun v10 hv10 hz4=>gt rfl (fun w13=>(E2 (A3 w13) (A3 w13) (C0 w13 hv10) rfl)) (gt rfl (fun w14=>(C3 (A3 w14) (C0 w14 hv10) rfl rfl)) (bs hz4 fun v11 hv11 hz4=> ?_)))))))))))))))))
 refine S4 _ (.agg [(i64 v11.X),(i64 v11.Y)]) (A0d rfl) (fun w15=>⟨_,[(.d (.agg [(i64 v9.X),(i64 v9.Y)])),(.d (.agg [(i64 v10.X),(i64 v10.Y)]))],_,_,(by simp only [A3 w15];rfl),rfl,A2,B2i _ _ _ (C0 w15 hv11),(.inl rfl)⟩) ?_
 refine bs hz4 fun v12 hv12 hz4=> ?_
 refine S4 _ (i64 v12) (A0d rfl) (fun w16=>⟨_,[(.d (.agg [(i64 v5.X),(i64 v5.Y)])),(.d (.agg [(i64 v11.X),(i64 v11.Y)]))],_,_,(by simp only [A3 w16];rfl),rfl,A2,B29 _ _ _ (C0 w16 hv12),(.inl rfl)⟩) ?_
 refine gt rfl (vb rfl rfl rfl) (sa rfl rfl rfl (A1 (cc rfl hz4 (fun c8 hz4=> ?_) (fun c8 hz4=> ?_))))
 refine lr (fun u20 hu20=>sv rfl (A1 (B3 ?_)))
 cases hz4
 obtain rfl:=ez4 _ rfl
 refine ⟨nofun,E1 ?_⟩
 rw [Sum.elim_inr]at h
 cases h
 exact A7 (.inr rfl) (B6 (B4 rfl) E0) (.refl _)
 refine A9 (G3 (C8 fun u21 hu21=>sv rfl (sv rfl (sv rfl (A1 (G4 ?_))))))
 cases hz4
 exact ⟨rfl,(),(sbr rfl rfl)⟩
 refine C2 rfl ?_
 cases hz4
 obtain rfl:=ez4 _ rfl
 refine ⟨nofun,B9 rfl (l_j ?_)⟩
 exact ⟨_,(),rfl,(sbr rfl rfl)⟩
 rintro _ ⟨y2,g3,rfl,q2⟩
 rw [Sum.elim_inl]at h
 refine B5 q2 (lr (fun u22 hu22=>sv rfl (A1 (B3 ?_))))
 cases h
 exact A7 (.inr rfl) (B6 (B4 rfl) E0) (.refl _)
noncomputable def A3r (p1:Int):Option (Int×Int×Int):=
  cond (p1==1) (some (2000,30,90)) (cond (p1==2) (some (1000,20,60)) (cond (p1==3) (some (300,100,300)) (some (0,0,0))))
theorem A87 (p1:Int)(r:(Int×Int×Int))(h:A3r p1=some r):PCall Tryz.prog 35 [(i64 p1)] (.tup [(i64 r.1),(i64 r.2.1),(i64 r.2.2)]):=by
 refine B7 (fk Tryz.func35 Tryz.ntmps35 m0 (by with_unfolding_all rfl)) (nl rfl) ?_
 unfold A3r at h
 refine B5 (s0:=⟨T [(0,(.d _))],G []⟩) (sbr rfl rfl) ?_
 refine lr (fun u1 hu1=>sv rfl (sv rfl (sv rfl (A1 (A6 (lr (fun u2 hu2=>sv rfl (A1 (A8 (lr (fun u3 hu3=>sv rfl (sv rfl (A1 (cc rfl h (fun c1 h=> ?_) (fun c1 h=> ?_)))))))))))))))
 refine lr (fun u4 hu4=>sv rfl (sv rfl (sv rfl (A1 (B3 ?_)))))
 cases h
 exact A7 (.inr rfl) (C4h (B4 rfl) (B4 rfl) (B4 rfl) E0 E0 E0) (.refl _)
 refine lr (fun u5 hu5=>sv rfl (sv rfl (A1 (cc rfl h (fun c2 h=> ?_) (fun c2 h=> ?_)))))
 refine lr (fun u6 hu6=>sv rfl (sv rfl (sv rfl (A1 (B3 ?_)))))
 cases h
 exact A7 (.inr rfl) (C4h (B4 rfl) (B4 rfl) (B4 rfl) E0 E0 E0) (.refl _)
 refine lr (fun u7 hu7=>sv rfl (sv rfl (A1 (cc rfl h (fun c3 h=> ?_) (fun c3 h=> ?_)))))
 refine lr (fun u8 hu8=>sv rfl (sv rfl (sv rfl (A1 (B3 ?_)))))
 cases h
 exact A7 (.inr rfl) (C4h (B4 rfl) (B4 rfl) (B4 rfl) E0 E0 E0) (.refl _)
 refine A9 (G3 (lr (fun u9 hu9=>sv rfl (sv rfl (sv rfl (A1 (B3 ?_)))))))
 cases h
 exact A7 (.inr rfl) (C4h (B4 rfl) (B4 rfl) (B4 rfl) E0 E0 E0) (.refl _)
noncomputable def A11 (p1:(List Int))(p2:Int)(p3:Int)(x1:Int):Option (Stp Int (Sum Unit Bool)):=
  cond (decide (x1< (p1.length:Int))) ((D4 p1 x1).bind fun v1=>((cond (!(decide (v1<p2))) (D4 p1 x1) (some default))).bind fun v2=>((cond ((!((decide (v1<p2))||(decide (v2≥p3))))&& (decide (x1>0))) (D4 p1 x1) (some default))).bind fun v3=>((cond ((!((decide (v1<p2))||(decide (v2≥p3))))&& (decide (x1>0))) (D4 p1 (w64 (x1 - 1))) (some default))).bind fun v4=>cond (((decide (v1<p2))||(decide (v2≥p3)))||((decide (x1>0))&& (decide (v3≤v4)))) (some (.out (.inr false))) (some (.go (w64 (x1+1))))) (some (.out (.inl ())))
noncomputable def A43 (p1:(List Int))(p2:Int)(p3:Int):Option Bool:=
  thenS (loop (A11 p1 p2 p3) 0) (fun _=>some true) (fun r=>some r)
theorem A9r (p1:(List Int))(p2:Int)(p3:Int)(r:Bool)(h:A43 p1 p2 p3=some r):PCall Tryz.prog 217 [(.list (List.map A4 p1)),(i64 p2),(i64 p3)] (bo r):=by
 refine B7 (fk Tryz.func217 Tryz.ntmps217 m0 (by with_unfolding_all rfl)) (nl rfl) ?_
 unfold A43 at h
 refine B5 (s0:=⟨T [(0,(.d _)),(1,(.d _)),(2,(.d _))],G []⟩) (sbr rfl rfl) ?_
 refine lr (fun u1 hu1=>sv rfl (A1 (A6 (lr (fun u2 hu2=>sv rfl (A1 (js h fun z1 hz1 h=>D7 (fun s=> ∃(y1:Unit) (g1:Unit),z1= .inl y1∧Sb ⟨T [],G []⟩ s) ?_ ?_)))))))
 refine A8 (F1 (A11 p1 p2 p3) (fun (x1:Int) (g2:Unit)=>⟨T [(0,(dl A4 p1)),(1,(di p2)),(2,(di p3)),(7,(di x1))],G []⟩) 0 () _ hz1 (sbr rfl rfl) ?_)
 intro x1 g2 z2 hz2 ez2
 unfold A11 at hz2
 refine A6 (lr (fun u3 hu3=>sv rfl (sv rfl (sd rfl (E7 rfl) (sv rfl (A1 (cc rfl hz2 (fun c1 hz2=> ?_) (fun c1 hz2=> ?_))))))))
 refine A9 (A6 (A8 (A6 (I0 rfl fun u4 hu4=>sv rfl (sv rfl (bs hz2 fun v1 hv1 hz2=>sd rfl (E2 rfl rfl hv1 rfl) (sd rfl (D9 rfl hv1 rfl) (sv rfl (sv rfl (sv rfl (gf rfl (fun _=>rfl) (gf rfl (fun _=>rfl) (bs hz2 fun v2 hv2 hz2=>gf rfl (fun w3=>(E2 (A3 w3) (A3 w3) (C0 w3 hv2) rfl)) (gf rfl (fun w4=>(D9 (A3 w4) (C0 w4 hv2) rfl)) (gf rfl (fun _=>rfl) (gf rfl (fun w6=>(S3 (A3 w6) (A3 w6) rfl)) (sd rfl (A0s rfl rfl (fun hc=>A3 (K9 hc))) (sv rfl (gf rfl (fun _=>rfl) (gf rfl (vb rfl rfl rfl) (gf rfl (fun w9=>(D8s (A3 w9))) (gv rfl (A4c rfl) (fun _=>rfl) (gv rfl (A4c rfl) (fun _=>rfl) (bs hz2 fun v3 hv3 hz2=>gv rfl (A4c rfl) (fun w12=>(E2 (A3 w12) (A3 w12) (C0 w12 hv3) rfl)) (gv rfl (A4c rfl) (fun w13=>(D9 (A3 w13) (C0 w13 hv3) rfl)) (gv rfl (A4c rfl) (fun _=>rfl) (gv rfl (A4c rfl) (fun _=>rfl) (gv rfl (A4c rfl) (vb rfl rfl rfl) (bs hz2 fun v4 hv4 hz2=>gv rfl (A4c rfl) (fun w17=>(E2 (A3 w17) (A3 w17) (C0 w17 hv4) rfl)) (gv rfl (A4c rfl) (fun w18=>(D9 (A3 w18) (C0 w18 hv4) rfl)) (gv rfl (A4c rfl) (fun w19=>(S3 (A3 w19) (A3 w19) rfl)) (gf rfl (fun w20=>(C7z (A3 w20) (fun hc=>A3 (C80 w20 hc)) rfl)) (sd rfl (A0s rfl rfl (fun hc=>A3 (K9 hc))) (A1 (cc rfl hz2 (fun c2 hz2=> ?_) (fun c2 hz2=> ?_))))))))))))))))))))))))))))))))))))
 refine lr (fun u5 hu5=>sv rfl (A1 (B3 ?_)))
 cases hz2
 obtain rfl:=ez2 _ rfl
 refine ⟨nofun,E1 ?_⟩
 rw [Sum.elim_inr]at h
 cases h
 exact A7 (.inr rfl) (B6 (B4 rfl) E0) (.refl _)
 refine A9 (G3 (C8 fun u6 hu6=>sv rfl (sv rfl (sv rfl (A1 (G4 ?_))))))
 cases hz2
 exact ⟨rfl,(),(sbr rfl rfl)⟩
 refine C2 rfl ?_
 cases hz2
 obtain rfl:=ez2 _ rfl
 refine ⟨nofun,B9 rfl (l_j ?_)⟩
 exact ⟨_,(),rfl,(sbr rfl rfl)⟩
 rintro _ ⟨y1,g1,rfl,q1⟩
 rw [Sum.elim_inl]at h
 refine B5 q1 (lr (fun u7 hu7=>sv rfl (A1 (B3 ?_))))
 cases h
 exact A7 (.inr rfl) (B6 (B4 rfl) E0) (.refl _)
noncomputable def A5f (p1:Map)(p2:Int):Option Int:=
  (D4 p1.Lanes p2).bind fun v1=>cond ((decide (v1.Kind<1))||(decide (v1.Kind>3))) (some 4) ((A8r v1.Curve_).bind fun v2=>cond (v2 !=0) (some v2) ((A3r v1.Kind).bind fun v3=>(A2k v1.Half 200 4000).bind fun v4=>((cond (!(!v4)) (A2k v1.Limit 1 v3.1) (some default))).bind fun v5=>cond ((!v4)||(!v5)) (some 2) (cond (decide ((v1.Next.length:Int)>3)) (some 8) ((A43 v1.Next (w64 (p2+1)) (p1.Lanes.length:Int)).bind fun v6=>cond (!v6) (some 11) (some 0)))))
theorem B85 (p1:Map)(p2:Int)(r:Int)(h:A5f p1 p2=some r):PCall Tryz.prog 163 [(.agg (A3b p1)),(i64 p2)] (i64 r):=by
 refine B7 (fk Tryz.func163 Tryz.ntmps163 m0 (by with_unfolding_all rfl)) (nl rfl) ?_
 unfold A5f at h
 refine B5 (s0:=⟨T [(0,(.d _)),(1,(.d _))],G []⟩) (sbr rfl rfl) ?_
 refine lr (fun u1 hu1=>sn rfl rfl (sv rfl (A1 (lr (fun u2 hu2=>sp rfl rfl (sl rfl G_hit rfl (sv rfl (bs h fun v1 hv1 h=>sd rfl (E2 rfl rfl hv1 rfl) (sd rfl (C3 rfl hv1 rfl rfl) (sn rfl rfl (sst rfl G_hit (C4v v1) rfl (A1 (A6 (lr (fun u3 hu3=>sp rfl rfl (sl rfl G_hit rfl (sv rfl (sv rfl (gp rfl (T8 rfl) (fun _=>rfl) (gf rfl (vl rfl G_hit rfl) (gf rfl (vb rfl rfl rfl) (sd rfl (A0s rfl rfl (fun hc=>A3 (K9 hc))) (A1 (cc rfl h (fun c1 h=> ?_) (fun c1 h=> ?_)))))))))))))))))))))))))
 refine lr (fun u4 hu4=>sv rfl (A1 (B3 ?_)))
 cases h
 exact A7 (.inr rfl) (B6 (B4 rfl) E0) (.refl _)
 refine A9 (lr (fun u5 hu5=>sp rfl rfl (sd rfl (B2 rfl G_hit rfl rfl) (bs h fun v2 hv2 h=>B0 rfl rfl A2 (B6f _ _ hv2) (.inl rfl) (sv rfl (A1 (A6 (lr (fun u6 hu6=>sv rfl (sv rfl (A1 (cc rfl h (fun c2 h=> ?_) (fun c2 h=> ?_)))))))))))))
 refine lr (fun u7 hu7=>sv rfl (sv rfl (A1 (B3 ?_))))
 cases h
 exact A7 (.inr rfl) (B6 (B4 rfl) E0) (.refl _)
 refine A9 (lr (fun u8 hu8=>sp rfl rfl (sl rfl G_hit rfl (bs h fun v3 hv3 h=>B0 rfl rfl A2 (A87 _ _ hv3) (.inl rfl) (sv rfl (sv rfl (sv rfl (sv rfl (sv rfl (sv rfl (sv rfl (A1 (A6 (lr (fun u9 hu9=>sp rfl rfl (sl rfl G_hit rfl (bs h fun v4 hv4 h=>B0 rfl rfl A2 (A3j _ _ _ _ hv4) (.inl rfl) (C1 (.d (bo (!v4))) rfl rfl (sv rfl (gp rfl (T8 rfl) (fun _=>rfl) (gf rfl (vl rfl G_hit rfl) (gf rfl (fun _=>rfl) (bs h fun v5 hv5 h=> ?_)))))))))))))))))))))))
 refine S4 _ (bo v5) (T8 rfl) (fun w7=>⟨_,[(di v1.Limit),(di 1),(di v3.1)],_,_,(by simp only [A3 w7];rfl),rfl,A2,A3j _ _ _ _ (C0 w7 hv5),(.inl rfl)⟩) ?_
 refine A01 _ (.d (bo (!v5))) rfl (T8 rfl) (fun w8=>(by simp only [A3 w8];rfl)) ?_
 refine sd rfl (A0s rfl rfl (fun hc=>A3 (K9 hc))) (A1 (cc rfl h (fun c3 h=> ?_) (fun c3 h=> ?_)))
 refine lr (fun u10 hu10=>sv rfl (A1 (B3 ?_)))
 cases h
 exact A7 (.inr rfl) (B6 (B4 rfl) E0) (.refl _)
 refine A9 (A6 (lr (fun u11 hu11=>sp rfl rfl (sl rfl G_hit rfl (sd rfl (E7 rfl) (sv rfl (A1 (cc rfl h (fun c4 h=> ?_) (fun c4 h=> ?_)))))))))
 refine lr (fun u12 hu12=>sv rfl (A1 (B3 ?_)))
 cases h
 exact A7 (.inr rfl) (B6 (B4 rfl) E0) (.refl _)
 refine A9 (A6 (lr (fun u13 hu13=>sp rfl rfl (sl rfl G_hit rfl (sv rfl (sv rfl (sp rfl rfl (sl rfl (gq rfl) rfl (sd rfl (E7 rfl) (bs h fun v6 hv6 h=>B0 rfl rfl A2 (A9r _ _ _ _ hv6) (.inl rfl) (C1 (.d (bo (!v6))) rfl rfl (A1 (cc rfl h (fun c5 h=> ?_) (fun c5 h=> ?_))))))))))))))
 refine lr (fun u14 hu14=>sv rfl (A1 (B3 ?_)))
 cases h
 exact A7 (.inr rfl) (B6 (B4 rfl) E0) (.refl _)
 refine A9 (lr (fun u15 hu15=>sv rfl (A1 (B3 ?_))))
 cases h
 exact A7 (.inr rfl) (B6 (B4 rfl) E0) (.refl _)
noncomputable def A0w (p1:Map)(v1:Lane)(x2:Int):Option (Stp Int (Sum Unit Int)):=
  cond (decide (x2< (v1.Next.length:Int))) ((D4 v1.Next x2).bind fun v2=>(D4 p1.Lanes v2).bind fun v3=>cond (v3.Kind !=v1.Kind) (some (.out (.inr 4))) ((D4 v3.Curve_.Pts 0).bind fun v4=>(D4 v1.Curve_.Pts (w64 ((v1.Curve_.Pts.length:Int) - 1))).bind fun v5=>cond (!(v4.X==v5.X&& (v4.Y==v5.Y&&true))) (some (.out (.inr 3))) (some (.go (w64 (x2+1)))))) (some (.out (.inl ())))
noncomputable def A0x (p1:Map)(x1:Int):Option (Stp Int (Sum Unit Int)):=
  cond (decide (x1< (p1.Lanes.length:Int))) ((D4 p1.Lanes x1).bind fun v1=>thenS (loop (A0w p1 v1) 0) (fun _=>some (.go (w64 (x1+1)))) (fun r=>some (.out (.inr r)))) (some (.out (.inl ())))
noncomputable def A5g (p1:Map):Option Int:=
  thenS (loop (A0x p1) 0) (fun _=>some 0) (fun r=>some r)
theorem B86 (p1:Map)(r:Int)(h:A5g p1=some r):PCall Tryz.prog 164 [(.agg (A3b p1))] (i64 r):=by
 refine B7 (fk Tryz.func164 Tryz.ntmps164 m0 (by with_unfolding_all rfl)) (nl rfl) ?_
 unfold A5g at h
 refine B5 (s0:=⟨T [(0,(.d _))],G []⟩) (sbr rfl rfl) ?_
 refine lr (fun u1 hu1=>sn rfl rfl (sv rfl (A1 (A6 (lr (fun u2 hu2=>sv rfl (A1 (js h fun z1 hz1 h=>D7 (fun s=> ∃(y1:Unit) (g1:Unit),z1= .inl y1∧Sb ⟨T [],G []⟩ s) ?_ ?_))))))))
 refine A8 (F1 (A0x p1) (fun (x1:Int) (g2:Unit)=>⟨T [(1,(.ptr (1,u1) 0)),(3,(di x1))],G [((1,u1),some (.box 33 (A09 p1)))]⟩) 0 () _ hz1 (sbr rfl rfl) ?_)
 intro x1 g2 z2 hz2 ez2
 unfold A0x at hz2
 refine A6 (lr (fun u3 hu3=>sv rfl (sp rfl rfl (sl rfl G_hit rfl (sd rfl (E7 rfl) (sv rfl (A1 (cc rfl hz2 (fun c1 hz2=> ?_) (fun c1 hz2=> ?_)))))))))
 refine A9 (A6 (A8 (lr (fun u4 hu4=>sp rfl rfl (sl rfl G_hit rfl (sv rfl (bs hz2 fun v1 hv1 hz2=>sd rfl (E2 rfl rfl hv1 rfl) (sd rfl (C3 rfl hv1 rfl rfl) (sn rfl rfl (sst rfl G_hit (C4v v1) rfl (A1 (lr (fun u5 hu5=>sv rfl (A1 (js hz2 fun z3 hz3 hz2=>D7 (fun s=> ∃(y2:Unit) (g3:Unit),z3= .inl y2∧Sb ⟨T [(1,(.ptr (1,u1) 0)),(3,(di x1))],G [((1,u1),some (.box 33 (A09 p1)))]⟩ s) ?_ ?_)))))))))))))))
 refine A8 (F1 (A0w p1 v1) (fun (x2:Int) (g4:Unit)=>⟨T [(1,(.ptr (1,u1) 0)),(3,(di x1)),(4,(.ptr (4,u4) 0)),(5,(di x2))],G [((1,u1),some (.box 33 (A09 p1))),((4,u4),some (.box 63 (C4v v1)))]⟩) 0 () _ hz3 (sbr rfl rfl) ?_)
 intro x2 g4 z4 hz4 ez4
 unfold A0w at hz4
 refine A6 (lr (fun u6 hu6=>sv rfl (sp rfl rfl (sl rfl (gq rfl) rfl (sd rfl (E7 rfl) (sv rfl (A1 (cc rfl hz4 (fun c2 hz4=> ?_) (fun c2 hz4=> ?_)))))))))
 refine A9 (A6 (A8 (A6 (I0 rfl fun u7 hu7=>sp rfl rfl (sl rfl G_hit rfl (sp rfl rfl (sl rfl (gq rfl) rfl (sv rfl (bs hz4 fun v2 hv2 hz4=>sd rfl (E2 rfl rfl hv2 rfl) (sd rfl (D9 rfl hv2 rfl) (bs hz4 fun v3 hv3 hz4=>sd rfl (E2 rfl rfl hv3 rfl) (sd rfl (C3 rfl hv3 rfl rfl) (sn rfl rfl (sst rfl G_hit (C4v v3) rfl (A1 (A6 (lr (fun u8 hu8=>sp rfl rfl (sl rfl G_hit rfl (sp rfl rfl (sl rfl (gq rfl) rfl (sv rfl (A1 (cc rfl hz4 (fun c3 hz4=> ?_) (fun c3 hz4=> ?_)))))))))))))))))))))))))
 refine lr (fun u9 hu9=>sv rfl (A1 (B3 ?_)))
 cases hz4
 obtain rfl:=ez4 _ rfl
 refine ⟨nofun,E1 ?_⟩
 rw [Sum.elim_inr]at hz2
 cases hz2
 obtain rfl:=ez2 _ rfl
 refine ⟨nofun,E1 ?_⟩
 rw [Sum.elim_inr]at h
 cases h
 exact A7 (.inr rfl) (B6 (B4 rfl) E0) (.refl _)
 refine A9 (A6 (I0 rfl fun u10 hu10=>sp rfl rfl (sp rfl rfl (sl rfl G_hit rfl (bs hz4 fun v4 hv4 hz4=>sd rfl (E2 rfl rfl hv4 rfl) (sd rfl (C3 rfl hv4 rfl rfl) (sp rfl rfl (sp rfl rfl (sl rfl (gq rfl) rfl (sp rfl rfl (sp rfl rfl (sl rfl (gq rfl) rfl (sd rfl (E7 rfl) (sv rfl (bs hz4 fun v5 hv5 hz4=>sd rfl (E2 rfl rfl hv5 rfl) (sd rfl (C3 rfl hv5 rfl rfl) (C1 (.d (bo (!(v4.X==v5.X&& (v4.Y==v5.Y&&true))))) rfl rfl (A1 (cc rfl hz4 (fun c4 hz4=> ?_) (fun c4 hz4=> ?_))))))))))))))))))))
 refine lr (fun u11 hu11=>sv rfl (A1 (B3 ?_)))
 cases hz4
 obtain rfl:=ez4 _ rfl
 refine ⟨nofun,E1 ?_⟩
 rw [Sum.elim_inr]at hz2
 cases hz2
 obtain rfl:=ez2 _ rfl
 refine ⟨nofun,E1 ?_⟩
 rw [Sum.elim_inr]at h
 cases h
 exact A7 (.inr rfl) (B6 (B4 rfl) E0) (.refl _)
 refine A9 (G3 (C8 fun u12 hu12=>sv rfl (sv rfl (sv rfl (A1 (G4 ?_))))))
 cases hz4
 exact ⟨rfl,(),(sbr rfl rfl)⟩
 refine C2 rfl ?_
 cases hz4
 obtain rfl:=ez4 _ rfl
 refine ⟨nofun,B9 rfl (l_j ?_)⟩
 exact ⟨_,(),rfl,(sbr rfl rfl)⟩
 rintro _ ⟨y2,g3,rfl,q1⟩
 rw [Sum.elim_inl]at hz2
 refine G3 (B5 q1 (C8 fun u13 hu13=>sv rfl (sv rfl (sv rfl (A1 (G4 ?_))))))
 cases hz2
 exact ⟨rfl,(),(sbr rfl rfl)⟩
 refine C2 rfl ?_
 cases hz2
 obtain rfl:=ez2 _ rfl
 refine ⟨nofun,B9 rfl (l_j ?_)⟩
 exact ⟨_,(),rfl,(sbr rfl rfl)⟩
 rintro _ ⟨y1,g1,rfl,q2⟩
 rw [Sum.elim_inl]at h
 refine B5 q2 (lr (fun u14 hu14=>sv rfl (A1 (B3 ?_))))
 cases h
 exact A7 (.inr rfl) (B6 (B4 rfl) E0) (.refl _)
noncomputable def W1 (p1:Map)(p2:Signal)(x2:Int):Option (Stp Int (Sum Unit Int)):=
  cond (decide (x2< (p2.Phases.length:Int))) ((D4 p2.Phases x2).bind fun v4=>(A43 v4.Green 0 (p1.Lanes.length:Int)).bind fun v5=>cond (!v5) (some (.out (.inr 11))) (some (.go (w64 (x2+1))))) (some (.out (.inl ())))
noncomputable def W2 (p2:Signal)(x1:(Bool×Int)):Option (Stp (Bool×Int) Bool):=
  cond (decide (x1.2< (p2.Phases.length:Int))) (((cond x1.1 (D4 p2.Phases x1.2) (some default))).bind fun v2=>((cond x1.1 (A2k v2.Ticks 1 10000) (some default))).bind fun v3=>some (.go ((x1.1&&v3),(w64 (x1.2+1))))) (some (.out x1.1))
noncomputable def A3k (p1:Map)(p2:Signal):Option Int:=
  cond ((p2.Phases.length:Int)==0) (some 6) (cond (decide ((p2.Phases.length:Int)>6)) (some 8) ((A2k p2.Offset 0 1099511627776).bind fun v1=>(loop (W2 p2) (v1,0)).bind fun y1=>cond (!y1) (some 2) (thenS (loop (W1 p1 p2) 0) (fun _=>some 0) (fun r=>some r))))
theorem B62 (p1:Map)(p2:Signal)(r:Int)(h:A3k p1 p2=some r):PCall Tryz.prog 165 [(.agg (A3b p1)),(.agg [(i64 p2.Offset),(.list (List.map A39 p2.Phases))])] (i64 r):=by
 refine B7 (fk Tryz.func165 Tryz.ntmps165 m0 (by with_unfolding_all rfl)) (nl rfl) ?_
 unfold A3k at h
 refine B5 (s0:=⟨T [(0,(.d _)),(1,(.d _))],G []⟩) (sbr rfl rfl) ?_
 refine lr (fun u1 hu1=>sn rfl rfl (sn rfl rfl (sv rfl (A1 (A6 (lr (fun u2 hu2=>sp rfl rfl (sl rfl G_hit rfl (sd rfl (E7 rfl) (sv rfl (A1 (cc rfl h (fun c1 h=> ?_) (fun c1 h=> ?_)))))))))))))
 refine lr (fun u3 hu3=>sv rfl (A1 (B3 ?_)))
 cases h
 exact A7 (.inr rfl) (B6 (B4 rfl) E0) (.refl _)
 refine A9 (A6 (lr (fun u4 hu4=>sp rfl rfl (sl rfl G_hit rfl (sd rfl (E7 rfl) (sv rfl (A1 (cc rfl h (fun c2 h=> ?_) (fun c2 h=> ?_)))))))))
 refine lr (fun u5 hu5=>sv rfl (A1 (B3 ?_)))
 cases h
 exact A7 (.inr rfl) (B6 (B4 rfl) E0) (.refl _)
 refine A9 (lr (fun u6 hu6=>sp rfl rfl (sl rfl G_hit rfl (bs h fun v1 hv1 h=>B0 rfl rfl A2 (A3j _ _ _ _ hv1) (.inl rfl) (sv rfl (A1 (A6 (lr (fun u7 hu7=>sv rfl (A1 (bs h fun y1 hy1 h=>D7 (fun s=> ∃g1:Unit,Sb ⟨T [(2,(.ptr (2,u1) 0)),(3,(.ptr (3,u1) 0)),(5,(.d (bo y1)))],G [((2,u1),some (.box 33 (A09 p1))),((3,u1),some (.box 120 [(di p2.Offset),(dl A39 p2.Phases)]))]⟩ s) ?_ ?_)))))))))))
 refine A8 (F1 (W2 p2) (fun (x1:(Bool×Int)) (g2:Unit)=>⟨T [(2,(.ptr (2,u1) 0)),(3,(.ptr (3,u1) 0)),(5,(.d (bo x1.1))),(6,(di x1.2))],G [((2,u1),some (.box 33 (A09 p1))),((3,u1),some (.box 120 [(di p2.Offset),(dl A39 p2.Phases)]))]⟩) (v1,0) () _ hy1 (sbr rfl rfl) ?_)
 intro x1 g2 z1 hz1 ez1
 unfold W2 at hz1
 refine A6 (lr (fun u8 hu8=>sv rfl (sp rfl rfl (sl rfl (gq rfl) rfl (sd rfl (E7 rfl) (sv rfl (A1 (cc rfl hz1 (fun c3 hz1=> ?_) (fun c3 hz1=> ?_)))))))))
 refine A9 (A6 (A8 (C8 fun u9 hu9=>sv rfl (sv rfl (gp rfl (A0d rfl) (fun _=>rfl) (gt rfl (vl rfl (gq rfl) rfl) (gt rfl (fun _=>rfl) (bs hz1 fun v2 hv2 hz1=>gt rfl (fun w4=>(E2 (A3 w4) (A3 w4) (C0 w4 hv2) rfl)) ?_))))))))
 refine gt rfl (fun w5=>(by simp only [A3 w5];rfl)) ?_
 refine gt rfl (fun w6=>(D9 (A3 w6) (C0 w6 hv2) rfl)) (bs hz1 fun v3 hv3 hz1=> ?_)
 refine S4 x1.1 (bo v3) (A0d rfl) (fun w7=>⟨_,[(di v2.Ticks),(di 1),(di 10000)],_,_,(by simp only [A3 w7];rfl),rfl,A2,A3j _ _ _ _ (C0 w7 hv3),(.inl rfl)⟩) ?_
 refine sa rfl rfl rfl (sv rfl (A1 (G3 (C8 fun u10 hu10=>sv rfl (sv rfl (sv rfl (A1 (G4 ?_))))))))
 cases hz1
 exact ⟨rfl,(),(sbr rfl rfl)⟩
 refine C2 rfl ?_
 cases hz1
 obtain rfl:=ez1 _ rfl
 refine ⟨nofun,B9 rfl (l_j ?_)⟩
 exact ⟨(),(sbr rfl rfl)⟩
 rintro _ ⟨g1,q1⟩
 refine B5 q1 (A6 (lr (fun u11 hu11=>sv rfl (C1 (.d (bo (!y1))) rfl rfl (A1 (cc rfl h (fun c4 h=> ?_) (fun c4 h=> ?_)))))))
 refine lr (fun u12 hu12=>sv rfl (A1 (B3 ?_)))
 cases h
 exact A7 (.inr rfl) (B6 (B4 rfl) E0) (.refl _)
 refine A9 (A6 (lr (fun u13 hu13=>sv rfl (A1 (js h fun z2 hz2 h=>D7 (fun s=> ∃(y2:Unit) (g3:Unit),z2= .inl y2∧Sb ⟨T [],G []⟩ s) ?_ ?_)))))
 refine A8 (F1 (W1 p1 p2) (fun (x2:Int) (g4:Unit)=>⟨T [(2,(.ptr (2,u1) 0)),(3,(.ptr (3,u1) 0)),(7,(di x2))],G [((2,u1),some (.box 33 (A09 p1))),((3,u1),some (.box 120 [(di p2.Offset),(dl A39 p2.Phases)]))]⟩) 0 () _ hz2 (sbr rfl rfl) ?_)
 intro x2 g4 z3 hz3 ez3
 unfold W1 at hz3
 refine A6 (lr (fun u14 hu14=>sv rfl (sp rfl rfl (sl rfl (gq rfl) rfl (sd rfl (E7 rfl) (sv rfl (A1 (cc rfl hz3 (fun c5 hz3=> ?_) (fun c5 hz3=> ?_)))))))))
 refine A9 (A6 (A8 (A6 (I0 rfl fun u15 hu15=>sp rfl rfl (sl rfl (gq rfl) rfl (sv rfl (bs hz3 fun v4 hv4 hz3=>sd rfl (E2 rfl rfl hv4 rfl) (sv rfl (sd rfl (D9 rfl hv4 rfl) (sp rfl rfl (sl rfl G_hit rfl (sd rfl (E7 rfl) (bs hz3 fun v5 hv5 hz3=>B0 rfl rfl A2 (A9r _ _ _ _ hv5) (.inl rfl) (C1 (.d (bo (!v5))) rfl rfl (A1 (cc rfl hz3 (fun c6 hz3=> ?_) (fun c6 hz3=> ?_)))))))))))))))))
 refine lr (fun u16 hu16=>sv rfl (A1 (B3 ?_)))
 cases hz3
 obtain rfl:=ez3 _ rfl
 refine ⟨nofun,E1 ?_⟩
 rw [Sum.elim_inr]at h
 cases h
 exact A7 (.inr rfl) (B6 (B4 rfl) E0) (.refl _)
 refine A9 (G3 (C8 fun u17 hu17=>sv rfl (sv rfl (sv rfl (A1 (G4 ?_))))))
 cases hz3
 exact ⟨rfl,(),(sbr rfl rfl)⟩
 refine C2 rfl ?_
 cases hz3
 obtain rfl:=ez3 _ rfl
 refine ⟨nofun,B9 rfl (l_j ?_)⟩
 exact ⟨_,(),rfl,(sbr rfl rfl)⟩
 rintro _ ⟨y2,g3,rfl,q2⟩
 rw [Sum.elim_inl]at h
 refine B5 q2 (lr (fun u18 hu18=>sv rfl (A1 (B3 ?_))))
 cases h
 exact A7 (.inr rfl) (B6 (B4 rfl) E0) (.refl _)
end Go.Abs.World
