/-
  The functions, part 3.
-/
import Derived.Test.YtgjdiioennhoeaaGreatFns2
set_option maxRecDepth 20000
set_option maxHeartbeats 4000000
set_option linter.unusedVariables false
namespace Go.Abs.World
open Go Go.Abs Go.Proofs
attribute [local irreducible] T6 B2y AWL
noncomputable def A63 (p1:Map)(p2:Int)(p3:Int)(v1:Zone)(x2:((List Int)×Int)):Option (Stp ((List Int)×Int) (List Int)):=
  cond (decide (x2.2< (v1.Parts.length:Int))) ((G3 v1.Parts x2.2).bind fun v2=>((cond (v2.Lane_==p2) (G3 p1.Signals (w64 (v1.Signal_ - 1))) (some default))).bind fun v3=>((cond (v2.Lane_==p2) (A5i v3 p2 p3) (some default))).bind fun v4=>cond ((v2.Lane_==p2)&& (!v4)) ((A9r x2.1 [v2.From]).bind fun v5=>some (.go (v5,(w64 (x2.2+1))))) (some (.go (x2.1,(w64 (x2.2+1)))))) (some (.out x2.1))
noncomputable def A64 (p1:Map)(p2:Int)(p3:Int)(x1:((List Int)×Int)):Option (Stp ((List Int)×Int) (List Int)):=
  cond (decide (x1.2< (p1.Zones.length:Int))) ((G3 p1.Zones x1.2).bind fun v1=>cond (v1.Signal_==0) (some (.go (x1.1,(w64 (x1.2+1))))) ((loop (A63 p1 p2 p3 v1) (x1.1,0)).bind fun y2=>some (.go (y2,(w64 (x1.2+1)))))) (some (.out x1.1))
noncomputable def B14 (p1:Map)(p2:Int)(p3:Int):Option (List Int):=
  (loop (A64 p1 p2 p3) ([],0)).bind fun y1=>cond (List.isEmpty y1) ((S6).bind fun v8=>some []) ((S5 y1).bind fun v6=>(B4y v6).bind fun v7=>some v7)
theorem B97 (p1:Map)(p2:Int)(p3:Int)(r:(List Int))(h:B14 p1 p2 p3=some r):PCall Tryz.prog 223 [(.agg (A5o p1)),(i64 p2),(i64 p3)] (.list (List.map A4 r)):=by
 refine B8 (fk Tryz.func223 Tryz.ntmps223 (fun r=>if r==10 then [1003]else if r==13 then [1013001]else if r==14 then [1014001]else []) (by with_unfolding_all rfl)) (nl rfl) ?_
 unfold B14 at h
 refine B4 (s0:=⟨T [(0,(.d _)),(1,(.d _)),(2,(.d _))],G []⟩) (sbr rfl rfl) ?_
 refine lr (fun u1 hu1=>sn rfl rfl (sv rfl (A1 (lr (fun u2 hu2=>sv rfl (A1 (A6 (lr (fun u3 hu3=>sp rfl rfl (sl rfl G_hit rfl (sd rfl (L9 rfl) (sv rfl (A1 (bs h fun y1 hy1 h=>I6 (fun s=> ∃g1:Nat,Sb ⟨T [(7,(oS y1 (50,g1)))],G [((50,g1),oB 2 1 A4 y1)]⟩ s) ?_ ?_))))))))))))))
 refine A8 (J3 (A64 p1 p2 p3) (fun (x1:((List Int)×Int)) (g2:Nat)=>⟨T [(1,(di p2)),(2,(di p3)),(3,(.ptr (3,u1) 0)),(7,(oS x1.1 (50,g2))),(13,(dl A9e p1.Zones)),(14,(di (p1.Zones.length:Int))),(15,(di x1.2))],G [((3,u1),some (.box 33 (A14 p1))),((50,g2),oB 2 1 A4 x1.1)]⟩) ([],0) 0 _ hy1 (J4 ⟨.of rfl, .of rfl, .of rfl, .of rfl, .of rfl, .of rfl, .of rfl,trivial⟩ (A9 G_hit (.of rfl) (A5c trivial))) ?_)
 intro x1 g2 z1 hz1 ez1
 unfold A64 at hz1
 refine lr (fun u4 hu4=>sv rfl (A1 (A6 (cc rfl hz1 (fun c1 hz1=> ?_) (fun c1 hz1=> ?_)))))
 refine B0 (A6 (A8 (lr (fun u5 hu5=>bs hz1 fun v1 hv1 hz1=>sd rfl (K5 rfl rfl hv1 rfl) (sd rfl (E7 rfl hv1 rfl rfl) (sn rfl rfl (sst rfl G_hit [(dl A8k v1.Parts),(di v1.Signal_)] rfl (A1 (A6 (lr (fun u6 hu6=>sp rfl rfl (sl rfl G_hit rfl (sv rfl (A1 (cc rfl hz1 (fun c2 hz1=> ?_) (fun c2 hz1=> ?_))))))))))))))))
 refine B5h rfl (E8 fun u7 hu7=>sv rfl (sv rfl (A1 (K4 ?_))))
 cases hz1
 exact ⟨rfl,g2,(J4 ⟨.of rfl, .of rfl, .of rfl, .of rfl, .of rfl, .of rfl, .of rfl,trivial⟩ (sg rfl (B5 (gq rfl) trivial)))⟩
 refine B0 (lr (fun u8 hu8=>sp rfl rfl (sl rfl G_hit rfl (sd rfl (L9 rfl) (sv rfl (A1 (bs hz1 fun y2 hy2 hz1=>I6 (fun s=> ∃g3:Nat,Sb ⟨T [(1,(di p2)),(2,(di p3)),(3,(.ptr (3,u1) 0)),(7,(oS y2 (50,g3))),(13,(dl A9e p1.Zones)),(14,(di (p1.Zones.length:Int))),(15,(di x1.2))],G [((3,u1),some (.box 33 (A14 p1))),((50,g3),oB 2 1 A4 y2)]⟩ s) ?_ ?_)))))))
 refine A8 (J3 (A63 p1 p2 p3 v1) (fun (x2:((List Int)×Int)) (g4:Nat)=>⟨T [(1,(di p2)),(2,(di p3)),(3,(.ptr (3,u1) 0)),(7,(oS x2.1 (50,g4))),(9,(.ptr (9,u5) 0)),(13,(dl A9e p1.Zones)),(14,(di (p1.Zones.length:Int))),(15,(di x1.2)),(23,(dl A8k v1.Parts)),(24,(di (v1.Parts.length:Int))),(25,(di x2.2))],G [((3,u1),some (.box 33 (A14 p1))),((9,u5),some (.box 117 [(dl A8k v1.Parts),(di v1.Signal_)])),((50,g4),oB 2 1 A4 x2.1)]⟩) (x1.1,0) g2 _ hy2 (J4 ⟨.of rfl, .of rfl, .of rfl, .of rfl, .of rfl, .of rfl, .of rfl, .of rfl, .of rfl, .of rfl, .of rfl,trivial⟩ (sg rfl (A9 G_hit (.of rfl) (B5 (gq rfl) trivial)))) ?_)
 intro x2 g4 z2 hz2 ez2
 unfold A63 at hz2
 refine lr (fun u9 hu9=>sv rfl (A1 (A6 (cc rfl hz2 (fun c3 hz2=> ?_) (fun c3 hz2=> ?_)))))
 refine B0 (A6 (A8 (lr (fun u10 hu10=>bs hz2 fun v2 hv2 hz2=>sd rfl (K5 rfl rfl hv2 rfl) (sd rfl (E7 rfl hv2 rfl rfl) (sn rfl rfl (sst rfl G_hit (C2f v2) rfl (A1 (lr (fun u11 hu11=>sp rfl rfl (sl rfl G_hit rfl (sv rfl (sv rfl (sv rfl (gp rfl (Y4 rfl) (fun _=>rfl) (gt rfl (vl rfl (gq rfl) rfl) (gp rfl (Y4 rfl) (fun _=>rfl) (gt rfl (vl rfl (gq rfl) rfl) (gt rfl (vb rfl rfl rfl) (bs hz2 fun v3 hv3 hz2=>gt rfl (fun w6=>(K5 (A5 w6) (A5 w6) (E2 w6 hv3) rfl)) (gt rfl (fun w7=>(E7 (A5 w7) (E2 w7 hv3) rfl rfl)) (gt rfl (fun _=>rfl) (gt rfl (fun _=>rfl) (bs hz2 fun v4 hv4 hz2=> ?_))))))))))))))))))))))))
 refine U4 _ (bo v4) (Y4 rfl) (fun w10=>⟨_,[(.d (.agg [(i64 v3.Offset),(.list (List.map A7d v3.Phases))])),(di p2),(di p3)],_,_,(by simp only [A5 w10];rfl),rfl,A2,B21 _ _ _ _ (E2 w10 hv4),(.inl rfl)⟩) ?_
 refine Z4 _ (.d (bo (!v4))) rfl (Y4 rfl) (fun w11=>(by simp only [A5 w11];rfl)) ?_
 refine sa rfl rfl rfl (A1 (cc rfl hz2 (fun c4 hz2=> ?_) (fun c4 hz2=> ?_)))
 refine E8 fun u12 hu12=>C9 (oS x2.1 (50,g4)) rfl rfl (sp rfl rfl (sl rfl G_hit rfl (C9 (dl A4 [v2.From]) rfl rfl (bs hz2 fun v5 hv5 hz2=>A08 A4 (50,g4) x2.1 v2.From [] _ (T1 (fun _=>rfl)) rfl (gq rfl) hv5 (ss rfl (A1 (L8 (E8 fun u13 hu13=>sv rfl (sv rfl (A1 (K4 ?_)))))))))))
 cases hz2
 exact ⟨rfl,u12,(J4 ⟨.of rfl, .of rfl, .of rfl,(.of (A9w (A36 hv5)).symm), .of rfl, .of rfl, .of rfl, .of rfl, .of rfl, .of rfl, .of rfl,trivial⟩ (sg rfl (sg rfl (A3v G_hit trivial))))⟩
 refine B0 (L8 (E8 fun u14 hu14=>sv rfl (sv rfl (A1 (K4 ?_)))))
 cases hz2
 exact ⟨rfl,g4,(J4 ⟨.of rfl, .of rfl, .of rfl, .of rfl, .of rfl, .of rfl, .of rfl, .of rfl, .of rfl, .of rfl, .of rfl,trivial⟩ (sg rfl (sg rfl (B5 (gq rfl) trivial))))⟩
 refine D8 rfl ?_
 cases hz2
 obtain rfl:=ez2 _ rfl
 refine ⟨nofun,C7 rfl (l_j ?_)⟩
 exact ⟨g4,(J4 ⟨.of rfl, .of rfl, .of rfl, .of rfl, .of rfl, .of rfl, .of rfl,trivial⟩ (A9 G_hit (.of rfl) (B5 (gq rfl) trivial)))⟩
 rintro _ ⟨g3,q1⟩
 refine L8 (B4 q1 (E8 fun u15 hu15=>sv rfl (sv rfl (A1 (K4 ?_)))))
 cases hz1
 exact ⟨rfl,g3,(J4 ⟨.of rfl, .of rfl, .of rfl, .of rfl, .of rfl, .of rfl, .of rfl,trivial⟩ (A9 G_hit (.of rfl) (B5 (gq rfl) trivial)))⟩
 refine D8 rfl ?_
 cases hz1
 obtain rfl:=ez1 _ rfl
 refine ⟨nofun,C7 rfl (l_j ?_)⟩
 exact ⟨g2,(J4 ⟨.of rfl,trivial⟩ (B5 (gq rfl) trivial))⟩
 rintro _ ⟨g1,q2⟩
 refine B4 q2 (A6 ?_)
 rcases B91 h with ⟨e1,h⟩|⟨e1,h⟩
 refine B4 (s0:=⟨T [(7,(.d .nilS))],G []⟩) (J4 ⟨.of (C6j e1),trivial⟩ trivial) ?_
 refine E8 fun u19 hu19=>sv rfl (bs h fun v8 hv8 h=>C2i (v:= .d (.tup [])) (us:= []) (C9s [] _ rfl rfl A2 (A6t _ hv8) rfl rfl) (A1 (lr (fun u20 hu20=>sv rfl (C2i (v:= .d .nilS) (us:= []) (C9s [] _ rfl rfl A2 C81 rfl rfl) (sv rfl (A1 (B3 ?_))))))))
 cases h
 exact A7 (.inr rfl) (B7 (B6 rfl) G8) DLe.nil
 refine B4 (s0:=⟨T [(7,(.sl (50,g1)))],G [((50,g1),some (.arr 2 1 (List.map A4 y1)))]⟩) (J4 ⟨.of (A9w e1),trivial⟩ (A9 (B3r G_hit e1) (.of rfl) trivial)) ?_
 refine E8 fun u17 hu17=>ss rfl (bs h fun v6 hv6 h=>C2i (v:= .d (.tup [])) (us:= [(50,g1)]) (C4b (A6s _ _ hv6) [(50,g1)] [(50,g1)] _ (((50,g1),some (.arr 2 1 (List.map A4 v6)))::_) rfl A7c (Y5 B8v B37) (A4i G_hit A4h) ⟨⟨_,G_hit, .of rfl⟩,trivial⟩ (fun _ h=>h) nd1 rfl rfl rfl) (A1 (lr (fun u18 hu18=>ss rfl (bs h fun v7 hv7 h=>C2i (v:= .sl (10140010,u18)) (us:= [(50,g1),(10140010,u18)]) (C4b (D02 _ _ hv7) [(50,g1)] [(50,g1)] _ (((10140010,u18),some (.arr 2 1 (List.map A4 v7)))::((50,g1),none)::_) rfl A7c (Y5 B8v B37) (A4i G_hit A4h) ⟨⟨_,G_hit, .of rfl⟩,trivial⟩ (fun _ h=>h) nd1 rfl rfl rfl) (ss rfl (A1 (B3 ?_))))))))
 cases h
 exact A7 (.inr rfl) (B7 (B6 rfl) (C3e G_hit)) (.refl _)
noncomputable def B15 (p1:Map)(p2:Int)(p3:Int):Option (List Int):=
  ((cond (!(decide (p3<0))) (B01 p1 p2) (some default))).bind fun v1=>cond ((decide (p3<0))||(!v1)) (some []) ((B14 p1 p2 p3).bind fun v2=>some v2)
theorem B98 (p1:Map)(p2:Int)(p3:Int)(r:(List Int))(h:B15 p1 p2 p3=some r):PCall Tryz.prog 180 [(.agg (A5o p1)),(i64 p2),(i64 p3)] (.list (List.map A4 r)):=by
 refine B8 (fk Tryz.func180 Tryz.ntmps180 m0 (by with_unfolding_all rfl)) (nl rfl) ?_
 unfold B15 at h
 refine B4 (s0:=⟨T [(0,(.d _)),(1,(.d _)),(2,(.d _))],G []⟩) (sbr rfl rfl) ?_
 refine lr (fun u1 hu1=>sn rfl rfl (sv rfl (A1 (A6 (lr (fun u2 hu2=>sv rfl (sv rfl (sv rfl (gf rfl (fun w1=>(B2 rfl G_hit rfl rfl)) (gf rfl (fun _=>rfl) (bs h fun v1 hv1 h=> ?_)))))))))))
 refine U4 _ (bo v1) (A2t rfl) (fun w3=>⟨_,[(.d (.agg (A5o p1))),(di p2)],_,_,(by simp only [A5 w3];rfl),rfl,A2,B2g _ _ _ (E2 w3 hv1),(.inl rfl)⟩) ?_
 refine Z4 _ (.d (bo (!v1))) rfl (A2t rfl) (fun w4=>(by simp only [A5 w4];rfl)) ?_
 refine sd rfl (A6a rfl rfl (fun hc=>A5 (W6 hc))) (A1 (cc rfl h (fun c1 h=> ?_) (fun c1 h=> ?_)))
 refine lr (fun u3 hu3=>sv rfl (A1 (B3 ?_)))
 cases h
 exact A7 (.inr rfl) (B7 (B6 rfl) G8) DLe.nil
 refine B0 (lr (fun u4 hu4=>sd rfl (B2 rfl G_hit rfl rfl) (sv rfl (sv rfl (bs h fun v2 hv2 h=>B1 rfl rfl A2 (B97 _ _ _ _ hv2) (.inl rfl) (sv rfl (A1 (B3 ?_))))))))
 cases h
 exact A7 (.inr rfl) (B7 (B6 rfl) G8) (.refl _)
noncomputable def A04 (p1:Int)(p2:Agent)(p3:Int):Option Int:=
  some (mm2 true 0 (mm2 false (w64 (p2.V+p1)) p3))
theorem A7q (p1:Int)(p2:Agent)(p3:Int)(r:Int)(h:A04 p1 p2 p3=some r):PCall Tryz.prog 179 [(i64 p1),(.bp (C3 p2) 0),(.bp [(i64 p3)] 0)] (i64 r):=by
 refine B8 (fk Tryz.func179 Tryz.ntmps179 m0 (by with_unfolding_all rfl)) (nl rfl) ?_
 unfold A04 at h
 refine B4 (s0:=⟨T [(0,(.d _)),(1,(.d _)),(2,(.d _))],G []⟩) (sbr rfl rfl) ?_
 refine lr (fun u1 hu1=>sv rfl (A1 (lr (fun u2 hu2=>sv rfl (sv rfl (sv rfl (sv rfl (sv rfl (sv rfl (sv rfl (sv rfl (A1 (B3 ?_)))))))))))))
 cases h
 exact A7 (.inr rfl) (B7 (B6 rfl) G8) (.refl _)
noncomputable def A5j (p1:Int)(p2:Int):Option Int:=
  cond ((decide (p1<1))||(decide (p2<1))) (some 0) ((C8u .i64 (w64 ((mm2 false p1 1000000) - 1)) (mm2 false p2 1000000)).bind fun v1=>some (w64 ((w64 (v1* (mm2 false p1 1000000))) - (w64 ((mm2 false p2 1000000)* (w64 ((w64 (v1* (w64 (v1+1)))).tdiv 2)))))))
theorem B03 (p1:Int)(p2:Int)(r:Int)(h:A5j p1 p2=some r):PCall Tryz.prog 41 [(i64 p1),(i64 p2)] (i64 r):=by
 refine B8 (fk Tryz.func41 Tryz.ntmps41 m0 (by with_unfolding_all rfl)) (nl rfl) ?_
 unfold A5j at h
 refine B4 (s0:=⟨T [(0,(.d _)),(1,(.d _))],G []⟩) (sbr rfl rfl) ?_
 refine lr (fun u1 hu1=>sv rfl (A1 (A6 (lr (fun u2 hu2=>sv rfl (sv rfl (sv rfl (gf rfl (fun _=>rfl) (gf rfl (vb rfl rfl rfl) (sd rfl (A6a rfl rfl (fun hc=>A5 (W6 hc))) (A1 (cc rfl h (fun c1 h=> ?_) (fun c1 h=> ?_)))))))))))))
 refine lr (fun u3 hu3=>sv rfl (A1 (B3 ?_)))
 cases h
 exact A7 (.inr rfl) (B7 (B6 rfl) G8) (.refl _)
 refine B0 (lr (fun u4 hu4=>sv rfl (sv rfl (sv rfl (sv rfl (sv rfl (sv rfl (A1 (lr (fun u5 hu5=>sv rfl (sv rfl (sv rfl (bs h fun v1 hv1 h=>sd rfl (C9p rfl rfl hv1) (sv rfl (A1 (lr (fun u6 hu6=>sv rfl (sv rfl (sv rfl (sv rfl (sv rfl (sv rfl (sv rfl (sv rfl (sv rfl (sv rfl (sv rfl (sv rfl (A1 (B3 ?_))))))))))))))))))))))))))))))
 cases h
 exact A7 (.inr rfl) (B7 (B6 rfl) G8) (.refl _)
noncomputable def V9 (p1:Int)(p2:Int)(p3:Int)(p4:Int)(p5:Int):Option Bool:=
  ((cond (decide (p1>p2)) (A5j p3 p4) (some default))).bind fun v1=>((cond ((decide (p1>p2))&& (decide ((w64 (p2+v1))<p1))) (A5j p5 p4) (some default))).bind fun v2=>some (((decide (p1>p2))&& (decide ((w64 (p2+v1))<p1)))&& (decide ((w64 ((w64 (p2+p5))+v2))≥p1)))
theorem A9k (p1:Int)(p2:Int)(p3:Int)(p4:Int)(p5:Int)(r:Bool)(h:V9 p1 p2 p3 p4 p5=some r):PCall Tryz.prog 225 [(i64 p1),(.bp [(i64 p2)] 0),(.bp [(i64 p3)] 0),(.bp [(i64 p4)] 0),(.bp [(i64 p5)] 0)] (bo r):=by
 refine B8 (fk Tryz.func225 Tryz.ntmps225 m0 (by with_unfolding_all rfl)) (nl rfl) ?_
 unfold V9 at h
 refine B4 (s0:=⟨T [(0,(.d _)),(1,(.d _)),(2,(.d _)),(3,(.d _)),(4,(.d _))],G []⟩) (sbr rfl rfl) ?_
 refine lr (fun u1 hu1=>sv rfl (A1 (A6 (M8 rfl fun u2 hu2=>sv rfl (sv rfl (sv rfl (sv rfl (gt rfl (fun _=>rfl) (gt rfl (fun _=>rfl) (gt rfl (fun _=>rfl) (bs h fun v1 hv1 h=> ?_)))))))))))
 refine U4 _ (i64 v1) (Y4 rfl) (fun w4=>⟨_,[(di p3),(di p4)],_,_,(by simp only [A5 w4];rfl),rfl,A2,B03 _ _ _ (E2 w4 hv1),(.inl rfl)⟩) ?_
 refine gt rfl (fun w5=>(A1i (A5 w5) (A5 w5) rfl)) (gt rfl (fun _=>rfl) (gt rfl (fun w7=>(A1i (A5 w7) (A5 w7) rfl)) (sa rfl rfl rfl (sv rfl (gt rfl (fun _=>rfl) (gt rfl (fun _=>rfl) (gt rfl (fun w10=>(A1i (A5 w10) (A5 w10) rfl)) (gt rfl (fun _=>rfl) (gt rfl (fun _=>rfl) (bs h fun v2 hv2 h=> ?_))))))))))
 refine U4 _ (i64 v2) (Y4 rfl) (fun w13=>⟨_,[(di p5),(di p4)],_,_,(by simp only [A5 w13];rfl),rfl,A2,B03 _ _ _ (E2 w13 hv2),(.inl rfl)⟩) ?_
 refine gt rfl (fun w14=>(A1i (A5 w14) (A5 w14) rfl)) (gt rfl (fun _=>rfl) (gt rfl (fun w16=>(A1i (A5 w16) (A5 w16) rfl)) (sa rfl rfl rfl (sv rfl (A1 (B3 ?_))))))
 cases h
 exact A7 (.inr rfl) (B7 (B6 rfl) G8) (.refl _)
noncomputable def E5 (p1:(List Int))(p2:Int)(p3:Int)(p4:Int)(p5:Int)(x1:Int):Option (Stp Int (Sum Unit Int)):=
  cond (decide (x1< (p1.length:Int))) ((G3 p1 x1).bind fun v1=>(V9 v1 p2 p3 p4 p5).bind fun v2=>cond v2 (some (.out (.inr x1))) (some (.go (w64 (x1+1))))) (some (.out (.inl ())))
noncomputable def F6 (p1:(List Int))(p2:Int)(p3:Int)(p4:Int)(p5:Int):Option Int:=
  thenS (loop (E5 p1 p2 p3 p4 p5) 0) (fun _=>some (-1)) (fun r=>some r)
theorem Z9 (p1:(List Int))(p2:Int)(p3:Int)(p4:Int)(p5:Int)(r:Int)(h:F6 p1 p2 p3 p4 p5=some r):PCall Tryz.prog 254 [(.list (List.map A4 p1)),(.fn (.func 225) [] [(.bp [(i64 p2)] 0),(.bp [(i64 p3)] 0),(.bp [(i64 p4)] 0),(.bp [(i64 p5)] 0)])] (i64 r):=by
 refine B8 (fk Tryz.func254 Tryz.ntmps254 m0 (by with_unfolding_all rfl)) (nl rfl) ?_
 unfold F6 at h
 refine B4 (s0:=⟨T [(0,(.d _)),(1,(.d _))],G []⟩) (sbr rfl rfl) ?_
 refine lr (fun u1 hu1=>sv rfl (A1 (A6 (lr (fun u2 hu2=>sv rfl (sd rfl (L9 rfl) (sv rfl (A1 (js h fun z1 hz1 h=>I6 (fun s=> ∃(y1:Unit) (g1:Unit),z1= .inl y1∧Sb ⟨T [],G []⟩ s) ?_ ?_)))))))))
 refine A8 (J3 (E5 p1 p2 p3 p4 p5) (fun (x1:Int) (g2:Unit)=>⟨T [(0,(dl A4 p1)),(1,(.d (.fn (.func 225) [] [(.bp [(i64 p2)] 0),(.bp [(i64 p3)] 0),(.bp [(i64 p4)] 0),(.bp [(i64 p5)] 0)]))),(7,(di (p1.length:Int))),(8,(di x1))],G []⟩) 0 () _ hz1 (sbr rfl rfl) ?_)
 intro x1 g2 z2 hz2 ez2
 unfold E5 at hz2
 refine lr (fun u3 hu3=>sv rfl (A1 (A6 (cc rfl hz2 (fun c1 hz2=> ?_) (fun c1 hz2=> ?_)))))
 refine B0 (A6 (A8 (lr (fun u4 hu4=>sv rfl (sv rfl (A1 (lr (fun u5 hu5=>sv rfl (sv rfl (sv rfl (bs hz2 fun v1 hv1 hz2=>sd rfl (K5 rfl rfl hv1 rfl) (sd rfl (M1 rfl hv1 rfl) (bs hz2 fun v2 hv2 hz2=>B1 rfl rfl A2 (A9k _ _ _ _ _ _ hv2) (.inl rfl) (A1 (cc rfl hz2 (fun c2 hz2=> ?_) (fun c2 hz2=> ?_))))))))))))))))
 refine lr (fun u6 hu6=>sv rfl (sv rfl (A1 (B3 ?_))))
 cases hz2
 obtain rfl:=ez2 _ rfl
 refine ⟨nofun,H8 ?_⟩
 rw [Sum.elim_inr]at h
 cases h
 exact A7 (.inr rfl) (B7 (B6 rfl) G8) (.refl _)
 refine B0 (L8 (E8 fun u7 hu7=>sv rfl (sv rfl (A1 (K4 ?_)))))
 cases hz2
 exact ⟨rfl,(),(sbr rfl rfl)⟩
 refine D8 rfl ?_
 cases hz2
 obtain rfl:=ez2 _ rfl
 refine ⟨nofun,C7 rfl (l_j ?_)⟩
 exact ⟨_,(),rfl,(sbr rfl rfl)⟩
 rintro _ ⟨y1,g1,rfl,q1⟩
 rw [Sum.elim_inl]at h
 refine B4 q1 (lr (fun u8 hu8=>sv rfl (A1 (B3 ?_))))
 cases h
 exact A7 (.inr rfl) (B7 (B6 rfl) G8) (.refl _)
noncomputable def E6 (p1:(List Int))(p2:Int)(p3:Int)(p4:Int)(p5:Int):Option Bool:=
  (F6 p1 p2 p3 p4 p5).bind fun v1=>some (decide (v1≥0))
theorem Y1 (p1:(List Int))(p2:Int)(p3:Int)(p4:Int)(p5:Int)(r:Bool)(h:E6 p1 p2 p3 p4 p5=some r):PCall Tryz.prog 224 [(.list (List.map A4 p1)),(.fn (.func 225) [] [(.bp [(i64 p2)] 0),(.bp [(i64 p3)] 0),(.bp [(i64 p4)] 0),(.bp [(i64 p5)] 0)])] (bo r):=by
 refine B8 (fk Tryz.func224 Tryz.ntmps224 m0 (by with_unfolding_all rfl)) (nl rfl) ?_
 unfold E6 at h
 refine B4 (s0:=⟨T [(0,(.d _)),(1,(.d _))],G []⟩) (sbr rfl rfl) ?_
 refine lr (fun u1 hu1=>sv rfl (A1 (lr (fun u2 hu2=>sv rfl (sv rfl (bs h fun v1 hv1 h=>B1 rfl rfl A2 (Z9 _ _ _ _ _ _ hv1) (.inl rfl) (sv rfl (sv rfl (A1 (B3 ?_))))))))))
 cases h
 exact A7 (.inr rfl) (B7 (B6 rfl) G8) (.refl _)
noncomputable def A7r (p1:(List Int))(p2:Int)(p3:Int)(p4:Int)(p5:Int):Option Bool:=
  (E6 p1 p2 p3 p5 p4).bind fun v1=>some (!v1)
theorem B6f (p1:(List Int))(p2:Int)(p3:Int)(p4:Int)(p5:Int)(r:Bool)(h:A7r p1 p2 p3 p4 p5=some r):PCall Tryz.prog 181 [(.list (List.map A4 p1)),(i64 p2),(i64 p3),(i64 p4),(i64 p5)] (bo r):=by
 refine B8 (fk Tryz.func181 Tryz.ntmps181 m0 (by with_unfolding_all rfl)) (nl rfl) ?_
 unfold A7r at h
 refine B4 (s0:=⟨T [(0,(.d _)),(1,(.d _)),(2,(.d _)),(3,(.d _)),(4,(.d _))],G []⟩) (sbr rfl rfl) ?_
 refine lr (fun u1 hu1=>sn rfl rfl (sn rfl rfl (sn rfl rfl (sn rfl rfl (sv rfl (A1 (lr (fun u2 hu2=>sv rfl (C9 (.fn _ _ _) rfl rfl (bs h fun v1 hv1 h=>B1 rfl (rD (C0 (B67 D3 (C0 (A0q (gq rfl) (rD D3)) (C0 (A0q (gq rfl) (rD D3)) (C0 (A0q G_hit (rD D3)) (C0 (A0q (gq rfl) (rD D3)) D3))))) D3)) A2 (Y1 _ _ _ _ _ _ hv1) (.inr rfl) (C9 (.d (bo (!v1))) rfl rfl (sv rfl (A1 (B3 ?_))))))))))))))
 cases h
 exact A7 (.inr rfl) (B7 (B6 rfl) G8) (.refl _)
noncomputable def A4t (p2:Agent)(v1:(Int×Int))(v3:(Int×Int×Int))(v5:(List Int))(x1:Int):Option (Stp Int Int):=
  ((cond (decide (x1>(w64 (0 - v3.2.2)))) (A04 x1 p2 v3.1) (some default))).bind fun v6=>((cond (decide (x1>(w64 (0 - v3.2.2)))) (A7r v5 v1.2 p2.V v6 v3.2.2) (some default))).bind fun v7=>cond ((decide (x1>(w64 (0 - v3.2.2))))&& (!v7)) (some (.go (w64 (x1 - 1)))) (some (.out x1))
noncomputable def A9l (p1:Map)(p2:Agent)(p3:Int)(p4:Int):Option Agent:=
  (A72 p1 p2).bind fun v1=>(G3 p1.Lanes v1.1).bind fun v2=>(A17 v2.Kind).bind fun v3=>((cond p2.Obey (A2i p1 v1.1) (some default))).bind fun v4=>(cond (p2.Obey&& (decide (v1.2≤v4))) ((B15 p1 v1.1 p3).bind fun v5=>(loop (A4t p2 v1 v3 v5) (mm2 true (w64 (0 - v3.2.2)) (mm2 false p4 v3.2.1))).bind fun y2=>some y2) (some (mm2 true (w64 (0 - v3.2.2)) (mm2 false p4 v3.2.1)))).bind fun y1=>(A04 y1 p2 v3.1).bind fun v8=>(A73 p1 (Agent.mk p2.Route (w64 (p2.S+v8)) v8 p2.Len p2.Begin p2.Obey p2.Gone)).bind fun v9=>some (Agent.mk p2.Route (w64 (p2.S+v8)) v8 p2.Len p2.Begin p2.Obey v9)
theorem B7s (p1:Map)(p2:Agent)(p3:Int)(p4:Int)(r:Agent)(h:A9l p1 p2 p3 p4=some r):PCall Tryz.prog 88 [(.agg (A5o p1)),(.agg (C3 p2)),(i64 p3),(i64 p4)] (.agg (C3 r)):=by
 refine B8 (fk Tryz.func88 Tryz.ntmps88 m0 (by with_unfolding_all rfl)) (nl rfl) ?_
 unfold A9l at h
 refine B4 (s0:=⟨T [(0,(.d _)),(1,(.d _)),(2,(.d _)),(3,(.d _))],G []⟩) (sbr rfl rfl) ?_
 refine lr (fun u1 hu1=>sn rfl rfl (sn rfl rfl (sn rfl rfl (A1 (lr (fun u2 hu2=>sd rfl (B2 rfl (gq rfl) rfl rfl) (sd rfl (B2 rfl (gq rfl) rfl rfl) (bs h fun v1 hv1 h=>B1 rfl rfl A2 (B3c _ _ _ hv1) (.inl rfl) (sv rfl (sv rfl (sv rfl (sv rfl (sv rfl (A1 (lr (fun u3 hu3=>sp rfl rfl (sl rfl (gq rfl) rfl (sv rfl (bs h fun v2 hv2 h=>sd rfl (K5 rfl rfl hv2 rfl) (sv rfl (sd rfl (M1 rfl hv2 rfl) (bs h fun v3 hv3 h=>B1 rfl rfl A2 (A4k _ _ hv3) (.inl rfl) (sv rfl (sv rfl (sv rfl (sv rfl (sn rfl rfl (sst rfl G_hit [(di v3.1)] rfl (sv rfl (sv rfl (A1 (lr (fun u4 hu4=>C9 (.fn _ _ _) rfl rfl (C9 (.fn _ _ _) rfl rfl (A1 (lr (fun u5 hu5=>sv rfl (C9 (di (w64 (0 - v3.2.2))) rfl rfl (sv rfl (sv rfl (sv rfl (sv rfl (sv rfl (A1 (A6 (lr (fun u6 hu6=>sp rfl rfl (sl rfl (gq rfl) rfl (sv rfl (gt rfl (fun _=>rfl) ?_))))))))))))))))))))))))))))))))))))))))))))))))))
 refine gt rfl (fun w2=>(B2 rfl (gq rfl) rfl rfl)) (gt rfl (fun _=>rfl) (bs h fun v4 hv4 h=> ?_))
 refine U4 p2.Obey (i64 v4) (Y4 rfl) (fun w4=>⟨_,[(.d (.agg (A5o p1))),(di v1.1)],_,_,(by simp only [A5 w4];rfl),rfl,A2,A7o _ _ _ (E2 w4 hv4),(.inl rfl)⟩) ?_
 refine gt rfl (fun w5=>(A1i (A5 w5) (A5 w5) rfl)) (sa rfl rfl rfl (A1 (bs h fun y1 hy1 h=>I6 (fun s=> ∃g1:Unit,Sb ⟨T [(3,(di y1)),(4,(.ptr (4,u1) 0)),(5,(.ptr (5,u1) 0)),(8,(.ptr (8,u1) 0)),(14,(.fn (.func 179) [] [(.ptr (5,u1) 0),(.ptr (11,u3) 0)]))],G [((4,u1),some (.box 33 (A14 p1))),((5,u1),some (.box 45 (A0a p2))),((8,u1),some (.box 45 ([(.d .nilS)]++ (zs 4)++ [(.d (bo false)),(.d (bo false))]))),((11,u3),some (.box 2 [(di v3.1)]))]⟩ s) ?_ ?_)))
 refine cc rfl hy1 (fun c1 hy1=> ?_) (fun c1 hy1=> ?_)
 refine lr (fun u7 hu7=>sd rfl (B2 rfl (gq rfl) rfl rfl) (sv rfl (sv rfl (bs hy1 fun v5 hv5 hy1=>B1 rfl rfl A2 (B98 _ _ _ _ hv5) (.inl rfl) (sv rfl (A1 (bs hy1 fun y2 hy2 hy1=>I6 (fun s=> ∃g2:Unit,Sb ⟨T [(3,(di y2)),(4,(.ptr (4,u1) 0)),(5,(.ptr (5,u1) 0)),(8,(.ptr (8,u1) 0)),(14,(.fn (.func 179) [] [(.ptr (5,u1) 0),(.ptr (11,u3) 0)]))],G [((4,u1),some (.box 33 (A14 p1))),((5,u1),some (.box 45 (A0a p2))),((8,u1),some (.box 45 ([(.d .nilS)]++ (zs 4)++ [(.d (bo false)),(.d (bo false))]))),((11,u3),some (.box 2 [(di v3.1)]))]⟩ s) ?_ ?_)))))))
 refine A8 (J3 (A4t p2 v1 v3 v5) (fun (x1:Int) (g3:Unit)=>⟨T [(3,(di x1)),(4,(.ptr (4,u1) 0)),(5,(.ptr (5,u1) 0)),(8,(.ptr (8,u1) 0)),(10,(di v1.2)),(13,(di v3.2.2)),(14,(.fn (.func 179) [] [(.ptr (5,u1) 0),(.ptr (11,u3) 0)])),(15,(dl A4 v5))],G [((4,u1),some (.box 33 (A14 p1))),((5,u1),some (.box 45 (A0a p2))),((8,u1),some (.box 45 ([(.d .nilS)]++ (zs 4)++ [(.d (bo false)),(.d (bo false))]))),((11,u3),some (.box 2 [(di v3.1)]))]⟩) (mm2 true (w64 (0 - v3.2.2)) (mm2 false p4 v3.2.1)) () _ hy2 (sbr rfl rfl) ?_)
 intro x1 g3 z1 hz1 ez1
 unfold A4t at hz1
 refine A6 (A6 (M8 rfl fun u8 hu8=>sv rfl (sv rfl (C9 (di (w64 (0 - v3.2.2))) rfl rfl (sv rfl (sv rfl (gt rfl (fun _=>rfl) (gt rfl (fun _=>rfl) (gp rfl (Y4 rfl) (fun _=>rfl) (gt rfl (vl rfl (gq rfl) rfl) (Z4 _ (.fn _ _ _) rfl (Y4 rfl) (fun _=>rfl) (gt rfl (fun _=>rfl) (bs hz1 fun v6 hv6 hz1=> ?_)))))))))))))
 refine U4 _ (i64 v6) (Y4 rfl) (fun w12=>⟨_,[(di x1),(.ptr (5,u1) 0),(.ptr (11,u3) 0)],_,_,(by simp only [A5 w12];rfl),(rD (C0 (A0q (gq rfl) (rD (rD (rD (rD (rD (rD (rD D3)))))))) (C0 (A0q (gq rfl) (rD D3)) D3))),A2,A7q _ _ _ _ (E2 w12 hv6),(.inr rfl)⟩) ?_
 refine gt rfl (fun _=>rfl) (bs hz1 fun v7 hv7 hz1=> ?_)
 refine U4 _ (bo v7) (Y4 rfl) (fun w14=>⟨_,[(dl A4 v5),(di v1.2),(di p2.V),(di v6),(di v3.2.2)],_,_,(by simp only [A5 w14];rfl),rfl,A2,B6f _ _ _ _ _ _ (E2 w14 hv7),(.inl rfl)⟩) ?_
 refine Z4 _ (.d (bo (!v7))) rfl (Y4 rfl) (fun w15=>(by simp only [A5 w15];rfl)) ?_
 refine sa rfl rfl rfl (A1 (cc rfl hz1 (fun c2 hz1=> ?_) (fun c2 hz1=> ?_)))
 refine B0 (A8 (E8 fun u9 hu9=>sv rfl (sv rfl (sv rfl (A1 (L8 (K4 ?_)))))))
 cases hz1
 exact ⟨rfl,(),(sbr rfl rfl)⟩
 refine D8 rfl ?_
 cases hz1
 obtain rfl:=ez1 _ rfl
 refine ⟨nofun,C7 rfl (l_j ?_)⟩
 exact ⟨(),(sbr rfl rfl)⟩
 rintro _ ⟨g2,q1⟩
 obtain rfl:=(Option.some.inj hy1)
 exact l_j ⟨(),(Sb.after q1 (sbr rfl rfl))⟩
 refine B0 ?_
 cases hy1
 exact l_j ⟨(),(sbr rfl rfl)⟩
 rintro _ ⟨g1,q2⟩
 refine B4 q2 (lr (fun u10 hu10=>C9 (.fn _ _ _) rfl rfl (sv rfl (bs h fun v8 hv8 h=>B1 rfl (rD (C0 (A0q (gq rfl) (rD (rD (rD (rD (rD (rD (rD D3)))))))) (C0 (A0q (gq rfl) (rD D3)) D3))) A2 (A7q _ _ _ _ hv8) (.inr rfl) (sp rfl rfl (sst rfl (gq rfl) ((A0a p2).set 2 (di v8)) rfl (A1 (lr (fun u11 hu11=>sp rfl rfl (sl rfl G_hit rfl (sp rfl rfl (sl rfl G_hit rfl (sv rfl (sp rfl rfl (sst rfl G_hit (((A0a p2).set 1 (di (w64 (p2.S+v8)))).set 2 (di v8)) rfl (A1 (lr (fun u12 hu12=>sd rfl (B2 rfl (gq rfl) rfl rfl) (sd rfl (B2 rfl G_hit rfl rfl) (bs h fun v9 hv9 h=>B1 rfl rfl A2 (B3d _ _ _ hv9) (.inl rfl) (sp rfl rfl (sst rfl G_hit ((((A0a p2).set 1 (di (w64 (p2.S+v8)))).set 2 (di v8)).set 6 (.d (bo v9))) rfl (A1 (lr (fun u13 hu13=>sd rfl (B2 rfl G_hit rfl rfl) (sst rfl (gq rfl) ((((A0a p2).set 1 (di (w64 (p2.S+v8)))).set 2 (di v8)).set 6 (.d (bo v9))) rfl (A1 (B3 ?_))))))))))))))))))))))))))))
 cases h
 exact A7 (.inr rfl) (B7 (I3 rfl G_hit (nl rfl) rfl) G8) (.refl _)
noncomputable def A9m (p1:Map)(p2:State)(p3:Int)(p4:Int):Option Agent:=
  cond ((decide (p3<0))||(decide (p3≥(p2.Agents.length:Int)))) (some (Agent.mk [] 0 0 0 0 false false)) ((G3 p2.Agents p3).bind fun v1=>(A0f v1).bind fun v2=>(A2e p2 p3).bind fun v3=>((cond (!(!v3)) (A40 p1 p2) (some default))).bind fun v4=>cond ((!v3)||(v4 !=0)) (some v2) ((A9l p1 v2 p2.Tick p4).bind fun v5=>some v5))
theorem B7t (p1:Map)(p2:State)(p3:Int)(p4:Int)(r:Agent)(h:A9m p1 p2 p3 p4=some r):PCall Tryz.prog 29 [(.agg (A5o p1)),(.agg (A0r p2)),(i64 p3),(i64 p4)] (.agg (C3 r)):=by
 refine B8 (fk Tryz.func29 Tryz.ntmps29 m0 (by with_unfolding_all rfl)) (nl rfl) ?_
 unfold A9m at h
 refine B4 (s0:=⟨T [(0,(.d _)),(1,(.d _)),(2,(.d _)),(3,(.d _))],G []⟩) (sbr rfl rfl) ?_
 refine lr (fun u1 hu1=>sn rfl rfl (sn rfl rfl (sn rfl rfl (A1 (A6 (lr (fun u2 hu2=>sv rfl (sv rfl (sv rfl (gf rfl (fun _=>rfl) (gp rfl (A2t rfl) (fun _=>rfl) (gf rfl (vl rfl (gq rfl) rfl) (gf rfl (fun w4=>(L9 (A5 w4))) (gf rfl (fun w5=>(A1i (A5 w5) (A5 w5) rfl)) (sd rfl (A6a rfl rfl (fun hc=>A5 (W6 hc))) (A1 (cc rfl h (fun c1 h=> ?_) (fun c1 h=> ?_))))))))))))))))))
 refine lr (fun u3 hu3=>sv rfl (sst rfl G_hit ([(.d .nilS)]++ (zs 4)++ [(.d (bo false)),(.d (bo false))]) rfl (A1 (B3 ?_))))
 cases h
 exact A7 (.inr rfl) (B7 (I3 rfl G_hit (nl rfl) rfl) G8) (.agg (.cons ⟨DLe.nil,rfl⟩ (cz rfl)))
 refine B0 (lr (fun u4 hu4=>sp rfl rfl (sl rfl (gq rfl) rfl (sv rfl (bs h fun v1 hv1 h=>sd rfl (K5 rfl rfl hv1 rfl) (sd rfl (E7 rfl hv1 rfl rfl) (bs h fun v2 hv2 h=>B1 rfl rfl A2 (A5e _ _ hv2) (.inl rfl) (sn rfl rfl (sst rfl G_hit (A0a v2) rfl (A1 (A6 (lr (fun u5 hu5=>sd rfl (B2 rfl (gq rfl) rfl rfl) (sv rfl (bs h fun v3 hv3 h=>B1 rfl rfl A2 (A5p _ _ _ hv3) (.inl rfl) (C9 (.d (bo (!v3))) rfl rfl (sv rfl (gf rfl (fun w6=>(B2 rfl (gq rfl) rfl rfl)) (gf rfl (fun w7=>(B2 rfl (gq rfl) rfl rfl)) (bs h fun v4 hv4 h=> ?_))))))))))))))))))))
 refine U4 _ (i64 v4) (A2t rfl) (fun w8=>⟨_,[(.d (.agg (A5o p1))),(.d (.agg (A0r p2)))],_,_,(by simp only [A5 w8];rfl),rfl,A2,A8n _ _ _ (E2 w8 hv4),(.inl rfl)⟩) ?_
 refine gf rfl (vb rfl rfl rfl) (sd rfl (A6a rfl rfl (fun hc=>A5 (W6 hc))) (A1 (cc rfl h (fun c2 h=> ?_) (fun c2 h=> ?_))))
 refine lr (fun u6 hu6=>sd rfl (B2 rfl G_hit rfl rfl) (sst rfl (gq rfl) (A0a v2) rfl (A1 (B3 ?_))))
 cases h
 exact A7 (.inr rfl) (B7 (I3 rfl G_hit (nl rfl) rfl) G8) (.refl _)
 refine B0 (lr (fun u7 hu7=>sd rfl (B2 rfl (gq rfl) rfl rfl) (sd rfl (B2 rfl G_hit rfl rfl) (sp rfl rfl (sl rfl (gq rfl) rfl (sv rfl (bs h fun v5 hv5 h=>B1 rfl rfl A2 (B7s _ _ _ _ _ hv5) (.inl rfl) (sst rfl (gq rfl) (A0a v5) rfl (A1 (B3 ?_))))))))))
 cases h
 exact A7 (.inr rfl) (B7 (I3 rfl G_hit (nl rfl) rfl) G8) (.refl _)
theorem A8d (p1:List Stay)(r:List Stay)(h:R9 p1=some r):MCall Tryz.prog 121 [.d (.list (List.map L4 p1))] [] (oE r (800000,0)) [] [oB 127 4 L4 r]:=by
  cases p1 with
  |nil=>
   have hr:r= []:=by obtain ⟨_,rfl⟩:=A7b h;rfl
   subst hr
   exact MCall.ofP (A3d [] [] h)
  |cons x xs=>
  have hr:A9r ([]:List Stay) (x::xs)=some r:=h
  have e:=(A7b hr).2
  rw [List.nil_append]at e
  rw [C9u (A36 hr),C8w (A36 hr)]
  refine C3s (fk Tryz.func121 Tryz.ntmps121 m0 (by with_unfolding_all rfl)) rfl (Nat.le_of_ble_eq_true rfl) ?_
  refine (B4 (s0:=⟨T [(0, .d (.list (List.map L4 (x::xs))))],G []⟩) (J4 ⟨.of rfl,trivial⟩ trivial) ?_)
  refine A6 ?_
  refine E8 fun u1 hu1=> ?_
  refine C9 (.d .nilS) rfl rfl ?_
  refine A1 ?_
  refine A6 ?_
  refine A6 ?_
  refine E8 fun u2 hu2=> ?_
  refine C9 (.d (.list (List.map L4 (x::xs)))) rfl rfl ?_
  refine C9 (.d (bo false)) rfl rfl ?_
  refine A1 ?_
  refine B0w rfl ?_
  refine B0 ?_
  refine A6 ?_
  refine E8 fun u3 hu3=> ?_
  refine C5i (.sl _) (.arr 127 4 (List.map L4 ([]:List Stay))) rfl rfl ?_
  refine C9 (.d (.list (List.map L4 (x::xs)))) rfl rfl ?_
  refine B4x L4 _ [] (x::xs) _ (T1 (fun _=>rfl)) rfl G_hit hr ?_
  refine C9 (.sl _) rfl rfl ?_
  refine A1 ?_
  refine B3 ?_
  exact C95 (v1:= .sl (7,u3)) (.inr rfl) (C5r (B6 rfl)) (.of rfl) [((7,u3),some (.arr 127 4 (List.map L4 r)))] (A9 G_hit (.of rfl) trivial) (C5q [(7,u3)] rfl trivial ⟨G_hit,trivial⟩ rfl (by simp only [List.mem_cons,List.not_mem_nil,or_false,forall_eq];exact fun i=>C6h rfl i) nd1)
noncomputable def A1k (p1:State)(x1:(Int×State)):Option (Stp (Int×State) State):=
  cond (decide (x1.1< (p1.Agents.length:Int))) ((G3 p1.Agents x1.1).bind fun v2=>(A0f v2).bind fun v3=>(A9r x1.2.Agents [v3]).bind fun v4=>some (.go ((w64 (x1.1+1)),(State.mk x1.2.Tick v4 x1.2.In)))) (some (.out x1.2))
noncomputable def A4u (p1:State):Option State:=
  (R9 p1.In).bind fun v1=>(loop (A1k p1) (0,(State.mk p1.Tick [] v1))).bind fun y1=>some y1
theorem B4h (p1:State)(r:State)(h:A4u p1=some r):MCall Tryz.prog 56 [(.d (.agg (A0r p1)))] [] (A23 [(di r.Tick),(oS r.Agents (800000,0)),(oE r.In (800001,0))]) [] [oB 45 7 C3 r.Agents,oB 127 4 L4 r.In]:=by
 refine C3s (fk Tryz.func56 Tryz.ntmps56 (fun r=>if r==1 then [1001004]else if r==5 then [1004]else []) (by with_unfolding_all rfl)) (by generalize r.Agents=x1;generalize r.In=x2;cases x1<;>cases x2<;>rfl) (nl rfl) ?_
 unfold A4u at h
 refine B4 (s0:=⟨T [(0,(.d _))],G []⟩) (sbr rfl rfl) ?_
 refine lr (fun u1 hu1=>sn rfl rfl (sn rfl rfl (A1 (A6 (B7i fun u2 hu2=>A3w (.ptr _ _) rfl rfl (A3w (.d _) rfl (V1 rfl (gq rfl) rfl) (A3w (.ptr _ _) rfl rfl (A3w (.d _) rfl (V1 rfl (gq rfl) rfl) (bs h fun v1 hv1 h=> ?_)))))))))
 refine t_oc (v:=oE v1 (10010040,u2)) (us:= [(10010040,u2)]) (C99 (A8d _ _ hv1) [] [] _ (((10010040,u2),oB 127 4 L4 v1)::_) rfl A7c rfl A4h trivial (fun _ h=>h) List.nodup_nil (by generalize v1=x1;cases x1<;>rfl) rfl (C3u (rfl)) rfl) ?_
 refine A3w (A23 [(di p1.Tick),(.d .nilS),(oE v1 (10010040,u2))]) rfl (by generalize v1=x1;cases x1<;>rfl) ?_
 refine C90 (.ptr _ _) (.box _ _) rfl rfl (B9z _ _ _ _ _ (A16 _) rfl rfl G_hit (nl rfl) [(di p1.Tick),(.d .nilS),(oE v1 (10010040,u2))] rfl (C5l ⟨rfl,?_⟩))
 refine A6 (lr (fun u3 hu3=>sp rfl rfl (sl rfl (gq rfl) rfl (sd rfl (L9 rfl) (sv rfl (A1 (bs h fun y1 hy1 h=>I6 (fun s=> ∃g1:(Nat×Nat),Sb ⟨T [(2,(.ptr (2,u1) 0)),(3,(.ptr (3,u2) 0))],G [((2,u1),some (.box 25 [(di 0),(.d .nilS),(.d .nilS)])),((3,u2),some (.box 25 [(di y1.Tick),(oS y1.Agents (24,g1.1)),(oE y1.In (10010040,g1.2))])),((24,g1.1),oB 45 7 C3 y1.Agents),((10010040,g1.2),oB 127 4 L4 y1.In)]⟩ s) ?_ ?_)))))))
 refine A8 (J3 (A1k p1) (fun (x1:(Int×State)) (g2:(Nat×Nat))=>⟨T [(2,(.ptr (2,u1) 0)),(3,(.ptr (3,u2) 0)),(13,(dl C3 p1.Agents)),(14,(di (p1.Agents.length:Int))),(15,(di x1.1))],G [((2,u1),some (.box 25 [(di 0),(.d .nilS),(.d .nilS)])),((3,u2),some (.box 25 [(di x1.2.Tick),(oS x1.2.Agents (24,g2.1)),(oE x1.2.In (10010040,g2.2))])),((24,g2.1),oB 45 7 C3 x1.2.Agents),((10010040,g2.2),oB 127 4 L4 x1.2.In)]⟩) (0,(State.mk p1.Tick [] v1)) (0,u2) _ hy1 (J4 ⟨.of rfl, .of rfl, .of rfl, .of rfl, .of rfl,trivial⟩ (sg rfl (A9 G_hit (.of rfl) (A5c (B5 (gq rfl) trivial))))) ?_)
 intro x1 g2 z1 hz1 ez1
 unfold A1k at hz1
 refine lr (fun u4 hu4=>sv rfl (A1 (A6 (cc rfl hz1 (fun c1 hz1=> ?_) (fun c1 hz1=> ?_)))))
 refine B0 (A6 (A8 (lr (fun u5 hu5=>bs hz1 fun v2 hv2 hz1=>sd rfl (K5 rfl rfl hv2 rfl) (sd rfl (E7 rfl hv2 rfl rfl) (sn rfl rfl (sst rfl G_hit (A0a v2) rfl (A1 (M8 rfl fun u6 hu6=>sp rfl rfl (C9 (oS x1.2.Agents (24,g2.1)) rfl (V1 rfl (gq rfl) rfl) (sd rfl (B2 rfl G_hit rfl rfl) (bs hz1 fun v3 hv3 hz1=>B1 rfl rfl A2 (A5e _ _ hv3) (.inl rfl) (C9 (dl C3 [v3]) rfl rfl (bs hz1 fun v4 hv4 hz1=>A08 C3 (24,g2.1) x1.2.Agents v3 [] _ (T1 (fun _=>rfl)) rfl (gq rfl) hv4 (sp rfl rfl (sst rfl (gq rfl) [(di x1.2.Tick),(.sl (24,u6)),(oE x1.2.In (10010040,g2.2))] rfl (A1 (L8 (E8 fun u7 hu7=>sv rfl (sv rfl (A1 (K4 ?_))))))))))))))))))))))
 cases hz1
 exact ⟨rfl,(u6,g2.2),(J4 ⟨.of rfl, .of rfl, .of rfl, .of rfl, .of rfl,trivial⟩ (sg rfl (A9 G_hit (.box (cv (.cons (.of (A9w (A36 hv4)).symm) cw))) (A3v (gq rfl) (B5 (gq rfl) trivial)))))⟩
 refine D8 rfl ?_
 cases hz1
 obtain rfl:=ez1 _ rfl
 refine ⟨nofun,C7 rfl (l_j ?_)⟩
 exact ⟨(g2.1,g2.2),(J4 ⟨.of rfl, .of rfl,trivial⟩ (A9 G_hit (.of rfl) (sg rfl (B5 (gq rfl) (B5 (gq rfl) trivial)))))⟩
 rintro _ ⟨g1,q1⟩
 refine B4 q1 (lr (fun u8 hu8=>C9 (A23 [(di y1.Tick),(oS y1.Agents (24,g1.1)),(oE y1.In (10010040,g1.2))]) rfl (B2 rfl (gq rfl) rfl rfl) (B0x _ _ _ _ _ (A16 _) rfl rfl G_hit (nl rfl) [(di y1.Tick),(oS y1.Agents (24,g1.1)),(oE y1.In (10010040,g1.2))] rfl (A1 (B3 ?_)))))
 obtain rfl:=(Option.some.inj h)
 exact C95 (v1:=(A23 [(di y1.Tick),(oS y1.Agents (24,g1.1)),(oE y1.In (10010040,g1.2))])) (.inr rfl) (C5r (I3 rfl G_hit (Nat.le_of_ble_eq_true rfl) rfl)) (.of rfl) [((24,g1.1),oB 45 7 C3 y1.Agents),((10010040,g1.2),oB 127 4 L4 y1.In)] (B5 (gq rfl) (B5 (gq rfl) trivial)) (C7v [(24,g1.1),(10010040,g1.2)] (by generalize y1.Agents=x1;generalize y1.In=x2;cases x1<;>cases x2<;>rfl) trivial ⟨(G_hit).trans oB_ren.symm,((gq rfl)).trans oB_ren.symm,trivial⟩ rfl (List.forall_mem_cons.2 ⟨fun i hi=>C3v rfl hi,(List.forall_mem_cons.2 ⟨fun i hi=>C3v rfl hi,(fun _ h=>nomatch h)⟩)⟩) (nd2 (C98 rfl)))
noncomputable def U9 (p1:WorldScene)(p2:Int)(p3:Int):Option (Int×Bool):=
  (G3 p1.before.Agents p2).bind fun v1=>(U2 v1.Route p3).bind fun v2=>cond (decide (v2<0)) (some (0,false)) ((A2c p1.m v1.Route).bind fun v3=>(G3 v3 v2).bind fun v4=>some (v4,true))
theorem A5b (p1:WorldScene)(p2:Int)(p3:Int)(r:(Int×Bool))(h:U9 p1 p2 p3=some r):PCall Tryz.prog 227 [(.bp (A7e p1) 0),(i64 p2),(i64 p3)] (.tup [(i64 r.1),(bo r.2)]):=by
 refine B8 (fk Tryz.func227 Tryz.ntmps227 m0 (by with_unfolding_all rfl)) (nl rfl) ?_
 unfold U9 at h
 refine B4 (s0:=⟨T [(0,(.d _)),(1,(.d _)),(2,(.d _))],G []⟩) (sbr rfl rfl) ?_
 refine lr (fun u1 hu1=>sv rfl (sv rfl (A1 (lr (fun u2 hu2=>sv rfl (sv rfl (sv rfl (sv rfl (sv rfl (sv rfl (bs h fun v1 hv1 h=>sd rfl (K5 rfl rfl hv1 rfl) (sv rfl (sd rfl (M1 rfl hv1 rfl) (sv rfl (A1 (lr (fun u3 hu3=>sv rfl (sv rfl (bs h fun v2 hv2 h=>B1 rfl rfl A2 (A4n _ _ _ hv2) (.inl rfl) (sv rfl (A1 (A6 (lr (fun u4 hu4=>sv rfl (sv rfl (A1 (cc rfl h (fun c1 h=> ?_) (fun c1 h=> ?_))))))))))))))))))))))))))))
 refine lr (fun u5 hu5=>sv rfl (sv rfl (A1 (B3 ?_))))
 cases h
 exact A7 (.inr rfl) (B33 (B6 rfl) (B6 rfl) G8 G8) (.refl _)
 refine B0 (lr (fun u6 hu6=>sv rfl (sv rfl (sv rfl (sv rfl (sv rfl (bs h fun v3 hv3 h=>B1 rfl rfl A2 (A7k _ _ _ hv3) (.inl rfl) (sv rfl (bs h fun v4 hv4 h=>sd rfl (K5 rfl rfl hv4 rfl) (sd rfl (M1 rfl hv4 rfl) (sv rfl (sv rfl (A1 (B3 ?_))))))))))))))
 cases h
 exact A7 (.inr rfl) (B33 (B6 rfl) (B6 rfl) G8 G8) (.refl _)
noncomputable def W4 (p1:WorldScene)(p2:Int)(p3:Int):Option Stay:=
  (B9 p1.after.In (Stay.mk p2 p3 0 0)).bind fun v1=>(G3 p1.after.In v1.1).bind fun v2=>some v2
theorem A65 (p1:WorldScene)(p2:Int)(p3:Int)(r:Stay)(h:W4 p1 p2 p3=some r):PCall Tryz.prog 228 [(.bp (A7e p1) 0),(i64 p2),(i64 p3)] (.agg (L4 r)):=by
 refine B8 (fk Tryz.func228 Tryz.ntmps228 m0 (by with_unfolding_all rfl)) (nl rfl) ?_
 unfold W4 at h
 refine B4 (s0:=⟨T [(0,(.d _)),(1,(.d _)),(2,(.d _))],G []⟩) (sbr rfl rfl) ?_
 refine lr (fun u1 hu1=>sn rfl rfl (A1 (lr (fun u2 hu2=>sv rfl (sv rfl (sv rfl (sv rfl (sv rfl (sv rfl (sv rfl (sv rfl (bs h fun v1 hv1 h=>B1 rfl rfl A2 (K6 _ _ _ hv1) (.inl rfl) (sv rfl (sv rfl (sv rfl (sv rfl (sv rfl (A1 (lr (fun u3 hu3=>sv rfl (sv rfl (sv rfl (sv rfl (sv rfl (sv rfl (bs h fun v2 hv2 h=>sd rfl (K5 rfl rfl hv2 rfl) (sd rfl (E7 rfl hv2 rfl rfl) (sst rfl G_hit (B6a v2) rfl (A1 (B3 ?_))))))))))))))))))))))))))))))
 cases h
 exact A7 (.inr rfl) (B7 (I3 rfl G_hit (nl rfl) rfl) G8) (.refl _)
noncomputable def A3q (p1:Map)(p2:State)(p3:(List Int))(v2:State)(y2:(List Agent))(y5:(List Stay))(a1:(Int×Int))(x6:(Int× (List Crash))):Option (Stp (Int× (List Crash)) (List Crash)):=
  cond (decide (x6.1< (p1.Zones.length:Int))) ((U8 (WorldScene.mk p1 p2 (State.mk v2.Tick y2 y5) p3 x6.2) a1.1 a1.2 x6.1).bind fun v28=>cond (!v28) (some (.go ((w64 (x6.1+1)),x6.2))) ((W4 (WorldScene.mk p1 p2 (State.mk v2.Tick y2 y5) p3 x6.2) a1.1 x6.1).bind fun v29=>(W4 (WorldScene.mk p1 p2 (State.mk v2.Tick y2 y5) p3 x6.2) a1.2 x6.1).bind fun v30=>(V6 v29.Rank v30.Rank).bind fun v31=>(X9 v30.Since v29.Since).bind fun v32=>(A5g [v31,v32]).bind fun v33=>(cond (v33==(-1)) (some [a1.1]) (cond (v33==1) (some [a1.2]) (some [a1.1,a1.2]))).bind fun y17=>(A9r x6.2 [(Crash.mk p2.Tick a1.1 a1.2 (-1) x6.1 y17)]).bind fun v34=>some (.go ((w64 (x6.1+1)),v34)))) (some (.out x6.2))
noncomputable def A5q (p1:Map)(p2:State)(p3:(List Int))(v2:State)(y2:(List Agent))(y5:(List Stay))(a1:(Int×Int))(y12:(List Crash)):Option (List Crash):=
  (loop (A3q p1 p2 p3 v2 y2 y5 a1) (0,y12)).bind fun y16=>some y16
noncomputable def A3r (p1:Map)(p2:State)(p3:(List Int))(v2:State)(y2:(List Agent))(y5:(List Stay))(x4:(List Crash))(a1:(Int×Int))(x5:Int):Option (Stp Int (Sum Unit (List Crash))):=
  cond (decide (x5< (p1.Lanes.length:Int))) ((U9 (WorldScene.mk p1 p2 (State.mk v2.Tick y2 y5) p3 x4) a1.1 x5).bind fun v13=>(U9 (WorldScene.mk p1 p2 (State.mk v2.Tick y2 y5) p3 x4) a1.2 x5).bind fun v14=>cond ((!v13.2)||(!v14.2)) (some (.go (w64 (x5+1)))) ((G3 p2.Agents a1.1).bind fun v15=>(G3 p2.Agents a1.2).bind fun v16=>(cond (decide ((w64 (v15.S - v13.1))< (w64 (v16.S - v14.1)))) (some (v14.1,v13.1,a1.2,a1.1)) (some (v13.1,v14.1,a1.1,a1.2))).bind fun y14=>(G3 y2 y14.2.2.1).bind fun v17=>(A1n v17).bind fun v18=>(V8 v18 y14.1).bind fun v19=>(G3 y2 y14.2.2.2).bind fun v20=>(A1n v20).bind fun v21=>(V8 v21 y14.2.1).bind fun v22=>(G3 p2.Agents y14.2.2.2).bind fun v23=>(A1n v23).bind fun v24=>(V8 v24 y14.2.1).bind fun v25=>(A2i p1 x5).bind fun v26=>cond (((((decide (v19.to≥0))&& (decide (v22.to≥0)))&& (decide (v25.from_≤v26)))&& (decide (v19.from_≤v26)))&& (decide (v22.to≥v19.from_))) ((A9r x4 [(Crash.mk p2.Tick a1.1 a1.2 x5 (-1) [y14.2.2.2])]).bind fun v27=>some (.out (.inr v27))) (some (.go (w64 (x5+1)))))) (some (.out (.inl ())))
noncomputable def A6u (p1:Map)(p2:State)(p3:(List Int))(v2:State)(y2:(List Agent))(y5:(List Stay))(x4:(List Crash))(a1:(Int×Int)):Option (List Crash):=
  thenS (loop (A3r p1 p2 p3 v2 y2 y5 x4 a1) 0) (fun _=>some x4) (fun r=>some r)
noncomputable def A4v (p1:Map)(p2:State)(p3:(List Int))(v2:State)(y2:(List Agent))(y5:(List Stay))(x4:(List Crash))(a1:(Int×Int)):Option (Stp (List Crash) (List Crash)):=
  (A6u p1 p2 p3 v2 y2 y5 x4 a1).bind fun y12=>(A5q p1 p2 p3 v2 y2 y5 a1 y12).bind fun y15=>some (.go y15)
noncomputable def A6v:Option Unit:=
  some ()
noncomputable def A6w (p1:Map)(p2:State)(p3:(List Int))(v2:State)(y2:(List Agent))(y5:(List Stay)):Option (List Crash):=
  (A6v).bind fun y10=>((B6w p2).bind fun v12=>loopL (A4v p1 p2 p3 v2 y2 y5) (fun (x4:(List Crash))=>x4) v12 []).bind fun y11=>some y11
noncomputable def A4w (p1:Map)(p2:State)(p3:(List Int))(v2:State)(y2:(List Agent))(x2:(Int× (List Stay)))(v6:Agent)(x3:(Int× (List Stay))):Option (Stp (Int× (List Stay)) (List Stay)):=
  cond (decide (x3.1< (p1.Zones.length:Int))) ((P3 (WorldScene.mk p1 p2 (State.mk v2.Tick y2 x3.2) p3 []) x2.1 x3.1).bind fun v7=>cond (!v7) (some (.go ((w64 (x3.1+1)),x3.2))) ((B9 p2.In (Stay.mk x2.1 x3.1 p2.Tick 0)).bind fun v8=>(cond v8.2 ((G3 p2.In v8.1).bind fun v9=>some v9) ((A74 p1 v6 x3.1 p2.Tick).bind fun v10=>some (Stay.mk x2.1 x3.1 p2.Tick v10))).bind fun y8=>(A9r x3.2 [y8]).bind fun v11=>some (.go ((w64 (x3.1+1)),v11)))) (some (.out x3.2))
noncomputable def A4x (p1:Map)(p2:State)(p3:(List Int))(v2:State)(y2:(List Agent))(x2:(Int× (List Stay))):Option (Stp (Int× (List Stay)) (List Stay)):=
  cond (decide (x2.1< (p2.Agents.length:Int))) ((G3 p2.Agents x2.1).bind fun v6=>(loop (A4w p1 p2 p3 v2 y2 x2 v6) (0,x2.2)).bind fun y7=>some (.go ((w64 (x2.1+1)),y7))) (some (.out x2.2))
noncomputable def A6x (p1:Map)(p2:State)(p3:(List Int))(v2:State)(y2:(List Agent)):Option (List Stay):=
  (loop (A4x p1 p2 p3 v2 y2) (0,[])).bind fun y6=>some y6
noncomputable def A4y (p1:Map)(p2:State)(p3:(List Int))(x1:(Int× (List Agent))):Option (Stp (Int× (List Agent)) (List Agent)):=
  cond (decide (x1.1< (p2.Agents.length:Int))) ((cond (decide (x1.1< (p3.length:Int))) ((G3 p3 x1.1).bind fun v3=>some v3) (some 0)).bind fun y4=>(A9m p1 p2 x1.1 y4).bind fun v4=>(G3 x1.2 x1.1).bind fun v5=>some (.go ((w64 (x1.1+1)),(B7g x1.2 x1.1 v4)))) (some (.out x1.2))
noncomputable def A6y (p1:Map)(p2:State)(p3:(List Int))(v2:State):Option (List Agent):=
  (loop (A4y p1 p2 p3) (0,v2.Agents)).bind fun y3=>some y3
noncomputable def A9n (p1:Map)(p2:State)(p3:(List Int)):Option (State× (List Crash)×Int):=
  (A40 p1 p2).bind fun v1=>cond (v1 !=0) (some ((State.mk 0 [] []),[],v1)) (cond (decide (p2.Tick≥1099511627776)) (some ((State.mk 0 [] []),[],2)) ((A4u p2).bind fun v2=>((A6y p1 p2 p3 v2).bind fun y2=>(A6x p1 p2 p3 v2 y2).bind fun y5=>(A6w p1 p2 p3 v2 y2 y5).bind fun y9=>some (y2,y5,y9)).bind fun y1=>some ((State.mk (w64 (v2.Tick+1)) y1.1 y1.2.1),y1.2.2,0)))
theorem B7u (p1:Map)(p2:State)(p3:(List Int))(r:(State× (List Crash)×Int))(h:A9n p1 p2 p3=some r):PCall Tryz.prog 31 [(.agg (A5o p1)),(.agg (A0r p2)),(.list (List.map A4 p3))] (.tup [(.agg (A0r r.1)),(.list (List.map A1x r.2.1)),(i64 r.2.2)]):=by
 refine B8 (fk Tryz.func31 Tryz.ntmps31 (fun r=>if r==6 then [1006003]else if r==10 then [2]else []) (by with_unfolding_all rfl)) (nl rfl) ?_
 unfold A9n at h
 refine B4 (s0:=⟨T [(0,(.d _)),(1,(.d _)),(2,(.d _))],G []⟩) (sbr rfl rfl) ?_
 refine lr (fun u1 hu1=>sn rfl rfl (sn rfl rfl (sn rfl rfl (sv rfl (sv rfl (A1 (A6 (lr (fun u2 hu2=>sd rfl (B2 rfl (gq rfl) rfl rfl) (sd rfl (B2 rfl (gq rfl) rfl rfl) (bs h fun v1 hv1 h=>B1 rfl rfl A2 (A8n _ _ _ hv1) (.inl rfl) (sv rfl (A1 (lr (fun u3 hu3=>sv rfl (sv rfl (A1 (cc rfl h (fun c1 h=> ?_) (fun c1 h=> ?_)))))))))))))))))))
 refine lr (fun u4 hu4=>sv rfl (sv rfl (sst rfl G_hit [(di 0),(.d .nilS),(.d .nilS)] rfl (sv rfl (sv rfl (A1 (B3 ?_)))))))
 cases h
 exact A7 (.inr rfl) (C3f (I3 rfl G_hit (nl rfl) rfl) (B6 rfl) (B6 rfl) G8 G8 G8) (.tup (.cons (.agg (ca rfl (.cons ⟨DLe.nil,rfl⟩ (.cons ⟨DLe.nil,rfl⟩ .nil)))) (.cons DLe.nil A2)))
 refine B0 (A6 (lr (fun u5 hu5=>sp rfl rfl (sl rfl (gq rfl) rfl (sv rfl (A1 (cc rfl h (fun c2 h=> ?_) (fun c2 h=> ?_))))))))
 refine lr (fun u6 hu6=>sv rfl (sst rfl G_hit [(di 0),(.d .nilS),(.d .nilS)] rfl (sv rfl (sv rfl (A1 (B3 ?_))))))
 cases h
 exact A7 (.inr rfl) (C3f (I3 rfl G_hit (nl rfl) rfl) (B6 rfl) (B6 rfl) G8 G8 G8) (.tup (.cons (.agg (ca rfl (.cons ⟨DLe.nil,rfl⟩ (.cons ⟨DLe.nil,rfl⟩ .nil)))) (.cons DLe.nil A2)))
 refine B0 (A6 (B7i fun u7 hu7=>A3w (.d _) rfl (B2 rfl (gq rfl) rfl rfl) (A3w (.d _) rfl (B2 rfl (gq rfl) rfl rfl) (A3w (.d _) rfl (B2 rfl (gq rfl) rfl rfl) (bs h fun v2 hv2 h=> ?_)))))
 refine t_oc (v:=A23 [(di v2.Tick),(oS v2.Agents (10060030,u7)),(oE v2.In (10060031,u7))]) (us:= [(10060030,u7),(10060031,u7)]) (C99 (B4h _ _ hv2) [] [] _ (((10060031,u7),oB 127 4 L4 v2.In)::(((10060030,u7),oB 45 7 C3 v2.Agents)::_)) rfl A7c rfl A4h trivial (fun _ h=>h) List.nodup_nil (by generalize v2.Agents=x1;generalize v2.In=x2;cases x1<;>cases x2<;>rfl) rfl (C3u (C3u (rfl))) rfl) ?_
 refine A3w (.d _) rfl rfl ?_
 refine A3w (A23 ((A14 p1)++ (Q7 p2)++ [(di v2.Tick),(oS v2.Agents (10060030,u7)),(oE v2.In (10060031,u7)),(dl A4 p3),(.d .nilS)])) rfl (by generalize v2.Agents=x1;generalize v2.In=x2;cases x1<;>cases x2<;>rfl) ?_
 refine C90 (.ptr _ _) (.box _ _) rfl (C2d rfl) (A3w (.ptr _ _) rfl rfl (C5l ⟨rfl,?_⟩))
 refine A6 (lr (fun u8 hu8=>sv rfl (sv rfl (A1 (bs h fun y1 hy1 h=>I6 (fun s=> ∃g1:(Nat×Nat× ({d:Nat // d∈ [72,158]}×Nat)),Sb ⟨T [(6,(.ptr (6,u1) 0)),(10,(.ptr (30,u7) 0))],G [((6,u1),some (.box 25 [(di 0),(.d .nilS),(.d .nilS)])),((30,u7),some (.box 135 ((A14 p1)++ (Q7 p2)++ [(di v2.Tick),(oS y1.1 (10060030,g1.1)),(oS y1.2.1 (85,g1.2.1)),(dl A4 p3),(oS y1.2.2 (g1.2.2.1.val,g1.2.2.2))]))),((10060030,g1.1),oB 45 7 C3 y1.1),((85,g1.2.1),oB 127 4 L4 y1.2.1),((g1.2.2.1.val,g1.2.2.2),oB 77 6 A1x y1.2.2)]⟩ s) ?_ ?_)))))
 refine A8 (B4v (lr (fun u9 hu9=>sv rfl (A1 (A6 (B3q rfl (B0 (A6 (A8 (lr (fun u10 hu10=>sv rfl (sv rfl (A1 (E8 fun u11 hu11=>sv rfl (sp rfl rfl (bs hy1 fun y2 hy2 hy1=>B5r (fk Tryz.func90 Tryz.ntmps90 m0 (by with_unfolding_all rfl)) (fun (g2:Nat)=> [(6,(.ptr (6,u1) 0)),(10,(.ptr (30,u7) 0)),(31,(.d (.agg [(.fn (.func 90) [] []),(.fn (.func 80) [] []),(.fn (.func 91) [] [])]))),(32,(di 0))]) (fun (g2:Nat)=> [((6,u1),some (.box 25 [(di 0),(.d .nilS),(.d .nilS)])),((30,u7),some (.box 135 ((A14 p1)++ (Q7 p2)++ [(di v2.Tick),(oS y2 (10060030,g2)),(oE v2.In (10060031,u7)),(dl A4 p3),(.d .nilS)]))),((10060031,u7),oB 127 4 L4 v2.In),((10060030,g2),oB 45 7 C3 y2)]) rfl (nl rfl) ?_ ?_))))))))))))))))
 unfold A6y at hy2
 refine B4 (s0:=⟨T [(0,(.ptr (30,u7) 0))],G [((30,u7),some (.box 135 ((A14 p1)++ (Q7 p2)++ [(di v2.Tick),(oS v2.Agents (10060030,u7)),(oE v2.In (10060031,u7)),(dl A4 p3),(.d .nilS)]))),((10060030,u7),oB 45 7 C3 v2.Agents),((10060031,u7),oB 127 4 L4 v2.In),((6,u1),some (.box 25 [(di 0),(.d .nilS),(.d .nilS)]))]⟩) (J4 ⟨.of rfl,trivial⟩ (A9 G_hit (.of rfl) (B5 (gq rfl) (B5 (gq rfl) (sg rfl trivial))))) ?_
 refine lr (fun u12 hu12=>sp rfl rfl (sp rfl rfl (sp rfl rfl (sp rfl rfl (sl rfl G_hit rfl (sd rfl (L9 rfl) (sv rfl (A1 (bs hy2 fun y3 hy3 hy2=>I6 (fun s=> ∃g3:Nat,Sb ⟨T [],G [((6,u1),some (.box 25 [(di 0),(.d .nilS),(.d .nilS)])),((30,u7),some (.box 135 ((A14 p1)++ (Q7 p2)++ [(di v2.Tick),(oS y3 (10060030,g3)),(oE v2.In (10060031,u7)),(dl A4 p3),(.d .nilS)]))),((10060031,u7),oB 127 4 L4 v2.In),((10060030,g3),oB 45 7 C3 y3)]⟩ s) ?_ ?_)))))))))
 refine A8 (J3 (A4y p1 p2 p3) (fun (x1:(Int× (List Agent))) (g4:Nat)=>⟨T [(0,(.ptr (30,u7) 0)),(9,(di (p2.Agents.length:Int))),(10,(di x1.1))],G [((30,u7),some (.box 135 ((A14 p1)++ (Q7 p2)++ [(di v2.Tick),(oS x1.2 (10060030,g4)),(oE v2.In (10060031,u7)),(dl A4 p3),(.d .nilS)]))),((6,u1),some (.box 25 [(di 0),(.d .nilS),(.d .nilS)])),((10060031,u7),oB 127 4 L4 v2.In),((10060030,g4),oB 45 7 C3 x1.2)]⟩) (0,v2.Agents) u7 _ hy3 (J4 ⟨.of rfl, .of rfl, .of rfl,trivial⟩ (A9 G_hit (.of rfl) (sg rfl (B5 (gq rfl) (B5 (gq rfl) trivial))))) ?_)
 intro x1 g4 z1 hz1 ez1
 unfold A4y at hz1
 refine lr (fun u13 hu13=>sv rfl (A1 (A6 (cc rfl hz1 (fun c3 hz1=> ?_) (fun c3 hz1=> ?_)))))
 refine B0 (A6 (A8 (lr (fun u14 hu14=>sv rfl (sv rfl (A1 (lr (fun u15 hu15=>sv rfl (A1 (A6 (lr (fun u16 hu16=>sv rfl (sp rfl rfl (sp rfl rfl (sp rfl rfl (sl rfl G_hit rfl (sd rfl (L9 rfl) (sv rfl (A1 (bs hz1 fun y4 hy4 hz1=>I6 (fun s=> ∃g5:Unit,Sb ⟨T [(0,(.ptr (30,u7) 0)),(2,(di x1.1)),(3,(di y4)),(9,(di (p2.Agents.length:Int))),(10,(di x1.1))],G [((30,u7),some (.box 135 ((A14 p1)++ (Q7 p2)++ [(di v2.Tick),(oS x1.2 (10060030,g4)),(oE v2.In (10060031,u7)),(dl A4 p3),(.d .nilS)]))),((6,u1),some (.box 25 [(di 0),(.d .nilS),(.d .nilS)])),((10060030,g4),oB 45 7 C3 x1.2),((10060031,u7),oB 127 4 L4 v2.In)]⟩ s) ?_ ?_))))))))))))))))))))
 refine cc rfl hy4 (fun c4 hy4=> ?_) (fun c4 hy4=> ?_)
 refine E8 fun u17 hu17=>sp rfl rfl (sp rfl rfl (sp rfl rfl (sl rfl G_hit rfl (sv rfl (bs hy4 fun v3 hv3 hy4=>sd rfl (K5 rfl rfl hv3 rfl) (sd rfl (M1 rfl hv3 rfl) (sv rfl (A1 ?_))))))))
 obtain rfl:=(Option.some.inj hy4)
 exact l_j ⟨(),(J4 ⟨.of rfl, .of rfl, .of rfl, .of rfl, .of rfl,trivial⟩ (A9 G_hit (.of rfl) (sg rfl (B5 (gq rfl) (B5 (gq rfl) trivial)))))⟩
 refine B0 ?_
 cases hy4
 exact l_j ⟨(),(J4 ⟨.of rfl, .of rfl, .of rfl, .of rfl, .of rfl,trivial⟩ (A9 G_hit (.of rfl) (sg rfl (B5 (gq rfl) (B5 (gq rfl) trivial)))))⟩
 rintro _ ⟨g5,q1⟩
 refine B4 q1 (M8 rfl fun u18 hu18=>sp rfl rfl (sp rfl rfl (sp rfl rfl (sp rfl rfl (C9 (oS x1.2 (10060030,g4)) rfl (V1 rfl G_hit rfl) (sv rfl (sp rfl rfl (sp rfl rfl (sp rfl rfl (sd rfl (B2 rfl G_hit rfl rfl) (sp rfl rfl (sp rfl rfl (sp rfl rfl (sd rfl (B2 rfl G_hit rfl rfl) (sv rfl (sv rfl (bs hz1 fun v4 hv4 hz1=>B1 rfl rfl A2 (B7t _ _ _ _ _ hv4) (.inl rfl) (bs hz1 fun v5 hv5 hz1=>C9 (.aptr _ _ _ _) rfl (C3o rfl rfl (gq rfl) hv5) ?_))))))))))))))))))
 rw [A9w (B2d hv5)]
 refine B34 C3 _ _ _ (x1.1) _ v4 (C3 v4) rfl rfl rfl (B3r (gq rfl) (B2d hv5)) hv5 (nl rfl) rfl (A1 (L8 (E8 fun u19 hu19=>sv rfl (sv rfl (A1 (K4 ?_))))))
 cases hz1
 exact ⟨rfl,g4,(J4 ⟨.of rfl, .of rfl, .of rfl,trivial⟩ (A9 (gq rfl) (.box (cv (cv (cv (cv (cv (cv (cv (cv (cv (.cons (.of (A9w (C7k (B2d hv5))).symm) cw))))))))))) (sg rfl (B5 (gq rfl) (A3v G_hit trivial)))))⟩
 refine D8 rfl ?_
 cases hz1
 obtain rfl:=ez1 _ rfl
 refine ⟨nofun,C7 rfl (l_j ?_)⟩
 exact ⟨g4,(J4 trivial (sg rfl (A9 G_hit (.of rfl) (B5 (gq rfl) (B5 (gq rfl) trivial)))))⟩
 rintro _ ⟨g3,q2⟩
 refine K4 ?_
 obtain rfl:=(Option.some.inj hy2)
 exact B38 q2 (.inl rfl) g3 ⟨.of rfl, .of rfl, .of rfl, .of rfl,trivial⟩ (A9 G_hit (.of rfl) (sg rfl (B5 (gq rfl) (B5 (gq rfl) trivial))))
 intro g2
 intro u20 hu20
 refine A1 (L8 (E8 fun u21 hu21=>sv rfl (sv rfl (A1 (B4v (lr (fun u22 hu22=>sv rfl (A1 (A6 (B3q rfl (B0 (A6 (A8 (lr (fun u23 hu23=>sv rfl (sv rfl (A1 (E8 fun u24 hu24=>sv rfl (sp rfl rfl (bs hy1 fun y5 hy5 hy1=>B5r (fk Tryz.func80 Tryz.ntmps80 (fun r=>if r==13 then [1007]else []) (by with_unfolding_all rfl)) (fun (g6:Nat)=> [(6,(.ptr (6,u1) 0)),(10,(.ptr (30,u7) 0)),(31,(.d (.agg [(.fn (.func 90) [] []),(.fn (.func 80) [] []),(.fn (.func 91) [] [])]))),(32,(di 1))]) (fun (g6:Nat)=> [((6,u1),some (.box 25 [(di 0),(.d .nilS),(.d .nilS)])),((30,u7),some (.box 135 ((A14 p1)++ (Q7 p2)++ [(di v2.Tick),(oS y2 (10060030,g2)),(oS y5 (85,g6)),(dl A4 p3),(.d .nilS)]))),((10060030,g2),oB 45 7 C3 y2),((85,g6),oB 127 4 L4 y5)]) rfl (nl rfl) ?_ ?_))))))))))))))))))))
 unfold A6x at hy5
 refine B4 (s0:=⟨T [(0,(.ptr (30,u7) 0))],G [((30,u7),some (.box 135 ((A14 p1)++ (Q7 p2)++ [(di v2.Tick),(oS y2 (10060030,g2)),(oE v2.In (10060031,u7)),(dl A4 p3),(.d .nilS)]))),((10060030,g2),oB 45 7 C3 y2),((10060031,u7),oB 127 4 L4 v2.In),((6,u1),some (.box 25 [(di 0),(.d .nilS),(.d .nilS)]))]⟩) (J4 ⟨.of rfl,trivial⟩ (sg rfl (B5 (gq rfl) (B5 (gq rfl) (A9 G_hit (.of rfl) trivial))))) ?_
 refine lr (fun u25 hu25=>sp rfl rfl (sp rfl rfl (sp rfl rfl (sp rfl rfl (sst rfl G_hit ((A14 p1)++ (Q7 p2)++ [(di v2.Tick),(oS y2 (10060030,g2)),(.d .nilS),(dl A4 p3),(.d .nilS)]) rfl (A1 (lr (fun u26 hu26=>sp rfl rfl (sp rfl rfl (sp rfl rfl (sp rfl rfl (sl rfl G_hit rfl (sd rfl (L9 rfl) (sv rfl (A1 (bs hy5 fun y6 hy6 hy5=>I6 (fun s=> ∃g7:Nat,Sb ⟨T [],G [((6,u1),some (.box 25 [(di 0),(.d .nilS),(.d .nilS)])),((30,u7),some (.box 135 ((A14 p1)++ (Q7 p2)++ [(di v2.Tick),(oS y2 (10060030,g2)),(oS y6 (85,g7)),(dl A4 p3),(.d .nilS)]))),((10060030,g2),oB 45 7 C3 y2),((85,g7),oB 127 4 L4 y6)]⟩ s) ?_ ?_))))))))))))))))
 refine A8 (J3 (A4x p1 p2 p3 v2 y2) (fun (x2:(Int× (List Stay))) (g8:Nat)=>⟨T [(0,(.ptr (30,u7) 0)),(16,(dl C3 p2.Agents)),(17,(di (p2.Agents.length:Int))),(18,(di x2.1))],G [((30,u7),some (.box 135 ((A14 p1)++ (Q7 p2)++ [(di v2.Tick),(oS y2 (10060030,g2)),(oS x2.2 (85,g8)),(dl A4 p3),(.d .nilS)]))),((6,u1),some (.box 25 [(di 0),(.d .nilS),(.d .nilS)])),((10060030,g2),oB 45 7 C3 y2),((85,g8),oB 127 4 L4 x2.2)]⟩) (0,[]) 0 _ hy6 (J4 ⟨.of rfl, .of rfl, .of rfl, .of rfl,trivial⟩ (A9 G_hit (.of rfl) (sg rfl (B5 (gq rfl) (A5c trivial))))) ?_)
 intro x2 g8 z2 hz2 ez2
 unfold A4x at hz2
 refine lr (fun u27 hu27=>sv rfl (A1 (A6 (cc rfl hz2 (fun c5 hz2=> ?_) (fun c5 hz2=> ?_)))))
 refine B0 (A6 (A8 (lr (fun u28 hu28=>sv rfl (bs hz2 fun v6 hv6 hz2=>sd rfl (K5 rfl rfl hv6 rfl) (sd rfl (E7 rfl hv6 rfl rfl) (sn rfl rfl (sv rfl (sst rfl G_hit (A0a v6) rfl (A1 (lr (fun u29 hu29=>sp rfl rfl (sp rfl rfl (sp rfl rfl (sp rfl rfl (sl rfl (gq rfl) rfl (sd rfl (L9 rfl) (sv rfl (A1 (bs hz2 fun y7 hy7 hz2=>I6 (fun s=> ∃g9:Nat,Sb ⟨T [(0,(.ptr (30,u7) 0)),(16,(dl C3 p2.Agents)),(17,(di (p2.Agents.length:Int))),(18,(di x2.1))],G [((30,u7),some (.box 135 ((A14 p1)++ (Q7 p2)++ [(di v2.Tick),(oS y2 (10060030,g2)),(oS y7 (85,g9)),(dl A4 p3),(.d .nilS)]))),((6,u1),some (.box 25 [(di 0),(.d .nilS),(.d .nilS)])),((10060030,g2),oB 45 7 C3 y2),((85,g9),oB 127 4 L4 y7)]⟩ s) ?_ ?_))))))))))))))))))))
 refine A8 (J3 (A4w p1 p2 p3 v2 y2 x2 v6) (fun (x3:(Int× (List Stay))) (g10:Nat)=>⟨T [(0,(.ptr (30,u7) 0)),(2,(di x2.1)),(3,(.ptr (3,u28) 0)),(16,(dl C3 p2.Agents)),(17,(di (p2.Agents.length:Int))),(18,(di x2.1)),(28,(di (p1.Zones.length:Int))),(29,(di x3.1))],G [((30,u7),some (.box 135 ((A14 p1)++ (Q7 p2)++ [(di v2.Tick),(oS y2 (10060030,g2)),(oS x3.2 (85,g10)),(dl A4 p3),(.d .nilS)]))),((3,u28),some (.box 45 (A0a v6))),((6,u1),some (.box 25 [(di 0),(.d .nilS),(.d .nilS)])),((10060030,g2),oB 45 7 C3 y2),((85,g10),oB 127 4 L4 x3.2)]⟩) (0,x2.2) g8 _ hy7 (J4 ⟨.of rfl, .of rfl, .of rfl, .of rfl, .of rfl, .of rfl, .of rfl, .of rfl,trivial⟩ (sg rfl (A9 G_hit (.of rfl) (sg rfl (B5 (gq rfl) (B5 (gq rfl) trivial)))))) ?_)
 intro x3 g10 z3 hz3 ez3
 unfold A4w at hz3
 refine lr (fun u30 hu30=>sv rfl (A1 (A6 (cc rfl hz3 (fun c6 hz3=> ?_) (fun c6 hz3=> ?_)))))
 refine B0 (A6 (A8 (lr (fun u31 hu31=>sv rfl (sv rfl (A1 (A6 (lr (fun u32 hu32=>sp rfl rfl (sv rfl (sv rfl (bs hz3 fun v7 hv7 hz3=>B1 rfl (C0 (A0q G_hit (rD (rD (rD (rD (rD (rD (rD (rD (rD (C0 (A4b (gq rfl)) (C0 (A4b (gq rfl)) (rD (rD D3)))))))))))))) (rD (rD D3))) (.cons (DLe.bp (ca rfl (ca rfl (ca rfl (ca rfl (ca rfl (ca rfl (ca rfl (ca rfl (ca rfl (.cons ⟨A4a,rfl⟩ (.cons ⟨A4a,rfl⟩ (ca rfl (.cons ⟨DLe.nil,rfl⟩ .nil)))))))))))))) (.cons (.refl _) A2)) (W3 _ _ _ _ hv7) (.inr rfl) (C9 (.d (bo (!v7))) rfl rfl (A1 (cc rfl hz3 (fun c7 hz3=> ?_) (fun c7 hz3=> ?_))))))))))))))))
 refine B5h rfl (E8 fun u33 hu33=>sv rfl (sv rfl (A1 (K4 ?_))))
 cases hz3
 exact ⟨rfl,g10,(J4 ⟨.of rfl, .of rfl, .of rfl, .of rfl, .of rfl, .of rfl, .of rfl, .of rfl,trivial⟩ (A9 G_hit (.of rfl) (sg rfl (sg rfl (B5 (gq rfl) (B5 (gq rfl) trivial))))))⟩
 refine B0 (lr (fun u34 hu34=>sv rfl (sv rfl (sp rfl rfl (sp rfl rfl (sp rfl rfl (sp rfl rfl (sl rfl G_hit rfl (sv rfl (sn rfl rfl (sst rfl G_hit [(di x2.1),(di x3.1),(di p2.Tick),(di 0)] rfl (A1 (A6 (A6 (M8 rfl fun u35 hu35=>sp rfl rfl (sp rfl rfl (sp rfl rfl (sp rfl rfl (sl rfl (gq rfl) rfl (sd rfl (B2 rfl G_hit rfl rfl) (bs hz3 fun v8 hv8 hz3=>B1 rfl rfl A2 (K6 _ _ _ hv8) (.inl rfl) (sv rfl (sv rfl (sv rfl (sv rfl (sv rfl (A1 (lr (fun u36 hu36=>sv rfl (A1 (bs hz3 fun y8 hy8 hz3=>I6 (fun s=> ∃g11:Unit,Sb ⟨T [(0,(.ptr (30,u7) 0)),(2,(di x2.1)),(3,(.ptr (3,u28) 0)),(5,(.ptr (5,u34) 0)),(16,(dl C3 p2.Agents)),(17,(di (p2.Agents.length:Int))),(18,(di x2.1)),(28,(di (p1.Zones.length:Int))),(29,(di x3.1))],G [((30,u7),some (.box 135 ((A14 p1)++ (Q7 p2)++ [(di v2.Tick),(oS y2 (10060030,g2)),(oS x3.2 (85,g10)),(dl A4 p3),(.d .nilS)]))),((3,u28),some (.box 45 (A0a v6))),((5,u34),some (.box 127 (B6a y8))),((6,u1),some (.box 25 [(di 0),(.d .nilS),(.d .nilS)])),((10060030,g2),oB 45 7 C3 y2),((85,g10),oB 127 4 L4 x3.2)]⟩ s) ?_ ?_)))))))))))))))))))))))))))))))
 refine cc rfl hy8 (fun c8 hy8=> ?_) (fun c8 hy8=> ?_)
 refine E8 fun u37 hu37=>sp rfl rfl (sp rfl rfl (sp rfl rfl (sp rfl rfl (sl rfl (gq rfl) rfl (sv rfl (bs hy8 fun v9 hv9 hy8=>sd rfl (K5 rfl rfl hv9 rfl) (sd rfl (E7 rfl hv9 rfl rfl) (sst rfl G_hit (B6a v9) rfl (A1 ?_)))))))))
 obtain rfl:=(Option.some.inj hy8)
 exact l_j ⟨(),(J4 ⟨.of rfl, .of rfl, .of rfl, .of rfl, .of rfl, .of rfl, .of rfl, .of rfl, .of rfl,trivial⟩ (sg rfl (sg rfl (A9 G_hit (.of rfl) (sg rfl (B5 (gq rfl) (B5 (gq rfl) trivial)))))))⟩
 refine M8 rfl fun u38 hu38=>sp rfl rfl (sp rfl rfl (sp rfl rfl (sd rfl (B2 rfl (gq rfl) rfl rfl) (sd rfl (B2 rfl (gq rfl) rfl rfl) (sv rfl (sp rfl rfl (sp rfl rfl (sp rfl rfl (sp rfl rfl (sl rfl (gq rfl) rfl (bs hy8 fun v10 hv10 hy8=>B1 rfl rfl A2 (B3f _ _ _ _ _ hv10) (.inl rfl) (sp rfl rfl (sst rfl G_hit [(di x2.1),(di x3.1),(di p2.Tick),(di v10)] rfl (A1 ?_))))))))))))))
 cases hy8
 exact l_j ⟨(),(J4 ⟨.of rfl, .of rfl, .of rfl, .of rfl, .of rfl, .of rfl, .of rfl, .of rfl, .of rfl,trivial⟩ (sg rfl (sg rfl (A9 G_hit (.of rfl) (sg rfl (B5 (gq rfl) (B5 (gq rfl) trivial)))))))⟩
 rintro _ ⟨g11,q3⟩
 refine B4 q3 (M8 rfl fun u39 hu39=>sp rfl rfl (sp rfl rfl (sp rfl rfl (sp rfl rfl (sp rfl rfl (C9 (oS x3.2 (85,g10)) rfl (V1 rfl G_hit rfl) (sd rfl (B2 rfl (gq rfl) rfl rfl) (C9 (dl L4 [y8]) rfl rfl (bs hz3 fun v11 hv11 hz3=>A08 L4 (85,g10) x3.2 y8 [] _ (T1 (fun _=>rfl)) rfl (gq rfl) hv11 (sp rfl rfl (sp rfl rfl (sp rfl rfl (sst rfl (gq rfl) ((A14 p1)++ (Q7 p2)++ [(di v2.Tick),(oS y2 (10060030,g2)),(.sl (85,u39)),(dl A4 p3),(.d .nilS)]) rfl (A1 (L8 (E8 fun u40 hu40=>sv rfl (sv rfl (A1 (K4 ?_)))))))))))))))))))
 cases hz3
 exact ⟨rfl,u39,(J4 ⟨.of rfl, .of rfl, .of rfl, .of rfl, .of rfl, .of rfl, .of rfl, .of rfl,trivial⟩ (A9 G_hit (.box (cv (cv (cv (cv (cv (cv (cv (cv (cv (cv (.cons (.of (A9w (A36 hv11)).symm) cw)))))))))))) (sg rfl (sg rfl (B5 (gq rfl) (A3v (gq rfl) trivial))))))⟩
 refine D8 rfl ?_
 cases hz3
 obtain rfl:=ez3 _ rfl
 refine ⟨nofun,C7 rfl (l_j ?_)⟩
 exact ⟨g10,(J4 ⟨.of rfl, .of rfl, .of rfl, .of rfl,trivial⟩ (A9 G_hit (.of rfl) (sg rfl (B5 (gq rfl) (B5 (gq rfl) trivial)))))⟩
 rintro _ ⟨g9,q4⟩
 refine L8 (B4 q4 (E8 fun u41 hu41=>sv rfl (sv rfl (A1 (K4 ?_)))))
 cases hz2
 exact ⟨rfl,g9,(J4 ⟨.of rfl, .of rfl, .of rfl, .of rfl,trivial⟩ (A9 G_hit (.of rfl) (sg rfl (B5 (gq rfl) (B5 (gq rfl) trivial)))))⟩
 refine D8 rfl ?_
 cases hz2
 obtain rfl:=ez2 _ rfl
 refine ⟨nofun,C7 rfl (l_j ?_)⟩
 exact ⟨g8,(J4 trivial (sg rfl (A9 G_hit (.of rfl) (B5 (gq rfl) (B5 (gq rfl) trivial)))))⟩
 rintro _ ⟨g7,q5⟩
 refine K4 ?_
 obtain rfl:=(Option.some.inj hy5)
 exact B38 q5 (.inl rfl) g7 ⟨.of rfl, .of rfl, .of rfl, .of rfl,trivial⟩ (A9 G_hit (.of rfl) (sg rfl (B5 (gq rfl) (B5 (gq rfl) trivial))))
 intro g6
 intro u42 hu42
 refine A1 (L8 (E8 fun u43 hu43=>sv rfl (sv rfl (A1 (B4v (lr (fun u44 hu44=>sv rfl (A1 (A6 (B3q rfl (B0 (A6 (A8 (lr (fun u45 hu45=>sv rfl (sv rfl (A1 (E8 fun u46 hu46=>sv rfl (sp rfl rfl (bs hy1 fun y9 hy9 hy1=>B5r (fk Tryz.func91 Tryz.ntmps91 (fun r=>if r==1 then [1]else if r==4 then [3]else if r==5 then [3]else []) (by with_unfolding_all rfl)) (fun (g12:({d:Nat // d∈ [72,158]}×Nat))=> [(6,(.ptr (6,u1) 0)),(10,(.ptr (30,u7) 0)),(31,(.d (.agg [(.fn (.func 90) [] []),(.fn (.func 80) [] []),(.fn (.func 91) [] [])]))),(32,(di 2))]) (fun (g12:({d:Nat // d∈ [72,158]}×Nat))=> [((6,u1),some (.box 25 [(di 0),(.d .nilS),(.d .nilS)])),((30,u7),some (.box 135 ((A14 p1)++ (Q7 p2)++ [(di v2.Tick),(oS y2 (10060030,g2)),(oS y5 (85,g6)),(dl A4 p3),(oS y9 (g12.1.val,g12.2))]))),((10060030,g2),oB 45 7 C3 y2),((85,g6),oB 127 4 L4 y5),((g12.1.val,g12.2),oB 77 6 A1x y9)]) rfl (nl rfl) ?_ ?_))))))))))))))))))))
 unfold A6w at hy9
 refine B4 (s0:=⟨T [(0,(.ptr (30,u7) 0))],G [((30,u7),some (.box 135 ((A14 p1)++ (Q7 p2)++ [(di v2.Tick),(oS y2 (10060030,g2)),(oS y5 (85,g6)),(dl A4 p3),(.d .nilS)]))),((10060030,g2),oB 45 7 C3 y2),((85,g6),oB 127 4 L4 y5),((6,u1),some (.box 25 [(di 0),(.d .nilS),(.d .nilS)]))]⟩) (J4 ⟨.of rfl,trivial⟩ (sg rfl (B5 (gq rfl) (B5 (gq rfl) (A9 G_hit (.of rfl) trivial))))) ?_
 refine lr (fun u47 hu47=>sn rfl rfl (A1 (lr (fun u48 hu48=>sp rfl (V1 rfl G_hit rfl) (bs hy9 fun y10 hy10 hy9=>B5r (fk Tryz.func81 Tryz.ntmps81 m0 (by with_unfolding_all rfl)) (fun (g13:{g:Nat // g≠u47})=> [(1,(.ptr (1,u47) 0)),(5,(.fn (.func 174) [] [(.ptr (1,g13.1) 0)]))]) (fun (g13:{g:Nat // g≠u47})=> [((1,u47),some (.box 133 [(.ptr (30,u7) 0)])),((30,u7),some (.box 135 ((A14 p1)++ (Q7 p2)++ [(di v2.Tick),(oS y2 (10060030,g2)),(oS y5 (85,g6)),(dl A4 p3),(.d .nilS)]))),((6,u1),some (.box 25 [(di 0),(.d .nilS),(.d .nilS)])),((10060030,g2),oB 45 7 C3 y2),((85,g6),oB 127 4 L4 y5),((1,g13.1),some (.box 133 [(.ptr (30,u7) 0)]))]) rfl (nl rfl) ?_ ?_)))))
 unfold A6v at hy10
 refine B4 (s0:=⟨T [(0,(.ptr (30,u7) 0))],G [((30,u7),some (.box 135 ((A14 p1)++ (Q7 p2)++ [(di v2.Tick),(oS y2 (10060030,g2)),(oS y5 (85,g6)),(dl A4 p3),(.d .nilS)]))),((10060030,g2),oB 45 7 C3 y2),((85,g6),oB 127 4 L4 y5),((6,u1),some (.box 25 [(di 0),(.d .nilS),(.d .nilS)])),((1,u47),some (.box 133 [(.ptr (30,u7) 0)]))]⟩) (J4 ⟨.of rfl,trivial⟩ (sg rfl (B5 (gq rfl) (B5 (gq rfl) (sg rfl (A9 G_hit (.of rfl) trivial)))))) ?_
 refine lr (fun u49 hu49=>sn rfl rfl (sv rfl (A1 (lr (fun u50 hu50=>C9 (.fn _ _ _) rfl rfl (C9 (.fn _ _ _) rfl rfl (A1 (B3 ?_))))))))
 cases hy10
 exact C04 (.inr rfl) (C5r (B6 rfl)) ⟨u49,(Ne.symm (C0x (k:=(1,u47)) hu49 (gq rfl)))⟩ ⟨.of rfl, .of rfl,trivial⟩ (A9 (W5 (C0x hu49 (gq rfl)) (gq rfl)) (.of rfl) (sg rfl (sg rfl (B5 (gq rfl) (B5 (gq rfl) (A9 G_hit (.of rfl) trivial))))))
 intro g13
 intro u51 hu51
 refine A1 (bs hy9 fun y11 hy11 hy9=>I6 (fun s=> ∃g14:({d:Nat // d∈ [72,158]}×Nat),Sb ⟨T [],G [((6,u1),some (.box 25 [(di 0),(.d .nilS),(.d .nilS)])),((30,u7),some (.box 135 ((A14 p1)++ (Q7 p2)++ [(di v2.Tick),(oS y2 (10060030,g2)),(oS y5 (85,g6)),(dl A4 p3),(oS y11 (g14.1.val,g14.2))]))),((10060030,g2),oB 45 7 C3 y2),((85,g6),oB 127 4 L4 y5),((g14.1.val,g14.2),oB 77 6 A1x y11)]⟩ s) ?_ ?_)
 refine A8 (bs hy11 fun v12 hv12 hy11=>B4 (s0:=⟨T [(1,(.ptr (1,u47) 0)),(5,(.fn (.func 174) [] [(.ptr (1,g13.1) 0)]))],G [((1,u47),some (.box 133 [(.ptr (30,u7) 0)])),((30,u7),some (.box 135 ((A14 p1)++ (Q7 p2)++ [(di v2.Tick),(oS y2 (10060030,g2)),(oS y5 (85,g6)),(dl A4 p3),(.d .nilS)]))),((10060030,g2),oB 45 7 C3 y2),((85,g6),oB 127 4 L4 y5),((1,g13.1),some (.box 133 [(.ptr (30,u7) 0)])),((6,u1),some (.box 25 [(di 0),(.d .nilS),(.d .nilS)]))]⟩) (J4 ⟨.of rfl, .of rfl,trivial⟩ (A9 G_hit (.of rfl) (sg rfl (B5 (gq rfl) (B5 (gq rfl) (A9 (W5 g13.2 (gq rfl)) (.of rfl) (sg rfl trivial))))))) ?_)
 refine C1c (.fn (.func 174) [] [(.ptr (1,g13.1) 0)]) (B2h (1,g13.1) (30,u7) p2) C09 v12 (A4v p1 p2 p3 v2 y2 y5) (fun (x4:(List Crash))=>x4) (fun (x4:(List Crash)) (g15:({d:Nat // d∈ [72,158]}×Nat))=> [((1,u47),some (.box 133 [(.ptr (30,u7) 0)])),((1,g13.1),some (.box 133 [(.ptr (30,u7) 0)])),((6,u1),some (.box 25 [(di 0),(.d .nilS),(.d .nilS)])),((30,u7),some (.box 135 ((A14 p1)++ (Q7 p2)++ [(di v2.Tick),(oS y2 (10060030,g2)),(oS y5 (85,g6)),(dl A4 p3),(oS x4 (g15.1.val,g15.2))]))),((10060030,g2),oB 45 7 C3 y2),((85,g6),oB 127 4 L4 y5),((g15.1.val,g15.2),oB 77 6 A1x x4)]) [] (⟨72, .head _⟩,0) _ rfl (B6x hv12 _ _) (fun x4 g15 _ _=>⟨A3 rfl (W5 g13.2 G_hit),_,_,_,_,_,_,_,_,_,_,A3 rfl (gq rfl)⟩) (fun _=>rfl) hy11 (J4 trivial (A9 G_hit (.of rfl) (A9 (W5 g13.2 (gq rfl)) (.of rfl) (sg rfl (sg rfl (B5 (gq rfl) (B5 (gq rfl) (A5c trivial)))))))) nofun ?_ ?_
 intro u53 hu53 hku53
 refine ⟨fun x4 g15=>(A3 rfl (A3 rfl (A3 rfl (A3 rfl (A3 rfl (A3 rfl (A3 (neR g15.1.property rfl) rfl))))))),?_⟩
 intro r1 x4 g15 a1 z4 hrr1 hz4 ez4
 unfold A4v at hz4
 show AWL _ _ _ _ _ _ ⟨T [(7,(di a1.2)),(6,(di a1.1)),(1,(.ptr (1,u47) 0)),(5,(.fn (.func 174) [] [(.ptr (1,g13.1) 0)]))],G [((1000000,u53),some (.obj (T [(1,(.ptr (1,u47) 0)),(5,(.fn (.func 174) [] [(.ptr (1,g13.1) 0)]))]) r1)),((1,u47),some (.box 133 [(.ptr (30,u7) 0)])),((1,g13.1),some (.box 133 [(.ptr (30,u7) 0)])),((6,u1),some (.box 25 [(di 0),(.d .nilS),(.d .nilS)])),((30,u7),some (.box 135 ((A14 p1)++ (Q7 p2)++ [(di v2.Tick),(oS y2 (10060030,g2)),(oS y5 (85,g6)),(dl A4 p3),(oS x4 (g15.1.val,g15.2))]))),((10060030,g2),oB 45 7 C3 y2),((85,g6),oB 127 4 L4 y5),((g15.1.val,g15.2),oB 77 6 A1x x4)]⟩
 refine lr (fun u54 hu54=>sv rfl (A1 (E8 fun u55 hu55=>sv rfl (A1 (l_j (C3m G_hit ?_))))))
 refine A8 (lr (fun u56 hu56=>sp rfl (V1 rfl (gq rfl) rfl) (sv rfl (sv rfl (bs hz4 fun y12 hy12 hz4=>B5r (fk Tryz.func183 Tryz.ntmps183 (fun r=>if r==13 then [1014,1016]else []) (by with_unfolding_all rfl)) (fun (g16:({d:Nat // d∈ [72,158]}×Nat))=> [(1,(.ptr (1,u47) 0)),(2,(di a1.1)),(3,(di a1.2))]) (fun (g16:({d:Nat // d∈ [72,158]}×Nat))=> [((1,u47),some (.box 133 [(.ptr (30,u7) 0)])),((6,u1),some (.box 25 [(di 0),(.d .nilS),(.d .nilS)])),((30,u7),some (.box 135 ((A14 p1)++ (Q7 p2)++ [(di v2.Tick),(oS y2 (10060030,g2)),(oS y5 (85,g6)),(dl A4 p3),(oS y12 (g16.1.val,g16.2))]))),((1,g13.1),some (.box 133 [(.ptr (30,u7) 0)])),((1000000,u53),some (.obj (T [(1,(.ptr (1,u47) 0)),(5,(.fn (.func 174) [] [(.ptr (1,g13.1) 0)]))]) {r1 with state:= .busy})),((10060030,g2),oB 45 7 C3 y2),((85,g6),oB 127 4 L4 y5),((g16.1.val,g16.2),oB 77 6 A1x y12)]) rfl (nl rfl) ?_ ?_)))))
 unfold A6u at hy12
 refine B4 (s0:=⟨T [(0,(.ptr (30,u7) 0)),(1,(di a1.1)),(2,(di a1.2))],G [((30,u7),some (.box 135 ((A14 p1)++ (Q7 p2)++ [(di v2.Tick),(oS y2 (10060030,g2)),(oS y5 (85,g6)),(dl A4 p3),(oS x4 (g15.1.val,g15.2))]))),((10060030,g2),oB 45 7 C3 y2),((85,g6),oB 127 4 L4 y5),((g15.1.val,g15.2),oB 77 6 A1x x4),((6,u1),some (.box 25 [(di 0),(.d .nilS),(.d .nilS)])),((1,u47),some (.box 133 [(.ptr (30,u7) 0)])),((1,g13.1),some (.box 133 [(.ptr (30,u7) 0)])),((1000000,u53),some (.obj (T [(1,(.ptr (1,u47) 0)),(5,(.fn (.func 174) [] [(.ptr (1,g13.1) 0)]))]) {r1 with state:= .busy}))]⟩) (J4 ⟨.of rfl, .of rfl, .of rfl,trivial⟩ (sg rfl (B5 (gq rfl) (B5 (gq rfl) (B5 (A3 (neL g15.1.property rfl) (A3 (neL g15.1.property rfl) (A3 (neL g15.1.property rfl) (A3 (neL g15.1.property rfl) (A3 (neL g15.1.property rfl) (A3 (neL g15.1.property rfl) (A3 (neL g15.1.property rfl) (A3 (neL g15.1.property rfl) G_hit)))))))) (sg rfl (sg rfl (A9 (A3 rfl (A3 rfl (W5 g13.2 G_hit))) (.of rfl) (A9 G_hit (.of rfl) trivial))))))))) ?_
 refine lr (fun u57 hu57=>sp rfl rfl (sp rfl rfl (sp rfl rfl (sp rfl rfl (sl rfl G_hit rfl (sd rfl (L9 rfl) (sv rfl (A1 (js hy12 fun z5 hz5 hy12=>I6 (fun s=> ∃(y13:Unit) (g17:Unit),z5= .inl y13∧Sb ⟨T [],G [((6,u1),some (.box 25 [(di 0),(.d .nilS),(.d .nilS)])),((30,u7),some (.box 135 ((A14 p1)++ (Q7 p2)++ [(di v2.Tick),(oS y2 (10060030,g2)),(oS y5 (85,g6)),(dl A4 p3),(oS x4 (g15.1.val,g15.2))]))),((1,u47),some (.box 133 [(.ptr (30,u7) 0)])),((1,g13.1),some (.box 133 [(.ptr (30,u7) 0)])),((1000000,u53),some (.obj (T [(1,(.ptr (1,u47) 0)),(5,(.fn (.func 174) [] [(.ptr (1,g13.1) 0)]))]) {r1 with state:= .busy})),((10060030,g2),oB 45 7 C3 y2),((85,g6),oB 127 4 L4 y5),((g15.1.val,g15.2),oB 77 6 A1x x4)]⟩ s) ?_ ?_)))))))))
 refine A8 (J3 (A3r p1 p2 p3 v2 y2 y5 x4 a1) (fun (x5:Int) (g18:Unit)=>⟨T [(0,(.ptr (30,u7) 0)),(1,(di a1.1)),(2,(di a1.2)),(22,(di (p1.Lanes.length:Int))),(23,(di x5))],G [((30,u7),some (.box 135 ((A14 p1)++ (Q7 p2)++ [(di v2.Tick),(oS y2 (10060030,g2)),(oS y5 (85,g6)),(dl A4 p3),(oS x4 (g15.1.val,g15.2))]))),((6,u1),some (.box 25 [(di 0),(.d .nilS),(.d .nilS)])),((1,u47),some (.box 133 [(.ptr (30,u7) 0)])),((1,g13.1),some (.box 133 [(.ptr (30,u7) 0)])),((1000000,u53),some (.obj (T [(1,(.ptr (1,u47) 0)),(5,(.fn (.func 174) [] [(.ptr (1,g13.1) 0)]))]) {r1 with state:= .busy})),((10060030,g2),oB 45 7 C3 y2),((85,g6),oB 127 4 L4 y5),((g15.1.val,g15.2),oB 77 6 A1x x4)]⟩) 0 () _ hz5 (J4 ⟨.of rfl, .of rfl, .of rfl, .of rfl, .of rfl,trivial⟩ (A9 G_hit (.of rfl) (A9 (A3 rfl (A3 rfl (A3 rfl (A3 (neR g15.1.property rfl) G_hit)))) (.of rfl) (A9 (A3 rfl (A3 rfl (A3 rfl (A3 (neR g15.1.property rfl) (gq rfl))))) (.of rfl) (A9 (A3 rfl (A3 rfl (A3 rfl (A3 (neR g15.1.property rfl) (A3 rfl (W5 g13.2 G_hit)))))) (.of rfl) (A9 (A3 rfl (A3 rfl (A3 rfl (A3 (neR g15.1.property rfl) (gq rfl))))) (.of rfl) (B5 (gq rfl) (B5 (gq rfl) (B5 (A3 (neL g15.1.property rfl) (A3 (neL g15.1.property rfl) (A3 (neL g15.1.property rfl) G_hit))) trivial))))))))) ?_)
 intro x5 g18 z6 hz6 ez6
 unfold A3r at hz6
 refine lr (fun u58 hu58=>sv rfl (A1 (A6 (cc rfl hz6 (fun c9 hz6=> ?_) (fun c9 hz6=> ?_)))))
 refine B0 (A6 (A8 (lr (fun u59 hu59=>sv rfl (sv rfl (A1 (lr (fun u60 hu60=>sp rfl rfl (sv rfl (sv rfl (bs hz6 fun v13 hv13 hz6=>B1 rfl (C0 (A0q G_hit (rD (rD (rD (rD (rD (rD (rD (rD (rD (C0 (A4b (gq rfl)) (C0 (A4b (gq rfl)) (rD (C0 (A4b (A3 (neL g15.1.property rfl) (A3 (neL g15.1.property rfl) (A3 (neL g15.1.property rfl) (A3 (neL g15.1.property rfl) (A3 (neL g15.1.property rfl) (A3 (neL g15.1.property rfl) (A3 (neL g15.1.property rfl) G_hit)))))))) D3)))))))))))))) (rD (rD D3))) (.cons (DLe.bp (ca rfl (ca rfl (ca rfl (ca rfl (ca rfl (ca rfl (ca rfl (ca rfl (ca rfl (.cons ⟨A4a,rfl⟩ (.cons ⟨A4a,rfl⟩ (ca rfl (.cons ⟨A4a,rfl⟩ .nil)))))))))))))) (.cons (.refl _) A2)) (A5b _ _ _ _ hv13) (.inr rfl) (sv rfl (sv rfl (sv rfl (sv rfl (sv rfl (A1 (lr (fun u61 hu61=>sp rfl rfl (sv rfl (sv rfl (bs hz6 fun v14 hv14 hz6=>B1 rfl (C0 (A0q G_hit (rD (rD (rD (rD (rD (rD (rD (rD (rD (C0 (A4b (gq rfl)) (C0 (A4b (gq rfl)) (rD (C0 (A4b (A3 (neL g15.1.property rfl) (A3 (neL g15.1.property rfl) (A3 (neL g15.1.property rfl) (A3 (neL g15.1.property rfl) (A3 (neL g15.1.property rfl) (A3 (neL g15.1.property rfl) (A3 (neL g15.1.property rfl) G_hit)))))))) D3)))))))))))))) (rD (rD D3))) (.cons (DLe.bp (ca rfl (ca rfl (ca rfl (ca rfl (ca rfl (ca rfl (ca rfl (ca rfl (ca rfl (.cons ⟨A4a,rfl⟩ (.cons ⟨A4a,rfl⟩ (ca rfl (.cons ⟨A4a,rfl⟩ .nil)))))))))))))) (.cons (.refl _) A2)) (A5b _ _ _ _ hv14) (.inr rfl) (sv rfl (sv rfl (sv rfl (sv rfl (sv rfl (A1 (A6 (lr (fun u62 hu62=>sv rfl (C9 (.d (bo (!v13.2))) rfl rfl (sv rfl (gf rfl (fun _=>rfl) ?_))))))))))))))))))))))))))))))))))
 refine Z4 _ (.d (bo (!v14.2))) rfl (A2t rfl) (fun w2=>(by simp only [A5 w2];rfl)) ?_
 refine sd rfl (A6a rfl rfl (fun hc=>A5 (W6 hc))) (A1 (cc rfl hz6 (fun c10 hz6=> ?_) (fun c10 hz6=> ?_)))
 refine B5h rfl (E8 fun u63 hu63=>sv rfl (sv rfl (A1 (K4 ?_))))
 cases hz6
 exact ⟨rfl,(),(J4 ⟨.of rfl, .of rfl, .of rfl, .of rfl, .of rfl,trivial⟩ (A9 G_hit (.of rfl) (sg rfl (sg rfl (A9 (A3 rfl (A3 rfl (W5 g13.2 G_hit))) (.of rfl) (sg rfl (B5 (gq rfl) (B5 (gq rfl) (B5 (A3 (neL g15.1.property rfl) (A3 (neL g15.1.property rfl) (A3 (neL g15.1.property rfl) (A3 (neL g15.1.property rfl) (A3 (neL g15.1.property rfl) (A3 (neL g15.1.property rfl) (A3 (neL g15.1.property rfl) G_hit))))))) trivial)))))))))⟩
 refine B0 (lr (fun u64 hu64=>sv rfl (sv rfl (sv rfl (sv rfl (A1 (A6 (A6 (M8 rfl fun u65 hu65=>sp rfl rfl (sp rfl rfl (sp rfl rfl (sp rfl rfl (sl rfl G_hit rfl (sv rfl (bs hz6 fun v15 hv15 hz6=>sd rfl (K5 rfl rfl hv15 rfl) (sv rfl (sd rfl (M1 rfl hv15 rfl) (sv rfl (sv rfl (sp rfl rfl (sp rfl rfl (sp rfl rfl (sp rfl rfl (sl rfl G_hit rfl (sv rfl (bs hz6 fun v16 hv16 hz6=>sd rfl (K5 rfl rfl hv16 rfl) (sv rfl (sd rfl (M1 rfl hv16 rfl) (sv rfl (sv rfl (sv rfl (A1 (bs hz6 fun y14 hy14 hz6=>I6 (fun s=> ∃g19:Unit,Sb ⟨T [(0,(.ptr (30,u7) 0)),(1,(di a1.1)),(2,(di a1.2)),(6,(di x5)),(7,(di y14.1)),(9,(di y14.2.1)),(11,(di y14.2.2.1)),(12,(di y14.2.2.2)),(22,(di (p1.Lanes.length:Int))),(23,(di x5))],G [((30,u7),some (.box 135 ((A14 p1)++ (Q7 p2)++ [(di v2.Tick),(oS y2 (10060030,g2)),(oS y5 (85,g6)),(dl A4 p3),(oS x4 (g15.1.val,g15.2))]))),((6,u1),some (.box 25 [(di 0),(.d .nilS),(.d .nilS)])),((1,u47),some (.box 133 [(.ptr (30,u7) 0)])),((1,g13.1),some (.box 133 [(.ptr (30,u7) 0)])),((1000000,u53),some (.obj (T [(1,(.ptr (1,u47) 0)),(5,(.fn (.func 174) [] [(.ptr (1,g13.1) 0)]))]) {r1 with state:= .busy})),((10060030,g2),oB 45 7 C3 y2),((85,g6),oB 127 4 L4 y5),((g15.1.val,g15.2),oB 77 6 A1x x4)]⟩ s) ?_ ?_)))))))))))))))))))))))))))))))))
 refine cc rfl hy14 (fun c11 hy14=> ?_) (fun c11 hy14=> ?_)
 refine E8 fun u66 hu66=>sv rfl (sv rfl (sv rfl (sv rfl (sv rfl (sv rfl (sv rfl (sv rfl (A1 ?_))))))))
 cases hy14
 exact l_j ⟨(),(J4 ⟨.of rfl, .of rfl, .of rfl, .of rfl, .of rfl, .of rfl, .of rfl, .of rfl, .of rfl, .of rfl,trivial⟩ (A9 G_hit (.of rfl) (sg rfl (sg rfl (A9 (A3 rfl (A3 rfl (W5 g13.2 G_hit))) (.of rfl) (sg rfl (B5 (gq rfl) (B5 (gq rfl) (B5 (A3 (neL g15.1.property rfl) (A3 (neL g15.1.property rfl) (A3 (neL g15.1.property rfl) (A3 (neL g15.1.property rfl) (A3 (neL g15.1.property rfl) (A3 (neL g15.1.property rfl) (A3 (neL g15.1.property rfl) G_hit))))))) trivial)))))))))⟩
 refine B0 ?_
 cases hy14
 exact l_j ⟨(),(J4 ⟨.of rfl, .of rfl, .of rfl, .of rfl, .of rfl, .of rfl, .of rfl, .of rfl, .of rfl, .of rfl,trivial⟩ (A9 G_hit (.of rfl) (sg rfl (sg rfl (A9 (A3 rfl (A3 rfl (W5 g13.2 G_hit))) (.of rfl) (sg rfl (B5 (gq rfl) (B5 (gq rfl) (B5 (A3 (neL g15.1.property rfl) (A3 (neL g15.1.property rfl) (A3 (neL g15.1.property rfl) (A3 (neL g15.1.property rfl) (A3 (neL g15.1.property rfl) (A3 (neL g15.1.property rfl) (A3 (neL g15.1.property rfl) G_hit))))))) trivial)))))))))⟩
 rintro _ ⟨g19,q6⟩
 refine B4 q6 (A6 (M8 rfl fun u67 hu67=>sp rfl rfl (sp rfl rfl (sp rfl rfl (sp rfl rfl (C9 (oS y2 (10060030,g2)) rfl (V1 rfl G_hit rfl) (sv rfl (bs hz6 fun v17 hv17 hz6=>C9 (.aptr _ _ _ _) rfl (C3o rfl rfl (gq rfl) hv17) (sd rfl (B1j rfl (B3r (gq rfl) (B2d hv17)) hv17 rfl rfl) (bs hz6 fun v18 hv18 hz6=>B1 rfl rfl A2 (A2u _ _ hv18) (.inl rfl) (sv rfl (bs hz6 fun v19 hv19 hz6=>B1 rfl rfl A2 (A20 _ _ _ hv19) (.inl rfl) (sp rfl rfl (sp rfl rfl (sp rfl rfl (sp rfl rfl (C9 (oS y2 (10060030,g2)) rfl (V1 rfl G_hit rfl) (sv rfl (bs hz6 fun v20 hv20 hz6=>C9 (.aptr _ _ _ _) rfl (C3o rfl rfl (gq rfl) hv20) (sd rfl (B1j rfl (B3r (gq rfl) (B2d hv20)) hv20 rfl rfl) (bs hz6 fun v21 hv21 hz6=>B1 rfl rfl A2 (A2u _ _ hv21) (.inl rfl) (sv rfl (bs hz6 fun v22 hv22 hz6=>B1 rfl rfl A2 (A20 _ _ _ hv22) (.inl rfl) (sn rfl rfl (sn rfl rfl (sst rfl (gq rfl) [(di v19.from_),(di v19.to)] rfl (sst rfl (gq rfl) [(di v22.from_),(di v22.to)] rfl (A1 (lr (fun u68 hu68=>sp rfl rfl (sp rfl rfl (sp rfl rfl (sp rfl rfl (sl rfl (gq rfl) rfl (sv rfl (bs hz6 fun v23 hv23 hz6=>sd rfl (K5 rfl rfl hv23 rfl) (sd rfl (E7 rfl hv23 rfl rfl) (bs hz6 fun v24 hv24 hz6=>B1 rfl rfl A2 (A2u _ _ hv24) (.inl rfl) (sv rfl (bs hz6 fun v25 hv25 hz6=>B1 rfl rfl A2 (A20 _ _ _ hv25) (.inl rfl) (sn rfl rfl (sst rfl G_hit [(di v25.from_),(di v25.to)] rfl (A1 (lr (fun u69 hu69=>sp rfl rfl (sp rfl rfl (sp rfl rfl ?_)))))))))))))))))))))))))))))))))))))))))))))))
 refine sd rfl (B2 rfl (gq rfl) rfl rfl) (sv rfl (bs hz6 fun v26 hv26 hz6=>B1 rfl rfl A2 (A7o _ _ _ hv26) (.inl rfl) (sv rfl (A1 (lr (fun u70 hu70=>sp rfl rfl (sl rfl (gq rfl) rfl (sv rfl (sv rfl (gp rfl (Y4 rfl) (fun _=>rfl) (gt rfl (vl rfl (gq rfl) rfl) (gt rfl (vb rfl rfl rfl) (sa rfl rfl rfl (sv rfl (gp rfl (Y4 rfl) (fun _=>rfl) (gt rfl (vl rfl G_hit rfl) (gt rfl (fun _=>rfl) (gt rfl (fun w9=>(A1i (A5 w9) (A5 w9) rfl)) (sa rfl rfl rfl (sv rfl (gp rfl (Y4 rfl) (fun _=>rfl) (gt rfl (vl rfl (gq rfl) rfl) (gt rfl (fun _=>rfl) (gt rfl (fun w13=>(A1i (A5 w13) (A5 w13) rfl)) (sa rfl rfl rfl (sv rfl (gp rfl (Y4 rfl) (fun _=>rfl) (gt rfl (vl rfl (gq rfl) rfl) (gp rfl (Y4 rfl) (fun _=>rfl) (gt rfl (vl rfl (gq rfl) rfl) (gt rfl (fun w18=>(A1i (A5 w18) (A5 w18) rfl)) (sa rfl rfl rfl (A1 (cc rfl hz6 (fun c12 hz6=> ?_) (fun c12 hz6=> ?_)))))))))))))))))))))))))))))))))))
 refine A6 (B4 (s0:=⟨T [(0,(.ptr (30,u7) 0)),(1,(di a1.1)),(2,(di a1.2)),(6,(di x5)),(12,(di y14.2.2.2))],G [((30,u7),some (.box 135 ((A14 p1)++ (Q7 p2)++ [(di v2.Tick),(oS y2 (10060030,g2)),(oS y5 (85,g6)),(dl A4 p3),(oS x4 (g15.1.val,g15.2))]))),((10060030,g2),oB 45 7 C3 y2),((85,g6),oB 127 4 L4 y5),((g15.1.val,g15.2),oB 77 6 A1x x4),((6,u1),some (.box 25 [(di 0),(.d .nilS),(.d .nilS)])),((1,u47),some (.box 133 [(.ptr (30,u7) 0)])),((1,g13.1),some (.box 133 [(.ptr (30,u7) 0)])),((1000000,u53),some (.obj (T [(1,(.ptr (1,u47) 0)),(5,(.fn (.func 174) [] [(.ptr (1,g13.1) 0)]))]) {r1 with state:= .busy}))]⟩) (J4 ⟨.of rfl, .of rfl, .of rfl, .of rfl, .of rfl,trivial⟩ (sg rfl (B5 (gq rfl) (B5 (gq rfl) (B5 (A3 (neL g15.1.property rfl) (A3 (neL g15.1.property rfl) (A3 (neL g15.1.property rfl) (A3 (neL g15.1.property rfl) (A3 (neL g15.1.property rfl) (A3 (neL g15.1.property rfl) (A3 (neL g15.1.property rfl) (A3 (neL g15.1.property rfl) (A3 (neL g15.1.property rfl) (A3 (neL g15.1.property rfl) (A3 (neL g15.1.property rfl) (A3 (neL g15.1.property rfl) (A3 (neL g15.1.property rfl) G_hit))))))))))))) (sg rfl (sg rfl (A9 (A3 rfl (A3 rfl (A3 rfl (A3 rfl (A3 rfl (A3 rfl (A3 rfl (A3 rfl (W5 g13.2 G_hit))))))))) (.of rfl) (sg rfl trivial))))))))) ?_)
 refine M8 rfl fun u71 hu71=>sp rfl rfl (sp rfl rfl (sp rfl rfl (sp rfl rfl (C9 (oS x4 (g15.1.val,g15.2)) rfl (V1 rfl G_hit rfl) (sp rfl rfl (sp rfl rfl (sp rfl rfl (sp rfl rfl (sl rfl G_hit rfl (sv rfl (sv rfl (sv rfl (sv rfl (C9 (dl A4 [y14.2.2.2]) rfl rfl (sv rfl (C9 (dl A1x [(Crash.mk p2.Tick a1.1 a1.2 x5 (-1) [y14.2.2.2])]) rfl rfl (bs hz6 fun v27 hv27 hz6=>A08 A1x (g15.1.val,g15.2) x4 (Crash.mk p2.Tick a1.1 a1.2 x5 (-1) [y14.2.2.2]) [] _ (T1 (fun _=>rfl)) rfl (A3 (neL g15.1.property rfl) (A3 (neL g15.1.property rfl) (A3 (neL g15.1.property rfl) G_hit))) hv27 (sp rfl rfl (sp rfl rfl (B0x _ _ _ _ _ rfl rfl rfl (A3 rfl (A3 (neR g15.1.property rfl) G_hit)) (nl rfl) ((A14 p1)++ (Q7 p2)++ [(di v2.Tick),(oS y2 (10060030,g2)),(oS y5 (85,g6)),(dl A4 p3),(.sl (158,u71))]) rfl (A1 (B3 ?_))))))))))))))))))))))
 cases hz6
 obtain rfl:=ez6 _ rfl
 refine ⟨nofun,H8 ?_⟩
 rw [Sum.elim_inr]at hy12
 cases hy12
 exact C04 (.inr rfl) (C9r) (⟨158, .tail _ (.head _)⟩,u71) ⟨.of rfl, .of rfl, .of rfl,trivial⟩ (A9 (A3 rfl (A3 rfl (A3 (neR g15.1.property rfl) (A3 rfl (A3 rfl (A3 rfl (A3 (neR g15.1.property rfl) (gq rfl)))))))) (.of rfl) (A9 (A3 rfl (A3 rfl (A3 (neR g15.1.property rfl) (A3 rfl (A3 rfl (A3 rfl (A3 (neR g15.1.property rfl) G_hit))))))) (.of rfl) (A9 G_hit (.box (cv (cv (cv (cv (cv (cv (cv (cv (cv (cv (cv (cv (.cons (.of (A9w (A36 hv27)).symm) .nil)))))))))))))) (A9 (A3 rfl (A3 rfl (A3 (neR g15.1.property rfl) (A3 rfl (A3 rfl (A3 rfl (A3 (neR g15.1.property rfl) (A3 rfl (W5 g13.2 G_hit))))))))) (.of rfl) (A9 (A3 rfl (A3 rfl (A3 (neR g15.1.property rfl) (A3 rfl (A3 rfl (A3 rfl (A3 (neR g15.1.property rfl) (gq rfl)))))))) (.of rfl) (B5 (A3 rfl (A3 rfl (A3 (neR g15.1.property rfl) (gq rfl)))) (B5 (A3 rfl (A3 rfl (A3 (neR g15.1.property rfl) (gq rfl)))) (A3v (gq rfl) trivial))))))))
 refine B0 (L8 (B4 (s0:=⟨T [(0,(.ptr (30,u7) 0)),(1,(di a1.1)),(2,(di a1.2)),(22,(di (p1.Lanes.length:Int))),(23,(di x5))],G [((30,u7),some (.box 135 ((A14 p1)++ (Q7 p2)++ [(di v2.Tick),(oS y2 (10060030,g2)),(oS y5 (85,g6)),(dl A4 p3),(oS x4 (g15.1.val,g15.2))]))),((10060030,g2),oB 45 7 C3 y2),((85,g6),oB 127 4 L4 y5),((g15.1.val,g15.2),oB 77 6 A1x x4),((6,u1),some (.box 25 [(di 0),(.d .nilS),(.d .nilS)])),((1,u47),some (.box 133 [(.ptr (30,u7) 0)])),((1,g13.1),some (.box 133 [(.ptr (30,u7) 0)])),((1000000,u53),some (.obj (T [(1,(.ptr (1,u47) 0)),(5,(.fn (.func 174) [] [(.ptr (1,g13.1) 0)]))]) {r1 with state:= .busy}))]⟩) (J4 ⟨.of rfl, .of rfl, .of rfl, .of rfl, .of rfl,trivial⟩ (sg rfl (B5 (gq rfl) (B5 (gq rfl) (B5 (A3 (neL g15.1.property rfl) (A3 (neL g15.1.property rfl) (A3 (neL g15.1.property rfl) (A3 (neL g15.1.property rfl) (A3 (neL g15.1.property rfl) (A3 (neL g15.1.property rfl) (A3 (neL g15.1.property rfl) (A3 (neL g15.1.property rfl) (A3 (neL g15.1.property rfl) (A3 (neL g15.1.property rfl) (A3 (neL g15.1.property rfl) (A3 (neL g15.1.property rfl) (A3 (neL g15.1.property rfl) G_hit))))))))))))) (sg rfl (sg rfl (A9 (A3 rfl (A3 rfl (A3 rfl (A3 rfl (A3 rfl (A3 rfl (A3 rfl (A3 rfl (W5 g13.2 G_hit))))))))) (.of rfl) (sg rfl trivial))))))))) ?_))
 refine E8 fun u72 hu72=>sv rfl (sv rfl (A1 (K4 ?_)))
 cases hz6
 exact ⟨rfl,(),(J4 ⟨.of rfl, .of rfl, .of rfl, .of rfl, .of rfl,trivial⟩ (A9 G_hit (.of rfl) (A9 (A3 rfl (A3 rfl (A3 rfl (A3 (neR g15.1.property rfl) G_hit)))) (.of rfl) (A9 (A3 rfl (A3 rfl (A3 rfl (A3 (neR g15.1.property rfl) (gq rfl))))) (.of rfl) (A9 (A3 rfl (A3 rfl (A3 rfl (A3 (neR g15.1.property rfl) (A3 rfl (W5 g13.2 G_hit)))))) (.of rfl) (A9 (A3 rfl (A3 rfl (A3 rfl (A3 (neR g15.1.property rfl) (gq rfl))))) (.of rfl) (B5 (gq rfl) (B5 (gq rfl) (B5 (A3 (neL g15.1.property rfl) (A3 (neL g15.1.property rfl) (A3 (neL g15.1.property rfl) G_hit))) trivial)))))))))⟩
 refine D8 rfl ?_
 cases hz6
 obtain rfl:=ez6 _ rfl
 refine ⟨nofun,C7 rfl (l_j ?_)⟩
 exact ⟨_,(),rfl,(J4 trivial (sg rfl (A9 G_hit (.of rfl) (sg rfl (A9 (A3 rfl (A3 rfl (W5 g13.2 G_hit))) (.of rfl) (sg rfl (B5 (gq rfl) (B5 (gq rfl) (B5 (A3 (neL g15.1.property rfl) (A3 (neL g15.1.property rfl) (A3 (neL g15.1.property rfl) (A3 (neL g15.1.property rfl) (A3 (neL g15.1.property rfl) (A3 (neL g15.1.property rfl) (A3 (neL g15.1.property rfl) G_hit))))))) trivial)))))))))⟩
 rintro _ ⟨y13,g17,rfl,q7⟩
 rw [Sum.elim_inl]at hy12
 refine K4 ?_
 obtain rfl:=(Option.some.inj hy12)
 exact B38 q7 (.inl rfl) (g15.1,g15.2) ⟨.of rfl, .of rfl, .of rfl,trivial⟩ (sg rfl (A9 G_hit (.of rfl) (sg rfl (A9 (A3 rfl (A3 rfl (W5 g13.2 G_hit))) (.of rfl) (sg rfl (B5 (gq rfl) (B5 (gq rfl) (B5 (A3 (neL g15.1.property rfl) (A3 (neL g15.1.property rfl) (A3 (neL g15.1.property rfl) (A3 (neL g15.1.property rfl) (A3 (neL g15.1.property rfl) (A3 (neL g15.1.property rfl) (A3 (neL g15.1.property rfl) G_hit))))))) trivial))))))))
 intro g16
 intro u73 hu73
 refine A1 (E8 fun u74 hu74=>sp rfl (V1 rfl G_hit rfl) (sv rfl (sv rfl (bs hz4 fun y15 hy15 hz4=>B5r (fk Tryz.func184 Tryz.ntmps184 (fun r=>if r==5 then [1002]else if r==6 then [1010]else if r==8 then [1001]else if r==10 then [1001]else if r==11 then [1015]else []) (by with_unfolding_all rfl)) (fun (g20:({d:Nat // d∈ [72,158]}×Nat))=> []) (fun (g20:({d:Nat // d∈ [72,158]}×Nat))=> [((6,u1),some (.box 25 [(di 0),(.d .nilS),(.d .nilS)])),((30,u7),some (.box 135 ((A14 p1)++ (Q7 p2)++ [(di v2.Tick),(oS y2 (10060030,g2)),(oS y5 (85,g6)),(dl A4 p3),(oS y15 (g20.1.val,g20.2))]))),((1,u47),some (.box 133 [(.ptr (30,u7) 0)])),((1,g13.1),some (.box 133 [(.ptr (30,u7) 0)])),((1000000,u53),some (.obj (T [(1,(.ptr (1,u47) 0)),(5,(.fn (.func 174) [] [(.ptr (1,g13.1) 0)]))]) {r1 with state:= .busy})),((10060030,g2),oB 45 7 C3 y2),((85,g6),oB 127 4 L4 y5),((g20.1.val,g20.2),oB 77 6 A1x y15)]) rfl (nl rfl) ?_ ?_))))
 unfold A5q at hy15
 refine B4 (s0:=⟨T [(0,(.ptr (30,u7) 0)),(1,(di a1.1)),(2,(di a1.2))],G [((30,u7),some (.box 135 ((A14 p1)++ (Q7 p2)++ [(di v2.Tick),(oS y2 (10060030,g2)),(oS y5 (85,g6)),(dl A4 p3),(oS y12 (g16.1.val,g16.2))]))),((10060030,g2),oB 45 7 C3 y2),((85,g6),oB 127 4 L4 y5),((g16.1.val,g16.2),oB 77 6 A1x y12),((6,u1),some (.box 25 [(di 0),(.d .nilS),(.d .nilS)])),((1,u47),some (.box 133 [(.ptr (30,u7) 0)])),((1,g13.1),some (.box 133 [(.ptr (30,u7) 0)])),((1000000,u53),some (.obj (T [(1,(.ptr (1,u47) 0)),(5,(.fn (.func 174) [] [(.ptr (1,g13.1) 0)]))]) {r1 with state:= .busy}))]⟩) (J4 ⟨.of rfl, .of rfl, .of rfl,trivial⟩ (sg rfl (B5 (gq rfl) (B5 (gq rfl) (B5 (A3 (neL g16.1.property rfl) (A3 (neL g16.1.property rfl) (A3 (neL g16.1.property rfl) (A3 (neL g16.1.property rfl) (A3 (neL g16.1.property rfl) (A3 (neL g16.1.property rfl) (A3 (neL g16.1.property rfl) G_hit))))))) (sg rfl (A9 G_hit (.of rfl) (A9 (W5 g13.2 (gq rfl)) (.of rfl) (sg rfl trivial))))))))) ?_
 refine lr (fun u75 hu75=>sp rfl rfl (sp rfl rfl (sp rfl rfl (sp rfl rfl (sl rfl G_hit rfl (sd rfl (L9 rfl) (sv rfl (A1 (bs hy15 fun y16 hy16 hy15=>I6 (fun s=> ∃g21:({d:Nat // d∈ [72,158]}×Nat),Sb ⟨T [],G [((6,u1),some (.box 25 [(di 0),(.d .nilS),(.d .nilS)])),((30,u7),some (.box 135 ((A14 p1)++ (Q7 p2)++ [(di v2.Tick),(oS y2 (10060030,g2)),(oS y5 (85,g6)),(dl A4 p3),(oS y16 (g21.1.val,g21.2))]))),((1,u47),some (.box 133 [(.ptr (30,u7) 0)])),((1,g13.1),some (.box 133 [(.ptr (30,u7) 0)])),((1000000,u53),some (.obj (T [(1,(.ptr (1,u47) 0)),(5,(.fn (.func 174) [] [(.ptr (1,g13.1) 0)]))]) {r1 with state:= .busy})),((10060030,g2),oB 45 7 C3 y2),((85,g6),oB 127 4 L4 y5),((g21.1.val,g21.2),oB 77 6 A1x y16)]⟩ s) ?_ ?_)))))))))
 refine A8 (J3 (A3q p1 p2 p3 v2 y2 y5 a1) (fun (x6:(Int× (List Crash))) (g22:({d:Nat // d∈ [72,158]}×Nat))=>⟨T [(0,(.ptr (30,u7) 0)),(1,(di a1.1)),(2,(di a1.2)),(15,(di (p1.Zones.length:Int))),(16,(di x6.1))],G [((30,u7),some (.box 135 ((A14 p1)++ (Q7 p2)++ [(di v2.Tick),(oS y2 (10060030,g2)),(oS y5 (85,g6)),(dl A4 p3),(oS x6.2 (g22.1.val,g22.2))]))),((6,u1),some (.box 25 [(di 0),(.d .nilS),(.d .nilS)])),((1,u47),some (.box 133 [(.ptr (30,u7) 0)])),((1,g13.1),some (.box 133 [(.ptr (30,u7) 0)])),((1000000,u53),some (.obj (T [(1,(.ptr (1,u47) 0)),(5,(.fn (.func 174) [] [(.ptr (1,g13.1) 0)]))]) {r1 with state:= .busy})),((10060030,g2),oB 45 7 C3 y2),((85,g6),oB 127 4 L4 y5),((g22.1.val,g22.2),oB 77 6 A1x x6.2)]⟩) (0,y12) (g16.1,g16.2) _ hy16 (J4 ⟨.of rfl, .of rfl, .of rfl, .of rfl, .of rfl,trivial⟩ (A9 G_hit (.of rfl) (A9 (A3 rfl (A3 rfl (A3 rfl (A3 (neR g16.1.property rfl) G_hit)))) (.of rfl) (A9 (A3 rfl (A3 rfl (A3 rfl (A3 (neR g16.1.property rfl) (gq rfl))))) (.of rfl) (A9 (A3 rfl (A3 rfl (A3 rfl (A3 (neR g16.1.property rfl) (A3 rfl (W5 g13.2 G_hit)))))) (.of rfl) (A9 (A3 rfl (A3 rfl (A3 rfl (A3 (neR g16.1.property rfl) (gq rfl))))) (.of rfl) (B5 (gq rfl) (B5 (gq rfl) (B5 (A3 (neL g16.1.property rfl) (A3 (neL g16.1.property rfl) (A3 (neL g16.1.property rfl) G_hit))) trivial))))))))) ?_)
 intro x6 g22 z7 hz7 ez7
 unfold A3q at hz7
 refine lr (fun u76 hu76=>sv rfl (A1 (A6 (cc rfl hz7 (fun c13 hz7=> ?_) (fun c13 hz7=> ?_)))))
 refine B0 (A6 (A8 (lr (fun u77 hu77=>sv rfl (sv rfl (A1 (A6 (lr (fun u78 hu78=>sp rfl rfl (sv rfl (sv rfl (sv rfl (bs hz7 fun v28 hv28 hz7=>B1 rfl (C0 (A0q G_hit (rD (rD (rD (rD (rD (rD (rD (rD (rD (C0 (A4b (gq rfl)) (C0 (A4b (gq rfl)) (rD (C0 (A4b (A3 (neL g22.1.property rfl) (A3 (neL g22.1.property rfl) (A3 (neL g22.1.property rfl) (A3 (neL g22.1.property rfl) (A3 (neL g22.1.property rfl) (A3 (neL g22.1.property rfl) (A3 (neL g22.1.property rfl) G_hit)))))))) D3)))))))))))))) (rD (rD (rD D3)))) (.cons (DLe.bp (ca rfl (ca rfl (ca rfl (ca rfl (ca rfl (ca rfl (ca rfl (ca rfl (ca rfl (.cons ⟨A4a,rfl⟩ (.cons ⟨A4a,rfl⟩ (ca rfl (.cons ⟨A4a,rfl⟩ .nil)))))))))))))) (.cons (.refl _) (.cons (.refl _) A2))) (A5a _ _ _ _ _ hv28) (.inr rfl) (C9 (.d (bo (!v28))) rfl rfl (A1 (cc rfl hz7 (fun c14 hz7=> ?_) (fun c14 hz7=> ?_)))))))))))))))))
 refine B5h rfl (E8 fun u79 hu79=>sv rfl (sv rfl (A1 (K4 ?_))))
 cases hz7
 exact ⟨rfl,(g22.1,g22.2),(J4 ⟨.of rfl, .of rfl, .of rfl, .of rfl, .of rfl,trivial⟩ (A9 G_hit (.of rfl) (sg rfl (sg rfl (A9 (A3 rfl (A3 rfl (W5 g13.2 G_hit))) (.of rfl) (sg rfl (B5 (gq rfl) (B5 (gq rfl) (B5 (A3 (neL g22.1.property rfl) (A3 (neL g22.1.property rfl) (A3 (neL g22.1.property rfl) (A3 (neL g22.1.property rfl) (A3 (neL g22.1.property rfl) (A3 (neL g22.1.property rfl) (A3 (neL g22.1.property rfl) G_hit))))))) trivial)))))))))⟩
 refine B0 (lr (fun u80 hu80=>sp rfl rfl (sv rfl (sv rfl (bs hz7 fun v29 hv29 hz7=>B1 rfl (C0 (A0q G_hit (rD (rD (rD (rD (rD (rD (rD (rD (rD (C0 (A4b (gq rfl)) (C0 (A4b (gq rfl)) (rD (C0 (A4b (A3 (neL g22.1.property rfl) (A3 (neL g22.1.property rfl) (A3 (neL g22.1.property rfl) (A3 (neL g22.1.property rfl) (A3 (neL g22.1.property rfl) (A3 (neL g22.1.property rfl) (A3 (neL g22.1.property rfl) G_hit)))))))) D3)))))))))))))) (rD (rD D3))) (.cons (DLe.bp (ca rfl (ca rfl (ca rfl (ca rfl (ca rfl (ca rfl (ca rfl (ca rfl (ca rfl (.cons ⟨A4a,rfl⟩ (.cons ⟨A4a,rfl⟩ (ca rfl (.cons ⟨A4a,rfl⟩ .nil)))))))))))))) (.cons (.refl _) A2)) (A65 _ _ _ _ hv29) (.inr rfl) (sp rfl rfl (sv rfl (sv rfl (bs hz7 fun v30 hv30 hz7=>B1 rfl (C0 (A0q G_hit (rD (rD (rD (rD (rD (rD (rD (rD (rD (C0 (A4b (gq rfl)) (C0 (A4b (gq rfl)) (rD (C0 (A4b (A3 (neL g22.1.property rfl) (A3 (neL g22.1.property rfl) (A3 (neL g22.1.property rfl) (A3 (neL g22.1.property rfl) (A3 (neL g22.1.property rfl) (A3 (neL g22.1.property rfl) (A3 (neL g22.1.property rfl) G_hit)))))))) D3)))))))))))))) (rD (rD D3))) (.cons (DLe.bp (ca rfl (ca rfl (ca rfl (ca rfl (ca rfl (ca rfl (ca rfl (ca rfl (ca rfl (.cons ⟨A4a,rfl⟩ (.cons ⟨A4a,rfl⟩ (ca rfl (.cons ⟨A4a,rfl⟩ .nil)))))))))))))) (.cons (.refl _) A2)) (A65 _ _ _ _ hv30) (.inr rfl) (sn rfl rfl (sn rfl rfl (sst rfl (gq rfl) (B6a v29) rfl (sst rfl (gq rfl) (B6a v30) rfl (A1 (lr (fun u81 hu81=>sv rfl (sv rfl (C9 (dl A4 [a1.1,a1.2]) rfl rfl (C9 (dl A4 [a1.1,a1.2]) rfl rfl (A1 (A6 (A6 (M8 rfl fun u82 hu82=>sp rfl rfl (sl rfl (gq rfl) rfl (sp rfl rfl (sl rfl G_hit rfl (bs hz7 fun v31 hv31 hz7=>B1 rfl rfl A2 (A1y _ _ _ hv31) (.inl rfl) (sp rfl rfl (sl rfl G_hit rfl (sp rfl rfl (sl rfl (gq rfl) rfl (bs hz7 fun v32 hv32 hz7=>B1 rfl rfl A2 (A6p _ _ _ hv32) (.inl rfl) (C9 (dl A4 [v31,v32]) rfl rfl (bs hz7 fun v33 hv33 hz7=>B1 rfl rfl A2 (A9z _ _ hv33) (.inl rfl) (A1 (bs hz7 fun y17 hy17 hz7=>I6 (fun s=> ∃g23:Unit,Sb ⟨T [(0,(.ptr (30,u7) 0)),(1,(di a1.1)),(2,(di a1.2)),(6,(di x6.1)),(9,(dl A4 y17)),(15,(di (p1.Zones.length:Int))),(16,(di x6.1))],G [((30,u7),some (.box 135 ((A14 p1)++ (Q7 p2)++ [(di v2.Tick),(oS y2 (10060030,g2)),(oS y5 (85,g6)),(dl A4 p3),(oS x6.2 (g22.1.val,g22.2))]))),((6,u1),some (.box 25 [(di 0),(.d .nilS),(.d .nilS)])),((1,u47),some (.box 133 [(.ptr (30,u7) 0)])),((1,g13.1),some (.box 133 [(.ptr (30,u7) 0)])),((1000000,u53),some (.obj (T [(1,(.ptr (1,u47) 0)),(5,(.fn (.func 174) [] [(.ptr (1,g13.1) 0)]))]) {r1 with state:= .busy})),((10060030,g2),oB 45 7 C3 y2),((85,g6),oB 127 4 L4 y5),((g22.1.val,g22.2),oB 77 6 A1x x6.2)]⟩ s) ?_ ?_))))))))))))))))))))))))))))))))))))
 refine A8 (lr (fun u83 hu83=>sv rfl (sv rfl (A1 (cc rfl hy17 (fun c15 hy17=> ?_) (fun c15 hy17=> ?_))))))
 refine E8 fun u84 hu84=>sv rfl (C9 (dl A4 [a1.1]) rfl rfl (C9 (dl A4 [a1.1]) rfl rfl (A1 (L8 ?_))))
 cases hy17
 exact l_j ⟨(),(J4 ⟨.of rfl, .of rfl, .of rfl, .of rfl, .of rfl, .of rfl, .of rfl,trivial⟩ (sg rfl (sg rfl (sg rfl (A9 (A3 rfl (A3 rfl (A3 rfl (A3 rfl (A3 rfl (A3 rfl (W5 g13.2 G_hit))))))) (.of rfl) (sg rfl (B5 (gq rfl) (B5 (gq rfl) (B5 (A3 (neL g22.1.property rfl) (A3 (neL g22.1.property rfl) (A3 (neL g22.1.property rfl) (A3 (neL g22.1.property rfl) (A3 (neL g22.1.property rfl) (A3 (neL g22.1.property rfl) (A3 (neL g22.1.property rfl) (A3 (neL g22.1.property rfl) (A3 (neL g22.1.property rfl) (A3 (neL g22.1.property rfl) (A3 (neL g22.1.property rfl) G_hit))))))))))) trivial)))))))))⟩
 refine lr (fun u85 hu85=>sv rfl (sv rfl (A1 (cc rfl hy17 (fun c16 hy17=> ?_) (fun c16 hy17=> ?_)))))
 refine E8 fun u86 hu86=>sv rfl (C9 (dl A4 [a1.2]) rfl rfl (C9 (dl A4 [a1.2]) rfl rfl (A1 (L8 ?_))))
 cases hy17
 exact l_j ⟨(),(J4 ⟨.of rfl, .of rfl, .of rfl, .of rfl, .of rfl, .of rfl, .of rfl,trivial⟩ (sg rfl (sg rfl (sg rfl (A9 (A3 rfl (A3 rfl (A3 rfl (A3 rfl (A3 rfl (A3 rfl (W5 g13.2 G_hit))))))) (.of rfl) (sg rfl (B5 (gq rfl) (B5 (gq rfl) (B5 (A3 (neL g22.1.property rfl) (A3 (neL g22.1.property rfl) (A3 (neL g22.1.property rfl) (A3 (neL g22.1.property rfl) (A3 (neL g22.1.property rfl) (A3 (neL g22.1.property rfl) (A3 (neL g22.1.property rfl) (A3 (neL g22.1.property rfl) (A3 (neL g22.1.property rfl) (A3 (neL g22.1.property rfl) (A3 (neL g22.1.property rfl) G_hit))))))))))) trivial)))))))))⟩
 refine B0 (L8 ?_)
 cases hy17
 exact l_j ⟨(),(J4 ⟨.of rfl, .of rfl, .of rfl, .of rfl, .of rfl, .of rfl, .of rfl,trivial⟩ (sg rfl (sg rfl (sg rfl (A9 (A3 rfl (A3 rfl (A3 rfl (A3 rfl (A3 rfl (A3 rfl (W5 g13.2 G_hit))))))) (.of rfl) (sg rfl (B5 (gq rfl) (B5 (gq rfl) (B5 (A3 (neL g22.1.property rfl) (A3 (neL g22.1.property rfl) (A3 (neL g22.1.property rfl) (A3 (neL g22.1.property rfl) (A3 (neL g22.1.property rfl) (A3 (neL g22.1.property rfl) (A3 (neL g22.1.property rfl) (A3 (neL g22.1.property rfl) (A3 (neL g22.1.property rfl) (A3 (neL g22.1.property rfl) (A3 (neL g22.1.property rfl) G_hit))))))))))) trivial)))))))))⟩
 rintro _ ⟨g23,q8⟩
 refine B4 q8 (M8 rfl fun u87 hu87=>sp rfl rfl (sp rfl rfl (sp rfl rfl (sp rfl rfl (C9 (oS x6.2 (g22.1.val,g22.2)) rfl (V1 rfl G_hit rfl) (sp rfl rfl (sp rfl rfl (sp rfl rfl (sp rfl rfl (sl rfl G_hit rfl (sv rfl (sv rfl (sv rfl (sv rfl (sv rfl (C9 (dl A1x [(Crash.mk p2.Tick a1.1 a1.2 (-1) x6.1 y17)]) rfl rfl (bs hz7 fun v34 hv34 hz7=>A08 A1x (g22.1.val,g22.2) x6.2 (Crash.mk p2.Tick a1.1 a1.2 (-1) x6.1 y17) [] _ (T1 (fun _=>rfl)) rfl (A3 (neL g22.1.property rfl) (A3 (neL g22.1.property rfl) (A3 (neL g22.1.property rfl) (A3 (neL g22.1.property rfl) (A3 (neL g22.1.property rfl) (A3 (neL g22.1.property rfl) (A3 (neL g22.1.property rfl) G_hit))))))) hv34 (sp rfl rfl (sp rfl rfl (B0x _ _ _ _ _ rfl rfl rfl (A3 rfl (A3 (neR g22.1.property rfl) G_hit)) (nl rfl) ((A14 p1)++ (Q7 p2)++ [(di v2.Tick),(oS y2 (10060030,g2)),(oS y5 (85,g6)),(dl A4 p3),(.sl (72,u87))]) rfl (A1 (L8 (E8 fun u88 hu88=>sv rfl (sv rfl (A1 (K4 ?_))))))))))))))))))))))))))
 cases hz7
 exact ⟨rfl,(⟨72, .head _⟩,u87),(J4 ⟨.of rfl, .of rfl, .of rfl, .of rfl, .of rfl,trivial⟩ (A9 G_hit (.box (cv (cv (cv (cv (cv (cv (cv (cv (cv (cv (cv (cv (.cons (.of (A9w (A36 hv34)).symm) .nil)))))))))))))) (A9 (A3 rfl (A3 rfl (A3 (neR g22.1.property rfl) (gq rfl)))) (.of rfl) (A9 (A3 rfl (A3 rfl (A3 (neR g22.1.property rfl) (gq rfl)))) (.of rfl) (A9 (A3 rfl (A3 rfl (A3 (neR g22.1.property rfl) (A3 rfl (A3 rfl (W5 g13.2 G_hit)))))) (.of rfl) (A9 (A3 rfl (A3 rfl (A3 (neR g22.1.property rfl) (gq rfl)))) (.of rfl) (B5 (A3 rfl (A3 rfl (A3 (neR g22.1.property rfl) (gq rfl)))) (B5 (A3 rfl (A3 rfl (A3 (neR g22.1.property rfl) (gq rfl)))) (A3v (gq rfl) trivial)))))))))⟩
 refine D8 rfl ?_
 cases hz7
 obtain rfl:=ez7 _ rfl
 refine ⟨nofun,C7 rfl (l_j ?_)⟩
 exact ⟨(g22.1,g22.2),(J4 trivial (sg rfl (A9 G_hit (.of rfl) (sg rfl (A9 (A3 rfl (A3 rfl (W5 g13.2 G_hit))) (.of rfl) (sg rfl (B5 (gq rfl) (B5 (gq rfl) (B5 (A3 (neL g22.1.property rfl) (A3 (neL g22.1.property rfl) (A3 (neL g22.1.property rfl) (A3 (neL g22.1.property rfl) (A3 (neL g22.1.property rfl) (A3 (neL g22.1.property rfl) (A3 (neL g22.1.property rfl) G_hit))))))) trivial)))))))))⟩
 rintro _ ⟨g21,q9⟩
 refine K4 ?_
 obtain rfl:=(Option.some.inj hy15)
 exact B38 q9 (.inl rfl) (g21.1,g21.2) trivial (A9 G_hit (.of rfl) (sg rfl (sg rfl (A9 (A3 rfl (A3 rfl (W5 g13.2 G_hit))) (.of rfl) (sg rfl (B5 (gq rfl) (B5 (gq rfl) (B5 (A3 (neL g21.1.property rfl) (A3 (neL g21.1.property rfl) (A3 (neL g21.1.property rfl) (A3 (neL g21.1.property rfl) (A3 (neL g21.1.property rfl) (A3 (neL g21.1.property rfl) (A3 (neL g21.1.property rfl) G_hit))))))) trivial))))))))
 intro g20
 intro u89 hu89
 refine A1 (L8 (K4 ?_))
 cases hz4
 exact C6e (gq rfl) (g20.1,g20.2) (sg rfl (A9 (A3 rfl (A3 rfl (W5 g13.2 G_hit))) (.of rfl) (A9 G_hit (.of rfl) (sg rfl (B5 (gq rfl) (B5 (gq rfl) (B5 (A3 (neL g20.1.property rfl) (A3 (neL g20.1.property rfl) (A3 (neL g20.1.property rfl) (A3 (neL g20.1.property rfl) (A3 (neL g20.1.property rfl) (A3 (neL g20.1.property rfl) (A3 (neL g20.1.property rfl) G_hit))))))) trivial)))))))
 rintro x4 g15 _ rfl qx4
 refine L8 (l_j ?_)
 exact ⟨(g15.1,g15.2),(Sb.after qx4 (J4 trivial (sg rfl (sg rfl (B5 (gq rfl) (B5 (gq rfl) (B5 (A3 (neL g15.1.property rfl) (A3 (neL g15.1.property rfl) (A3 (neL g15.1.property rfl) (A3 (neL g15.1.property rfl) (A3 (neL g15.1.property rfl) (A3 (neL g15.1.property rfl) G_hit)))))) trivial)))))))⟩
 rintro _ ⟨g14,q10⟩
 refine K4 ?_
 obtain rfl:=(Option.some.inj hy9)
 exact B38 q10 (.inl rfl) (g14.1,g14.2) ⟨.of rfl, .of rfl, .of rfl, .of rfl,trivial⟩ (A9 G_hit (.of rfl) (sg rfl (B5 (gq rfl) (B5 (gq rfl) (B5 (A3 (neL g14.1.property rfl) (A3 (neL g14.1.property rfl) (A3 (neL g14.1.property rfl) (A3 (neL g14.1.property rfl) G_hit)))) trivial)))))
 intro g12
 intro u90 hu90
 refine A1 (L8 (E8 fun u91 hu91=>sv rfl (sv rfl (A1 (B4v (lr (fun u92 hu92=>sv rfl (A1 (A6 (B0w rfl (B5h rfl ?_)))))))))))
 cases hy1
 exact l_j ⟨(g2,g6,(g12.1,g12.2)),(J4 ⟨.of rfl, .of rfl,trivial⟩ (A9 G_hit (.of rfl) (sg rfl (B5 (gq rfl) (B5 (gq rfl) (B5 (A3 (neL g12.1.property rfl) (A3 (neL g12.1.property rfl) (A3 (neL g12.1.property rfl) (A3 (neL g12.1.property rfl) G_hit)))) trivial))))))⟩
 rintro _ ⟨g1,q11⟩
 refine B4 q11 (lr (fun u93 hu93=>sp rfl rfl (sp rfl rfl (sp rfl rfl (sp rfl rfl (sl rfl (gq rfl) rfl (sv rfl (sp rfl rfl (sp rfl rfl (sp rfl rfl (sst rfl (gq rfl) ((A14 p1)++ (Q7 p2)++ [(di (w64 (v2.Tick+1))),(oS y1.1 (10060030,g1.1)),(oS y1.2.1 (85,g1.2.1)),(dl A4 p3),(oS y1.2.2 (g1.2.2.1.val,g1.2.2.2))]) rfl (A1 (A6 (B7i fun u94 hu94=>A3w (.ptr _ _) rfl rfl (A3w (.ptr _ _) rfl rfl (A3w (.ptr _ _) rfl rfl (A3w (A23 [(di (w64 (v2.Tick+1))),(oS y1.1 (10060030,g1.1)),(oS y1.2.1 (85,g1.2.1))]) rfl (B2 rfl G_hit rfl rfl) (A3w (.ptr _ _) rfl rfl (A3w (.ptr _ _) rfl rfl (A3w (.ptr _ _) rfl rfl (A3w (oS y1.2.2 (g1.2.2.1.val,g1.2.2.2)) rfl (V1 rfl G_hit rfl) (B9z _ _ _ _ _ (A16 _) rfl rfl (gq rfl) (nl rfl) [(di (w64 (v2.Tick+1))),(oS y1.1 (10060030,g1.1)),(oS y1.2.1 (85,g1.2.1))] rfl (A3w (oS y1.2.2 (g1.2.2.1.val,g1.2.2.2)) rfl rfl (A3w (.d _) rfl rfl (C5l ⟨by first|rfl|((generalize g1.2.2.1=q0;rcases q0 with ⟨d0,_|⟨_,_|⟨_,h0⟩⟩⟩)<;>(generalize y1.2.2=z4;cases z4)<;>first|rfl|contradiction),?_⟩)))))))))))))))))))))))))
 refine B3 ?_
 cases h
 exact A7 (.inr rfl) (C3f (I3 rfl G_hit (nl rfl) rfl) (B6 rfl) (B6 rfl) (B35 (rD (C0 (A4b (gq rfl)) (C0 (A4b (gq rfl)) D3)))) (A4b (A3 (neL g1.2.2.1.property rfl) (A3 (neL g1.2.2.1.property rfl) (A3 (neL g1.2.2.1.property rfl) (A3 (neL g1.2.2.1.property rfl) (A3 (neL g1.2.2.1.property rfl) (A3 (neL g1.2.2.1.property rfl) G_hit))))))) G8) (.tup (.cons (.agg (ca rfl (.cons ⟨A4a,rfl⟩ (.cons ⟨A4a,rfl⟩ .nil)))) (.cons A4a A2)))
noncomputable def A42:Option Bool:=
  (B0z).bind fun v1=>(A5d 0 10000 1000).bind fun v2=>(A5d 1 46000 1000).bind fun v3=>(B13 v1 [v2,v3]).bind fun v4=>cond (((v4.2 !=0)||((v4.1.In.length:Int) !=0))||((v4.1.Agents.length:Int) !=2)) (some false) ((A9n v1 v4.1 [50,(-90)]).bind fun v5=>((cond (((v5.2.2==0)&& ((v5.2.1.length:Int)==0))&& ((v5.1.Agents.length:Int)==2)) (G3 v5.1.Agents 0) (some default))).bind fun v6=>((cond ((((v5.2.2==0)&& ((v5.2.1.length:Int)==0))&& ((v5.1.Agents.length:Int)==2))&& (v6.S==11030)) (G3 v5.1.Agents 1) (some default))).bind fun v7=>((cond (((((v5.2.2==0)&& ((v5.2.1.length:Int)==0))&& ((v5.1.Agents.length:Int)==2))&& (v6.S==11030))&& (v7.V==910)) (A5j 100 30) (some default))).bind fun v8=>some ((((((v5.2.2==0)&& ((v5.2.1.length:Int)==0))&& ((v5.1.Agents.length:Int)==2))&& (v6.S==11030))&& (v7.V==910))&& (v8==120)))
theorem B22 (r:Bool)(h:A42=some r):PCall Tryz.prog 21 [] (bo r):=by
 refine B8 (fk Tryz.func21 Tryz.ntmps21 (fun r=>if r==2 then [1003]else if r==5 then [1002]else []) (by with_unfolding_all rfl)) (nl rfl) ?_
 unfold A42 at h
 refine B4 (s0:=⟨T [],G []⟩) (sbr rfl rfl) ?_
 refine lr (fun u1 hu1=>sv rfl (A1 (lr (fun u2 hu2=>bs h fun v1 hv1 h=>B1 rfl rfl A2 (B94 _ hv1) (.inl rfl) (sn rfl rfl (sst rfl G_hit (A14 v1) rfl (A1 (A6 (M8 rfl fun u3 hu3=>sd rfl (B2 rfl G_hit rfl rfl) (bs h fun v2 hv2 h=>B1 rfl rfl A2 (B1z _ _ _ _ hv2) (.inl rfl) (bs h fun v3 hv3 h=>B1 rfl rfl A2 (B1z _ _ _ _ hv3) (.inl rfl) (C9 (dl C3 [v2,v3]) rfl (B90 C3 ([v2,v3]:List Agent) (fun _=>rfl) rfl rfl ⟨rfl,rfl,rfl,rfl,rfl,rfl,trivial⟩ (fun _=>rfl)) (bs h fun v4 hv4 h=>B1 rfl rfl A2 (B95 _ _ _ hv4) (.inl rfl) (sv rfl (sv rfl (sv rfl (sn rfl rfl (sst rfl G_hit (Q7 v4.1) rfl (sv rfl (A1 (A6 (lr (fun u4 hu4=>sv rfl (sv rfl (sv rfl (gp rfl (A2t rfl) (fun _=>rfl) (gf rfl (vl rfl G_hit rfl) (gf rfl (fun w3=>(L9 (A5 w3))) (gf rfl (vb rfl rfl rfl) (sd rfl (A6a rfl rfl (fun hc=>A5 (W6 hc))) (sv rfl (gp rfl (A2t rfl) (fun _=>rfl) (gf rfl (vl rfl G_hit rfl) (gf rfl (fun w7=>(L9 (A5 w7))) (gf rfl (vb rfl rfl rfl) (sd rfl (A6a rfl rfl (fun hc=>A5 (W6 hc))) (A1 (cc rfl h (fun c1 h=> ?_) (fun c1 h=> ?_)))))))))))))))))))))))))))))))))))))))
 refine lr (fun u5 hu5=>sv rfl (A1 (B3 ?_)))
 cases h
 exact A7 (.inr rfl) (B7 (B6 rfl) G8) (.refl _)
 refine B0 (lr (fun u6 hu6=>sd rfl (B2 rfl (gq rfl) rfl rfl) (sd rfl (B2 rfl G_hit rfl rfl) (C9 (dl A4 [50,(-90)]) rfl rfl (bs h fun v5 hv5 h=>B1 rfl rfl A2 (B7u _ _ _ _ hv5) (.inl rfl) (sv rfl (sv rfl (sv rfl (sv rfl (sn rfl rfl (sst rfl G_hit (Q7 v5.1) rfl (sv rfl (sv rfl (A1 (lr (fun u7 hu7=>sv rfl (sv rfl (sv rfl (gt rfl (fun _=>rfl) (gt rfl (fun w10=>(L9 (A5 w10))) (gt rfl (vb rfl rfl rfl) (sa rfl rfl rfl (sv rfl (gp rfl (Y4 rfl) (fun _=>rfl) (gt rfl (vl rfl G_hit rfl) (gt rfl (fun w14=>(L9 (A5 w14))) (gt rfl (vb rfl rfl rfl) (sa rfl rfl rfl (sv rfl (gp rfl (Y4 rfl) (fun _=>rfl) (gt rfl (vl rfl G_hit rfl) (bs h fun v6 hv6 h=>gt rfl (fun w18=>(K5 (A5 w18) rfl (E2 w18 hv6) rfl)) ?_))))))))))))))))))))))))))))))))
 refine gt rfl (fun w19=>(by simp only [A5 w19];rfl)) ?_
 refine gt rfl (fun w20=>(M1 (A5 w20) (E2 w20 hv6) rfl)) (gt rfl (vb rfl rfl rfl) (sa rfl rfl rfl (sv rfl (gp rfl (Y4 rfl) (fun _=>rfl) (gt rfl (vl rfl G_hit rfl) (bs h fun v7 hv7 h=>gt rfl (fun w24=>(K5 (A5 w24) rfl (E2 w24 hv7) rfl)) ?_))))))
 refine gt rfl (fun w25=>(by simp only [A5 w25];rfl)) ?_
 refine gt rfl (fun w26=>(M1 (A5 w26) (E2 w26 hv7) rfl)) (gt rfl (vb rfl rfl rfl) (sa rfl rfl rfl (sv rfl (bs h fun v8 hv8 h=>U4 _ (i64 v8) (Y4 rfl) (fun w28=>⟨_,_,_,_,rfl,rfl,A2,B03 _ _ _ (E2 w28 hv8),(.inl rfl)⟩) (gt rfl (vb rfl rfl rfl) (sa rfl rfl rfl (sv rfl (A1 (B3 ?_)))))))))
 cases h
 exact A7 (.inr rfl) (B7 (B6 rfl) G8) (.refl _)
noncomputable def A2z (p1:State):Option (Agent×Bool):=
  cond ((p1.Agents.length:Int)==0) (some ((Agent.mk [] 0 0 0 0 false false),false)) ((G3 p1.Agents 0).bind fun v1=>some (v1,((decide ((mm2 false v1.V v1.S)≥0))&& (decide ((mm2 true v1.V v1.S)≤1099511627776)))))
theorem B0n (p1:State)(r:(Agent×Bool))(h:A2z p1=some r):PCall Tryz.prog 104 [(.agg (A0r p1))] (.tup [(.agg (C3 r.1)),(bo r.2)]):=by
 refine B8 (fk Tryz.func104 Tryz.ntmps104 m0 (by with_unfolding_all rfl)) (nl rfl) ?_
 unfold A2z at h
 refine B4 (s0:=⟨T [(0,(.d _))],G []⟩) (sbr rfl rfl) ?_
 refine lr (fun u1 hu1=>sn rfl rfl (sn rfl rfl (sv rfl (A1 (A6 (lr (fun u2 hu2=>sp rfl rfl (sl rfl (gq rfl) rfl (sd rfl (L9 rfl) (sv rfl (A1 (cc rfl h (fun c1 h=> ?_) (fun c1 h=> ?_)))))))))))))
 refine lr (fun u3 hu3=>sv rfl (sst rfl G_hit ([(.d .nilS)]++ (zs 4)++ [(.d (bo false)),(.d (bo false))]) rfl (sv rfl (A1 (B3 ?_)))))
 cases h
 exact A7 (.inr rfl) (B33 (I3 rfl G_hit (nl rfl) rfl) (B6 rfl) G8 G8) (.tup (.cons (.agg (.cons ⟨DLe.nil,rfl⟩ (cz rfl))) A2))
 refine B0 (lr (fun u4 hu4=>sp rfl rfl (sl rfl (gq rfl) rfl (bs h fun v1 hv1 h=>sd rfl (K5 rfl rfl hv1 rfl) (sd rfl (E7 rfl hv1 rfl rfl) (sn rfl rfl (sst rfl G_hit (A0a v1) rfl (A1 (A6 (B7i fun u5 hu5=>A3w (.d _) rfl (B2 rfl G_hit rfl rfl) (A3w (.ptr _ _) rfl rfl (A3w (.d _) rfl (V1 rfl G_hit rfl) (A3w (.ptr _ _) rfl rfl (A3w (.d _) rfl (V1 rfl G_hit rfl) (A3w (.d _) rfl rfl (A3w (.d _) rfl rfl (A3w (.d _) rfl rfl (B6s (decide ((mm2 false v1.V v1.S)≥0)) (.ptr _ _) rfl (Y4 rfl) (fun _=>rfl) (B6s (decide ((mm2 false v1.V v1.S)≥0)) (.d _) rfl (Y4 rfl) (vl rfl G_hit rfl) (B6s (decide ((mm2 false v1.V v1.S)≥0)) (.ptr _ _) rfl (Y4 rfl) (fun _=>rfl) (B6s (decide ((mm2 false v1.V v1.S)≥0)) (.d _) rfl (Y4 rfl) (vl rfl G_hit rfl) ?_)))))))))))))))))))))
 refine B6s (decide ((mm2 false v1.V v1.S)≥0)) (.d _) rfl (Y4 rfl) (fun w5=>(by simp only [A5 w5];rfl)) ?_
 refine B6s (decide ((mm2 false v1.V v1.S)≥0)) (.d _) rfl (Y4 rfl) (vb rfl rfl rfl) (A3w (.d _) rfl (C5k rfl (fun hc=>A5 hc) rfl) (B9z _ _ _ _ _ rfl rfl rfl (gq rfl) (nl rfl) (A0a v1) rfl (A3w (.d _) rfl rfl (C5l ⟨by first|rfl|((generalize (decide ((mm2 false v1.V v1.S)≥0))=q0;cases q0)<;>rfl),?_⟩))))
 refine B3 ?_
 cases h
 exact A7 (.inr rfl) (B33 (I3 rfl G_hit (nl rfl) rfl) (B6 rfl) G8 G8) (.refl _)
noncomputable def A9o (p1:Int)(p2:Int):Option Int:=
  (C0y p1 p2).bind fun v1=>(C0y (w64 (v1+p2)) p2).bind fun v2=>some v2
theorem B48 (p1:Int)(p2:Int)(r:Int)(h:A9o p1 p2=some r):PCall Tryz.prog 105 [(i64 p1),(i64 p2)] (i64 r):=by
 refine B8 (fk Tryz.func105 Tryz.ntmps105 m0 (by with_unfolding_all rfl)) (nl rfl) ?_
 unfold A9o at h
 refine B4 (s0:=⟨T [(0,(.d _)),(1,(.d _))],G []⟩) (sbr rfl rfl) ?_
 refine lr (fun u1 hu1=>sv rfl (A1 (lr (fun u2 hu2=>sv rfl (sv rfl (bs h fun v1 hv1 h=>sd rfl (C2b rfl rfl hv1) (sv rfl (sv rfl (sv rfl (bs h fun v2 hv2 h=>sd rfl (C2b rfl rfl hv2) (sv rfl (A1 (B3 ?_)))))))))))))
 cases h
 exact A7 (.inr rfl) (B7 (B6 rfl) G8) (.refl _)
noncomputable def A7s (p1:State)(p2:Int):Option Mark:=
  (A2z p1).bind fun v1=>cond (!v1.2) (some (Mark.mk 0 0 0)) ((A9o p2 7).bind fun v2=>some (Mark.mk p1.Tick (mm2 true 0 (w64 ((w64 ((w64 (v1.1.V+v2)) - 3)) - 3))) (w64 ((w64 ((w64 (v1.1.V+v2)) - 3))+3))))
theorem B6g (p1:State)(p2:Int)(r:Mark)(h:A7s p1 p2=some r):PCall Tryz.prog 47 [(.agg (A0r p1)),(i64 p2)] (.agg (C2g r)):=by
 refine B8 (fk Tryz.func47 Tryz.ntmps47 m0 (by with_unfolding_all rfl)) (nl rfl) ?_
 unfold A7s at h
 refine B4 (s0:=⟨T [(0,(.d _)),(1,(.d _))],G []⟩) (sbr rfl rfl) ?_
 refine lr (fun u1 hu1=>sn rfl rfl (sn rfl rfl (A1 (lr (fun u2 hu2=>sd rfl (B2 rfl (gq rfl) rfl rfl) (bs h fun v1 hv1 h=>B1 rfl rfl A2 (B0n _ _ hv1) (.inl rfl) (sv rfl (sv rfl (sv rfl (sn rfl rfl (sst rfl G_hit (A0a v1.1) rfl (sv rfl (A1 (A6 (lr (fun u3 hu3=>sv rfl (C9 (.d (bo (!v1.2))) rfl rfl (A1 (cc rfl h (fun c1 h=> ?_) (fun c1 h=> ?_))))))))))))))))))))
 refine lr (fun u4 hu4=>sv rfl (sst rfl (gq rfl) [(di 0),(di 0),(di 0)] rfl (A1 (B3 ?_))))
 cases h
 exact A7 (.inr rfl) (B7 (I3 rfl G_hit (nl rfl) rfl) G8) (.refl _)
 refine B0 (A6 (M8 rfl fun u5 hu5=>sp rfl rfl (sl rfl G_hit rfl (sv rfl (bs h fun v2 hv2 h=>B1 rfl rfl A2 (B48 _ _ _ hv2) (.inl rfl) (sv rfl (sv rfl (sv rfl (A1 (lr (fun u6 hu6=>sp rfl rfl (sl rfl (gq rfl) rfl (sv rfl (sv rfl (sv rfl (sv rfl (sv rfl (sv rfl (sst rfl (gq rfl) [(di p1.Tick),(di (mm2 true 0 (w64 ((w64 ((w64 (v1.1.V+v2)) - 3)) - 3)))),(di (w64 ((w64 ((w64 (v1.1.V+v2)) - 3))+3)))] rfl (A1 (B3 ?_)))))))))))))))))))))
 cases h
 exact A7 (.inr rfl) (B7 (I3 rfl G_hit (nl rfl) rfl) G8) (.refl _)
noncomputable def A1p (p1:State):Option Bool:=
  cond ((p1.Agents.length:Int)==0) (some false) ((G3 p1.Agents 0).bind fun v1=>some ((((decide (v1.V≥0))&& (decide (v1.V≤1099511627776)))&& (decide (v1.S≥0)))&& (decide (v1.S≤1099511627776))))
theorem A9p (p1:State)(r:Bool)(h:A1p p1=some r):PCall Tryz.prog 106 [(.agg (A0r p1))] (bo r):=by
 refine B8 (fk Tryz.func106 Tryz.ntmps106 m0 (by with_unfolding_all rfl)) (nl rfl) ?_
 unfold A1p at h
 refine B4 (s0:=⟨T [(0,(.d _))],G []⟩) (sbr rfl rfl) ?_
 refine lr (fun u1 hu1=>sn rfl rfl (sv rfl (A1 (A6 (lr (fun u2 hu2=>sp rfl rfl (sl rfl G_hit rfl (sd rfl (L9 rfl) (sv rfl (A1 (cc rfl h (fun c1 h=> ?_) (fun c1 h=> ?_))))))))))))
 refine lr (fun u3 hu3=>sv rfl (A1 (B3 ?_)))
 cases h
 exact A7 (.inr rfl) (B7 (B6 rfl) G8) (.refl _)
 refine B0 (lr (fun u4 hu4=>sp rfl rfl (sl rfl G_hit rfl (bs h fun v1 hv1 h=>sd rfl (K5 rfl rfl hv1 rfl) (sd rfl (E7 rfl hv1 rfl rfl) (sn rfl rfl (sst rfl G_hit (A0a v1) rfl (A1 (lr (fun u5 hu5=>sp rfl rfl (sl rfl G_hit rfl (sv rfl (sv rfl (gp rfl (Y4 rfl) (fun _=>rfl) (gt rfl (vl rfl G_hit rfl) (gt rfl (vb rfl rfl rfl) (sa rfl rfl rfl (sv rfl (gp rfl (Y4 rfl) (fun _=>rfl) (gt rfl (vl rfl G_hit rfl) (gt rfl (vb rfl rfl rfl) (sa rfl rfl rfl (sv rfl (gp rfl (Y4 rfl) (fun _=>rfl) (gt rfl (vl rfl G_hit rfl) (gt rfl (vb rfl rfl rfl) (sa rfl rfl rfl (sv rfl (A1 (B3 ?_))))))))))))))))))))))))))))))
 cases h
 exact A7 (.inr rfl) (B7 (B6 rfl) G8) (.refl _)
noncomputable def A9q (p1:Int)(p2:Int):Option Int:=
  (C0y p1 p2).bind fun v1=>cond (decide (v1<0)) (some (w64 (v1+p2))) (some v1)
theorem B49 (p1:Int)(p2:Int)(r:Int)(h:A9q p1 p2=some r):PCall Tryz.prog 107 [(i64 p1),(i64 p2)] (i64 r):=by
 refine B8 (fk Tryz.func107 Tryz.ntmps107 m0 (by with_unfolding_all rfl)) (nl rfl) ?_
 unfold A9q at h
 refine B4 (s0:=⟨T [(0,(.d _)),(1,(.d _))],G []⟩) (sbr rfl rfl) ?_
 refine lr (fun u1 hu1=>sv rfl (A1 (lr (fun u2 hu2=>sv rfl (sv rfl (bs h fun v1 hv1 h=>sd rfl (C2b rfl rfl hv1) (sv rfl (A1 (A6 (lr (fun u3 hu3=>sv rfl (sv rfl (A1 (cc rfl h (fun c1 h=> ?_) (fun c1 h=> ?_)))))))))))))))
 refine E8 fun u4 hu4=>sv rfl (sv rfl (sv rfl (sv rfl (A1 (lr (fun u5 hu5=>sv rfl (sv rfl (A1 (B3 ?_)))))))))
 cases h
 exact A7 (.inr rfl) (B7 (B6 rfl) G8) (.refl _)
 refine B0 (lr (fun u6 hu6=>sv rfl (sv rfl (A1 (B3 ?_)))))
 cases h
 exact A7 (.inr rfl) (B7 (B6 rfl) G8) (.refl _)
noncomputable def A7t (p1:State)(p2:Int):Option Mark:=
  (A1p p1).bind fun v1=>cond (!v1) (some (Mark.mk 0 0 0)) ((G3 p1.Agents 0).bind fun v2=>(A9q p2 7).bind fun v3=>some (Mark.mk p1.Tick (mm2 true 0 (w64 ((w64 ((w64 (v2.V+v3)) - 3)) - 3))) (w64 ((w64 ((w64 (v2.V+v3)) - 3))+3))))
theorem B6h (p1:State)(p2:Int)(r:Mark)(h:A7t p1 p2=some r):PCall Tryz.prog 48 [(.agg (A0r p1)),(i64 p2)] (.agg (C2g r)):=by
 refine B8 (fk Tryz.func48 Tryz.ntmps48 m0 (by with_unfolding_all rfl)) (nl rfl) ?_
 unfold A7t at h
 refine B4 (s0:=⟨T [(0,(.d _)),(1,(.d _))],G []⟩) (sbr rfl rfl) ?_
 refine lr (fun u1 hu1=>sn rfl rfl (sn rfl rfl (A1 (A6 (lr (fun u2 hu2=>sd rfl (B2 rfl (gq rfl) rfl rfl) (bs h fun v1 hv1 h=>B1 rfl rfl A2 (A9p _ _ hv1) (.inl rfl) (C9 (.d (bo (!v1))) rfl rfl (A1 (cc rfl h (fun c1 h=> ?_) (fun c1 h=> ?_)))))))))))
 refine lr (fun u3 hu3=>sv rfl (sst rfl G_hit [(di 0),(di 0),(di 0)] rfl (A1 (B3 ?_))))
 cases h
 exact A7 (.inr rfl) (B7 (I3 rfl G_hit (nl rfl) rfl) G8) (.refl _)
 refine B0 (A6 (M8 rfl fun u4 hu4=>sp rfl rfl (sl rfl (gq rfl) rfl (bs h fun v2 hv2 h=>sd rfl (K5 rfl rfl hv2 rfl) (sv rfl (sd rfl (M1 rfl hv2 rfl) (sv rfl (bs h fun v3 hv3 h=>B1 rfl rfl A2 (B49 _ _ _ hv3) (.inl rfl) (sv rfl (sv rfl (sv rfl (A1 (lr (fun u5 hu5=>sp rfl rfl (sl rfl (gq rfl) rfl (sv rfl (sv rfl (sv rfl (sv rfl (sv rfl (sv rfl (sst rfl G_hit [(di p1.Tick),(di (mm2 true 0 (w64 ((w64 ((w64 (v2.V+v3)) - 3)) - 3)))),(di (w64 ((w64 ((w64 (v2.V+v3)) - 3))+3)))] rfl (A1 (B3 ?_))))))))))))))))))))))))
 cases h
 exact A7 (.inr rfl) (B7 (I3 rfl G_hit (nl rfl) rfl) G8) (.refl _)
noncomputable def B16 (p1:State)(p2:Int):Option Mark:=
  (A2z p1).bind fun v1=>cond (!v1.2) (some (Mark.mk 0 0 0)) ((A9o p2 401).bind fun v2=>some (Mark.mk p1.Tick (w64 ((w64 ((w64 (v1.1.S+v2)) - 200)) - 200)) (w64 ((w64 ((w64 (v1.1.S+v2)) - 200))+200))))
theorem B99 (p1:State)(p2:Int)(r:Mark)(h:B16 p1 p2=some r):PCall Tryz.prog 49 [(.agg (A0r p1)),(i64 p2)] (.agg (C2g r)):=by
 refine B8 (fk Tryz.func49 Tryz.ntmps49 m0 (by with_unfolding_all rfl)) (nl rfl) ?_
 unfold B16 at h
 refine B4 (s0:=⟨T [(0,(.d _)),(1,(.d _))],G []⟩) (sbr rfl rfl) ?_
 refine lr (fun u1 hu1=>sn rfl rfl (sn rfl rfl (A1 (lr (fun u2 hu2=>sd rfl (B2 rfl (gq rfl) rfl rfl) (bs h fun v1 hv1 h=>B1 rfl rfl A2 (B0n _ _ hv1) (.inl rfl) (sv rfl (sv rfl (sv rfl (sn rfl rfl (sst rfl G_hit (A0a v1.1) rfl (sv rfl (A1 (A6 (lr (fun u3 hu3=>sv rfl (C9 (.d (bo (!v1.2))) rfl rfl (A1 (cc rfl h (fun c1 h=> ?_) (fun c1 h=> ?_))))))))))))))))))))
 refine lr (fun u4 hu4=>sv rfl (sst rfl (gq rfl) [(di 0),(di 0),(di 0)] rfl (A1 (B3 ?_))))
 cases h
 exact A7 (.inr rfl) (B7 (I3 rfl G_hit (nl rfl) rfl) G8) (.refl _)
 refine B0 (A6 (M8 rfl fun u5 hu5=>sp rfl rfl (sl rfl G_hit rfl (sv rfl (bs h fun v2 hv2 h=>B1 rfl rfl A2 (B48 _ _ _ hv2) (.inl rfl) (sv rfl (sv rfl (sv rfl (A1 (lr (fun u6 hu6=>sp rfl rfl (sl rfl (gq rfl) rfl (sv rfl (sv rfl (sv rfl (sv rfl (sv rfl (sst rfl (gq rfl) [(di p1.Tick),(di (w64 ((w64 ((w64 (v1.1.S+v2)) - 200)) - 200))),(di (w64 ((w64 ((w64 (v1.1.S+v2)) - 200))+200)))] rfl (A1 (B3 ?_))))))))))))))))))))
 cases h
 exact A7 (.inr rfl) (B7 (I3 rfl G_hit (nl rfl) rfl) G8) (.refl _)
noncomputable def B17 (p1:State)(p2:Int):Option Mark:=
  (A1p p1).bind fun v1=>cond (!v1) (some (Mark.mk 0 0 0)) ((G3 p1.Agents 0).bind fun v2=>(A9q p2 401).bind fun v3=>some (Mark.mk p1.Tick (w64 ((w64 ((w64 (v2.S+v3)) - 200)) - 200)) (w64 ((w64 ((w64 (v2.S+v3)) - 200))+200))))
theorem B9a (p1:State)(p2:Int)(r:Mark)(h:B17 p1 p2=some r):PCall Tryz.prog 50 [(.agg (A0r p1)),(i64 p2)] (.agg (C2g r)):=by
 refine B8 (fk Tryz.func50 Tryz.ntmps50 m0 (by with_unfolding_all rfl)) (nl rfl) ?_
 unfold B17 at h
 refine B4 (s0:=⟨T [(0,(.d _)),(1,(.d _))],G []⟩) (sbr rfl rfl) ?_
 refine lr (fun u1 hu1=>sn rfl rfl (sn rfl rfl (A1 (A6 (lr (fun u2 hu2=>sd rfl (B2 rfl (gq rfl) rfl rfl) (bs h fun v1 hv1 h=>B1 rfl rfl A2 (A9p _ _ hv1) (.inl rfl) (C9 (.d (bo (!v1))) rfl rfl (A1 (cc rfl h (fun c1 h=> ?_) (fun c1 h=> ?_)))))))))))
 refine lr (fun u3 hu3=>sv rfl (sst rfl G_hit [(di 0),(di 0),(di 0)] rfl (A1 (B3 ?_))))
 cases h
 exact A7 (.inr rfl) (B7 (I3 rfl G_hit (nl rfl) rfl) G8) (.refl _)
 refine B0 (A6 (M8 rfl fun u4 hu4=>sp rfl rfl (sl rfl (gq rfl) rfl (bs h fun v2 hv2 h=>sd rfl (K5 rfl rfl hv2 rfl) (sv rfl (sd rfl (M1 rfl hv2 rfl) (sv rfl (bs h fun v3 hv3 h=>B1 rfl rfl A2 (B49 _ _ _ hv3) (.inl rfl) (sv rfl (sv rfl (sv rfl (A1 (lr (fun u5 hu5=>sp rfl rfl (sl rfl (gq rfl) rfl (sv rfl (sv rfl (sv rfl (sv rfl (sv rfl (sst rfl G_hit [(di p1.Tick),(di (w64 ((w64 ((w64 (v2.S+v3)) - 200)) - 200))),(di (w64 ((w64 ((w64 (v2.S+v3)) - 200))+200)))] rfl (A1 (B3 ?_)))))))))))))))))))))))
 cases h
 exact A7 (.inr rfl) (B7 (I3 rfl G_hit (nl rfl) rfl) G8) (.refl _)
noncomputable def A3u (p1:State)(p2:Int):Option Bool:=
  (A7g p1).bind fun v1=>cond (!v1) ((A42).bind fun v2=>some v2) ((A7s p1 p2).bind fun v3=>(A7t p1 p2).bind fun v4=>((cond (v3.Stamp==v4.Stamp&& (v3.Lo==v4.Lo&& (v3.Hi==v4.Hi&&true))) (B16 p1 p2) (some default))).bind fun v5=>((cond (v3.Stamp==v4.Stamp&& (v3.Lo==v4.Lo&& (v3.Hi==v4.Hi&&true))) (B17 p1 p2) (some default))).bind fun v6=>((cond ((v3.Stamp==v4.Stamp&& (v3.Lo==v4.Lo&& (v3.Hi==v4.Hi&&true)))&& (v5.Stamp==v6.Stamp&& (v5.Lo==v6.Lo&& (v5.Hi==v6.Hi&&true)))) (A42) (some default))).bind fun v7=>some (((v3.Stamp==v4.Stamp&& (v3.Lo==v4.Lo&& (v3.Hi==v4.Hi&&true)))&& (v5.Stamp==v6.Stamp&& (v5.Lo==v6.Lo&& (v5.Hi==v6.Hi&&true))))&&v7))
theorem B2i (p1:State)(p2:Int)(r:Bool)(h:A3u p1 p2=some r):PCall Tryz.prog 12 [(.agg (A0r p1)),(i64 p2)] (bo r):=by
 refine B8 (fk Tryz.func12 Tryz.ntmps12 m0 (by with_unfolding_all rfl)) (nl rfl) ?_
 unfold A3u at h
 refine B4 (s0:=⟨T [(0,(.d _)),(1,(.d _))],G []⟩) (sbr rfl rfl) ?_
 refine lr (fun u1 hu1=>sn rfl rfl (sv rfl (A1 (A6 (lr (fun u2 hu2=>sd rfl (B2 rfl G_hit rfl rfl) (bs h fun v1 hv1 h=>B1 rfl rfl A2 (B6b _ _ hv1) (.inl rfl) (C9 (.d (bo (!v1))) rfl rfl (A1 (cc rfl h (fun c1 h=> ?_) (fun c1 h=> ?_)))))))))))
 refine lr (fun u3 hu3=>bs h fun v2 hv2 h=>B1 rfl rfl A2 (B22 _ hv2) (.inl rfl) (sv rfl (A1 (B3 ?_))))
 cases h
 exact A7 (.inr rfl) (B7 (B6 rfl) G8) (.refl _)
 refine B0 (A6 (M8 rfl fun u4 hu4=>sd rfl (B2 rfl G_hit rfl rfl) (sv rfl (bs h fun v3 hv3 h=>B1 rfl rfl A2 (B6g _ _ _ hv3) (.inl rfl) (sd rfl (B2 rfl G_hit rfl rfl) (sv rfl (bs h fun v4 hv4 h=>B1 rfl rfl A2 (B6h _ _ _ hv4) (.inl rfl) (C9 (.d (bo (v3.Stamp==v4.Stamp&& (v3.Lo==v4.Lo&& (v3.Hi==v4.Hi&&true))))) rfl rfl (sv rfl (gt rfl (fun w1=>(B2 rfl G_hit rfl rfl)) (gt rfl (fun _=>rfl) (bs h fun v5 hv5 h=> ?_))))))))))))
 refine U4 _ (.agg (C2g v5)) (Y4 rfl) (fun w3=>⟨_,[(.d (.agg (A0r p1))),(di p2)],_,_,(by simp only [A5 w3];rfl),rfl,A2,B99 _ _ _ (E2 w3 hv5),(.inl rfl)⟩) ?_
 refine gt rfl (fun w4=>(B2 rfl G_hit rfl rfl)) (gt rfl (fun _=>rfl) (bs h fun v6 hv6 h=> ?_))
 refine U4 _ (.agg (C2g v6)) (Y4 rfl) (fun w6=>⟨_,[(.d (.agg (A0r p1))),(di p2)],_,_,(by simp only [A5 w6];rfl),rfl,A2,B9a _ _ _ (E2 w6 hv6),(.inl rfl)⟩) ?_
 refine Z4 _ (.d (bo (v5.Stamp==v6.Stamp&& (v5.Lo==v6.Lo&& (v5.Hi==v6.Hi&&true))))) rfl (Y4 rfl) (fun w7=>(by simp only [A5 w7];rfl)) ?_
 refine sa rfl rfl rfl (sv rfl (bs h fun v7 hv7 h=>U4 _ (bo v7) (Y4 rfl) (fun w8=>⟨_,_,_,_,rfl,rfl,A2,B22 _ (E2 w8 hv7),(.inl rfl)⟩) (sa rfl rfl rfl (sv rfl (A1 (B3 ?_))))))
 cases h
 exact A7 (.inr rfl) (B7 (B6 rfl) G8) (.refl _)
end Go.Abs.World
