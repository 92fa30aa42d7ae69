/-
  The functions, part 3.
-/
import Derived.Test.YtgjdiioennhoeaaGreatFns2
set_option maxRecDepth 20000
set_option maxHeartbeats 4000000
set_option linter.unusedVariables false
namespace Go.Abs.World
open Go Go.Abs Go.Proofs
attribute [local irreducible] N0 B0b AWL
noncomputable def A7s (p1:Map)(p2:Int)(p3:Int)(v1:Zone)(x2:((List Int)×Int)):Option (Stp ((List Int)×Int) (List Int)):=
  cond (decide (x2.2< (v1.Parts.length:Int))) ((D1 v1.Parts x2.2).bind fun v2=>((cond (v2.Lane_==p2) (D1 p1.Signals (w64 (v1.Signal_ - 1))) (some default))).bind fun v3=>((cond (v2.Lane_==p2) (A6j v3 p2 p3) (some default))).bind fun v4=>cond ((v2.Lane_==p2)&& (!v4)) ((A60 x2.1 [v2.From]).bind fun v5=>some (.go (v5,(w64 (x2.2+1))))) (some (.go (x2.1,(w64 (x2.2+1)))))) (some (.out x2.1))
noncomputable def A7t (p1:Map)(p2:Int)(p3:Int)(x1:((List Int)×Int)):Option (Stp ((List Int)×Int) (List Int)):=
  cond (decide (x1.2< (p1.Zones.length:Int))) ((D1 p1.Zones x1.2).bind fun v1=>cond (v1.Signal_==0) (some (.go (x1.1,(w64 (x1.2+1))))) ((loop (A7s p1 p2 p3 v1) (x1.1,0)).bind fun y2=>some (.go (y2,(w64 (x1.2+1)))))) (some (.out x1.1))
noncomputable def B43 (p1:Map)(p2:Int)(p3:Int):Option (List Int):=
  (loop (A7t p1 p2 p3) ([],0)).bind fun y1=>cond (List.isEmpty y1) ((T7).bind fun v8=>some []) ((T6 y1).bind fun v6=>(B2z v6).bind fun v7=>some v7)
theorem B8l (p1:Map)(p2:Int)(p3:Int)(r:(List Int))(h:B43 p1 p2 p3=some r):PCall Tryz.prog 223 [(.agg (A2o p1)),(i64 p2),(i64 p3)] (.list (List.map A4 r)):=by
 refine B8 (fk Tryz.func223 Tryz.ntmps223 (fun r=>if r==10 then [1003]else if r==13 then [1013001]else if r==14 then [1014001]else []) (by with_unfolding_all rfl)) (nl rfl) ?_
 unfold B43 at h
 refine B4 (s0:=⟨T [(0,(.d _)),(1,(.d _)),(2,(.d _))],G []⟩) (sbr rfl rfl) ?_
 refine lr (fun u1 hu1=>sn rfl rfl (sv rfl (A1 (lr (fun u2 hu2=>sv rfl (A1 (A6 (lr (fun u3 hu3=>sp rfl rfl (sl rfl G_hit rfl (sd rfl (F7 rfl) (sv rfl (A1 (bs h fun y1 hy1 h=>D5 (fun s=> ∃g1:Nat,Sb ⟨T [(7,(oS y1 (50,g1)))],G [((50,g1),oB 2 1 A4 y1)]⟩ s) ?_ ?_))))))))))))))
 refine A8 (D9 (A7t p1 p2 p3) (fun (x1:((List Int)×Int)) (g2:Nat)=>⟨T [(1,(di p2)),(2,(di p3)),(3,(.ptr (3,u1) 0)),(7,(oS x1.1 (50,g2))),(13,(dl A5k p1.Zones)),(14,(di (p1.Zones.length:Int))),(15,(di x1.2))],G [((3,u1),some (.box 33 (W6 p1))),((50,g2),oB 2 1 A4 x1.1)]⟩) ([],0) 0 _ hy1 (E0 ⟨.of rfl, .of rfl, .of rfl, .of rfl, .of rfl, .of rfl, .of rfl,trivial⟩ (A9 G_hit (.of rfl) (A2e trivial))) ?_)
 intro x1 g2 z1 hz1 ez1
 unfold A7t at hz1
 refine lr (fun u4 hu4=>sv rfl (A1 (A6 (cc rfl hz1 (fun c1 hz1=> ?_) (fun c1 hz1=> ?_)))))
 refine B0 (A6 (A8 (lr (fun u5 hu5=>bs hz1 fun v1 hv1 hz1=>sd rfl (E4 rfl rfl hv1 rfl) (sd rfl (C9 rfl hv1 rfl rfl) (sn rfl rfl (sst rfl G_hit [(dl A4v v1.Parts),(di v1.Signal_)] rfl (A1 (A6 (lr (fun u6 hu6=>sp rfl rfl (sl rfl G_hit rfl (sv rfl (A1 (cc rfl hz1 (fun c2 hz1=> ?_) (fun c2 hz1=> ?_))))))))))))))))
 refine B3j rfl (D0 fun u7 hu7=>sv rfl (sv rfl (A1 (E3 ?_))))
 cases hz1
 exact ⟨rfl,g2,(E0 ⟨.of rfl, .of rfl, .of rfl, .of rfl, .of rfl, .of rfl, .of rfl,trivial⟩ (sg rfl (B5 (gq rfl) trivial)))⟩
 refine B0 (lr (fun u8 hu8=>sp rfl rfl (sl rfl G_hit rfl (sd rfl (F7 rfl) (sv rfl (A1 (bs hz1 fun y2 hy2 hz1=>D5 (fun s=> ∃g3:Nat,Sb ⟨T [(1,(di p2)),(2,(di p3)),(3,(.ptr (3,u1) 0)),(7,(oS y2 (50,g3))),(13,(dl A5k p1.Zones)),(14,(di (p1.Zones.length:Int))),(15,(di x1.2))],G [((3,u1),some (.box 33 (W6 p1))),((50,g3),oB 2 1 A4 y2)]⟩ s) ?_ ?_)))))))
 refine A8 (D9 (A7s p1 p2 p3 v1) (fun (x2:((List Int)×Int)) (g4:Nat)=>⟨T [(1,(di p2)),(2,(di p3)),(3,(.ptr (3,u1) 0)),(7,(oS x2.1 (50,g4))),(9,(.ptr (9,u5) 0)),(13,(dl A5k p1.Zones)),(14,(di (p1.Zones.length:Int))),(15,(di x1.2)),(23,(dl A4v v1.Parts)),(24,(di (v1.Parts.length:Int))),(25,(di x2.2))],G [((3,u1),some (.box 33 (W6 p1))),((9,u5),some (.box 117 [(dl A4v v1.Parts),(di v1.Signal_)])),((50,g4),oB 2 1 A4 x2.1)]⟩) (x1.1,0) g2 _ hy2 (E0 ⟨.of rfl, .of rfl, .of rfl, .of rfl, .of rfl, .of rfl, .of rfl, .of rfl, .of rfl, .of rfl, .of rfl,trivial⟩ (sg rfl (A9 G_hit (.of rfl) (B5 (gq rfl) trivial)))) ?_)
 intro x2 g4 z2 hz2 ez2
 unfold A7s at hz2
 refine lr (fun u9 hu9=>sv rfl (A1 (A6 (cc rfl hz2 (fun c3 hz2=> ?_) (fun c3 hz2=> ?_)))))
 refine B0 (A6 (A8 (lr (fun u10 hu10=>bs hz2 fun v2 hv2 hz2=>sd rfl (E4 rfl rfl hv2 rfl) (sd rfl (C9 rfl hv2 rfl rfl) (sn rfl rfl (sst rfl G_hit (C27 v2) rfl (A1 (lr (fun u11 hu11=>sp rfl rfl (sl rfl G_hit rfl (sv rfl (sv rfl (sv rfl (gp rfl (Q2 rfl) (fun _=>rfl) (gt rfl (vl rfl (gq rfl) rfl) (gp rfl (Q2 rfl) (fun _=>rfl) (gt rfl (vl rfl (gq rfl) rfl) (gt rfl (vb rfl rfl rfl) (bs hz2 fun v3 hv3 hz2=>gt rfl (fun w6=>(E4 (A5 w6) (A5 w6) (C8 w6 hv3) rfl)) (gt rfl (fun w7=>(C9 (A5 w7) (C8 w7 hv3) rfl rfl)) (gt rfl (fun _=>rfl) (gt rfl (fun _=>rfl) (bs hz2 fun v4 hv4 hz2=> ?_))))))))))))))))))))))))
 refine N6 _ (bo v4) (Q2 rfl) (fun w10=>⟨_,[(.d (.agg [(i64 v3.Offset),(.list (List.map A3s v3.Phases))])),(di p2),(di p3)],_,_,(by simp only [A5 w10];rfl),rfl,A2,A96 _ _ _ _ (C8 w10 hv4),(.inl rfl)⟩) ?_
 refine Q9 _ (.d (bo (!v4))) rfl (Q2 rfl) (fun w11=>(by simp only [A5 w11];rfl)) ?_
 refine sa rfl rfl rfl (A1 (cc rfl hz2 (fun c4 hz2=> ?_) (fun c4 hz2=> ?_)))
 refine D0 fun u12 hu12=>C4 (oS x2.1 (50,g4)) rfl rfl (sp rfl rfl (sl rfl G_hit rfl (C4 (dl A4 [v2.From]) rfl rfl (bs hz2 fun v5 hv5 hz2=>S5 A4 (50,g4) x2.1 v2.From [] _ (M6 (fun _=>rfl)) rfl (gq rfl) hv5 (ss rfl (A1 (F6 (D0 fun u13 hu13=>sv rfl (sv rfl (A1 (E3 ?_)))))))))))
 cases hz2
 exact ⟨rfl,u12,(E0 ⟨.of rfl, .of rfl, .of rfl,(.of (A65 (A0r hv5)).symm), .of rfl, .of rfl, .of rfl, .of rfl, .of rfl, .of rfl, .of rfl,trivial⟩ (sg rfl (sg rfl (A1d G_hit trivial))))⟩
 refine B0 (F6 (D0 fun u14 hu14=>sv rfl (sv rfl (A1 (E3 ?_)))))
 cases hz2
 exact ⟨rfl,g4,(E0 ⟨.of rfl, .of rfl, .of rfl, .of rfl, .of rfl, .of rfl, .of rfl, .of rfl, .of rfl, .of rfl, .of rfl,trivial⟩ (sg rfl (sg rfl (B5 (gq rfl) trivial))))⟩
 refine C6 rfl ?_
 cases hz2
 obtain rfl:=ez2 _ rfl
 refine ⟨nofun,C2 rfl (l_j ?_)⟩
 exact ⟨g4,(E0 ⟨.of rfl, .of rfl, .of rfl, .of rfl, .of rfl, .of rfl, .of rfl,trivial⟩ (A9 G_hit (.of rfl) (B5 (gq rfl) trivial)))⟩
 rintro _ ⟨g3,q1⟩
 refine F6 (B4 q1 (D0 fun u15 hu15=>sv rfl (sv rfl (A1 (E3 ?_)))))
 cases hz1
 exact ⟨rfl,g3,(E0 ⟨.of rfl, .of rfl, .of rfl, .of rfl, .of rfl, .of rfl, .of rfl,trivial⟩ (A9 G_hit (.of rfl) (B5 (gq rfl) trivial)))⟩
 refine C6 rfl ?_
 cases hz1
 obtain rfl:=ez1 _ rfl
 refine ⟨nofun,C2 rfl (l_j ?_)⟩
 exact ⟨g2,(E0 ⟨.of rfl,trivial⟩ (B5 (gq rfl) trivial))⟩
 rintro _ ⟨g1,q2⟩
 refine B4 q2 (A6 ?_)
 rcases B8e h with ⟨e1,h⟩|⟨e1,h⟩
 refine B4 (s0:=⟨T [(7,(.d .nilS))],G []⟩) (E0 ⟨.of (C6j e1),trivial⟩ trivial) ?_
 refine D0 fun u19 hu19=>sv rfl (bs h fun v8 hv8 h=>C2e (v:= .d (.tup [])) (us:= []) (C9s [] _ rfl rfl A2 (A3h _ hv8) rfl rfl) (A1 (lr (fun u20 hu20=>sv rfl (C2e (v:= .d .nilS) (us:= []) (C9s [] _ rfl rfl A2 C81 rfl rfl) (sv rfl (A1 (B3 ?_))))))))
 cases h
 exact A7 (.inr rfl) (B7 (B6 rfl) D2) DLe.nil
 refine B4 (s0:=⟨T [(7,(.sl (50,g1)))],G [((50,g1),some (.arr 2 1 (List.map A4 y1)))]⟩) (E0 ⟨.of (A65 e1),trivial⟩ (A9 (B1c G_hit e1) (.of rfl) trivial)) ?_
 refine D0 fun u17 hu17=>ss rfl (bs h fun v6 hv6 h=>C2e (v:= .d (.tup [])) (us:= [(50,g1)]) (C4a (A3g _ _ hv6) [(50,g1)] [(50,g1)] _ (((50,g1),some (.arr 2 1 (List.map A4 v6)))::_) rfl A3r (Q3 B88 B0k) (A20 G_hit A1z) ⟨⟨_,G_hit, .of rfl⟩,trivial⟩ (fun _ h=>h) nd1 rfl rfl rfl) (A1 (lr (fun u18 hu18=>ss rfl (bs h fun v7 hv7 h=>C2e (v:= .sl (10140010,u18)) (us:= [(50,g1),(10140010,u18)]) (C4a (D02 _ _ hv7) [(50,g1)] [(50,g1)] _ (((10140010,u18),some (.arr 2 1 (List.map A4 v7)))::((50,g1),none)::_) rfl A3r (Q3 B88 B0k) (A20 G_hit A1z) ⟨⟨_,G_hit, .of rfl⟩,trivial⟩ (fun _ h=>h) nd1 rfl rfl rfl) (ss rfl (A1 (B3 ?_))))))))
 cases h
 exact A7 (.inr rfl) (B7 (B6 rfl) (C3a G_hit)) (.refl _)
noncomputable def B44 (p1:Map)(p2:Int)(p3:Int):Option (List Int):=
  ((cond (!(decide (p3<0))) (B0s p1 p2) (some default))).bind fun v1=>cond ((decide (p3<0))||(!v1)) (some []) ((B43 p1 p2 p3).bind fun v2=>some v2)
theorem B8m (p1:Map)(p2:Int)(p3:Int)(r:(List Int))(h:B44 p1 p2 p3=some r):PCall Tryz.prog 180 [(.agg (A2o p1)),(i64 p2),(i64 p3)] (.list (List.map A4 r)):=by
 refine B8 (fk Tryz.func180 Tryz.ntmps180 m0 (by with_unfolding_all rfl)) (nl rfl) ?_
 unfold B44 at h
 refine B4 (s0:=⟨T [(0,(.d _)),(1,(.d _)),(2,(.d _))],G []⟩) (sbr rfl rfl) ?_
 refine lr (fun u1 hu1=>sn rfl rfl (sv rfl (A1 (A6 (lr (fun u2 hu2=>sv rfl (sv rfl (sv rfl (gf rfl (fun w1=>(B2 rfl G_hit rfl rfl)) (gf rfl (fun _=>rfl) (bs h fun v1 hv1 h=> ?_)))))))))))
 refine N6 _ (bo v1) (A0i rfl) (fun w3=>⟨_,[(.d (.agg (A2o p1))),(di p2)],_,_,(by simp only [A5 w3];rfl),rfl,A2,A9r _ _ _ (C8 w3 hv1),(.inl rfl)⟩) ?_
 refine Q9 _ (.d (bo (!v1))) rfl (A0i rfl) (fun w4=>(by simp only [A5 w4];rfl)) ?_
 refine sd rfl (A32 rfl rfl (fun hc=>A5 (O3 hc))) (A1 (cc rfl h (fun c1 h=> ?_) (fun c1 h=> ?_)))
 refine lr (fun u3 hu3=>sv rfl (A1 (B3 ?_)))
 cases h
 exact A7 (.inr rfl) (B7 (B6 rfl) D2) DLe.nil
 refine B0 (lr (fun u4 hu4=>sd rfl (B2 rfl G_hit rfl rfl) (sv rfl (sv rfl (bs h fun v2 hv2 h=>B1 rfl rfl A2 (B8l _ _ _ _ hv2) (.inl rfl) (sv rfl (A1 (B3 ?_))))))))
 cases h
 exact A7 (.inr rfl) (B7 (B6 rfl) D2) (.refl _)
noncomputable def A18 (p1:Int)(p2:Agent)(p3:Int):Option Int:=
  some (mm2 true 0 (mm2 false (w64 (p2.V+p1)) p3))
theorem A4f (p1:Int)(p2:Agent)(p3:Int)(r:Int)(h:A18 p1 p2 p3=some r):PCall Tryz.prog 179 [(i64 p1),(.bp (C0 p2) 0),(.bp [(i64 p3)] 0)] (i64 r):=by
 refine B8 (fk Tryz.func179 Tryz.ntmps179 m0 (by with_unfolding_all rfl)) (nl rfl) ?_
 unfold A18 at h
 refine B4 (s0:=⟨T [(0,(.d _)),(1,(.d _)),(2,(.d _))],G []⟩) (sbr rfl rfl) ?_
 refine lr (fun u1 hu1=>sv rfl (A1 (lr (fun u2 hu2=>sv rfl (sv rfl (sv rfl (sv rfl (sv rfl (sv rfl (sv rfl (sv rfl (A1 (B3 ?_)))))))))))))
 cases h
 exact A7 (.inr rfl) (B7 (B6 rfl) D2) (.refl _)
noncomputable def A5q (p1:Int)(p2:Int):Option Int:=
  cond ((decide (p1<1))||(decide (p2<1))) (some 0) ((C8u .i64 (w64 ((mm2 false p1 1000000) - 1)) (mm2 false p2 1000000)).bind fun v1=>some (w64 ((w64 (v1* (mm2 false p1 1000000))) - (w64 ((mm2 false p2 1000000)* (w64 ((w64 (v1* (w64 (v1+1)))).tdiv 2)))))))
theorem A6m (p1:Int)(p2:Int)(r:Int)(h:A5q p1 p2=some r):PCall Tryz.prog 41 [(i64 p1),(i64 p2)] (i64 r):=by
 refine B8 (fk Tryz.func41 Tryz.ntmps41 m0 (by with_unfolding_all rfl)) (nl rfl) ?_
 unfold A5q at h
 refine B4 (s0:=⟨T [(0,(.d _)),(1,(.d _))],G []⟩) (sbr rfl rfl) ?_
 refine lr (fun u1 hu1=>sv rfl (A1 (A6 (lr (fun u2 hu2=>sv rfl (sv rfl (sv rfl (gf rfl (fun _=>rfl) (gf rfl (vb rfl rfl rfl) (sd rfl (A32 rfl rfl (fun hc=>A5 (O3 hc))) (A1 (cc rfl h (fun c1 h=> ?_) (fun c1 h=> ?_)))))))))))))
 refine lr (fun u3 hu3=>sv rfl (A1 (B3 ?_)))
 cases h
 exact A7 (.inr rfl) (B7 (B6 rfl) D2) (.refl _)
 refine B0 (lr (fun u4 hu4=>sv rfl (sv rfl (sv rfl (sv rfl (sv rfl (sv rfl (A1 (lr (fun u5 hu5=>sv rfl (sv rfl (sv rfl (bs h fun v1 hv1 h=>sd rfl (C9p rfl rfl hv1) (sv rfl (A1 (lr (fun u6 hu6=>sv rfl (sv rfl (sv rfl (sv rfl (sv rfl (sv rfl (sv rfl (sv rfl (sv rfl (sv rfl (sv rfl (sv rfl (A1 (B3 ?_))))))))))))))))))))))))))))))
 cases h
 exact A7 (.inr rfl) (B7 (B6 rfl) D2) (.refl _)
noncomputable def A0d (p1:Int)(p2:Int)(p3:Int)(p4:Int)(p5:Int):Option Bool:=
  ((cond (decide (p1>p2)) (A5q p3 p4) (some default))).bind fun v1=>((cond ((decide (p1>p2))&& (decide ((w64 (p2+v1))<p1))) (A5q p5 p4) (some default))).bind fun v2=>some (((decide (p1>p2))&& (decide ((w64 (p2+v1))<p1)))&& (decide ((w64 ((w64 (p2+p5))+v2))≥p1)))
theorem A5r (p1:Int)(p2:Int)(p3:Int)(p4:Int)(p5:Int)(r:Bool)(h:A0d p1 p2 p3 p4 p5=some r):PCall Tryz.prog 225 [(i64 p1),(.bp [(i64 p2)] 0),(.bp [(i64 p3)] 0),(.bp [(i64 p4)] 0),(.bp [(i64 p5)] 0)] (bo r):=by
 refine B8 (fk Tryz.func225 Tryz.ntmps225 m0 (by with_unfolding_all rfl)) (nl rfl) ?_
 unfold A0d at h
 refine B4 (s0:=⟨T [(0,(.d _)),(1,(.d _)),(2,(.d _)),(3,(.d _)),(4,(.d _))],G []⟩) (sbr rfl rfl) ?_
 refine lr (fun u1 hu1=>sv rfl (A1 (A6 (G5 rfl fun u2 hu2=>sv rfl (sv rfl (sv rfl (sv rfl (gt rfl (fun _=>rfl) (gt rfl (fun _=>rfl) (gt rfl (fun _=>rfl) (bs h fun v1 hv1 h=> ?_)))))))))))
 refine N6 _ (i64 v1) (Q2 rfl) (fun w4=>⟨_,[(di p3),(di p4)],_,_,(by simp only [A5 w4];rfl),rfl,A2,A6m _ _ _ (C8 w4 hv1),(.inl rfl)⟩) ?_
 refine gt rfl (fun w5=>(Y6 (A5 w5) (A5 w5) rfl)) (gt rfl (fun _=>rfl) (gt rfl (fun w7=>(Y6 (A5 w7) (A5 w7) rfl)) (sa rfl rfl rfl (sv rfl (gt rfl (fun _=>rfl) (gt rfl (fun _=>rfl) (gt rfl (fun w10=>(Y6 (A5 w10) (A5 w10) rfl)) (gt rfl (fun _=>rfl) (gt rfl (fun _=>rfl) (bs h fun v2 hv2 h=> ?_))))))))))
 refine N6 _ (i64 v2) (Q2 rfl) (fun w13=>⟨_,[(di p5),(di p4)],_,_,(by simp only [A5 w13];rfl),rfl,A2,A6m _ _ _ (C8 w13 hv2),(.inl rfl)⟩) ?_
 refine gt rfl (fun w14=>(Y6 (A5 w14) (A5 w14) rfl)) (gt rfl (fun _=>rfl) (gt rfl (fun w16=>(Y6 (A5 w16) (A5 w16) rfl)) (sa rfl rfl rfl (sv rfl (A1 (B3 ?_))))))
 cases h
 exact A7 (.inr rfl) (B7 (B6 rfl) D2) (.refl _)
noncomputable def G3 (p1:(List Int))(p2:Int)(p3:Int)(p4:Int)(p5:Int)(x1:Int):Option (Stp Int (Sum Unit Int)):=
  cond (decide (x1< (p1.length:Int))) ((D1 p1 x1).bind fun v1=>(A0d v1 p2 p3 p4 p5).bind fun v2=>cond v2 (some (.out (.inr x1))) (some (.go (w64 (x1+1))))) (some (.out (.inl ())))
noncomputable def H7 (p1:(List Int))(p2:Int)(p3:Int)(p4:Int)(p5:Int):Option Int:=
  thenS (loop (G3 p1 p2 p3 p4 p5) 0) (fun _=>some (-1)) (fun r=>some r)
theorem R9 (p1:(List Int))(p2:Int)(p3:Int)(p4:Int)(p5:Int)(r:Int)(h:H7 p1 p2 p3 p4 p5=some r):PCall Tryz.prog 254 [(.list (List.map A4 p1)),(.fn (.func 225) [] [(.bp [(i64 p2)] 0),(.bp [(i64 p3)] 0),(.bp [(i64 p4)] 0),(.bp [(i64 p5)] 0)])] (i64 r):=by
 refine B8 (fk Tryz.func254 Tryz.ntmps254 m0 (by with_unfolding_all rfl)) (nl rfl) ?_
 unfold H7 at h
 refine B4 (s0:=⟨T [(0,(.d _)),(1,(.d _))],G []⟩) (sbr rfl rfl) ?_
 refine lr (fun u1 hu1=>sv rfl (A1 (A6 (lr (fun u2 hu2=>sv rfl (sd rfl (F7 rfl) (sv rfl (A1 (js h fun z1 hz1 h=>D5 (fun s=> ∃(y1:Unit) (g1:Unit),z1= .inl y1∧Sb ⟨T [],G []⟩ s) ?_ ?_)))))))))
 refine A8 (D9 (G3 p1 p2 p3 p4 p5) (fun (x1:Int) (g2:Unit)=>⟨T [(0,(dl A4 p1)),(1,(.d (.fn (.func 225) [] [(.bp [(i64 p2)] 0),(.bp [(i64 p3)] 0),(.bp [(i64 p4)] 0),(.bp [(i64 p5)] 0)]))),(7,(di (p1.length:Int))),(8,(di x1))],G []⟩) 0 () _ hz1 (sbr rfl rfl) ?_)
 intro x1 g2 z2 hz2 ez2
 unfold G3 at hz2
 refine lr (fun u3 hu3=>sv rfl (A1 (A6 (cc rfl hz2 (fun c1 hz2=> ?_) (fun c1 hz2=> ?_)))))
 refine B0 (A6 (A8 (lr (fun u4 hu4=>sv rfl (sv rfl (A1 (lr (fun u5 hu5=>sv rfl (sv rfl (sv rfl (bs hz2 fun v1 hv1 hz2=>sd rfl (E4 rfl rfl hv1 rfl) (sd rfl (F9 rfl hv1 rfl) (bs hz2 fun v2 hv2 hz2=>B1 rfl rfl A2 (A5r _ _ _ _ _ _ hv2) (.inl rfl) (A1 (cc rfl hz2 (fun c2 hz2=> ?_) (fun c2 hz2=> ?_))))))))))))))))
 refine lr (fun u6 hu6=>sv rfl (sv rfl (A1 (B3 ?_))))
 cases hz2
 obtain rfl:=ez2 _ rfl
 refine ⟨nofun,D3 ?_⟩
 rw [Sum.elim_inr]at h
 cases h
 exact A7 (.inr rfl) (B7 (B6 rfl) D2) (.refl _)
 refine B0 (F6 (D0 fun u7 hu7=>sv rfl (sv rfl (A1 (E3 ?_)))))
 cases hz2
 exact ⟨rfl,(),(sbr rfl rfl)⟩
 refine C6 rfl ?_
 cases hz2
 obtain rfl:=ez2 _ rfl
 refine ⟨nofun,C2 rfl (l_j ?_)⟩
 exact ⟨_,(),rfl,(sbr rfl rfl)⟩
 rintro _ ⟨y1,g1,rfl,q1⟩
 rw [Sum.elim_inl]at h
 refine B4 q1 (lr (fun u8 hu8=>sv rfl (A1 (B3 ?_))))
 cases h
 exact A7 (.inr rfl) (B7 (B6 rfl) D2) (.refl _)
noncomputable def G4 (p1:(List Int))(p2:Int)(p3:Int)(p4:Int)(p5:Int):Option Bool:=
  (H7 p1 p2 p3 p4 p5).bind fun v1=>some (decide (v1≥0))
theorem P8 (p1:(List Int))(p2:Int)(p3:Int)(p4:Int)(p5:Int)(r:Bool)(h:G4 p1 p2 p3 p4 p5=some r):PCall Tryz.prog 224 [(.list (List.map A4 p1)),(.fn (.func 225) [] [(.bp [(i64 p2)] 0),(.bp [(i64 p3)] 0),(.bp [(i64 p4)] 0),(.bp [(i64 p5)] 0)])] (bo r):=by
 refine B8 (fk Tryz.func224 Tryz.ntmps224 m0 (by with_unfolding_all rfl)) (nl rfl) ?_
 unfold G4 at h
 refine B4 (s0:=⟨T [(0,(.d _)),(1,(.d _))],G []⟩) (sbr rfl rfl) ?_
 refine lr (fun u1 hu1=>sv rfl (A1 (lr (fun u2 hu2=>sv rfl (sv rfl (bs h fun v1 hv1 h=>B1 rfl rfl A2 (R9 _ _ _ _ _ _ hv1) (.inl rfl) (sv rfl (sv rfl (A1 (B3 ?_))))))))))
 cases h
 exact A7 (.inr rfl) (B7 (B6 rfl) D2) (.refl _)
noncomputable def A9u (p1:(List Int))(p2:Int)(p3:Int)(p4:Int)(p5:Int):Option Bool:=
  (G4 p1 p2 p3 p5 p4).bind fun v1=>some (!v1)
theorem B55 (p1:(List Int))(p2:Int)(p3:Int)(p4:Int)(p5:Int)(r:Bool)(h:A9u p1 p2 p3 p4 p5=some r):PCall Tryz.prog 181 [(.list (List.map A4 p1)),(i64 p2),(i64 p3),(i64 p4),(i64 p5)] (bo r):=by
 refine B8 (fk Tryz.func181 Tryz.ntmps181 m0 (by with_unfolding_all rfl)) (nl rfl) ?_
 unfold A9u at h
 refine B4 (s0:=⟨T [(0,(.d _)),(1,(.d _)),(2,(.d _)),(3,(.d _)),(4,(.d _))],G []⟩) (sbr rfl rfl) ?_
 refine lr (fun u1 hu1=>sn rfl rfl (sn rfl rfl (sn rfl rfl (sn rfl rfl (sv rfl (A1 (lr (fun u2 hu2=>sv rfl (C4 (.fn _ _ _) rfl rfl (bs h fun v1 hv1 h=>B1 rfl (rD (B9 (B4x C5 (B9 (V1 (gq rfl) (rD C5)) (B9 (V1 (gq rfl) (rD C5)) (B9 (V1 G_hit (rD C5)) (B9 (V1 (gq rfl) (rD C5)) C5))))) C5)) A2 (P8 _ _ _ _ _ _ hv1) (.inr rfl) (C4 (.d (bo (!v1))) rfl rfl (sv rfl (A1 (B3 ?_))))))))))))))
 cases h
 exact A7 (.inr rfl) (B7 (B6 rfl) D2) (.refl _)
noncomputable def A6n (p2:Agent)(v1:(Int×Int))(v3:(Int×Int×Int))(v5:(List Int))(x1:Int):Option (Stp Int Int):=
  ((cond (decide (x1>(w64 (0 - v3.2.2)))) (A18 x1 p2 v3.1) (some default))).bind fun v6=>((cond (decide (x1>(w64 (0 - v3.2.2)))) (A9u v5 v1.2 p2.V v6 v3.2.2) (some default))).bind fun v7=>cond ((decide (x1>(w64 (0 - v3.2.2))))&& (!v7)) (some (.go (w64 (x1 - 1)))) (some (.out x1))
noncomputable def B1l (p1:Map)(p2:Agent)(p3:Int)(p4:Int):Option Agent:=
  (A8h p1 p2).bind fun v1=>(D1 p1.Lanes v1.1).bind fun v2=>(A1p v2.Kind).bind fun v3=>((cond p2.Obey (A2x p1 v1.1) (some default))).bind fun v4=>(cond (p2.Obey&& (decide (v1.2≤v4))) ((B44 p1 v1.1 p3).bind fun v5=>(loop (A6n p2 v1 v3 v5) (mm2 true (w64 (0 - v3.2.2)) (mm2 false p4 v3.2.1))).bind fun y2=>some y2) (some (mm2 true (w64 (0 - v3.2.2)) (mm2 false p4 v3.2.1)))).bind fun y1=>(A18 y1 p2 v3.1).bind fun v8=>(A8i p1 (Agent.mk p2.Route (w64 (p2.S+v8)) v8 p2.Len p2.Begin p2.Obey p2.Gone)).bind fun v9=>some (Agent.mk p2.Route (w64 (p2.S+v8)) v8 p2.Len p2.Begin p2.Obey v9)
theorem B70 (p1:Map)(p2:Agent)(p3:Int)(p4:Int)(r:Agent)(h:B1l p1 p2 p3 p4=some r):PCall Tryz.prog 88 [(.agg (A2o p1)),(.agg (C0 p2)),(i64 p3),(i64 p4)] (.agg (C0 r)):=by
 refine B8 (fk Tryz.func88 Tryz.ntmps88 m0 (by with_unfolding_all rfl)) (nl rfl) ?_
 unfold B1l at h
 refine B4 (s0:=⟨T [(0,(.d _)),(1,(.d _)),(2,(.d _)),(3,(.d _))],G []⟩) (sbr rfl rfl) ?_
 refine lr (fun u1 hu1=>sn rfl rfl (sn rfl rfl (sn rfl rfl (A1 (lr (fun u2 hu2=>sd rfl (B2 rfl (gq rfl) rfl rfl) (sd rfl (B2 rfl (gq rfl) rfl rfl) (bs h fun v1 hv1 h=>B1 rfl rfl A2 (B0p _ _ _ hv1) (.inl rfl) (sv rfl (sv rfl (sv rfl (sv rfl (sv rfl (A1 (lr (fun u3 hu3=>sp rfl rfl (sl rfl (gq rfl) rfl (sv rfl (bs h fun v2 hv2 h=>sd rfl (E4 rfl rfl hv2 rfl) (sv rfl (sd rfl (F9 rfl hv2 rfl) (bs h fun v3 hv3 h=>B1 rfl rfl A2 (A21 _ _ hv3) (.inl rfl) (sv rfl (sv rfl (sv rfl (sv rfl (sn rfl rfl (sst rfl G_hit [(di v3.1)] rfl (sv rfl (sv rfl (A1 (lr (fun u4 hu4=>C4 (.fn _ _ _) rfl rfl (C4 (.fn _ _ _) rfl rfl (A1 (lr (fun u5 hu5=>sv rfl (C4 (di (w64 (0 - v3.2.2))) rfl rfl (sv rfl (sv rfl (sv rfl (sv rfl (sv rfl (A1 (A6 (lr (fun u6 hu6=>sp rfl rfl (sl rfl (gq rfl) rfl (sv rfl (gt rfl (fun _=>rfl) ?_))))))))))))))))))))))))))))))))))))))))))))))))))
 refine gt rfl (fun w2=>(B2 rfl (gq rfl) rfl rfl)) (gt rfl (fun _=>rfl) (bs h fun v4 hv4 h=> ?_))
 refine N6 p2.Obey (i64 v4) (Q2 rfl) (fun w4=>⟨_,[(.d (.agg (A2o p1))),(di v1.1)],_,_,(by simp only [A5 w4];rfl),rfl,A2,A4c _ _ _ (C8 w4 hv4),(.inl rfl)⟩) ?_
 refine gt rfl (fun w5=>(Y6 (A5 w5) (A5 w5) rfl)) (sa rfl rfl rfl (A1 (bs h fun y1 hy1 h=>D5 (fun s=> ∃g1:Unit,Sb ⟨T [(3,(di y1)),(4,(.ptr (4,u1) 0)),(5,(.ptr (5,u1) 0)),(8,(.ptr (8,u1) 0)),(14,(.fn (.func 179) [] [(.ptr (5,u1) 0),(.ptr (11,u3) 0)]))],G [((4,u1),some (.box 33 (W6 p1))),((5,u1),some (.box 45 (S7 p2))),((8,u1),some (.box 45 ([(.d .nilS)]++ (zs 4)++ [(.d (bo false)),(.d (bo false))]))),((11,u3),some (.box 2 [(di v3.1)]))]⟩ s) ?_ ?_)))
 refine cc rfl hy1 (fun c1 hy1=> ?_) (fun c1 hy1=> ?_)
 refine lr (fun u7 hu7=>sd rfl (B2 rfl (gq rfl) rfl rfl) (sv rfl (sv rfl (bs hy1 fun v5 hv5 hy1=>B1 rfl rfl A2 (B8m _ _ _ _ hv5) (.inl rfl) (sv rfl (A1 (bs hy1 fun y2 hy2 hy1=>D5 (fun s=> ∃g2:Unit,Sb ⟨T [(3,(di y2)),(4,(.ptr (4,u1) 0)),(5,(.ptr (5,u1) 0)),(8,(.ptr (8,u1) 0)),(14,(.fn (.func 179) [] [(.ptr (5,u1) 0),(.ptr (11,u3) 0)]))],G [((4,u1),some (.box 33 (W6 p1))),((5,u1),some (.box 45 (S7 p2))),((8,u1),some (.box 45 ([(.d .nilS)]++ (zs 4)++ [(.d (bo false)),(.d (bo false))]))),((11,u3),some (.box 2 [(di v3.1)]))]⟩ s) ?_ ?_)))))))
 refine A8 (D9 (A6n p2 v1 v3 v5) (fun (x1:Int) (g3:Unit)=>⟨T [(3,(di x1)),(4,(.ptr (4,u1) 0)),(5,(.ptr (5,u1) 0)),(8,(.ptr (8,u1) 0)),(10,(di v1.2)),(13,(di v3.2.2)),(14,(.fn (.func 179) [] [(.ptr (5,u1) 0),(.ptr (11,u3) 0)])),(15,(dl A4 v5))],G [((4,u1),some (.box 33 (W6 p1))),((5,u1),some (.box 45 (S7 p2))),((8,u1),some (.box 45 ([(.d .nilS)]++ (zs 4)++ [(.d (bo false)),(.d (bo false))]))),((11,u3),some (.box 2 [(di v3.1)]))]⟩) (mm2 true (w64 (0 - v3.2.2)) (mm2 false p4 v3.2.1)) () _ hy2 (sbr rfl rfl) ?_)
 intro x1 g3 z1 hz1 ez1
 unfold A6n at hz1
 refine A6 (A6 (G5 rfl fun u8 hu8=>sv rfl (sv rfl (C4 (di (w64 (0 - v3.2.2))) rfl rfl (sv rfl (sv rfl (gt rfl (fun _=>rfl) (gt rfl (fun _=>rfl) (gp rfl (Q2 rfl) (fun _=>rfl) (gt rfl (vl rfl (gq rfl) rfl) (Q9 _ (.fn _ _ _) rfl (Q2 rfl) (fun _=>rfl) (gt rfl (fun _=>rfl) (bs hz1 fun v6 hv6 hz1=> ?_)))))))))))))
 refine N6 _ (i64 v6) (Q2 rfl) (fun w12=>⟨_,[(di x1),(.ptr (5,u1) 0),(.ptr (11,u3) 0)],_,_,(by simp only [A5 w12];rfl),(rD (B9 (V1 (gq rfl) (rD (rD (rD (rD (rD (rD (rD C5)))))))) (B9 (V1 (gq rfl) (rD C5)) C5))),A2,A4f _ _ _ _ (C8 w12 hv6),(.inr rfl)⟩) ?_
 refine gt rfl (fun _=>rfl) (bs hz1 fun v7 hv7 hz1=> ?_)
 refine N6 _ (bo v7) (Q2 rfl) (fun w14=>⟨_,[(dl A4 v5),(di v1.2),(di p2.V),(di v6),(di v3.2.2)],_,_,(by simp only [A5 w14];rfl),rfl,A2,B55 _ _ _ _ _ _ (C8 w14 hv7),(.inl rfl)⟩) ?_
 refine Q9 _ (.d (bo (!v7))) rfl (Q2 rfl) (fun w15=>(by simp only [A5 w15];rfl)) ?_
 refine sa rfl rfl rfl (A1 (cc rfl hz1 (fun c2 hz1=> ?_) (fun c2 hz1=> ?_)))
 refine B0 (A8 (D0 fun u9 hu9=>sv rfl (sv rfl (sv rfl (A1 (F6 (E3 ?_)))))))
 cases hz1
 exact ⟨rfl,(),(sbr rfl rfl)⟩
 refine C6 rfl ?_
 cases hz1
 obtain rfl:=ez1 _ rfl
 refine ⟨nofun,C2 rfl (l_j ?_)⟩
 exact ⟨(),(sbr rfl rfl)⟩
 rintro _ ⟨g2,q1⟩
 obtain rfl:=(Option.some.inj hy1)
 exact l_j ⟨(),(Sb.after q1 (sbr rfl rfl))⟩
 refine B0 ?_
 cases hy1
 exact l_j ⟨(),(sbr rfl rfl)⟩
 rintro _ ⟨g1,q2⟩
 refine B4 q2 (lr (fun u10 hu10=>C4 (.fn _ _ _) rfl rfl (sv rfl (bs h fun v8 hv8 h=>B1 rfl (rD (B9 (V1 (gq rfl) (rD (rD (rD (rD (rD (rD (rD C5)))))))) (B9 (V1 (gq rfl) (rD C5)) C5))) A2 (A4f _ _ _ _ hv8) (.inr rfl) (sp rfl rfl (sst rfl (gq rfl) ((S7 p2).set 2 (di v8)) rfl (A1 (lr (fun u11 hu11=>sp rfl rfl (sl rfl G_hit rfl (sp rfl rfl (sl rfl G_hit rfl (sv rfl (sp rfl rfl (sst rfl G_hit (((S7 p2).set 1 (di (w64 (p2.S+v8)))).set 2 (di v8)) rfl (A1 (lr (fun u12 hu12=>sd rfl (B2 rfl (gq rfl) rfl rfl) (sd rfl (B2 rfl G_hit rfl rfl) (bs h fun v9 hv9 h=>B1 rfl rfl A2 (B0q _ _ _ hv9) (.inl rfl) (sp rfl rfl (sst rfl G_hit ((((S7 p2).set 1 (di (w64 (p2.S+v8)))).set 2 (di v8)).set 6 (.d (bo v9))) rfl (A1 (lr (fun u13 hu13=>sd rfl (B2 rfl G_hit rfl rfl) (sst rfl (gq rfl) ((((S7 p2).set 1 (di (w64 (p2.S+v8)))).set 2 (di v8)).set 6 (.d (bo v9))) rfl (A1 (B3 ?_))))))))))))))))))))))))))))
 cases h
 exact A7 (.inr rfl) (B7 (D4 rfl G_hit (nl rfl) rfl) D2) (.refl _)
noncomputable def B1m (p1:Map)(p2:State)(p3:Int)(p4:Int):Option Agent:=
  cond ((decide (p3<0))||(decide (p3≥(p2.Agents.length:Int)))) (some (Agent.mk [] 0 0 0 0 false false)) ((D1 p2.Agents p3).bind fun v1=>(A11 v1).bind fun v2=>(A2j p2 p3).bind fun v3=>((cond (!(!v3)) (A47 p1 p2) (some default))).bind fun v4=>cond ((!v3)||(v4 !=0)) (some v2) ((B1l p1 v2 p2.Tick p4).bind fun v5=>some v5))
theorem B71 (p1:Map)(p2:State)(p3:Int)(p4:Int)(r:Agent)(h:B1m p1 p2 p3 p4=some r):PCall Tryz.prog 29 [(.agg (A2o p1)),(.agg (V2 p2)),(i64 p3),(i64 p4)] (.agg (C0 r)):=by
 refine B8 (fk Tryz.func29 Tryz.ntmps29 m0 (by with_unfolding_all rfl)) (nl rfl) ?_
 unfold B1m at h
 refine B4 (s0:=⟨T [(0,(.d _)),(1,(.d _)),(2,(.d _)),(3,(.d _))],G []⟩) (sbr rfl rfl) ?_
 refine lr (fun u1 hu1=>sn rfl rfl (sn rfl rfl (sn rfl rfl (A1 (A6 (lr (fun u2 hu2=>sv rfl (sv rfl (sv rfl (gf rfl (fun _=>rfl) (gp rfl (A0i rfl) (fun _=>rfl) (gf rfl (vl rfl (gq rfl) rfl) (gf rfl (fun w4=>(F7 (A5 w4))) (gf rfl (fun w5=>(Y6 (A5 w5) (A5 w5) rfl)) (sd rfl (A32 rfl rfl (fun hc=>A5 (O3 hc))) (A1 (cc rfl h (fun c1 h=> ?_) (fun c1 h=> ?_))))))))))))))))))
 refine lr (fun u3 hu3=>sv rfl (sst rfl G_hit ([(.d .nilS)]++ (zs 4)++ [(.d (bo false)),(.d (bo false))]) rfl (A1 (B3 ?_))))
 cases h
 exact A7 (.inr rfl) (B7 (D4 rfl G_hit (nl rfl) rfl) D2) (.agg (.cons ⟨DLe.nil,rfl⟩ (cz rfl)))
 refine B0 (lr (fun u4 hu4=>sp rfl rfl (sl rfl (gq rfl) rfl (sv rfl (bs h fun v1 hv1 h=>sd rfl (E4 rfl rfl hv1 rfl) (sd rfl (C9 rfl hv1 rfl rfl) (bs h fun v2 hv2 h=>B1 rfl rfl A2 (A2f _ _ hv2) (.inl rfl) (sn rfl rfl (sst rfl G_hit (S7 v2) rfl (A1 (A6 (lr (fun u5 hu5=>sd rfl (B2 rfl (gq rfl) rfl rfl) (sv rfl (bs h fun v3 hv3 h=>B1 rfl rfl A2 (A2p _ _ _ hv3) (.inl rfl) (C4 (.d (bo (!v3))) rfl rfl (sv rfl (gf rfl (fun w6=>(B2 rfl (gq rfl) rfl rfl)) (gf rfl (fun w7=>(B2 rfl (gq rfl) rfl rfl)) (bs h fun v4 hv4 h=> ?_))))))))))))))))))))
 refine N6 _ (i64 v4) (A0i rfl) (fun w8=>⟨_,[(.d (.agg (A2o p1))),(.d (.agg (V2 p2)))],_,_,(by simp only [A5 w8];rfl),rfl,A2,A52 _ _ _ (C8 w8 hv4),(.inl rfl)⟩) ?_
 refine gf rfl (vb rfl rfl rfl) (sd rfl (A32 rfl rfl (fun hc=>A5 (O3 hc))) (A1 (cc rfl h (fun c2 h=> ?_) (fun c2 h=> ?_))))
 refine lr (fun u6 hu6=>sd rfl (B2 rfl G_hit rfl rfl) (sst rfl (gq rfl) (S7 v2) rfl (A1 (B3 ?_))))
 cases h
 exact A7 (.inr rfl) (B7 (D4 rfl G_hit (nl rfl) rfl) D2) (.refl _)
 refine B0 (lr (fun u7 hu7=>sd rfl (B2 rfl (gq rfl) rfl rfl) (sd rfl (B2 rfl G_hit rfl rfl) (sp rfl rfl (sl rfl (gq rfl) rfl (sv rfl (bs h fun v5 hv5 h=>B1 rfl rfl A2 (B70 _ _ _ _ _ hv5) (.inl rfl) (sst rfl (gq rfl) (S7 v5) rfl (A1 (B3 ?_))))))))))
 cases h
 exact A7 (.inr rfl) (B7 (D4 rfl G_hit (nl rfl) rfl) D2) (.refl _)
theorem A4n (p1:List Stay)(r:List Stay)(h:Q7 p1=some r):MCall Tryz.prog 121 [.d (.list (List.map F3 p1))] [] (oE r (800000,0)) [] [oB 127 4 F3 r]:=by
  cases p1 with
  |nil=>
   have hr:r= []:=by obtain ⟨_,rfl⟩:=A3q h;rfl
   subst hr
   exact MCall.ofP (A0z [] [] h)
  |cons x xs=>
  have hr:A60 ([]:List Stay) (x::xs)=some r:=h
  have e:=(A3q hr).2
  rw [List.nil_append]at e
  rw [C9u (A0r hr),C8w (A0r hr)]
  refine C3o (fk Tryz.func121 Tryz.ntmps121 m0 (by with_unfolding_all rfl)) rfl (Nat.le_of_ble_eq_true rfl) ?_
  refine (B4 (s0:=⟨T [(0, .d (.list (List.map F3 (x::xs))))],G []⟩) (E0 ⟨.of rfl,trivial⟩ trivial) ?_)
  refine A6 ?_
  refine D0 fun u1 hu1=> ?_
  refine C4 (.d .nilS) rfl rfl ?_
  refine A1 ?_
  refine A6 ?_
  refine A6 ?_
  refine D0 fun u2 hu2=> ?_
  refine C4 (.d (.list (List.map F3 (x::xs)))) rfl rfl ?_
  refine C4 (.d (bo false)) rfl rfl ?_
  refine A1 ?_
  refine A7g rfl ?_
  refine B0 ?_
  refine A6 ?_
  refine D0 fun u3 hu3=> ?_
  refine C5h (.sl _) (.arr 127 4 (List.map F3 ([]:List Stay))) rfl rfl ?_
  refine C4 (.d (.list (List.map F3 (x::xs)))) rfl rfl ?_
  refine B2y F3 _ [] (x::xs) _ (M6 (fun _=>rfl)) rfl G_hit hr ?_
  refine C4 (.sl _) rfl rfl ?_
  refine A1 ?_
  refine B3 ?_
  exact C95 (v1:= .sl (7,u3)) (.inr rfl) (C5q (B6 rfl)) (.of rfl) [((7,u3),some (.arr 127 4 (List.map F3 r)))] (A9 G_hit (.of rfl) trivial) (C5p [(7,u3)] rfl trivial ⟨G_hit,trivial⟩ rfl (by simp only [List.mem_cons,List.not_mem_nil,or_false,forall_eq];exact fun i=>C6h rfl i) nd1)
noncomputable def A37 (p1:State)(x1:(Int×State)):Option (Stp (Int×State) State):=
  cond (decide (x1.1< (p1.Agents.length:Int))) ((D1 p1.Agents x1.1).bind fun v2=>(A11 v2).bind fun v3=>(A60 x1.2.Agents [v3]).bind fun v4=>some (.go ((w64 (x1.1+1)),(State.mk x1.2.Tick v4 x1.2.In)))) (some (.out x1.2))
noncomputable def A6o (p1:State):Option State:=
  (Q7 p1.In).bind fun v1=>(loop (A37 p1) (0,(State.mk p1.Tick [] v1))).bind fun y1=>some y1
theorem B28 (p1:State)(r:State)(h:A6o p1=some r):MCall Tryz.prog 56 [(.d (.agg (V2 p1)))] [] (A07 [(di r.Tick),(oS r.Agents (800000,0)),(oE r.In (800001,0))]) [] [oB 45 7 C0 r.Agents,oB 127 4 F3 r.In]:=by
 refine C3o (fk Tryz.func56 Tryz.ntmps56 (fun r=>if r==1 then [1001004]else if r==5 then [1004]else []) (by with_unfolding_all rfl)) (by generalize r.Agents=x1;generalize r.In=x2;cases x1<;>cases x2<;>rfl) (nl rfl) ?_
 unfold A6o at h
 refine B4 (s0:=⟨T [(0,(.d _))],G []⟩) (sbr rfl rfl) ?_
 refine lr (fun u1 hu1=>sn rfl rfl (sn rfl rfl (A1 (A6 (B6q fun u2 hu2=>A1e (.ptr _ _) rfl rfl (A1e (.d _) rfl (N8 rfl (gq rfl) rfl) (A1e (.ptr _ _) rfl rfl (A1e (.d _) rfl (N8 rfl (gq rfl) rfl) (bs h fun v1 hv1 h=> ?_)))))))))
 refine t_oc (v:=oE v1 (10010040,u2)) (us:= [(10010040,u2)]) (C99 (A4n _ _ hv1) [] [] _ (((10010040,u2),oB 127 4 F3 v1)::_) rfl A3r rfl A1z trivial (fun _ h=>h) List.nodup_nil (by generalize v1=x1;cases x1<;>rfl) rfl (C3q (rfl)) rfl) ?_
 refine A1e (A07 [(di p1.Tick),(.d .nilS),(oE v1 (10010040,u2))]) rfl (by generalize v1=x1;cases x1<;>rfl) ?_
 refine C90 (.ptr _ _) (.box _ _) rfl rfl (B9k _ _ _ _ _ (X3 _) rfl rfl G_hit (nl rfl) [(di p1.Tick),(.d .nilS),(oE v1 (10010040,u2))] rfl (C5k ⟨rfl,?_⟩))
 refine A6 (lr (fun u3 hu3=>sp rfl rfl (sl rfl (gq rfl) rfl (sd rfl (F7 rfl) (sv rfl (A1 (bs h fun y1 hy1 h=>D5 (fun s=> ∃g1:(Nat×Nat),Sb ⟨T [(2,(.ptr (2,u1) 0)),(3,(.ptr (3,u2) 0))],G [((2,u1),some (.box 25 [(di 0),(.d .nilS),(.d .nilS)])),((3,u2),some (.box 25 [(di y1.Tick),(oS y1.Agents (24,g1.1)),(oE y1.In (10010040,g1.2))])),((24,g1.1),oB 45 7 C0 y1.Agents),((10010040,g1.2),oB 127 4 F3 y1.In)]⟩ s) ?_ ?_)))))))
 refine A8 (D9 (A37 p1) (fun (x1:(Int×State)) (g2:(Nat×Nat))=>⟨T [(2,(.ptr (2,u1) 0)),(3,(.ptr (3,u2) 0)),(13,(dl C0 p1.Agents)),(14,(di (p1.Agents.length:Int))),(15,(di x1.1))],G [((2,u1),some (.box 25 [(di 0),(.d .nilS),(.d .nilS)])),((3,u2),some (.box 25 [(di x1.2.Tick),(oS x1.2.Agents (24,g2.1)),(oE x1.2.In (10010040,g2.2))])),((24,g2.1),oB 45 7 C0 x1.2.Agents),((10010040,g2.2),oB 127 4 F3 x1.2.In)]⟩) (0,(State.mk p1.Tick [] v1)) (0,u2) _ hy1 (E0 ⟨.of rfl, .of rfl, .of rfl, .of rfl, .of rfl,trivial⟩ (sg rfl (A9 G_hit (.of rfl) (A2e (B5 (gq rfl) trivial))))) ?_)
 intro x1 g2 z1 hz1 ez1
 unfold A37 at hz1
 refine lr (fun u4 hu4=>sv rfl (A1 (A6 (cc rfl hz1 (fun c1 hz1=> ?_) (fun c1 hz1=> ?_)))))
 refine B0 (A6 (A8 (lr (fun u5 hu5=>bs hz1 fun v2 hv2 hz1=>sd rfl (E4 rfl rfl hv2 rfl) (sd rfl (C9 rfl hv2 rfl rfl) (sn rfl rfl (sst rfl G_hit (S7 v2) rfl (A1 (G5 rfl fun u6 hu6=>sp rfl rfl (C4 (oS x1.2.Agents (24,g2.1)) rfl (N8 rfl (gq rfl) rfl) (sd rfl (B2 rfl G_hit rfl rfl) (bs hz1 fun v3 hv3 hz1=>B1 rfl rfl A2 (A2f _ _ hv3) (.inl rfl) (C4 (dl C0 [v3]) rfl rfl (bs hz1 fun v4 hv4 hz1=>S5 C0 (24,g2.1) x1.2.Agents v3 [] _ (M6 (fun _=>rfl)) rfl (gq rfl) hv4 (sp rfl rfl (sst rfl (gq rfl) [(di x1.2.Tick),(.sl (24,u6)),(oE x1.2.In (10010040,g2.2))] rfl (A1 (F6 (D0 fun u7 hu7=>sv rfl (sv rfl (A1 (E3 ?_))))))))))))))))))))))
 cases hz1
 exact ⟨rfl,(u6,g2.2),(E0 ⟨.of rfl, .of rfl, .of rfl, .of rfl, .of rfl,trivial⟩ (sg rfl (A9 G_hit (.box (cv (.cons (.of (A65 (A0r hv4)).symm) cw))) (A1d (gq rfl) (B5 (gq rfl) trivial)))))⟩
 refine C6 rfl ?_
 cases hz1
 obtain rfl:=ez1 _ rfl
 refine ⟨nofun,C2 rfl (l_j ?_)⟩
 exact ⟨(g2.1,g2.2),(E0 ⟨.of rfl, .of rfl,trivial⟩ (A9 G_hit (.of rfl) (sg rfl (B5 (gq rfl) (B5 (gq rfl) trivial)))))⟩
 rintro _ ⟨g1,q1⟩
 refine B4 q1 (lr (fun u8 hu8=>C4 (A07 [(di y1.Tick),(oS y1.Agents (24,g1.1)),(oE y1.In (10010040,g1.2))]) rfl (B2 rfl (gq rfl) rfl rfl) (A7h _ _ _ _ _ (X3 _) rfl rfl G_hit (nl rfl) [(di y1.Tick),(oS y1.Agents (24,g1.1)),(oE y1.In (10010040,g1.2))] rfl (A1 (B3 ?_)))))
 obtain rfl:=(Option.some.inj h)
 exact C95 (v1:=(A07 [(di y1.Tick),(oS y1.Agents (24,g1.1)),(oE y1.In (10010040,g1.2))])) (.inr rfl) (C5q (D4 rfl G_hit (Nat.le_of_ble_eq_true rfl) rfl)) (.of rfl) [((24,g1.1),oB 45 7 C0 y1.Agents),((10010040,g1.2),oB 127 4 F3 y1.In)] (B5 (gq rfl) (B5 (gq rfl) trivial)) (C7v [(24,g1.1),(10010040,g1.2)] (by generalize y1.Agents=x1;generalize y1.In=x2;cases x1<;>cases x2<;>rfl) trivial ⟨(G_hit).trans oB_ren.symm,((gq rfl)).trans oB_ren.symm,trivial⟩ rfl (List.forall_mem_cons.2 ⟨fun i hi=>C3r rfl hi,(List.forall_mem_cons.2 ⟨fun i hi=>C3r rfl hi,(fun _ h=>nomatch h)⟩)⟩) (nd2 (C98 rfl)))
noncomputable def Y3 (p1:WorldScene)(p2:Int)(p3:Int):Option (Int×Bool):=
  (D1 p1.before.Agents p2).bind fun v1=>(U7 v1.Route p3).bind fun v2=>cond (decide (v2<0)) (some (0,false)) ((A2w p1.m v1.Route).bind fun v3=>(D1 v3 v2).bind fun v4=>some (v4,true))
theorem A2d (p1:WorldScene)(p2:Int)(p3:Int)(r:(Int×Bool))(h:Y3 p1 p2 p3=some r):PCall Tryz.prog 227 [(.bp (A3t p1) 0),(i64 p2),(i64 p3)] (.tup [(i64 r.1),(bo r.2)]):=by
 refine B8 (fk Tryz.func227 Tryz.ntmps227 m0 (by with_unfolding_all rfl)) (nl rfl) ?_
 unfold Y3 at h
 refine B4 (s0:=⟨T [(0,(.d _)),(1,(.d _)),(2,(.d _))],G []⟩) (sbr rfl rfl) ?_
 refine lr (fun u1 hu1=>sv rfl (sv rfl (A1 (lr (fun u2 hu2=>sv rfl (sv rfl (sv rfl (sv rfl (sv rfl (sv rfl (bs h fun v1 hv1 h=>sd rfl (E4 rfl rfl hv1 rfl) (sv rfl (sd rfl (F9 rfl hv1 rfl) (sv rfl (A1 (lr (fun u3 hu3=>sv rfl (sv rfl (bs h fun v2 hv2 h=>B1 rfl rfl A2 (A23 _ _ _ hv2) (.inl rfl) (sv rfl (A1 (A6 (lr (fun u4 hu4=>sv rfl (sv rfl (A1 (cc rfl h (fun c1 h=> ?_) (fun c1 h=> ?_))))))))))))))))))))))))))))
 refine lr (fun u5 hu5=>sv rfl (sv rfl (A1 (B3 ?_))))
 cases h
 exact A7 (.inr rfl) (B0g (B6 rfl) (B6 rfl) D2 D2) (.refl _)
 refine B0 (lr (fun u6 hu6=>sv rfl (sv rfl (sv rfl (sv rfl (sv rfl (bs h fun v3 hv3 h=>B1 rfl rfl A2 (A44 _ _ _ hv3) (.inl rfl) (sv rfl (bs h fun v4 hv4 h=>sd rfl (E4 rfl rfl hv4 rfl) (sd rfl (F9 rfl hv4 rfl) (sv rfl (sv rfl (A1 (B3 ?_))))))))))))))
 cases h
 exact A7 (.inr rfl) (B0g (B6 rfl) (B6 rfl) D2 D2) (.refl _)
noncomputable def A06 (p1:WorldScene)(p2:Int)(p3:Int):Option Stay:=
  (C7 p1.after.In (Stay.mk p2 p3 0 0)).bind fun v1=>(D1 p1.after.In v1.1).bind fun v2=>some v2
theorem A2y (p1:WorldScene)(p2:Int)(p3:Int)(r:Stay)(h:A06 p1 p2 p3=some r):PCall Tryz.prog 228 [(.bp (A3t p1) 0),(i64 p2),(i64 p3)] (.agg (F3 r)):=by
 refine B8 (fk Tryz.func228 Tryz.ntmps228 m0 (by with_unfolding_all rfl)) (nl rfl) ?_
 unfold A06 at h
 refine B4 (s0:=⟨T [(0,(.d _)),(1,(.d _)),(2,(.d _))],G []⟩) (sbr rfl rfl) ?_
 refine lr (fun u1 hu1=>sn rfl rfl (A1 (lr (fun u2 hu2=>sv rfl (sv rfl (sv rfl (sv rfl (sv rfl (sv rfl (sv rfl (sv rfl (bs h fun v1 hv1 h=>B1 rfl rfl A2 (E8 _ _ _ hv1) (.inl rfl) (sv rfl (sv rfl (sv rfl (sv rfl (sv rfl (A1 (lr (fun u3 hu3=>sv rfl (sv rfl (sv rfl (sv rfl (sv rfl (sv rfl (bs h fun v2 hv2 h=>sd rfl (E4 rfl rfl hv2 rfl) (sd rfl (C9 rfl hv2 rfl rfl) (sst rfl G_hit (B50 v2) rfl (A1 (B3 ?_))))))))))))))))))))))))))))))
 cases h
 exact A7 (.inr rfl) (B7 (D4 rfl G_hit (nl rfl) rfl) D2) (.refl _)
noncomputable def A5b (p1:Map)(p2:State)(p3:(List Int))(v2:State)(y2:(List Agent))(y5:(List Stay))(a1:(Int×Int))(x6:(Int× (List Crash))):Option (Stp (Int× (List Crash)) (List Crash)):=
  cond (decide (x6.1< (p1.Zones.length:Int))) ((Y2 (WorldScene.mk p1 p2 (State.mk v2.Tick y2 y5) p3 x6.2) a1.1 a1.2 x6.1).bind fun v28=>cond (!v28) (some (.go ((w64 (x6.1+1)),x6.2))) ((A06 (WorldScene.mk p1 p2 (State.mk v2.Tick y2 y5) p3 x6.2) a1.1 x6.1).bind fun v29=>(A06 (WorldScene.mk p1 p2 (State.mk v2.Tick y2 y5) p3 x6.2) a1.2 x6.1).bind fun v30=>(V5 v29.Rank v30.Rank).bind fun v31=>(A0l v30.Since v29.Since).bind fun v32=>(A5n [v31,v32]).bind fun v33=>(cond (v33==(-1)) (some [a1.1]) (cond (v33==1) (some [a1.2]) (some [a1.1,a1.2]))).bind fun y17=>(A60 x6.2 [(Crash.mk p2.Tick a1.1 a1.2 (-1) x6.1 y17)]).bind fun v34=>some (.go ((w64 (x6.1+1)),v34)))) (some (.out x6.2))
noncomputable def A97 (p1:Map)(p2:State)(p3:(List Int))(v2:State)(y2:(List Agent))(y5:(List Stay))(a1:(Int×Int))(y12:(List Crash)):Option (List Crash):=
  (loop (A5b p1 p2 p3 v2 y2 y5 a1) (0,y12)).bind fun y16=>some y16
noncomputable def A5c (p1:Map)(p2:State)(p3:(List Int))(v2:State)(y2:(List Agent))(y5:(List Stay))(x4:(List Crash))(a1:(Int×Int))(x5:Int):Option (Stp Int (Sum Unit (List Crash))):=
  cond (decide (x5< (p1.Lanes.length:Int))) ((Y3 (WorldScene.mk p1 p2 (State.mk v2.Tick y2 y5) p3 x4) a1.1 x5).bind fun v13=>(Y3 (WorldScene.mk p1 p2 (State.mk v2.Tick y2 y5) p3 x4) a1.2 x5).bind fun v14=>cond ((!v13.2)||(!v14.2)) (some (.go (w64 (x5+1)))) ((D1 p2.Agents a1.1).bind fun v15=>(D1 p2.Agents a1.2).bind fun v16=>(cond (decide ((w64 (v15.S - v13.1))< (w64 (v16.S - v14.1)))) (some (v14.1,v13.1,a1.2,a1.1)) (some (v13.1,v14.1,a1.1,a1.2))).bind fun y14=>(D1 y2 y14.2.2.1).bind fun v17=>(A1r v17).bind fun v18=>(V9 v18 y14.1).bind fun v19=>(D1 y2 y14.2.2.2).bind fun v20=>(A1r v20).bind fun v21=>(V9 v21 y14.2.1).bind fun v22=>(D1 p2.Agents y14.2.2.2).bind fun v23=>(A1r v23).bind fun v24=>(V9 v24 y14.2.1).bind fun v25=>(A2x p1 x5).bind fun v26=>cond (((((decide (v19.to≥0))&& (decide (v22.to≥0)))&& (decide (v25.from_≤v26)))&& (decide (v19.from_≤v26)))&& (decide (v22.to≥v19.from_))) ((A60 x4 [(Crash.mk p2.Tick a1.1 a1.2 x5 (-1) [y14.2.2.2])]).bind fun v27=>some (.out (.inr v27))) (some (.go (w64 (x5+1)))))) (some (.out (.inl ())))
noncomputable def B0w (p1:Map)(p2:State)(p3:(List Int))(v2:State)(y2:(List Agent))(y5:(List Stay))(x4:(List Crash))(a1:(Int×Int)):Option (List Crash):=
  thenS (loop (A5c p1 p2 p3 v2 y2 y5 x4 a1) 0) (fun _=>some x4) (fun r=>some r)
noncomputable def A6p (p1:Map)(p2:State)(p3:(List Int))(v2:State)(y2:(List Agent))(y5:(List Stay))(x4:(List Crash))(a1:(Int×Int)):Option (Stp (List Crash) (List Crash)):=
  (B0w p1 p2 p3 v2 y2 y5 x4 a1).bind fun y12=>(A97 p1 p2 p3 v2 y2 y5 a1 y12).bind fun y15=>some (.go y15)
noncomputable def B0x:Option Unit:=
  some ()
noncomputable def B0y (p1:Map)(p2:State)(p3:(List Int))(v2:State)(y2:(List Agent))(y5:(List Stay)):Option (List Crash):=
  (B0x).bind fun y10=>((C15 p2).bind fun v12=>loopL (A6p p1 p2 p3 v2 y2 y5) (fun (x4:(List Crash))=>x4) v12 []).bind fun y11=>some y11
noncomputable def A6q (p1:Map)(p2:State)(p3:(List Int))(v2:State)(y2:(List Agent))(x2:(Int× (List Stay)))(v6:Agent)(x3:(Int× (List Stay))):Option (Stp (Int× (List Stay)) (List Stay)):=
  cond (decide (x3.1< (p1.Zones.length:Int))) ((M7 (WorldScene.mk p1 p2 (State.mk v2.Tick y2 x3.2) p3 []) x2.1 x3.1).bind fun v7=>cond (!v7) (some (.go ((w64 (x3.1+1)),x3.2))) ((C7 p2.In (Stay.mk x2.1 x3.1 p2.Tick 0)).bind fun v8=>(cond v8.2 ((D1 p2.In v8.1).bind fun v9=>some v9) ((A8j p1 v6 x3.1 p2.Tick).bind fun v10=>some (Stay.mk x2.1 x3.1 p2.Tick v10))).bind fun y8=>(A60 x3.2 [y8]).bind fun v11=>some (.go ((w64 (x3.1+1)),v11)))) (some (.out x3.2))
noncomputable def A6r (p1:Map)(p2:State)(p3:(List Int))(v2:State)(y2:(List Agent))(x2:(Int× (List Stay))):Option (Stp (Int× (List Stay)) (List Stay)):=
  cond (decide (x2.1< (p2.Agents.length:Int))) ((D1 p2.Agents x2.1).bind fun v6=>(loop (A6q p1 p2 p3 v2 y2 x2 v6) (0,x2.2)).bind fun y7=>some (.go ((w64 (x2.1+1)),y7))) (some (.out x2.2))
noncomputable def B0z (p1:Map)(p2:State)(p3:(List Int))(v2:State)(y2:(List Agent)):Option (List Stay):=
  (loop (A6r p1 p2 p3 v2 y2) (0,[])).bind fun y6=>some y6
noncomputable def A6s (p1:Map)(p2:State)(p3:(List Int))(x1:(Int× (List Agent))):Option (Stp (Int× (List Agent)) (List Agent)):=
  cond (decide (x1.1< (p2.Agents.length:Int))) ((cond (decide (x1.1< (p3.length:Int))) ((D1 p3 x1.1).bind fun v3=>some v3) (some 0)).bind fun y4=>(B1m p1 p2 x1.1 y4).bind fun v4=>(D1 x1.2 x1.1).bind fun v5=>some (.go ((w64 (x1.1+1)),(B6o x1.2 x1.1 v4)))) (some (.out x1.2))
noncomputable def B10 (p1:Map)(p2:State)(p3:(List Int))(v2:State):Option (List Agent):=
  (loop (A6s p1 p2 p3) (0,v2.Agents)).bind fun y3=>some y3
noncomputable def B1n (p1:Map)(p2:State)(p3:(List Int)):Option (State× (List Crash)×Int):=
  (A47 p1 p2).bind fun v1=>cond (v1 !=0) (some ((State.mk 0 [] []),[],v1)) (cond (decide (p2.Tick≥1099511627776)) (some ((State.mk 0 [] []),[],2)) ((A6o p2).bind fun v2=>((B10 p1 p2 p3 v2).bind fun y2=>(B0z p1 p2 p3 v2 y2).bind fun y5=>(B0y p1 p2 p3 v2 y2 y5).bind fun y9=>some (y2,y5,y9)).bind fun y1=>some ((State.mk (w64 (v2.Tick+1)) y1.1 y1.2.1),y1.2.2,0)))
theorem B72 (p1:Map)(p2:State)(p3:(List Int))(r:(State× (List Crash)×Int))(h:B1n p1 p2 p3=some r):PCall Tryz.prog 31 [(.agg (A2o p1)),(.agg (V2 p2)),(.list (List.map A4 p3))] (.tup [(.agg (V2 r.1)),(.list (List.map A02 r.2.1)),(i64 r.2.2)]):=by
 refine B8 (fk Tryz.func31 Tryz.ntmps31 (fun r=>if r==6 then [1006003]else if r==10 then [2]else []) (by with_unfolding_all rfl)) (nl rfl) ?_
 unfold B1n at h
 refine B4 (s0:=⟨T [(0,(.d _)),(1,(.d _)),(2,(.d _))],G []⟩) (sbr rfl rfl) ?_
 refine lr (fun u1 hu1=>sn rfl rfl (sn rfl rfl (sn rfl rfl (sv rfl (sv rfl (A1 (A6 (lr (fun u2 hu2=>sd rfl (B2 rfl (gq rfl) rfl rfl) (sd rfl (B2 rfl (gq rfl) rfl rfl) (bs h fun v1 hv1 h=>B1 rfl rfl A2 (A52 _ _ _ hv1) (.inl rfl) (sv rfl (A1 (lr (fun u3 hu3=>sv rfl (sv rfl (A1 (cc rfl h (fun c1 h=> ?_) (fun c1 h=> ?_)))))))))))))))))))
 refine lr (fun u4 hu4=>sv rfl (sv rfl (sst rfl G_hit [(di 0),(.d .nilS),(.d .nilS)] rfl (sv rfl (sv rfl (A1 (B3 ?_)))))))
 cases h
 exact A7 (.inr rfl) (C3b (D4 rfl G_hit (nl rfl) rfl) (B6 rfl) (B6 rfl) D2 D2 D2) (.tup (.cons (.agg (ca rfl (.cons ⟨DLe.nil,rfl⟩ (.cons ⟨DLe.nil,rfl⟩ .nil)))) (.cons DLe.nil A2)))
 refine B0 (A6 (lr (fun u5 hu5=>sp rfl rfl (sl rfl (gq rfl) rfl (sv rfl (A1 (cc rfl h (fun c2 h=> ?_) (fun c2 h=> ?_))))))))
 refine lr (fun u6 hu6=>sv rfl (sst rfl G_hit [(di 0),(.d .nilS),(.d .nilS)] rfl (sv rfl (sv rfl (A1 (B3 ?_))))))
 cases h
 exact A7 (.inr rfl) (C3b (D4 rfl G_hit (nl rfl) rfl) (B6 rfl) (B6 rfl) D2 D2 D2) (.tup (.cons (.agg (ca rfl (.cons ⟨DLe.nil,rfl⟩ (.cons ⟨DLe.nil,rfl⟩ .nil)))) (.cons DLe.nil A2)))
 refine B0 (A6 (B6q fun u7 hu7=>A1e (.d _) rfl (B2 rfl (gq rfl) rfl rfl) (A1e (.d _) rfl (B2 rfl (gq rfl) rfl rfl) (A1e (.d _) rfl (B2 rfl (gq rfl) rfl rfl) (bs h fun v2 hv2 h=> ?_)))))
 refine t_oc (v:=A07 [(di v2.Tick),(oS v2.Agents (10060030,u7)),(oE v2.In (10060031,u7))]) (us:= [(10060030,u7),(10060031,u7)]) (C99 (B28 _ _ hv2) [] [] _ (((10060031,u7),oB 127 4 F3 v2.In)::(((10060030,u7),oB 45 7 C0 v2.Agents)::_)) rfl A3r rfl A1z trivial (fun _ h=>h) List.nodup_nil (by generalize v2.Agents=x1;generalize v2.In=x2;cases x1<;>cases x2<;>rfl) rfl (C3q (C3q (rfl))) rfl) ?_
 refine A1e (.d _) rfl rfl ?_
 refine A1e (A07 ((W6 p1)++ (K6 p2)++ [(di v2.Tick),(oS v2.Agents (10060030,u7)),(oE v2.In (10060031,u7)),(dl A4 p3),(.d .nilS)])) rfl (by generalize v2.Agents=x1;generalize v2.In=x2;cases x1<;>cases x2<;>rfl) ?_
 refine C90 (.ptr _ _) (.box _ _) rfl (C25 rfl) (A1e (.ptr _ _) rfl rfl (C5k ⟨rfl,?_⟩))
 refine A6 (lr (fun u8 hu8=>sv rfl (sv rfl (A1 (bs h fun y1 hy1 h=>D5 (fun s=> ∃g1:(Nat×Nat× ({d:Nat // d∈ [72,158]}×Nat)),Sb ⟨T [(6,(.ptr (6,u1) 0)),(10,(.ptr (30,u7) 0))],G [((6,u1),some (.box 25 [(di 0),(.d .nilS),(.d .nilS)])),((30,u7),some (.box 135 ((W6 p1)++ (K6 p2)++ [(di v2.Tick),(oS y1.1 (10060030,g1.1)),(oS y1.2.1 (85,g1.2.1)),(dl A4 p3),(oS y1.2.2 (g1.2.2.1.val,g1.2.2.2))]))),((10060030,g1.1),oB 45 7 C0 y1.1),((85,g1.2.1),oB 127 4 F3 y1.2.1),((g1.2.2.1.val,g1.2.2.2),oB 77 6 A02 y1.2.2)]⟩ s) ?_ ?_)))))
 refine A8 (B2w (lr (fun u9 hu9=>sv rfl (A1 (A6 (B1b rfl (B0 (A6 (A8 (lr (fun u10 hu10=>sv rfl (sv rfl (A1 (D0 fun u11 hu11=>sv rfl (sp rfl rfl (bs hy1 fun y2 hy2 hy1=>B3t (fk Tryz.func90 Tryz.ntmps90 m0 (by with_unfolding_all rfl)) (fun (g2:Nat)=> [(6,(.ptr (6,u1) 0)),(10,(.ptr (30,u7) 0)),(31,(.d (.agg [(.fn (.func 90) [] []),(.fn (.func 80) [] []),(.fn (.func 91) [] [])]))),(32,(di 0))]) (fun (g2:Nat)=> [((6,u1),some (.box 25 [(di 0),(.d .nilS),(.d .nilS)])),((30,u7),some (.box 135 ((W6 p1)++ (K6 p2)++ [(di v2.Tick),(oS y2 (10060030,g2)),(oE v2.In (10060031,u7)),(dl A4 p3),(.d .nilS)]))),((10060031,u7),oB 127 4 F3 v2.In),((10060030,g2),oB 45 7 C0 y2)]) rfl (nl rfl) ?_ ?_))))))))))))))))
 unfold B10 at hy2
 refine B4 (s0:=⟨T [(0,(.ptr (30,u7) 0))],G [((30,u7),some (.box 135 ((W6 p1)++ (K6 p2)++ [(di v2.Tick),(oS v2.Agents (10060030,u7)),(oE v2.In (10060031,u7)),(dl A4 p3),(.d .nilS)]))),((10060030,u7),oB 45 7 C0 v2.Agents),((10060031,u7),oB 127 4 F3 v2.In),((6,u1),some (.box 25 [(di 0),(.d .nilS),(.d .nilS)]))]⟩) (E0 ⟨.of rfl,trivial⟩ (A9 G_hit (.of rfl) (B5 (gq rfl) (B5 (gq rfl) (sg rfl trivial))))) ?_
 refine lr (fun u12 hu12=>sp rfl rfl (sp rfl rfl (sp rfl rfl (sp rfl rfl (sl rfl G_hit rfl (sd rfl (F7 rfl) (sv rfl (A1 (bs hy2 fun y3 hy3 hy2=>D5 (fun s=> ∃g3:Nat,Sb ⟨T [],G [((6,u1),some (.box 25 [(di 0),(.d .nilS),(.d .nilS)])),((30,u7),some (.box 135 ((W6 p1)++ (K6 p2)++ [(di v2.Tick),(oS y3 (10060030,g3)),(oE v2.In (10060031,u7)),(dl A4 p3),(.d .nilS)]))),((10060031,u7),oB 127 4 F3 v2.In),((10060030,g3),oB 45 7 C0 y3)]⟩ s) ?_ ?_)))))))))
 refine A8 (D9 (A6s p1 p2 p3) (fun (x1:(Int× (List Agent))) (g4:Nat)=>⟨T [(0,(.ptr (30,u7) 0)),(9,(di (p2.Agents.length:Int))),(10,(di x1.1))],G [((30,u7),some (.box 135 ((W6 p1)++ (K6 p2)++ [(di v2.Tick),(oS x1.2 (10060030,g4)),(oE v2.In (10060031,u7)),(dl A4 p3),(.d .nilS)]))),((6,u1),some (.box 25 [(di 0),(.d .nilS),(.d .nilS)])),((10060031,u7),oB 127 4 F3 v2.In),((10060030,g4),oB 45 7 C0 x1.2)]⟩) (0,v2.Agents) u7 _ hy3 (E0 ⟨.of rfl, .of rfl, .of rfl,trivial⟩ (A9 G_hit (.of rfl) (sg rfl (B5 (gq rfl) (B5 (gq rfl) trivial))))) ?_)
 intro x1 g4 z1 hz1 ez1
 unfold A6s at hz1
 refine lr (fun u13 hu13=>sv rfl (A1 (A6 (cc rfl hz1 (fun c3 hz1=> ?_) (fun c3 hz1=> ?_)))))
 refine B0 (A6 (A8 (lr (fun u14 hu14=>sv rfl (sv rfl (A1 (lr (fun u15 hu15=>sv rfl (A1 (A6 (lr (fun u16 hu16=>sv rfl (sp rfl rfl (sp rfl rfl (sp rfl rfl (sl rfl G_hit rfl (sd rfl (F7 rfl) (sv rfl (A1 (bs hz1 fun y4 hy4 hz1=>D5 (fun s=> ∃g5:Unit,Sb ⟨T [(0,(.ptr (30,u7) 0)),(2,(di x1.1)),(3,(di y4)),(9,(di (p2.Agents.length:Int))),(10,(di x1.1))],G [((30,u7),some (.box 135 ((W6 p1)++ (K6 p2)++ [(di v2.Tick),(oS x1.2 (10060030,g4)),(oE v2.In (10060031,u7)),(dl A4 p3),(.d .nilS)]))),((6,u1),some (.box 25 [(di 0),(.d .nilS),(.d .nilS)])),((10060030,g4),oB 45 7 C0 x1.2),((10060031,u7),oB 127 4 F3 v2.In)]⟩ s) ?_ ?_))))))))))))))))))))
 refine cc rfl hy4 (fun c4 hy4=> ?_) (fun c4 hy4=> ?_)
 refine D0 fun u17 hu17=>sp rfl rfl (sp rfl rfl (sp rfl rfl (sl rfl G_hit rfl (sv rfl (bs hy4 fun v3 hv3 hy4=>sd rfl (E4 rfl rfl hv3 rfl) (sd rfl (F9 rfl hv3 rfl) (sv rfl (A1 ?_))))))))
 obtain rfl:=(Option.some.inj hy4)
 exact l_j ⟨(),(E0 ⟨.of rfl, .of rfl, .of rfl, .of rfl, .of rfl,trivial⟩ (A9 G_hit (.of rfl) (sg rfl (B5 (gq rfl) (B5 (gq rfl) trivial)))))⟩
 refine B0 ?_
 cases hy4
 exact l_j ⟨(),(E0 ⟨.of rfl, .of rfl, .of rfl, .of rfl, .of rfl,trivial⟩ (A9 G_hit (.of rfl) (sg rfl (B5 (gq rfl) (B5 (gq rfl) trivial)))))⟩
 rintro _ ⟨g5,q1⟩
 refine B4 q1 (G5 rfl fun u18 hu18=>sp rfl rfl (sp rfl rfl (sp rfl rfl (sp rfl rfl (C4 (oS x1.2 (10060030,g4)) rfl (N8 rfl G_hit rfl) (sv rfl (sp rfl rfl (sp rfl rfl (sp rfl rfl (sd rfl (B2 rfl G_hit rfl rfl) (sp rfl rfl (sp rfl rfl (sp rfl rfl (sd rfl (B2 rfl G_hit rfl rfl) (sv rfl (sv rfl (bs hz1 fun v4 hv4 hz1=>B1 rfl rfl A2 (B71 _ _ _ _ _ hv4) (.inl rfl) (bs hz1 fun v5 hv5 hz1=>C4 (.aptr _ _ _ _) rfl (C3k rfl rfl (gq rfl) hv5) ?_))))))))))))))))))
 rw [A65 (A9l hv5)]
 refine B0h C0 _ _ _ (x1.1) _ v4 (C0 v4) rfl rfl rfl (B1c (gq rfl) (A9l hv5)) hv5 (nl rfl) rfl (A1 (F6 (D0 fun u19 hu19=>sv rfl (sv rfl (A1 (E3 ?_))))))
 cases hz1
 exact ⟨rfl,g4,(E0 ⟨.of rfl, .of rfl, .of rfl,trivial⟩ (A9 (gq rfl) (.box (cv (cv (cv (cv (cv (cv (cv (cv (cv (.cons (.of (A65 (C7k (A9l hv5))).symm) cw))))))))))) (sg rfl (B5 (gq rfl) (A1d G_hit trivial)))))⟩
 refine C6 rfl ?_
 cases hz1
 obtain rfl:=ez1 _ rfl
 refine ⟨nofun,C2 rfl (l_j ?_)⟩
 exact ⟨g4,(E0 trivial (sg rfl (A9 G_hit (.of rfl) (B5 (gq rfl) (B5 (gq rfl) trivial)))))⟩
 rintro _ ⟨g3,q2⟩
 refine E3 ?_
 obtain rfl:=(Option.some.inj hy2)
 exact B0l q2 (.inl rfl) g3 ⟨.of rfl, .of rfl, .of rfl, .of rfl,trivial⟩ (A9 G_hit (.of rfl) (sg rfl (B5 (gq rfl) (B5 (gq rfl) trivial))))
 intro g2
 intro u20 hu20
 refine A1 (F6 (D0 fun u21 hu21=>sv rfl (sv rfl (A1 (B2w (lr (fun u22 hu22=>sv rfl (A1 (A6 (B1b rfl (B0 (A6 (A8 (lr (fun u23 hu23=>sv rfl (sv rfl (A1 (D0 fun u24 hu24=>sv rfl (sp rfl rfl (bs hy1 fun y5 hy5 hy1=>B3t (fk Tryz.func80 Tryz.ntmps80 (fun r=>if r==13 then [1007]else []) (by with_unfolding_all rfl)) (fun (g6:Nat)=> [(6,(.ptr (6,u1) 0)),(10,(.ptr (30,u7) 0)),(31,(.d (.agg [(.fn (.func 90) [] []),(.fn (.func 80) [] []),(.fn (.func 91) [] [])]))),(32,(di 1))]) (fun (g6:Nat)=> [((6,u1),some (.box 25 [(di 0),(.d .nilS),(.d .nilS)])),((30,u7),some (.box 135 ((W6 p1)++ (K6 p2)++ [(di v2.Tick),(oS y2 (10060030,g2)),(oS y5 (85,g6)),(dl A4 p3),(.d .nilS)]))),((10060030,g2),oB 45 7 C0 y2),((85,g6),oB 127 4 F3 y5)]) rfl (nl rfl) ?_ ?_))))))))))))))))))))
 unfold B0z at hy5
 refine B4 (s0:=⟨T [(0,(.ptr (30,u7) 0))],G [((30,u7),some (.box 135 ((W6 p1)++ (K6 p2)++ [(di v2.Tick),(oS y2 (10060030,g2)),(oE v2.In (10060031,u7)),(dl A4 p3),(.d .nilS)]))),((10060030,g2),oB 45 7 C0 y2),((10060031,u7),oB 127 4 F3 v2.In),((6,u1),some (.box 25 [(di 0),(.d .nilS),(.d .nilS)]))]⟩) (E0 ⟨.of rfl,trivial⟩ (sg rfl (B5 (gq rfl) (B5 (gq rfl) (A9 G_hit (.of rfl) trivial))))) ?_
 refine lr (fun u25 hu25=>sp rfl rfl (sp rfl rfl (sp rfl rfl (sp rfl rfl (sst rfl G_hit ((W6 p1)++ (K6 p2)++ [(di v2.Tick),(oS y2 (10060030,g2)),(.d .nilS),(dl A4 p3),(.d .nilS)]) rfl (A1 (lr (fun u26 hu26=>sp rfl rfl (sp rfl rfl (sp rfl rfl (sp rfl rfl (sl rfl G_hit rfl (sd rfl (F7 rfl) (sv rfl (A1 (bs hy5 fun y6 hy6 hy5=>D5 (fun s=> ∃g7:Nat,Sb ⟨T [],G [((6,u1),some (.box 25 [(di 0),(.d .nilS),(.d .nilS)])),((30,u7),some (.box 135 ((W6 p1)++ (K6 p2)++ [(di v2.Tick),(oS y2 (10060030,g2)),(oS y6 (85,g7)),(dl A4 p3),(.d .nilS)]))),((10060030,g2),oB 45 7 C0 y2),((85,g7),oB 127 4 F3 y6)]⟩ s) ?_ ?_))))))))))))))))
 refine A8 (D9 (A6r p1 p2 p3 v2 y2) (fun (x2:(Int× (List Stay))) (g8:Nat)=>⟨T [(0,(.ptr (30,u7) 0)),(16,(dl C0 p2.Agents)),(17,(di (p2.Agents.length:Int))),(18,(di x2.1))],G [((30,u7),some (.box 135 ((W6 p1)++ (K6 p2)++ [(di v2.Tick),(oS y2 (10060030,g2)),(oS x2.2 (85,g8)),(dl A4 p3),(.d .nilS)]))),((6,u1),some (.box 25 [(di 0),(.d .nilS),(.d .nilS)])),((10060030,g2),oB 45 7 C0 y2),((85,g8),oB 127 4 F3 x2.2)]⟩) (0,[]) 0 _ hy6 (E0 ⟨.of rfl, .of rfl, .of rfl, .of rfl,trivial⟩ (A9 G_hit (.of rfl) (sg rfl (B5 (gq rfl) (A2e trivial))))) ?_)
 intro x2 g8 z2 hz2 ez2
 unfold A6r at hz2
 refine lr (fun u27 hu27=>sv rfl (A1 (A6 (cc rfl hz2 (fun c5 hz2=> ?_) (fun c5 hz2=> ?_)))))
 refine B0 (A6 (A8 (lr (fun u28 hu28=>sv rfl (bs hz2 fun v6 hv6 hz2=>sd rfl (E4 rfl rfl hv6 rfl) (sd rfl (C9 rfl hv6 rfl rfl) (sn rfl rfl (sv rfl (sst rfl G_hit (S7 v6) rfl (A1 (lr (fun u29 hu29=>sp rfl rfl (sp rfl rfl (sp rfl rfl (sp rfl rfl (sl rfl (gq rfl) rfl (sd rfl (F7 rfl) (sv rfl (A1 (bs hz2 fun y7 hy7 hz2=>D5 (fun s=> ∃g9:Nat,Sb ⟨T [(0,(.ptr (30,u7) 0)),(16,(dl C0 p2.Agents)),(17,(di (p2.Agents.length:Int))),(18,(di x2.1))],G [((30,u7),some (.box 135 ((W6 p1)++ (K6 p2)++ [(di v2.Tick),(oS y2 (10060030,g2)),(oS y7 (85,g9)),(dl A4 p3),(.d .nilS)]))),((6,u1),some (.box 25 [(di 0),(.d .nilS),(.d .nilS)])),((10060030,g2),oB 45 7 C0 y2),((85,g9),oB 127 4 F3 y7)]⟩ s) ?_ ?_))))))))))))))))))))
 refine A8 (D9 (A6q p1 p2 p3 v2 y2 x2 v6) (fun (x3:(Int× (List Stay))) (g10:Nat)=>⟨T [(0,(.ptr (30,u7) 0)),(2,(di x2.1)),(3,(.ptr (3,u28) 0)),(16,(dl C0 p2.Agents)),(17,(di (p2.Agents.length:Int))),(18,(di x2.1)),(28,(di (p1.Zones.length:Int))),(29,(di x3.1))],G [((30,u7),some (.box 135 ((W6 p1)++ (K6 p2)++ [(di v2.Tick),(oS y2 (10060030,g2)),(oS x3.2 (85,g10)),(dl A4 p3),(.d .nilS)]))),((3,u28),some (.box 45 (S7 v6))),((6,u1),some (.box 25 [(di 0),(.d .nilS),(.d .nilS)])),((10060030,g2),oB 45 7 C0 y2),((85,g10),oB 127 4 F3 x3.2)]⟩) (0,x2.2) g8 _ hy7 (E0 ⟨.of rfl, .of rfl, .of rfl, .of rfl, .of rfl, .of rfl, .of rfl, .of rfl,trivial⟩ (sg rfl (A9 G_hit (.of rfl) (sg rfl (B5 (gq rfl) (B5 (gq rfl) trivial)))))) ?_)
 intro x3 g10 z3 hz3 ez3
 unfold A6q at hz3
 refine lr (fun u30 hu30=>sv rfl (A1 (A6 (cc rfl hz3 (fun c6 hz3=> ?_) (fun c6 hz3=> ?_)))))
 refine B0 (A6 (A8 (lr (fun u31 hu31=>sv rfl (sv rfl (A1 (A6 (lr (fun u32 hu32=>sp rfl rfl (sv rfl (sv rfl (bs hz3 fun v7 hv7 hz3=>B1 rfl (B9 (V1 G_hit (rD (rD (rD (rD (rD (rD (rD (rD (rD (B9 (A1t (gq rfl)) (B9 (A1t (gq rfl)) (rD (rD C5)))))))))))))) (rD (rD C5))) (.cons (DLe.bp (ca rfl (ca rfl (ca rfl (ca rfl (ca rfl (ca rfl (ca rfl (ca rfl (ca rfl (.cons ⟨A1s,rfl⟩ (.cons ⟨A1s,rfl⟩ (ca rfl (.cons ⟨DLe.nil,rfl⟩ .nil)))))))))))))) (.cons (.refl _) A2)) (O1 _ _ _ _ hv7) (.inr rfl) (C4 (.d (bo (!v7))) rfl rfl (A1 (cc rfl hz3 (fun c7 hz3=> ?_) (fun c7 hz3=> ?_))))))))))))))))
 refine B3j rfl (D0 fun u33 hu33=>sv rfl (sv rfl (A1 (E3 ?_))))
 cases hz3
 exact ⟨rfl,g10,(E0 ⟨.of rfl, .of rfl, .of rfl, .of rfl, .of rfl, .of rfl, .of rfl, .of rfl,trivial⟩ (A9 G_hit (.of rfl) (sg rfl (sg rfl (B5 (gq rfl) (B5 (gq rfl) trivial))))))⟩
 refine B0 (lr (fun u34 hu34=>sv rfl (sv rfl (sp rfl rfl (sp rfl rfl (sp rfl rfl (sp rfl rfl (sl rfl G_hit rfl (sv rfl (sn rfl rfl (sst rfl G_hit [(di x2.1),(di x3.1),(di p2.Tick),(di 0)] rfl (A1 (A6 (A6 (G5 rfl fun u35 hu35=>sp rfl rfl (sp rfl rfl (sp rfl rfl (sp rfl rfl (sl rfl (gq rfl) rfl (sd rfl (B2 rfl G_hit rfl rfl) (bs hz3 fun v8 hv8 hz3=>B1 rfl rfl A2 (E8 _ _ _ hv8) (.inl rfl) (sv rfl (sv rfl (sv rfl (sv rfl (sv rfl (A1 (lr (fun u36 hu36=>sv rfl (A1 (bs hz3 fun y8 hy8 hz3=>D5 (fun s=> ∃g11:Unit,Sb ⟨T [(0,(.ptr (30,u7) 0)),(2,(di x2.1)),(3,(.ptr (3,u28) 0)),(5,(.ptr (5,u34) 0)),(16,(dl C0 p2.Agents)),(17,(di (p2.Agents.length:Int))),(18,(di x2.1)),(28,(di (p1.Zones.length:Int))),(29,(di x3.1))],G [((30,u7),some (.box 135 ((W6 p1)++ (K6 p2)++ [(di v2.Tick),(oS y2 (10060030,g2)),(oS x3.2 (85,g10)),(dl A4 p3),(.d .nilS)]))),((3,u28),some (.box 45 (S7 v6))),((5,u34),some (.box 127 (B50 y8))),((6,u1),some (.box 25 [(di 0),(.d .nilS),(.d .nilS)])),((10060030,g2),oB 45 7 C0 y2),((85,g10),oB 127 4 F3 x3.2)]⟩ s) ?_ ?_)))))))))))))))))))))))))))))))
 refine cc rfl hy8 (fun c8 hy8=> ?_) (fun c8 hy8=> ?_)
 refine D0 fun u37 hu37=>sp rfl rfl (sp rfl rfl (sp rfl rfl (sp rfl rfl (sl rfl (gq rfl) rfl (sv rfl (bs hy8 fun v9 hv9 hy8=>sd rfl (E4 rfl rfl hv9 rfl) (sd rfl (C9 rfl hv9 rfl rfl) (sst rfl G_hit (B50 v9) rfl (A1 ?_)))))))))
 obtain rfl:=(Option.some.inj hy8)
 exact l_j ⟨(),(E0 ⟨.of rfl, .of rfl, .of rfl, .of rfl, .of rfl, .of rfl, .of rfl, .of rfl, .of rfl,trivial⟩ (sg rfl (sg rfl (A9 G_hit (.of rfl) (sg rfl (B5 (gq rfl) (B5 (gq rfl) trivial)))))))⟩
 refine G5 rfl fun u38 hu38=>sp rfl rfl (sp rfl rfl (sp rfl rfl (sd rfl (B2 rfl (gq rfl) rfl rfl) (sd rfl (B2 rfl (gq rfl) rfl rfl) (sv rfl (sp rfl rfl (sp rfl rfl (sp rfl rfl (sp rfl rfl (sl rfl (gq rfl) rfl (bs hy8 fun v10 hv10 hy8=>B1 rfl rfl A2 (B0t _ _ _ _ _ hv10) (.inl rfl) (sp rfl rfl (sst rfl G_hit [(di x2.1),(di x3.1),(di p2.Tick),(di v10)] rfl (A1 ?_))))))))))))))
 cases hy8
 exact l_j ⟨(),(E0 ⟨.of rfl, .of rfl, .of rfl, .of rfl, .of rfl, .of rfl, .of rfl, .of rfl, .of rfl,trivial⟩ (sg rfl (sg rfl (A9 G_hit (.of rfl) (sg rfl (B5 (gq rfl) (B5 (gq rfl) trivial)))))))⟩
 rintro _ ⟨g11,q3⟩
 refine B4 q3 (G5 rfl fun u39 hu39=>sp rfl rfl (sp rfl rfl (sp rfl rfl (sp rfl rfl (sp rfl rfl (C4 (oS x3.2 (85,g10)) rfl (N8 rfl G_hit rfl) (sd rfl (B2 rfl (gq rfl) rfl rfl) (C4 (dl F3 [y8]) rfl rfl (bs hz3 fun v11 hv11 hz3=>S5 F3 (85,g10) x3.2 y8 [] _ (M6 (fun _=>rfl)) rfl (gq rfl) hv11 (sp rfl rfl (sp rfl rfl (sp rfl rfl (sst rfl (gq rfl) ((W6 p1)++ (K6 p2)++ [(di v2.Tick),(oS y2 (10060030,g2)),(.sl (85,u39)),(dl A4 p3),(.d .nilS)]) rfl (A1 (F6 (D0 fun u40 hu40=>sv rfl (sv rfl (A1 (E3 ?_)))))))))))))))))))
 cases hz3
 exact ⟨rfl,u39,(E0 ⟨.of rfl, .of rfl, .of rfl, .of rfl, .of rfl, .of rfl, .of rfl, .of rfl,trivial⟩ (A9 G_hit (.box (cv (cv (cv (cv (cv (cv (cv (cv (cv (cv (.cons (.of (A65 (A0r hv11)).symm) cw)))))))))))) (sg rfl (sg rfl (B5 (gq rfl) (A1d (gq rfl) trivial))))))⟩
 refine C6 rfl ?_
 cases hz3
 obtain rfl:=ez3 _ rfl
 refine ⟨nofun,C2 rfl (l_j ?_)⟩
 exact ⟨g10,(E0 ⟨.of rfl, .of rfl, .of rfl, .of rfl,trivial⟩ (A9 G_hit (.of rfl) (sg rfl (B5 (gq rfl) (B5 (gq rfl) trivial)))))⟩
 rintro _ ⟨g9,q4⟩
 refine F6 (B4 q4 (D0 fun u41 hu41=>sv rfl (sv rfl (A1 (E3 ?_)))))
 cases hz2
 exact ⟨rfl,g9,(E0 ⟨.of rfl, .of rfl, .of rfl, .of rfl,trivial⟩ (A9 G_hit (.of rfl) (sg rfl (B5 (gq rfl) (B5 (gq rfl) trivial)))))⟩
 refine C6 rfl ?_
 cases hz2
 obtain rfl:=ez2 _ rfl
 refine ⟨nofun,C2 rfl (l_j ?_)⟩
 exact ⟨g8,(E0 trivial (sg rfl (A9 G_hit (.of rfl) (B5 (gq rfl) (B5 (gq rfl) trivial)))))⟩
 rintro _ ⟨g7,q5⟩
 refine E3 ?_
 obtain rfl:=(Option.some.inj hy5)
 exact B0l q5 (.inl rfl) g7 ⟨.of rfl, .of rfl, .of rfl, .of rfl,trivial⟩ (A9 G_hit (.of rfl) (sg rfl (B5 (gq rfl) (B5 (gq rfl) trivial))))
 intro g6
 intro u42 hu42
 refine A1 (F6 (D0 fun u43 hu43=>sv rfl (sv rfl (A1 (B2w (lr (fun u44 hu44=>sv rfl (A1 (A6 (B1b rfl (B0 (A6 (A8 (lr (fun u45 hu45=>sv rfl (sv rfl (A1 (D0 fun u46 hu46=>sv rfl (sp rfl rfl (bs hy1 fun y9 hy9 hy1=>B3t (fk Tryz.func91 Tryz.ntmps91 (fun r=>if r==1 then [1]else if r==4 then [3]else if r==5 then [3]else []) (by with_unfolding_all rfl)) (fun (g12:({d:Nat // d∈ [72,158]}×Nat))=> [(6,(.ptr (6,u1) 0)),(10,(.ptr (30,u7) 0)),(31,(.d (.agg [(.fn (.func 90) [] []),(.fn (.func 80) [] []),(.fn (.func 91) [] [])]))),(32,(di 2))]) (fun (g12:({d:Nat // d∈ [72,158]}×Nat))=> [((6,u1),some (.box 25 [(di 0),(.d .nilS),(.d .nilS)])),((30,u7),some (.box 135 ((W6 p1)++ (K6 p2)++ [(di v2.Tick),(oS y2 (10060030,g2)),(oS y5 (85,g6)),(dl A4 p3),(oS y9 (g12.1.val,g12.2))]))),((10060030,g2),oB 45 7 C0 y2),((85,g6),oB 127 4 F3 y5),((g12.1.val,g12.2),oB 77 6 A02 y9)]) rfl (nl rfl) ?_ ?_))))))))))))))))))))
 unfold B0y at hy9
 refine B4 (s0:=⟨T [(0,(.ptr (30,u7) 0))],G [((30,u7),some (.box 135 ((W6 p1)++ (K6 p2)++ [(di v2.Tick),(oS y2 (10060030,g2)),(oS y5 (85,g6)),(dl A4 p3),(.d .nilS)]))),((10060030,g2),oB 45 7 C0 y2),((85,g6),oB 127 4 F3 y5),((6,u1),some (.box 25 [(di 0),(.d .nilS),(.d .nilS)]))]⟩) (E0 ⟨.of rfl,trivial⟩ (sg rfl (B5 (gq rfl) (B5 (gq rfl) (A9 G_hit (.of rfl) trivial))))) ?_
 refine lr (fun u47 hu47=>sn rfl rfl (A1 (lr (fun u48 hu48=>sp rfl (N8 rfl G_hit rfl) (bs hy9 fun y10 hy10 hy9=>B3t (fk Tryz.func81 Tryz.ntmps81 m0 (by with_unfolding_all rfl)) (fun (g13:{g:Nat // g≠u47})=> [(1,(.ptr (1,u47) 0)),(5,(.fn (.func 174) [] [(.ptr (1,g13.1) 0)]))]) (fun (g13:{g:Nat // g≠u47})=> [((1,u47),some (.box 133 [(.ptr (30,u7) 0)])),((30,u7),some (.box 135 ((W6 p1)++ (K6 p2)++ [(di v2.Tick),(oS y2 (10060030,g2)),(oS y5 (85,g6)),(dl A4 p3),(.d .nilS)]))),((6,u1),some (.box 25 [(di 0),(.d .nilS),(.d .nilS)])),((10060030,g2),oB 45 7 C0 y2),((85,g6),oB 127 4 F3 y5),((1,g13.1),some (.box 133 [(.ptr (30,u7) 0)]))]) rfl (nl rfl) ?_ ?_)))))
 unfold B0x at hy10
 refine B4 (s0:=⟨T [(0,(.ptr (30,u7) 0))],G [((30,u7),some (.box 135 ((W6 p1)++ (K6 p2)++ [(di v2.Tick),(oS y2 (10060030,g2)),(oS y5 (85,g6)),(dl A4 p3),(.d .nilS)]))),((10060030,g2),oB 45 7 C0 y2),((85,g6),oB 127 4 F3 y5),((6,u1),some (.box 25 [(di 0),(.d .nilS),(.d .nilS)])),((1,u47),some (.box 133 [(.ptr (30,u7) 0)]))]⟩) (E0 ⟨.of rfl,trivial⟩ (sg rfl (B5 (gq rfl) (B5 (gq rfl) (sg rfl (A9 G_hit (.of rfl) trivial)))))) ?_
 refine lr (fun u49 hu49=>sn rfl rfl (sv rfl (A1 (lr (fun u50 hu50=>C4 (.fn _ _ _) rfl rfl (C4 (.fn _ _ _) rfl rfl (A1 (B3 ?_))))))))
 cases hy10
 exact B9p (.inr rfl) (C5q (B6 rfl)) ⟨u49,(Ne.symm (C0o (k:=(1,u47)) hu49 (gq rfl)))⟩ ⟨.of rfl, .of rfl,trivial⟩ (A9 (O2 (C0o hu49 (gq rfl)) (gq rfl)) (.of rfl) (sg rfl (sg rfl (B5 (gq rfl) (B5 (gq rfl) (A9 G_hit (.of rfl) trivial))))))
 intro g13
 intro u51 hu51
 refine A1 (bs hy9 fun y11 hy11 hy9=>D5 (fun s=> ∃g14:({d:Nat // d∈ [72,158]}×Nat),Sb ⟨T [],G [((6,u1),some (.box 25 [(di 0),(.d .nilS),(.d .nilS)])),((30,u7),some (.box 135 ((W6 p1)++ (K6 p2)++ [(di v2.Tick),(oS y2 (10060030,g2)),(oS y5 (85,g6)),(dl A4 p3),(oS y11 (g14.1.val,g14.2))]))),((10060030,g2),oB 45 7 C0 y2),((85,g6),oB 127 4 F3 y5),((g14.1.val,g14.2),oB 77 6 A02 y11)]⟩ s) ?_ ?_)
 refine A8 (bs hy11 fun v12 hv12 hy11=>B4 (s0:=⟨T [(1,(.ptr (1,u47) 0)),(5,(.fn (.func 174) [] [(.ptr (1,g13.1) 0)]))],G [((1,u47),some (.box 133 [(.ptr (30,u7) 0)])),((30,u7),some (.box 135 ((W6 p1)++ (K6 p2)++ [(di v2.Tick),(oS y2 (10060030,g2)),(oS y5 (85,g6)),(dl A4 p3),(.d .nilS)]))),((10060030,g2),oB 45 7 C0 y2),((85,g6),oB 127 4 F3 y5),((1,g13.1),some (.box 133 [(.ptr (30,u7) 0)])),((6,u1),some (.box 25 [(di 0),(.d .nilS),(.d .nilS)]))]⟩) (E0 ⟨.of rfl, .of rfl,trivial⟩ (A9 G_hit (.of rfl) (sg rfl (B5 (gq rfl) (B5 (gq rfl) (A9 (O2 g13.2 (gq rfl)) (.of rfl) (sg rfl trivial))))))) ?_)
 refine C13 (.fn (.func 174) [] [(.ptr (1,g13.1) 0)]) (A9t (1,g13.1) (30,u7) p2) B9v v12 (A6p p1 p2 p3 v2 y2 y5) (fun (x4:(List Crash))=>x4) (fun (x4:(List Crash)) (g15:({d:Nat // d∈ [72,158]}×Nat))=> [((1,u47),some (.box 133 [(.ptr (30,u7) 0)])),((1,g13.1),some (.box 133 [(.ptr (30,u7) 0)])),((6,u1),some (.box 25 [(di 0),(.d .nilS),(.d .nilS)])),((30,u7),some (.box 135 ((W6 p1)++ (K6 p2)++ [(di v2.Tick),(oS y2 (10060030,g2)),(oS y5 (85,g6)),(dl A4 p3),(oS x4 (g15.1.val,g15.2))]))),((10060030,g2),oB 45 7 C0 y2),((85,g6),oB 127 4 F3 y5),((g15.1.val,g15.2),oB 77 6 A02 x4)]) [] (⟨72, .head _⟩,0) _ rfl (B65 hv12 _ _) (fun x4 g15 _ _=>⟨A3 rfl (O2 g13.2 G_hit),_,_,_,_,_,_,_,_,_,_,A3 rfl (gq rfl)⟩) (fun _=>rfl) hy11 (E0 trivial (A9 G_hit (.of rfl) (A9 (O2 g13.2 (gq rfl)) (.of rfl) (sg rfl (sg rfl (B5 (gq rfl) (B5 (gq rfl) (A2e trivial)))))))) nofun ?_ ?_
 intro u53 hu53 hku53
 refine ⟨fun x4 g15=>(A3 rfl (A3 rfl (A3 rfl (A3 rfl (A3 rfl (A3 rfl (A3 (neR g15.1.property rfl) rfl))))))),?_⟩
 intro r1 x4 g15 a1 z4 hrr1 hz4 ez4
 unfold A6p at hz4
 show AWL _ _ _ _ _ _ ⟨T [(7,(di a1.2)),(6,(di a1.1)),(1,(.ptr (1,u47) 0)),(5,(.fn (.func 174) [] [(.ptr (1,g13.1) 0)]))],G [((1000000,u53),some (.obj (T [(1,(.ptr (1,u47) 0)),(5,(.fn (.func 174) [] [(.ptr (1,g13.1) 0)]))]) r1)),((1,u47),some (.box 133 [(.ptr (30,u7) 0)])),((1,g13.1),some (.box 133 [(.ptr (30,u7) 0)])),((6,u1),some (.box 25 [(di 0),(.d .nilS),(.d .nilS)])),((30,u7),some (.box 135 ((W6 p1)++ (K6 p2)++ [(di v2.Tick),(oS y2 (10060030,g2)),(oS y5 (85,g6)),(dl A4 p3),(oS x4 (g15.1.val,g15.2))]))),((10060030,g2),oB 45 7 C0 y2),((85,g6),oB 127 4 F3 y5),((g15.1.val,g15.2),oB 77 6 A02 x4)]⟩
 refine lr (fun u54 hu54=>sv rfl (A1 (D0 fun u55 hu55=>sv rfl (A1 (l_j (C3i G_hit ?_))))))
 refine A8 (lr (fun u56 hu56=>sp rfl (N8 rfl (gq rfl) rfl) (sv rfl (sv rfl (bs hz4 fun y12 hy12 hz4=>B3t (fk Tryz.func183 Tryz.ntmps183 (fun r=>if r==13 then [1014,1016]else []) (by with_unfolding_all rfl)) (fun (g16:({d:Nat // d∈ [72,158]}×Nat))=> [(1,(.ptr (1,u47) 0)),(2,(di a1.1)),(3,(di a1.2))]) (fun (g16:({d:Nat // d∈ [72,158]}×Nat))=> [((1,u47),some (.box 133 [(.ptr (30,u7) 0)])),((6,u1),some (.box 25 [(di 0),(.d .nilS),(.d .nilS)])),((30,u7),some (.box 135 ((W6 p1)++ (K6 p2)++ [(di v2.Tick),(oS y2 (10060030,g2)),(oS y5 (85,g6)),(dl A4 p3),(oS y12 (g16.1.val,g16.2))]))),((1,g13.1),some (.box 133 [(.ptr (30,u7) 0)])),((1000000,u53),some (.obj (T [(1,(.ptr (1,u47) 0)),(5,(.fn (.func 174) [] [(.ptr (1,g13.1) 0)]))]) {r1 with state:= .busy})),((10060030,g2),oB 45 7 C0 y2),((85,g6),oB 127 4 F3 y5),((g16.1.val,g16.2),oB 77 6 A02 y12)]) rfl (nl rfl) ?_ ?_)))))
 unfold B0w at hy12
 refine B4 (s0:=⟨T [(0,(.ptr (30,u7) 0)),(1,(di a1.1)),(2,(di a1.2))],G [((30,u7),some (.box 135 ((W6 p1)++ (K6 p2)++ [(di v2.Tick),(oS y2 (10060030,g2)),(oS y5 (85,g6)),(dl A4 p3),(oS x4 (g15.1.val,g15.2))]))),((10060030,g2),oB 45 7 C0 y2),((85,g6),oB 127 4 F3 y5),((g15.1.val,g15.2),oB 77 6 A02 x4),((6,u1),some (.box 25 [(di 0),(.d .nilS),(.d .nilS)])),((1,u47),some (.box 133 [(.ptr (30,u7) 0)])),((1,g13.1),some (.box 133 [(.ptr (30,u7) 0)])),((1000000,u53),some (.obj (T [(1,(.ptr (1,u47) 0)),(5,(.fn (.func 174) [] [(.ptr (1,g13.1) 0)]))]) {r1 with state:= .busy}))]⟩) (E0 ⟨.of rfl, .of rfl, .of rfl,trivial⟩ (sg rfl (B5 (gq rfl) (B5 (gq rfl) (B5 (A3 (neL g15.1.property rfl) (A3 (neL g15.1.property rfl) (A3 (neL g15.1.property rfl) (A3 (neL g15.1.property rfl) (A3 (neL g15.1.property rfl) (A3 (neL g15.1.property rfl) (A3 (neL g15.1.property rfl) (A3 (neL g15.1.property rfl) G_hit)))))))) (sg rfl (sg rfl (A9 (A3 rfl (A3 rfl (O2 g13.2 G_hit))) (.of rfl) (A9 G_hit (.of rfl) trivial))))))))) ?_
 refine lr (fun u57 hu57=>sp rfl rfl (sp rfl rfl (sp rfl rfl (sp rfl rfl (sl rfl G_hit rfl (sd rfl (F7 rfl) (sv rfl (A1 (js hy12 fun z5 hz5 hy12=>D5 (fun s=> ∃(y13:Unit) (g17:Unit),z5= .inl y13∧Sb ⟨T [],G [((6,u1),some (.box 25 [(di 0),(.d .nilS),(.d .nilS)])),((30,u7),some (.box 135 ((W6 p1)++ (K6 p2)++ [(di v2.Tick),(oS y2 (10060030,g2)),(oS y5 (85,g6)),(dl A4 p3),(oS x4 (g15.1.val,g15.2))]))),((1,u47),some (.box 133 [(.ptr (30,u7) 0)])),((1,g13.1),some (.box 133 [(.ptr (30,u7) 0)])),((1000000,u53),some (.obj (T [(1,(.ptr (1,u47) 0)),(5,(.fn (.func 174) [] [(.ptr (1,g13.1) 0)]))]) {r1 with state:= .busy})),((10060030,g2),oB 45 7 C0 y2),((85,g6),oB 127 4 F3 y5),((g15.1.val,g15.2),oB 77 6 A02 x4)]⟩ s) ?_ ?_)))))))))
 refine A8 (D9 (A5c p1 p2 p3 v2 y2 y5 x4 a1) (fun (x5:Int) (g18:Unit)=>⟨T [(0,(.ptr (30,u7) 0)),(1,(di a1.1)),(2,(di a1.2)),(22,(di (p1.Lanes.length:Int))),(23,(di x5))],G [((30,u7),some (.box 135 ((W6 p1)++ (K6 p2)++ [(di v2.Tick),(oS y2 (10060030,g2)),(oS y5 (85,g6)),(dl A4 p3),(oS x4 (g15.1.val,g15.2))]))),((6,u1),some (.box 25 [(di 0),(.d .nilS),(.d .nilS)])),((1,u47),some (.box 133 [(.ptr (30,u7) 0)])),((1,g13.1),some (.box 133 [(.ptr (30,u7) 0)])),((1000000,u53),some (.obj (T [(1,(.ptr (1,u47) 0)),(5,(.fn (.func 174) [] [(.ptr (1,g13.1) 0)]))]) {r1 with state:= .busy})),((10060030,g2),oB 45 7 C0 y2),((85,g6),oB 127 4 F3 y5),((g15.1.val,g15.2),oB 77 6 A02 x4)]⟩) 0 () _ hz5 (E0 ⟨.of rfl, .of rfl, .of rfl, .of rfl, .of rfl,trivial⟩ (A9 G_hit (.of rfl) (A9 (A3 rfl (A3 rfl (A3 rfl (A3 (neR g15.1.property rfl) G_hit)))) (.of rfl) (A9 (A3 rfl (A3 rfl (A3 rfl (A3 (neR g15.1.property rfl) (gq rfl))))) (.of rfl) (A9 (A3 rfl (A3 rfl (A3 rfl (A3 (neR g15.1.property rfl) (A3 rfl (O2 g13.2 G_hit)))))) (.of rfl) (A9 (A3 rfl (A3 rfl (A3 rfl (A3 (neR g15.1.property rfl) (gq rfl))))) (.of rfl) (B5 (gq rfl) (B5 (gq rfl) (B5 (A3 (neL g15.1.property rfl) (A3 (neL g15.1.property rfl) (A3 (neL g15.1.property rfl) G_hit))) trivial))))))))) ?_)
 intro x5 g18 z6 hz6 ez6
 unfold A5c at hz6
 refine lr (fun u58 hu58=>sv rfl (A1 (A6 (cc rfl hz6 (fun c9 hz6=> ?_) (fun c9 hz6=> ?_)))))
 refine B0 (A6 (A8 (lr (fun u59 hu59=>sv rfl (sv rfl (A1 (lr (fun u60 hu60=>sp rfl rfl (sv rfl (sv rfl (bs hz6 fun v13 hv13 hz6=>B1 rfl (B9 (V1 G_hit (rD (rD (rD (rD (rD (rD (rD (rD (rD (B9 (A1t (gq rfl)) (B9 (A1t (gq rfl)) (rD (B9 (A1t (A3 (neL g15.1.property rfl) (A3 (neL g15.1.property rfl) (A3 (neL g15.1.property rfl) (A3 (neL g15.1.property rfl) (A3 (neL g15.1.property rfl) (A3 (neL g15.1.property rfl) (A3 (neL g15.1.property rfl) G_hit)))))))) C5)))))))))))))) (rD (rD C5))) (.cons (DLe.bp (ca rfl (ca rfl (ca rfl (ca rfl (ca rfl (ca rfl (ca rfl (ca rfl (ca rfl (.cons ⟨A1s,rfl⟩ (.cons ⟨A1s,rfl⟩ (ca rfl (.cons ⟨A1s,rfl⟩ .nil)))))))))))))) (.cons (.refl _) A2)) (A2d _ _ _ _ hv13) (.inr rfl) (sv rfl (sv rfl (sv rfl (sv rfl (sv rfl (A1 (lr (fun u61 hu61=>sp rfl rfl (sv rfl (sv rfl (bs hz6 fun v14 hv14 hz6=>B1 rfl (B9 (V1 G_hit (rD (rD (rD (rD (rD (rD (rD (rD (rD (B9 (A1t (gq rfl)) (B9 (A1t (gq rfl)) (rD (B9 (A1t (A3 (neL g15.1.property rfl) (A3 (neL g15.1.property rfl) (A3 (neL g15.1.property rfl) (A3 (neL g15.1.property rfl) (A3 (neL g15.1.property rfl) (A3 (neL g15.1.property rfl) (A3 (neL g15.1.property rfl) G_hit)))))))) C5)))))))))))))) (rD (rD C5))) (.cons (DLe.bp (ca rfl (ca rfl (ca rfl (ca rfl (ca rfl (ca rfl (ca rfl (ca rfl (ca rfl (.cons ⟨A1s,rfl⟩ (.cons ⟨A1s,rfl⟩ (ca rfl (.cons ⟨A1s,rfl⟩ .nil)))))))))))))) (.cons (.refl _) A2)) (A2d _ _ _ _ hv14) (.inr rfl) (sv rfl (sv rfl (sv rfl (sv rfl (sv rfl (A1 (A6 (lr (fun u62 hu62=>sv rfl (C4 (.d (bo (!v13.2))) rfl rfl (sv rfl (gf rfl (fun _=>rfl) ?_))))))))))))))))))))))))))))))))))
 refine Q9 _ (.d (bo (!v14.2))) rfl (A0i rfl) (fun w2=>(by simp only [A5 w2];rfl)) ?_
 refine sd rfl (A32 rfl rfl (fun hc=>A5 (O3 hc))) (A1 (cc rfl hz6 (fun c10 hz6=> ?_) (fun c10 hz6=> ?_)))
 refine B3j rfl (D0 fun u63 hu63=>sv rfl (sv rfl (A1 (E3 ?_))))
 cases hz6
 exact ⟨rfl,(),(E0 ⟨.of rfl, .of rfl, .of rfl, .of rfl, .of rfl,trivial⟩ (A9 G_hit (.of rfl) (sg rfl (sg rfl (A9 (A3 rfl (A3 rfl (O2 g13.2 G_hit))) (.of rfl) (sg rfl (B5 (gq rfl) (B5 (gq rfl) (B5 (A3 (neL g15.1.property rfl) (A3 (neL g15.1.property rfl) (A3 (neL g15.1.property rfl) (A3 (neL g15.1.property rfl) (A3 (neL g15.1.property rfl) (A3 (neL g15.1.property rfl) (A3 (neL g15.1.property rfl) G_hit))))))) trivial)))))))))⟩
 refine B0 (lr (fun u64 hu64=>sv rfl (sv rfl (sv rfl (sv rfl (A1 (A6 (A6 (G5 rfl fun u65 hu65=>sp rfl rfl (sp rfl rfl (sp rfl rfl (sp rfl rfl (sl rfl G_hit rfl (sv rfl (bs hz6 fun v15 hv15 hz6=>sd rfl (E4 rfl rfl hv15 rfl) (sv rfl (sd rfl (F9 rfl hv15 rfl) (sv rfl (sv rfl (sp rfl rfl (sp rfl rfl (sp rfl rfl (sp rfl rfl (sl rfl G_hit rfl (sv rfl (bs hz6 fun v16 hv16 hz6=>sd rfl (E4 rfl rfl hv16 rfl) (sv rfl (sd rfl (F9 rfl hv16 rfl) (sv rfl (sv rfl (sv rfl (A1 (bs hz6 fun y14 hy14 hz6=>D5 (fun s=> ∃g19:Unit,Sb ⟨T [(0,(.ptr (30,u7) 0)),(1,(di a1.1)),(2,(di a1.2)),(6,(di x5)),(7,(di y14.1)),(9,(di y14.2.1)),(11,(di y14.2.2.1)),(12,(di y14.2.2.2)),(22,(di (p1.Lanes.length:Int))),(23,(di x5))],G [((30,u7),some (.box 135 ((W6 p1)++ (K6 p2)++ [(di v2.Tick),(oS y2 (10060030,g2)),(oS y5 (85,g6)),(dl A4 p3),(oS x4 (g15.1.val,g15.2))]))),((6,u1),some (.box 25 [(di 0),(.d .nilS),(.d .nilS)])),((1,u47),some (.box 133 [(.ptr (30,u7) 0)])),((1,g13.1),some (.box 133 [(.ptr (30,u7) 0)])),((1000000,u53),some (.obj (T [(1,(.ptr (1,u47) 0)),(5,(.fn (.func 174) [] [(.ptr (1,g13.1) 0)]))]) {r1 with state:= .busy})),((10060030,g2),oB 45 7 C0 y2),((85,g6),oB 127 4 F3 y5),((g15.1.val,g15.2),oB 77 6 A02 x4)]⟩ s) ?_ ?_)))))))))))))))))))))))))))))))))
 refine cc rfl hy14 (fun c11 hy14=> ?_) (fun c11 hy14=> ?_)
 refine D0 fun u66 hu66=>sv rfl (sv rfl (sv rfl (sv rfl (sv rfl (sv rfl (sv rfl (sv rfl (A1 ?_))))))))
 cases hy14
 exact l_j ⟨(),(E0 ⟨.of rfl, .of rfl, .of rfl, .of rfl, .of rfl, .of rfl, .of rfl, .of rfl, .of rfl, .of rfl,trivial⟩ (A9 G_hit (.of rfl) (sg rfl (sg rfl (A9 (A3 rfl (A3 rfl (O2 g13.2 G_hit))) (.of rfl) (sg rfl (B5 (gq rfl) (B5 (gq rfl) (B5 (A3 (neL g15.1.property rfl) (A3 (neL g15.1.property rfl) (A3 (neL g15.1.property rfl) (A3 (neL g15.1.property rfl) (A3 (neL g15.1.property rfl) (A3 (neL g15.1.property rfl) (A3 (neL g15.1.property rfl) G_hit))))))) trivial)))))))))⟩
 refine B0 ?_
 cases hy14
 exact l_j ⟨(),(E0 ⟨.of rfl, .of rfl, .of rfl, .of rfl, .of rfl, .of rfl, .of rfl, .of rfl, .of rfl, .of rfl,trivial⟩ (A9 G_hit (.of rfl) (sg rfl (sg rfl (A9 (A3 rfl (A3 rfl (O2 g13.2 G_hit))) (.of rfl) (sg rfl (B5 (gq rfl) (B5 (gq rfl) (B5 (A3 (neL g15.1.property rfl) (A3 (neL g15.1.property rfl) (A3 (neL g15.1.property rfl) (A3 (neL g15.1.property rfl) (A3 (neL g15.1.property rfl) (A3 (neL g15.1.property rfl) (A3 (neL g15.1.property rfl) G_hit))))))) trivial)))))))))⟩
 rintro _ ⟨g19,q6⟩
 refine B4 q6 (A6 (G5 rfl fun u67 hu67=>sp rfl rfl (sp rfl rfl (sp rfl rfl (sp rfl rfl (C4 (oS y2 (10060030,g2)) rfl (N8 rfl G_hit rfl) (sv rfl (bs hz6 fun v17 hv17 hz6=>C4 (.aptr _ _ _ _) rfl (C3k rfl rfl (gq rfl) hv17) (sd rfl (A8d rfl (B1c (gq rfl) (A9l hv17)) hv17 rfl rfl) (bs hz6 fun v18 hv18 hz6=>B1 rfl rfl A2 (A0k _ _ hv18) (.inl rfl) (sv rfl (bs hz6 fun v19 hv19 hz6=>B1 rfl rfl A2 (A05 _ _ _ hv19) (.inl rfl) (sp rfl rfl (sp rfl rfl (sp rfl rfl (sp rfl rfl (C4 (oS y2 (10060030,g2)) rfl (N8 rfl G_hit rfl) (sv rfl (bs hz6 fun v20 hv20 hz6=>C4 (.aptr _ _ _ _) rfl (C3k rfl rfl (gq rfl) hv20) (sd rfl (A8d rfl (B1c (gq rfl) (A9l hv20)) hv20 rfl rfl) (bs hz6 fun v21 hv21 hz6=>B1 rfl rfl A2 (A0k _ _ hv21) (.inl rfl) (sv rfl (bs hz6 fun v22 hv22 hz6=>B1 rfl rfl A2 (A05 _ _ _ hv22) (.inl rfl) (sn rfl rfl (sn rfl rfl (sst rfl (gq rfl) [(di v19.from_),(di v19.to)] rfl (sst rfl (gq rfl) [(di v22.from_),(di v22.to)] rfl (A1 (lr (fun u68 hu68=>sp rfl rfl (sp rfl rfl (sp rfl rfl (sp rfl rfl (sl rfl (gq rfl) rfl (sv rfl (bs hz6 fun v23 hv23 hz6=>sd rfl (E4 rfl rfl hv23 rfl) (sd rfl (C9 rfl hv23 rfl rfl) (bs hz6 fun v24 hv24 hz6=>B1 rfl rfl A2 (A0k _ _ hv24) (.inl rfl) (sv rfl (bs hz6 fun v25 hv25 hz6=>B1 rfl rfl A2 (A05 _ _ _ hv25) (.inl rfl) (sn rfl rfl (sst rfl G_hit [(di v25.from_),(di v25.to)] rfl (A1 (lr (fun u69 hu69=>sp rfl rfl (sp rfl rfl (sp rfl rfl ?_)))))))))))))))))))))))))))))))))))))))))))))))
 refine sd rfl (B2 rfl (gq rfl) rfl rfl) (sv rfl (bs hz6 fun v26 hv26 hz6=>B1 rfl rfl A2 (A4c _ _ _ hv26) (.inl rfl) (sv rfl (A1 (lr (fun u70 hu70=>sp rfl rfl (sl rfl (gq rfl) rfl (sv rfl (sv rfl (gp rfl (Q2 rfl) (fun _=>rfl) (gt rfl (vl rfl (gq rfl) rfl) (gt rfl (vb rfl rfl rfl) (sa rfl rfl rfl (sv rfl (gp rfl (Q2 rfl) (fun _=>rfl) (gt rfl (vl rfl G_hit rfl) (gt rfl (fun _=>rfl) (gt rfl (fun w9=>(Y6 (A5 w9) (A5 w9) rfl)) (sa rfl rfl rfl (sv rfl (gp rfl (Q2 rfl) (fun _=>rfl) (gt rfl (vl rfl (gq rfl) rfl) (gt rfl (fun _=>rfl) (gt rfl (fun w13=>(Y6 (A5 w13) (A5 w13) rfl)) (sa rfl rfl rfl (sv rfl (gp rfl (Q2 rfl) (fun _=>rfl) (gt rfl (vl rfl (gq rfl) rfl) (gp rfl (Q2 rfl) (fun _=>rfl) (gt rfl (vl rfl (gq rfl) rfl) (gt rfl (fun w18=>(Y6 (A5 w18) (A5 w18) rfl)) (sa rfl rfl rfl (A1 (cc rfl hz6 (fun c12 hz6=> ?_) (fun c12 hz6=> ?_)))))))))))))))))))))))))))))))))))
 refine A6 (B4 (s0:=⟨T [(0,(.ptr (30,u7) 0)),(1,(di a1.1)),(2,(di a1.2)),(6,(di x5)),(12,(di y14.2.2.2))],G [((30,u7),some (.box 135 ((W6 p1)++ (K6 p2)++ [(di v2.Tick),(oS y2 (10060030,g2)),(oS y5 (85,g6)),(dl A4 p3),(oS x4 (g15.1.val,g15.2))]))),((10060030,g2),oB 45 7 C0 y2),((85,g6),oB 127 4 F3 y5),((g15.1.val,g15.2),oB 77 6 A02 x4),((6,u1),some (.box 25 [(di 0),(.d .nilS),(.d .nilS)])),((1,u47),some (.box 133 [(.ptr (30,u7) 0)])),((1,g13.1),some (.box 133 [(.ptr (30,u7) 0)])),((1000000,u53),some (.obj (T [(1,(.ptr (1,u47) 0)),(5,(.fn (.func 174) [] [(.ptr (1,g13.1) 0)]))]) {r1 with state:= .busy}))]⟩) (E0 ⟨.of rfl, .of rfl, .of rfl, .of rfl, .of rfl,trivial⟩ (sg rfl (B5 (gq rfl) (B5 (gq rfl) (B5 (A3 (neL g15.1.property rfl) (A3 (neL g15.1.property rfl) (A3 (neL g15.1.property rfl) (A3 (neL g15.1.property rfl) (A3 (neL g15.1.property rfl) (A3 (neL g15.1.property rfl) (A3 (neL g15.1.property rfl) (A3 (neL g15.1.property rfl) (A3 (neL g15.1.property rfl) (A3 (neL g15.1.property rfl) (A3 (neL g15.1.property rfl) (A3 (neL g15.1.property rfl) (A3 (neL g15.1.property rfl) G_hit))))))))))))) (sg rfl (sg rfl (A9 (A3 rfl (A3 rfl (A3 rfl (A3 rfl (A3 rfl (A3 rfl (A3 rfl (A3 rfl (O2 g13.2 G_hit))))))))) (.of rfl) (sg rfl trivial))))))))) ?_)
 refine G5 rfl fun u71 hu71=>sp rfl rfl (sp rfl rfl (sp rfl rfl (sp rfl rfl (C4 (oS x4 (g15.1.val,g15.2)) rfl (N8 rfl G_hit rfl) (sp rfl rfl (sp rfl rfl (sp rfl rfl (sp rfl rfl (sl rfl G_hit rfl (sv rfl (sv rfl (sv rfl (sv rfl (C4 (dl A4 [y14.2.2.2]) rfl rfl (sv rfl (C4 (dl A02 [(Crash.mk p2.Tick a1.1 a1.2 x5 (-1) [y14.2.2.2])]) rfl rfl (bs hz6 fun v27 hv27 hz6=>S5 A02 (g15.1.val,g15.2) x4 (Crash.mk p2.Tick a1.1 a1.2 x5 (-1) [y14.2.2.2]) [] _ (M6 (fun _=>rfl)) rfl (A3 (neL g15.1.property rfl) (A3 (neL g15.1.property rfl) (A3 (neL g15.1.property rfl) G_hit))) hv27 (sp rfl rfl (sp rfl rfl (A7h _ _ _ _ _ rfl rfl rfl (A3 rfl (A3 (neR g15.1.property rfl) G_hit)) (nl rfl) ((W6 p1)++ (K6 p2)++ [(di v2.Tick),(oS y2 (10060030,g2)),(oS y5 (85,g6)),(dl A4 p3),(.sl (158,u71))]) rfl (A1 (B3 ?_))))))))))))))))))))))
 cases hz6
 obtain rfl:=ez6 _ rfl
 refine ⟨nofun,D3 ?_⟩
 rw [Sum.elim_inr]at hy12
 cases hy12
 exact B9p (.inr rfl) (C9r) (⟨158, .tail _ (.head _)⟩,u71) ⟨.of rfl, .of rfl, .of rfl,trivial⟩ (A9 (A3 rfl (A3 rfl (A3 (neR g15.1.property rfl) (A3 rfl (A3 rfl (A3 rfl (A3 (neR g15.1.property rfl) (gq rfl)))))))) (.of rfl) (A9 (A3 rfl (A3 rfl (A3 (neR g15.1.property rfl) (A3 rfl (A3 rfl (A3 rfl (A3 (neR g15.1.property rfl) G_hit))))))) (.of rfl) (A9 G_hit (.box (cv (cv (cv (cv (cv (cv (cv (cv (cv (cv (cv (cv (.cons (.of (A65 (A0r hv27)).symm) .nil)))))))))))))) (A9 (A3 rfl (A3 rfl (A3 (neR g15.1.property rfl) (A3 rfl (A3 rfl (A3 rfl (A3 (neR g15.1.property rfl) (A3 rfl (O2 g13.2 G_hit))))))))) (.of rfl) (A9 (A3 rfl (A3 rfl (A3 (neR g15.1.property rfl) (A3 rfl (A3 rfl (A3 rfl (A3 (neR g15.1.property rfl) (gq rfl)))))))) (.of rfl) (B5 (A3 rfl (A3 rfl (A3 (neR g15.1.property rfl) (gq rfl)))) (B5 (A3 rfl (A3 rfl (A3 (neR g15.1.property rfl) (gq rfl)))) (A1d (gq rfl) trivial))))))))
 refine B0 (F6 (B4 (s0:=⟨T [(0,(.ptr (30,u7) 0)),(1,(di a1.1)),(2,(di a1.2)),(22,(di (p1.Lanes.length:Int))),(23,(di x5))],G [((30,u7),some (.box 135 ((W6 p1)++ (K6 p2)++ [(di v2.Tick),(oS y2 (10060030,g2)),(oS y5 (85,g6)),(dl A4 p3),(oS x4 (g15.1.val,g15.2))]))),((10060030,g2),oB 45 7 C0 y2),((85,g6),oB 127 4 F3 y5),((g15.1.val,g15.2),oB 77 6 A02 x4),((6,u1),some (.box 25 [(di 0),(.d .nilS),(.d .nilS)])),((1,u47),some (.box 133 [(.ptr (30,u7) 0)])),((1,g13.1),some (.box 133 [(.ptr (30,u7) 0)])),((1000000,u53),some (.obj (T [(1,(.ptr (1,u47) 0)),(5,(.fn (.func 174) [] [(.ptr (1,g13.1) 0)]))]) {r1 with state:= .busy}))]⟩) (E0 ⟨.of rfl, .of rfl, .of rfl, .of rfl, .of rfl,trivial⟩ (sg rfl (B5 (gq rfl) (B5 (gq rfl) (B5 (A3 (neL g15.1.property rfl) (A3 (neL g15.1.property rfl) (A3 (neL g15.1.property rfl) (A3 (neL g15.1.property rfl) (A3 (neL g15.1.property rfl) (A3 (neL g15.1.property rfl) (A3 (neL g15.1.property rfl) (A3 (neL g15.1.property rfl) (A3 (neL g15.1.property rfl) (A3 (neL g15.1.property rfl) (A3 (neL g15.1.property rfl) (A3 (neL g15.1.property rfl) (A3 (neL g15.1.property rfl) G_hit))))))))))))) (sg rfl (sg rfl (A9 (A3 rfl (A3 rfl (A3 rfl (A3 rfl (A3 rfl (A3 rfl (A3 rfl (A3 rfl (O2 g13.2 G_hit))))))))) (.of rfl) (sg rfl trivial))))))))) ?_))
 refine D0 fun u72 hu72=>sv rfl (sv rfl (A1 (E3 ?_)))
 cases hz6
 exact ⟨rfl,(),(E0 ⟨.of rfl, .of rfl, .of rfl, .of rfl, .of rfl,trivial⟩ (A9 G_hit (.of rfl) (A9 (A3 rfl (A3 rfl (A3 rfl (A3 (neR g15.1.property rfl) G_hit)))) (.of rfl) (A9 (A3 rfl (A3 rfl (A3 rfl (A3 (neR g15.1.property rfl) (gq rfl))))) (.of rfl) (A9 (A3 rfl (A3 rfl (A3 rfl (A3 (neR g15.1.property rfl) (A3 rfl (O2 g13.2 G_hit)))))) (.of rfl) (A9 (A3 rfl (A3 rfl (A3 rfl (A3 (neR g15.1.property rfl) (gq rfl))))) (.of rfl) (B5 (gq rfl) (B5 (gq rfl) (B5 (A3 (neL g15.1.property rfl) (A3 (neL g15.1.property rfl) (A3 (neL g15.1.property rfl) G_hit))) trivial)))))))))⟩
 refine C6 rfl ?_
 cases hz6
 obtain rfl:=ez6 _ rfl
 refine ⟨nofun,C2 rfl (l_j ?_)⟩
 exact ⟨_,(),rfl,(E0 trivial (sg rfl (A9 G_hit (.of rfl) (sg rfl (A9 (A3 rfl (A3 rfl (O2 g13.2 G_hit))) (.of rfl) (sg rfl (B5 (gq rfl) (B5 (gq rfl) (B5 (A3 (neL g15.1.property rfl) (A3 (neL g15.1.property rfl) (A3 (neL g15.1.property rfl) (A3 (neL g15.1.property rfl) (A3 (neL g15.1.property rfl) (A3 (neL g15.1.property rfl) (A3 (neL g15.1.property rfl) G_hit))))))) trivial)))))))))⟩
 rintro _ ⟨y13,g17,rfl,q7⟩
 rw [Sum.elim_inl]at hy12
 refine E3 ?_
 obtain rfl:=(Option.some.inj hy12)
 exact B0l q7 (.inl rfl) (g15.1,g15.2) ⟨.of rfl, .of rfl, .of rfl,trivial⟩ (sg rfl (A9 G_hit (.of rfl) (sg rfl (A9 (A3 rfl (A3 rfl (O2 g13.2 G_hit))) (.of rfl) (sg rfl (B5 (gq rfl) (B5 (gq rfl) (B5 (A3 (neL g15.1.property rfl) (A3 (neL g15.1.property rfl) (A3 (neL g15.1.property rfl) (A3 (neL g15.1.property rfl) (A3 (neL g15.1.property rfl) (A3 (neL g15.1.property rfl) (A3 (neL g15.1.property rfl) G_hit))))))) trivial))))))))
 intro g16
 intro u73 hu73
 refine A1 (D0 fun u74 hu74=>sp rfl (N8 rfl G_hit rfl) (sv rfl (sv rfl (bs hz4 fun y15 hy15 hz4=>B3t (fk Tryz.func184 Tryz.ntmps184 (fun r=>if r==5 then [1002]else if r==6 then [1010]else if r==8 then [1001]else if r==10 then [1001]else if r==11 then [1015]else []) (by with_unfolding_all rfl)) (fun (g20:({d:Nat // d∈ [72,158]}×Nat))=> []) (fun (g20:({d:Nat // d∈ [72,158]}×Nat))=> [((6,u1),some (.box 25 [(di 0),(.d .nilS),(.d .nilS)])),((30,u7),some (.box 135 ((W6 p1)++ (K6 p2)++ [(di v2.Tick),(oS y2 (10060030,g2)),(oS y5 (85,g6)),(dl A4 p3),(oS y15 (g20.1.val,g20.2))]))),((1,u47),some (.box 133 [(.ptr (30,u7) 0)])),((1,g13.1),some (.box 133 [(.ptr (30,u7) 0)])),((1000000,u53),some (.obj (T [(1,(.ptr (1,u47) 0)),(5,(.fn (.func 174) [] [(.ptr (1,g13.1) 0)]))]) {r1 with state:= .busy})),((10060030,g2),oB 45 7 C0 y2),((85,g6),oB 127 4 F3 y5),((g20.1.val,g20.2),oB 77 6 A02 y15)]) rfl (nl rfl) ?_ ?_))))
 unfold A97 at hy15
 refine B4 (s0:=⟨T [(0,(.ptr (30,u7) 0)),(1,(di a1.1)),(2,(di a1.2))],G [((30,u7),some (.box 135 ((W6 p1)++ (K6 p2)++ [(di v2.Tick),(oS y2 (10060030,g2)),(oS y5 (85,g6)),(dl A4 p3),(oS y12 (g16.1.val,g16.2))]))),((10060030,g2),oB 45 7 C0 y2),((85,g6),oB 127 4 F3 y5),((g16.1.val,g16.2),oB 77 6 A02 y12),((6,u1),some (.box 25 [(di 0),(.d .nilS),(.d .nilS)])),((1,u47),some (.box 133 [(.ptr (30,u7) 0)])),((1,g13.1),some (.box 133 [(.ptr (30,u7) 0)])),((1000000,u53),some (.obj (T [(1,(.ptr (1,u47) 0)),(5,(.fn (.func 174) [] [(.ptr (1,g13.1) 0)]))]) {r1 with state:= .busy}))]⟩) (E0 ⟨.of rfl, .of rfl, .of rfl,trivial⟩ (sg rfl (B5 (gq rfl) (B5 (gq rfl) (B5 (A3 (neL g16.1.property rfl) (A3 (neL g16.1.property rfl) (A3 (neL g16.1.property rfl) (A3 (neL g16.1.property rfl) (A3 (neL g16.1.property rfl) (A3 (neL g16.1.property rfl) (A3 (neL g16.1.property rfl) G_hit))))))) (sg rfl (A9 G_hit (.of rfl) (A9 (O2 g13.2 (gq rfl)) (.of rfl) (sg rfl trivial))))))))) ?_
 refine lr (fun u75 hu75=>sp rfl rfl (sp rfl rfl (sp rfl rfl (sp rfl rfl (sl rfl G_hit rfl (sd rfl (F7 rfl) (sv rfl (A1 (bs hy15 fun y16 hy16 hy15=>D5 (fun s=> ∃g21:({d:Nat // d∈ [72,158]}×Nat),Sb ⟨T [],G [((6,u1),some (.box 25 [(di 0),(.d .nilS),(.d .nilS)])),((30,u7),some (.box 135 ((W6 p1)++ (K6 p2)++ [(di v2.Tick),(oS y2 (10060030,g2)),(oS y5 (85,g6)),(dl A4 p3),(oS y16 (g21.1.val,g21.2))]))),((1,u47),some (.box 133 [(.ptr (30,u7) 0)])),((1,g13.1),some (.box 133 [(.ptr (30,u7) 0)])),((1000000,u53),some (.obj (T [(1,(.ptr (1,u47) 0)),(5,(.fn (.func 174) [] [(.ptr (1,g13.1) 0)]))]) {r1 with state:= .busy})),((10060030,g2),oB 45 7 C0 y2),((85,g6),oB 127 4 F3 y5),((g21.1.val,g21.2),oB 77 6 A02 y16)]⟩ s) ?_ ?_)))))))))
 refine A8 (D9 (A5b p1 p2 p3 v2 y2 y5 a1) (fun (x6:(Int× (List Crash))) (g22:({d:Nat // d∈ [72,158]}×Nat))=>⟨T [(0,(.ptr (30,u7) 0)),(1,(di a1.1)),(2,(di a1.2)),(15,(di (p1.Zones.length:Int))),(16,(di x6.1))],G [((30,u7),some (.box 135 ((W6 p1)++ (K6 p2)++ [(di v2.Tick),(oS y2 (10060030,g2)),(oS y5 (85,g6)),(dl A4 p3),(oS x6.2 (g22.1.val,g22.2))]))),((6,u1),some (.box 25 [(di 0),(.d .nilS),(.d .nilS)])),((1,u47),some (.box 133 [(.ptr (30,u7) 0)])),((1,g13.1),some (.box 133 [(.ptr (30,u7) 0)])),((1000000,u53),some (.obj (T [(1,(.ptr (1,u47) 0)),(5,(.fn (.func 174) [] [(.ptr (1,g13.1) 0)]))]) {r1 with state:= .busy})),((10060030,g2),oB 45 7 C0 y2),((85,g6),oB 127 4 F3 y5),((g22.1.val,g22.2),oB 77 6 A02 x6.2)]⟩) (0,y12) (g16.1,g16.2) _ hy16 (E0 ⟨.of rfl, .of rfl, .of rfl, .of rfl, .of rfl,trivial⟩ (A9 G_hit (.of rfl) (A9 (A3 rfl (A3 rfl (A3 rfl (A3 (neR g16.1.property rfl) G_hit)))) (.of rfl) (A9 (A3 rfl (A3 rfl (A3 rfl (A3 (neR g16.1.property rfl) (gq rfl))))) (.of rfl) (A9 (A3 rfl (A3 rfl (A3 rfl (A3 (neR g16.1.property rfl) (A3 rfl (O2 g13.2 G_hit)))))) (.of rfl) (A9 (A3 rfl (A3 rfl (A3 rfl (A3 (neR g16.1.property rfl) (gq rfl))))) (.of rfl) (B5 (gq rfl) (B5 (gq rfl) (B5 (A3 (neL g16.1.property rfl) (A3 (neL g16.1.property rfl) (A3 (neL g16.1.property rfl) G_hit))) trivial))))))))) ?_)
 intro x6 g22 z7 hz7 ez7
 unfold A5b at hz7
 refine lr (fun u76 hu76=>sv rfl (A1 (A6 (cc rfl hz7 (fun c13 hz7=> ?_) (fun c13 hz7=> ?_)))))
 refine B0 (A6 (A8 (lr (fun u77 hu77=>sv rfl (sv rfl (A1 (A6 (lr (fun u78 hu78=>sp rfl rfl (sv rfl (sv rfl (sv rfl (bs hz7 fun v28 hv28 hz7=>B1 rfl (B9 (V1 G_hit (rD (rD (rD (rD (rD (rD (rD (rD (rD (B9 (A1t (gq rfl)) (B9 (A1t (gq rfl)) (rD (B9 (A1t (A3 (neL g22.1.property rfl) (A3 (neL g22.1.property rfl) (A3 (neL g22.1.property rfl) (A3 (neL g22.1.property rfl) (A3 (neL g22.1.property rfl) (A3 (neL g22.1.property rfl) (A3 (neL g22.1.property rfl) G_hit)))))))) C5)))))))))))))) (rD (rD (rD C5)))) (.cons (DLe.bp (ca rfl (ca rfl (ca rfl (ca rfl (ca rfl (ca rfl (ca rfl (ca rfl (ca rfl (.cons ⟨A1s,rfl⟩ (.cons ⟨A1s,rfl⟩ (ca rfl (.cons ⟨A1s,rfl⟩ .nil)))))))))))))) (.cons (.refl _) (.cons (.refl _) A2))) (A2c _ _ _ _ _ hv28) (.inr rfl) (C4 (.d (bo (!v28))) rfl rfl (A1 (cc rfl hz7 (fun c14 hz7=> ?_) (fun c14 hz7=> ?_)))))))))))))))))
 refine B3j rfl (D0 fun u79 hu79=>sv rfl (sv rfl (A1 (E3 ?_))))
 cases hz7
 exact ⟨rfl,(g22.1,g22.2),(E0 ⟨.of rfl, .of rfl, .of rfl, .of rfl, .of rfl,trivial⟩ (A9 G_hit (.of rfl) (sg rfl (sg rfl (A9 (A3 rfl (A3 rfl (O2 g13.2 G_hit))) (.of rfl) (sg rfl (B5 (gq rfl) (B5 (gq rfl) (B5 (A3 (neL g22.1.property rfl) (A3 (neL g22.1.property rfl) (A3 (neL g22.1.property rfl) (A3 (neL g22.1.property rfl) (A3 (neL g22.1.property rfl) (A3 (neL g22.1.property rfl) (A3 (neL g22.1.property rfl) G_hit))))))) trivial)))))))))⟩
 refine B0 (lr (fun u80 hu80=>sp rfl rfl (sv rfl (sv rfl (bs hz7 fun v29 hv29 hz7=>B1 rfl (B9 (V1 G_hit (rD (rD (rD (rD (rD (rD (rD (rD (rD (B9 (A1t (gq rfl)) (B9 (A1t (gq rfl)) (rD (B9 (A1t (A3 (neL g22.1.property rfl) (A3 (neL g22.1.property rfl) (A3 (neL g22.1.property rfl) (A3 (neL g22.1.property rfl) (A3 (neL g22.1.property rfl) (A3 (neL g22.1.property rfl) (A3 (neL g22.1.property rfl) G_hit)))))))) C5)))))))))))))) (rD (rD C5))) (.cons (DLe.bp (ca rfl (ca rfl (ca rfl (ca rfl (ca rfl (ca rfl (ca rfl (ca rfl (ca rfl (.cons ⟨A1s,rfl⟩ (.cons ⟨A1s,rfl⟩ (ca rfl (.cons ⟨A1s,rfl⟩ .nil)))))))))))))) (.cons (.refl _) A2)) (A2y _ _ _ _ hv29) (.inr rfl) (sp rfl rfl (sv rfl (sv rfl (bs hz7 fun v30 hv30 hz7=>B1 rfl (B9 (V1 G_hit (rD (rD (rD (rD (rD (rD (rD (rD (rD (B9 (A1t (gq rfl)) (B9 (A1t (gq rfl)) (rD (B9 (A1t (A3 (neL g22.1.property rfl) (A3 (neL g22.1.property rfl) (A3 (neL g22.1.property rfl) (A3 (neL g22.1.property rfl) (A3 (neL g22.1.property rfl) (A3 (neL g22.1.property rfl) (A3 (neL g22.1.property rfl) G_hit)))))))) C5)))))))))))))) (rD (rD C5))) (.cons (DLe.bp (ca rfl (ca rfl (ca rfl (ca rfl (ca rfl (ca rfl (ca rfl (ca rfl (ca rfl (.cons ⟨A1s,rfl⟩ (.cons ⟨A1s,rfl⟩ (ca rfl (.cons ⟨A1s,rfl⟩ .nil)))))))))))))) (.cons (.refl _) A2)) (A2y _ _ _ _ hv30) (.inr rfl) (sn rfl rfl (sn rfl rfl (sst rfl (gq rfl) (B50 v29) rfl (sst rfl (gq rfl) (B50 v30) rfl (A1 (lr (fun u81 hu81=>sv rfl (sv rfl (C4 (dl A4 [a1.1,a1.2]) rfl rfl (C4 (dl A4 [a1.1,a1.2]) rfl rfl (A1 (A6 (A6 (G5 rfl fun u82 hu82=>sp rfl rfl (sl rfl (gq rfl) rfl (sp rfl rfl (sl rfl G_hit rfl (bs hz7 fun v31 hv31 hz7=>B1 rfl rfl A2 (A03 _ _ _ hv31) (.inl rfl) (sp rfl rfl (sl rfl G_hit rfl (sp rfl rfl (sl rfl (gq rfl) rfl (bs hz7 fun v32 hv32 hz7=>B1 rfl rfl A2 (A3a _ _ _ hv32) (.inl rfl) (C4 (dl A4 [v31,v32]) rfl rfl (bs hz7 fun v33 hv33 hz7=>B1 rfl rfl A2 (A6g _ _ hv33) (.inl rfl) (A1 (bs hz7 fun y17 hy17 hz7=>D5 (fun s=> ∃g23:Unit,Sb ⟨T [(0,(.ptr (30,u7) 0)),(1,(di a1.1)),(2,(di a1.2)),(6,(di x6.1)),(9,(dl A4 y17)),(15,(di (p1.Zones.length:Int))),(16,(di x6.1))],G [((30,u7),some (.box 135 ((W6 p1)++ (K6 p2)++ [(di v2.Tick),(oS y2 (10060030,g2)),(oS y5 (85,g6)),(dl A4 p3),(oS x6.2 (g22.1.val,g22.2))]))),((6,u1),some (.box 25 [(di 0),(.d .nilS),(.d .nilS)])),((1,u47),some (.box 133 [(.ptr (30,u7) 0)])),((1,g13.1),some (.box 133 [(.ptr (30,u7) 0)])),((1000000,u53),some (.obj (T [(1,(.ptr (1,u47) 0)),(5,(.fn (.func 174) [] [(.ptr (1,g13.1) 0)]))]) {r1 with state:= .busy})),((10060030,g2),oB 45 7 C0 y2),((85,g6),oB 127 4 F3 y5),((g22.1.val,g22.2),oB 77 6 A02 x6.2)]⟩ s) ?_ ?_))))))))))))))))))))))))))))))))))))
 refine A8 (lr (fun u83 hu83=>sv rfl (sv rfl (A1 (cc rfl hy17 (fun c15 hy17=> ?_) (fun c15 hy17=> ?_))))))
 refine D0 fun u84 hu84=>sv rfl (C4 (dl A4 [a1.1]) rfl rfl (C4 (dl A4 [a1.1]) rfl rfl (A1 (F6 ?_))))
 cases hy17
 exact l_j ⟨(),(E0 ⟨.of rfl, .of rfl, .of rfl, .of rfl, .of rfl, .of rfl, .of rfl,trivial⟩ (sg rfl (sg rfl (sg rfl (A9 (A3 rfl (A3 rfl (A3 rfl (A3 rfl (A3 rfl (A3 rfl (O2 g13.2 G_hit))))))) (.of rfl) (sg rfl (B5 (gq rfl) (B5 (gq rfl) (B5 (A3 (neL g22.1.property rfl) (A3 (neL g22.1.property rfl) (A3 (neL g22.1.property rfl) (A3 (neL g22.1.property rfl) (A3 (neL g22.1.property rfl) (A3 (neL g22.1.property rfl) (A3 (neL g22.1.property rfl) (A3 (neL g22.1.property rfl) (A3 (neL g22.1.property rfl) (A3 (neL g22.1.property rfl) (A3 (neL g22.1.property rfl) G_hit))))))))))) trivial)))))))))⟩
 refine lr (fun u85 hu85=>sv rfl (sv rfl (A1 (cc rfl hy17 (fun c16 hy17=> ?_) (fun c16 hy17=> ?_)))))
 refine D0 fun u86 hu86=>sv rfl (C4 (dl A4 [a1.2]) rfl rfl (C4 (dl A4 [a1.2]) rfl rfl (A1 (F6 ?_))))
 cases hy17
 exact l_j ⟨(),(E0 ⟨.of rfl, .of rfl, .of rfl, .of rfl, .of rfl, .of rfl, .of rfl,trivial⟩ (sg rfl (sg rfl (sg rfl (A9 (A3 rfl (A3 rfl (A3 rfl (A3 rfl (A3 rfl (A3 rfl (O2 g13.2 G_hit))))))) (.of rfl) (sg rfl (B5 (gq rfl) (B5 (gq rfl) (B5 (A3 (neL g22.1.property rfl) (A3 (neL g22.1.property rfl) (A3 (neL g22.1.property rfl) (A3 (neL g22.1.property rfl) (A3 (neL g22.1.property rfl) (A3 (neL g22.1.property rfl) (A3 (neL g22.1.property rfl) (A3 (neL g22.1.property rfl) (A3 (neL g22.1.property rfl) (A3 (neL g22.1.property rfl) (A3 (neL g22.1.property rfl) G_hit))))))))))) trivial)))))))))⟩
 refine B0 (F6 ?_)
 cases hy17
 exact l_j ⟨(),(E0 ⟨.of rfl, .of rfl, .of rfl, .of rfl, .of rfl, .of rfl, .of rfl,trivial⟩ (sg rfl (sg rfl (sg rfl (A9 (A3 rfl (A3 rfl (A3 rfl (A3 rfl (A3 rfl (A3 rfl (O2 g13.2 G_hit))))))) (.of rfl) (sg rfl (B5 (gq rfl) (B5 (gq rfl) (B5 (A3 (neL g22.1.property rfl) (A3 (neL g22.1.property rfl) (A3 (neL g22.1.property rfl) (A3 (neL g22.1.property rfl) (A3 (neL g22.1.property rfl) (A3 (neL g22.1.property rfl) (A3 (neL g22.1.property rfl) (A3 (neL g22.1.property rfl) (A3 (neL g22.1.property rfl) (A3 (neL g22.1.property rfl) (A3 (neL g22.1.property rfl) G_hit))))))))))) trivial)))))))))⟩
 rintro _ ⟨g23,q8⟩
 refine B4 q8 (G5 rfl fun u87 hu87=>sp rfl rfl (sp rfl rfl (sp rfl rfl (sp rfl rfl (C4 (oS x6.2 (g22.1.val,g22.2)) rfl (N8 rfl G_hit rfl) (sp rfl rfl (sp rfl rfl (sp rfl rfl (sp rfl rfl (sl rfl G_hit rfl (sv rfl (sv rfl (sv rfl (sv rfl (sv rfl (C4 (dl A02 [(Crash.mk p2.Tick a1.1 a1.2 (-1) x6.1 y17)]) rfl rfl (bs hz7 fun v34 hv34 hz7=>S5 A02 (g22.1.val,g22.2) x6.2 (Crash.mk p2.Tick a1.1 a1.2 (-1) x6.1 y17) [] _ (M6 (fun _=>rfl)) rfl (A3 (neL g22.1.property rfl) (A3 (neL g22.1.property rfl) (A3 (neL g22.1.property rfl) (A3 (neL g22.1.property rfl) (A3 (neL g22.1.property rfl) (A3 (neL g22.1.property rfl) (A3 (neL g22.1.property rfl) G_hit))))))) hv34 (sp rfl rfl (sp rfl rfl (A7h _ _ _ _ _ rfl rfl rfl (A3 rfl (A3 (neR g22.1.property rfl) G_hit)) (nl rfl) ((W6 p1)++ (K6 p2)++ [(di v2.Tick),(oS y2 (10060030,g2)),(oS y5 (85,g6)),(dl A4 p3),(.sl (72,u87))]) rfl (A1 (F6 (D0 fun u88 hu88=>sv rfl (sv rfl (A1 (E3 ?_))))))))))))))))))))))))))
 cases hz7
 exact ⟨rfl,(⟨72, .head _⟩,u87),(E0 ⟨.of rfl, .of rfl, .of rfl, .of rfl, .of rfl,trivial⟩ (A9 G_hit (.box (cv (cv (cv (cv (cv (cv (cv (cv (cv (cv (cv (cv (.cons (.of (A65 (A0r hv34)).symm) .nil)))))))))))))) (A9 (A3 rfl (A3 rfl (A3 (neR g22.1.property rfl) (gq rfl)))) (.of rfl) (A9 (A3 rfl (A3 rfl (A3 (neR g22.1.property rfl) (gq rfl)))) (.of rfl) (A9 (A3 rfl (A3 rfl (A3 (neR g22.1.property rfl) (A3 rfl (A3 rfl (O2 g13.2 G_hit)))))) (.of rfl) (A9 (A3 rfl (A3 rfl (A3 (neR g22.1.property rfl) (gq rfl)))) (.of rfl) (B5 (A3 rfl (A3 rfl (A3 (neR g22.1.property rfl) (gq rfl)))) (B5 (A3 rfl (A3 rfl (A3 (neR g22.1.property rfl) (gq rfl)))) (A1d (gq rfl) trivial)))))))))⟩
 refine C6 rfl ?_
 cases hz7
 obtain rfl:=ez7 _ rfl
 refine ⟨nofun,C2 rfl (l_j ?_)⟩
 exact ⟨(g22.1,g22.2),(E0 trivial (sg rfl (A9 G_hit (.of rfl) (sg rfl (A9 (A3 rfl (A3 rfl (O2 g13.2 G_hit))) (.of rfl) (sg rfl (B5 (gq rfl) (B5 (gq rfl) (B5 (A3 (neL g22.1.property rfl) (A3 (neL g22.1.property rfl) (A3 (neL g22.1.property rfl) (A3 (neL g22.1.property rfl) (A3 (neL g22.1.property rfl) (A3 (neL g22.1.property rfl) (A3 (neL g22.1.property rfl) G_hit))))))) trivial)))))))))⟩
 rintro _ ⟨g21,q9⟩
 refine E3 ?_
 obtain rfl:=(Option.some.inj hy15)
 exact B0l q9 (.inl rfl) (g21.1,g21.2) trivial (A9 G_hit (.of rfl) (sg rfl (sg rfl (A9 (A3 rfl (A3 rfl (O2 g13.2 G_hit))) (.of rfl) (sg rfl (B5 (gq rfl) (B5 (gq rfl) (B5 (A3 (neL g21.1.property rfl) (A3 (neL g21.1.property rfl) (A3 (neL g21.1.property rfl) (A3 (neL g21.1.property rfl) (A3 (neL g21.1.property rfl) (A3 (neL g21.1.property rfl) (A3 (neL g21.1.property rfl) G_hit))))))) trivial))))))))
 intro g20
 intro u89 hu89
 refine A1 (F6 (E3 ?_))
 cases hz4
 exact C6e (gq rfl) (g20.1,g20.2) (sg rfl (A9 (A3 rfl (A3 rfl (O2 g13.2 G_hit))) (.of rfl) (A9 G_hit (.of rfl) (sg rfl (B5 (gq rfl) (B5 (gq rfl) (B5 (A3 (neL g20.1.property rfl) (A3 (neL g20.1.property rfl) (A3 (neL g20.1.property rfl) (A3 (neL g20.1.property rfl) (A3 (neL g20.1.property rfl) (A3 (neL g20.1.property rfl) (A3 (neL g20.1.property rfl) G_hit))))))) trivial)))))))
 rintro x4 g15 _ rfl qx4
 refine F6 (l_j ?_)
 exact ⟨(g15.1,g15.2),(Sb.after qx4 (E0 trivial (sg rfl (sg rfl (B5 (gq rfl) (B5 (gq rfl) (B5 (A3 (neL g15.1.property rfl) (A3 (neL g15.1.property rfl) (A3 (neL g15.1.property rfl) (A3 (neL g15.1.property rfl) (A3 (neL g15.1.property rfl) (A3 (neL g15.1.property rfl) G_hit)))))) trivial)))))))⟩
 rintro _ ⟨g14,q10⟩
 refine E3 ?_
 obtain rfl:=(Option.some.inj hy9)
 exact B0l q10 (.inl rfl) (g14.1,g14.2) ⟨.of rfl, .of rfl, .of rfl, .of rfl,trivial⟩ (A9 G_hit (.of rfl) (sg rfl (B5 (gq rfl) (B5 (gq rfl) (B5 (A3 (neL g14.1.property rfl) (A3 (neL g14.1.property rfl) (A3 (neL g14.1.property rfl) (A3 (neL g14.1.property rfl) G_hit)))) trivial)))))
 intro g12
 intro u90 hu90
 refine A1 (F6 (D0 fun u91 hu91=>sv rfl (sv rfl (A1 (B2w (lr (fun u92 hu92=>sv rfl (A1 (A6 (A7g rfl (B3j rfl ?_)))))))))))
 cases hy1
 exact l_j ⟨(g2,g6,(g12.1,g12.2)),(E0 ⟨.of rfl, .of rfl,trivial⟩ (A9 G_hit (.of rfl) (sg rfl (B5 (gq rfl) (B5 (gq rfl) (B5 (A3 (neL g12.1.property rfl) (A3 (neL g12.1.property rfl) (A3 (neL g12.1.property rfl) (A3 (neL g12.1.property rfl) G_hit)))) trivial))))))⟩
 rintro _ ⟨g1,q11⟩
 refine B4 q11 (lr (fun u93 hu93=>sp rfl rfl (sp rfl rfl (sp rfl rfl (sp rfl rfl (sl rfl (gq rfl) rfl (sv rfl (sp rfl rfl (sp rfl rfl (sp rfl rfl (sst rfl (gq rfl) ((W6 p1)++ (K6 p2)++ [(di (w64 (v2.Tick+1))),(oS y1.1 (10060030,g1.1)),(oS y1.2.1 (85,g1.2.1)),(dl A4 p3),(oS y1.2.2 (g1.2.2.1.val,g1.2.2.2))]) rfl (A1 (A6 (B6q fun u94 hu94=>A1e (.ptr _ _) rfl rfl (A1e (.ptr _ _) rfl rfl (A1e (.ptr _ _) rfl rfl (A1e (A07 [(di (w64 (v2.Tick+1))),(oS y1.1 (10060030,g1.1)),(oS y1.2.1 (85,g1.2.1))]) rfl (B2 rfl G_hit rfl rfl) (A1e (.ptr _ _) rfl rfl (A1e (.ptr _ _) rfl rfl (A1e (.ptr _ _) rfl rfl (A1e (oS y1.2.2 (g1.2.2.1.val,g1.2.2.2)) rfl (N8 rfl G_hit rfl) (B9k _ _ _ _ _ (X3 _) rfl rfl (gq rfl) (nl rfl) [(di (w64 (v2.Tick+1))),(oS y1.1 (10060030,g1.1)),(oS y1.2.1 (85,g1.2.1))] rfl (A1e (oS y1.2.2 (g1.2.2.1.val,g1.2.2.2)) rfl rfl (A1e (.d _) rfl rfl (C5k ⟨by first|rfl|((generalize g1.2.2.1=q0;rcases q0 with ⟨d0,_|⟨_,_|⟨_,h0⟩⟩⟩)<;>(generalize y1.2.2=z4;cases z4)<;>first|rfl|contradiction),?_⟩)))))))))))))))))))))))))
 refine B3 ?_
 cases h
 exact A7 (.inr rfl) (C3b (D4 rfl G_hit (nl rfl) rfl) (B6 rfl) (B6 rfl) (B0i (rD (B9 (A1t (gq rfl)) (B9 (A1t (gq rfl)) C5)))) (A1t (A3 (neL g1.2.2.1.property rfl) (A3 (neL g1.2.2.1.property rfl) (A3 (neL g1.2.2.1.property rfl) (A3 (neL g1.2.2.1.property rfl) (A3 (neL g1.2.2.1.property rfl) (A3 (neL g1.2.2.1.property rfl) G_hit))))))) D2) (.tup (.cons (.agg (ca rfl (.cons ⟨A1s,rfl⟩ (.cons ⟨A1s,rfl⟩ .nil)))) (.cons A1s A2)))
noncomputable def A1l:Option Bool:=
  (B3v).bind fun v1=>(A67 0 10000 1000).bind fun v2=>(A67 1 46000 1000).bind fun v3=>(B42 v1 [v2,v3]).bind fun v4=>cond (((v4.2 !=0)||((v4.1.In.length:Int) !=0))||((v4.1.Agents.length:Int) !=2)) (some false) ((B1n v1 v4.1 [50,(-90)]).bind fun v5=>((cond (((v5.2.2==0)&& ((v5.2.1.length:Int)==0))&& ((v5.1.Agents.length:Int)==2)) (D1 v5.1.Agents 0) (some default))).bind fun v6=>((cond ((((v5.2.2==0)&& ((v5.2.1.length:Int)==0))&& ((v5.1.Agents.length:Int)==2))&& (v6.S==11030)) (D1 v5.1.Agents 1) (some default))).bind fun v7=>((cond (((((v5.2.2==0)&& ((v5.2.1.length:Int)==0))&& ((v5.1.Agents.length:Int)==2))&& (v6.S==11030))&& (v7.V==910)) (A5q 100 30) (some default))).bind fun v8=>some ((((((v5.2.2==0)&& ((v5.2.1.length:Int)==0))&& ((v5.1.Agents.length:Int)==2))&& (v6.S==11030))&& (v7.V==910))&& (v8==120)))
theorem A98 (r:Bool)(h:A1l=some r):PCall Tryz.prog 21 [] (bo r):=by
 refine B8 (fk Tryz.func21 Tryz.ntmps21 (fun r=>if r==2 then [1003]else if r==5 then [1002]else []) (by with_unfolding_all rfl)) (nl rfl) ?_
 unfold A1l at h
 refine B4 (s0:=⟨T [],G []⟩) (sbr rfl rfl) ?_
 refine lr (fun u1 hu1=>sv rfl (A1 (lr (fun u2 hu2=>bs h fun v1 hv1 h=>B1 rfl rfl A2 (B8h _ hv1) (.inl rfl) (sn rfl rfl (sst rfl G_hit (W6 v1) rfl (A1 (A6 (G5 rfl fun u3 hu3=>sd rfl (B2 rfl G_hit rfl rfl) (bs h fun v2 hv2 h=>B1 rfl rfl A2 (A94 _ _ _ _ hv2) (.inl rfl) (bs h fun v3 hv3 h=>B1 rfl rfl A2 (A94 _ _ _ _ hv3) (.inl rfl) (C4 (dl C0 [v2,v3]) rfl (B8d C0 ([v2,v3]:List Agent) (fun _=>rfl) rfl rfl ⟨rfl,rfl,rfl,rfl,rfl,rfl,trivial⟩ (fun _=>rfl)) (bs h fun v4 hv4 h=>B1 rfl rfl A2 (B8j _ _ _ hv4) (.inl rfl) (sv rfl (sv rfl (sv rfl (sn rfl rfl (sst rfl G_hit (K6 v4.1) rfl (sv rfl (A1 (A6 (lr (fun u4 hu4=>sv rfl (sv rfl (sv rfl (gp rfl (A0i rfl) (fun _=>rfl) (gf rfl (vl rfl G_hit rfl) (gf rfl (fun w3=>(F7 (A5 w3))) (gf rfl (vb rfl rfl rfl) (sd rfl (A32 rfl rfl (fun hc=>A5 (O3 hc))) (sv rfl (gp rfl (A0i rfl) (fun _=>rfl) (gf rfl (vl rfl G_hit rfl) (gf rfl (fun w7=>(F7 (A5 w7))) (gf rfl (vb rfl rfl rfl) (sd rfl (A32 rfl rfl (fun hc=>A5 (O3 hc))) (A1 (cc rfl h (fun c1 h=> ?_) (fun c1 h=> ?_)))))))))))))))))))))))))))))))))))))))
 refine lr (fun u5 hu5=>sv rfl (A1 (B3 ?_)))
 cases h
 exact A7 (.inr rfl) (B7 (B6 rfl) D2) (.refl _)
 refine B0 (lr (fun u6 hu6=>sd rfl (B2 rfl (gq rfl) rfl rfl) (sd rfl (B2 rfl G_hit rfl rfl) (C4 (dl A4 [50,(-90)]) rfl rfl (bs h fun v5 hv5 h=>B1 rfl rfl A2 (B72 _ _ _ _ hv5) (.inl rfl) (sv rfl (sv rfl (sv rfl (sv rfl (sn rfl rfl (sst rfl G_hit (K6 v5.1) rfl (sv rfl (sv rfl (A1 (lr (fun u7 hu7=>sv rfl (sv rfl (sv rfl (gt rfl (fun _=>rfl) (gt rfl (fun w10=>(F7 (A5 w10))) (gt rfl (vb rfl rfl rfl) (sa rfl rfl rfl (sv rfl (gp rfl (Q2 rfl) (fun _=>rfl) (gt rfl (vl rfl G_hit rfl) (gt rfl (fun w14=>(F7 (A5 w14))) (gt rfl (vb rfl rfl rfl) (sa rfl rfl rfl (sv rfl (gp rfl (Q2 rfl) (fun _=>rfl) (gt rfl (vl rfl G_hit rfl) (bs h fun v6 hv6 h=>gt rfl (fun w18=>(E4 (A5 w18) rfl (C8 w18 hv6) rfl)) ?_))))))))))))))))))))))))))))))))
 refine gt rfl (fun w19=>(by simp only [A5 w19];rfl)) ?_
 refine gt rfl (fun w20=>(F9 (A5 w20) (C8 w20 hv6) rfl)) (gt rfl (vb rfl rfl rfl) (sa rfl rfl rfl (sv rfl (gp rfl (Q2 rfl) (fun _=>rfl) (gt rfl (vl rfl G_hit rfl) (bs h fun v7 hv7 h=>gt rfl (fun w24=>(E4 (A5 w24) rfl (C8 w24 hv7) rfl)) ?_))))))
 refine gt rfl (fun w25=>(by simp only [A5 w25];rfl)) ?_
 refine gt rfl (fun w26=>(F9 (A5 w26) (C8 w26 hv7) rfl)) (gt rfl (vb rfl rfl rfl) (sa rfl rfl rfl (sv rfl (bs h fun v8 hv8 h=>N6 _ (i64 v8) (Q2 rfl) (fun w28=>⟨_,_,_,_,rfl,rfl,A2,A6m _ _ _ (C8 w28 hv8),(.inl rfl)⟩) (gt rfl (vb rfl rfl rfl) (sa rfl rfl rfl (sv rfl (A1 (B3 ?_)))))))))
 cases h
 exact A7 (.inr rfl) (B7 (B6 rfl) D2) (.refl _)
noncomputable def A0o (p1:State):Option (Agent×Bool):=
  cond ((p1.Agents.length:Int)==0) (some ((Agent.mk [] 0 0 0 0 false false),false)) ((D1 p1.Agents 0).bind fun v1=>some (v1,((decide ((mm2 false v1.V v1.S)≥0))&& (decide ((mm2 true v1.V v1.S)≤1099511627776)))))
theorem A73 (p1:State)(r:(Agent×Bool))(h:A0o p1=some r):PCall Tryz.prog 104 [(.agg (V2 p1))] (.tup [(.agg (C0 r.1)),(bo r.2)]):=by
 refine B8 (fk Tryz.func104 Tryz.ntmps104 m0 (by with_unfolding_all rfl)) (nl rfl) ?_
 unfold A0o at h
 refine B4 (s0:=⟨T [(0,(.d _))],G []⟩) (sbr rfl rfl) ?_
 refine lr (fun u1 hu1=>sn rfl rfl (sn rfl rfl (sv rfl (A1 (A6 (lr (fun u2 hu2=>sp rfl rfl (sl rfl (gq rfl) rfl (sd rfl (F7 rfl) (sv rfl (A1 (cc rfl h (fun c1 h=> ?_) (fun c1 h=> ?_)))))))))))))
 refine lr (fun u3 hu3=>sv rfl (sst rfl G_hit ([(.d .nilS)]++ (zs 4)++ [(.d (bo false)),(.d (bo false))]) rfl (sv rfl (A1 (B3 ?_)))))
 cases h
 exact A7 (.inr rfl) (B0g (D4 rfl G_hit (nl rfl) rfl) (B6 rfl) D2 D2) (.tup (.cons (.agg (.cons ⟨DLe.nil,rfl⟩ (cz rfl))) A2))
 refine B0 (lr (fun u4 hu4=>sp rfl rfl (sl rfl (gq rfl) rfl (bs h fun v1 hv1 h=>sd rfl (E4 rfl rfl hv1 rfl) (sd rfl (C9 rfl hv1 rfl rfl) (sn rfl rfl (sst rfl G_hit (S7 v1) rfl (A1 (A6 (B6q fun u5 hu5=>A1e (.d _) rfl (B2 rfl G_hit rfl rfl) (A1e (.ptr _ _) rfl rfl (A1e (.d _) rfl (N8 rfl G_hit rfl) (A1e (.ptr _ _) rfl rfl (A1e (.d _) rfl (N8 rfl G_hit rfl) (A1e (.d _) rfl rfl (A1e (.d _) rfl rfl (A1e (.d _) rfl rfl (B60 (decide ((mm2 false v1.V v1.S)≥0)) (.ptr _ _) rfl (Q2 rfl) (fun _=>rfl) (B60 (decide ((mm2 false v1.V v1.S)≥0)) (.d _) rfl (Q2 rfl) (vl rfl G_hit rfl) (B60 (decide ((mm2 false v1.V v1.S)≥0)) (.ptr _ _) rfl (Q2 rfl) (fun _=>rfl) (B60 (decide ((mm2 false v1.V v1.S)≥0)) (.d _) rfl (Q2 rfl) (vl rfl G_hit rfl) ?_)))))))))))))))))))))
 refine B60 (decide ((mm2 false v1.V v1.S)≥0)) (.d _) rfl (Q2 rfl) (fun w5=>(by simp only [A5 w5];rfl)) ?_
 refine B60 (decide ((mm2 false v1.V v1.S)≥0)) (.d _) rfl (Q2 rfl) (vb rfl rfl rfl) (A1e (.d _) rfl (C5j rfl (fun hc=>A5 hc) rfl) (B9k _ _ _ _ _ rfl rfl rfl (gq rfl) (nl rfl) (S7 v1) rfl (A1e (.d _) rfl rfl (C5k ⟨rfl,?_⟩))))
 refine B3 ?_
 cases h
 exact A7 (.inr rfl) (B0g (D4 rfl G_hit (nl rfl) rfl) (B6 rfl) D2 D2) (.refl _)
noncomputable def A5s (p1:Int)(p2:Int):Option Int:=
  (C0p p1 p2).bind fun v1=>(C0p (w64 (v1+p2)) p2).bind fun v2=>some v2
theorem B1w (p1:Int)(p2:Int)(r:Int)(h:A5s p1 p2=some r):PCall Tryz.prog 105 [(i64 p1),(i64 p2)] (i64 r):=by
 refine B8 (fk Tryz.func105 Tryz.ntmps105 m0 (by with_unfolding_all rfl)) (nl rfl) ?_
 unfold A5s at h
 refine B4 (s0:=⟨T [(0,(.d _)),(1,(.d _))],G []⟩) (sbr rfl rfl) ?_
 refine lr (fun u1 hu1=>sv rfl (A1 (lr (fun u2 hu2=>sv rfl (sv rfl (bs h fun v1 hv1 h=>sd rfl (C23 rfl rfl hv1) (sv rfl (sv rfl (sv rfl (bs h fun v2 hv2 h=>sd rfl (C23 rfl rfl hv2) (sv rfl (A1 (B3 ?_)))))))))))))
 cases h
 exact A7 (.inr rfl) (B7 (B6 rfl) D2) (.refl _)
noncomputable def A4g (p1:State)(p2:Int):Option Mark:=
  (A0o p1).bind fun v1=>cond (!v1.2) (some (Mark.mk 0 0 0)) ((A5s p2 7).bind fun v2=>some (Mark.mk p1.Tick (mm2 true 0 (w64 ((w64 ((w64 (v1.1.V+v2)) - 3)) - 3))) (w64 ((w64 ((w64 (v1.1.V+v2)) - 3))+3))))
theorem B56 (p1:State)(p2:Int)(r:Mark)(h:A4g p1 p2=some r):PCall Tryz.prog 47 [(.agg (V2 p1)),(i64 p2)] (.agg (C28 r)):=by
 refine B8 (fk Tryz.func47 Tryz.ntmps47 m0 (by with_unfolding_all rfl)) (nl rfl) ?_
 unfold A4g at h
 refine B4 (s0:=⟨T [(0,(.d _)),(1,(.d _))],G []⟩) (sbr rfl rfl) ?_
 refine lr (fun u1 hu1=>sn rfl rfl (sn rfl rfl (A1 (lr (fun u2 hu2=>sd rfl (B2 rfl (gq rfl) rfl rfl) (bs h fun v1 hv1 h=>B1 rfl rfl A2 (A73 _ _ hv1) (.inl rfl) (sv rfl (sv rfl (sv rfl (sn rfl rfl (sst rfl G_hit (S7 v1.1) rfl (sv rfl (A1 (A6 (lr (fun u3 hu3=>sv rfl (C4 (.d (bo (!v1.2))) rfl rfl (A1 (cc rfl h (fun c1 h=> ?_) (fun c1 h=> ?_))))))))))))))))))))
 refine lr (fun u4 hu4=>sv rfl (sst rfl (gq rfl) [(di 0),(di 0),(di 0)] rfl (A1 (B3 ?_))))
 cases h
 exact A7 (.inr rfl) (B7 (D4 rfl G_hit (nl rfl) rfl) D2) (.refl _)
 refine B0 (A6 (G5 rfl fun u5 hu5=>sp rfl rfl (sl rfl G_hit rfl (sv rfl (bs h fun v2 hv2 h=>B1 rfl rfl A2 (B1w _ _ _ hv2) (.inl rfl) (sv rfl (sv rfl (sv rfl (A1 (lr (fun u6 hu6=>sp rfl rfl (sl rfl (gq rfl) rfl (sv rfl (sv rfl (sv rfl (sv rfl (sv rfl (sv rfl (sst rfl (gq rfl) [(di p1.Tick),(di (mm2 true 0 (w64 ((w64 ((w64 (v1.1.V+v2)) - 3)) - 3)))),(di (w64 ((w64 ((w64 (v1.1.V+v2)) - 3))+3)))] rfl (A1 (B3 ?_)))))))))))))))))))))
 cases h
 exact A7 (.inr rfl) (B7 (D4 rfl G_hit (nl rfl) rfl) D2) (.refl _)
noncomputable def Z1 (p1:State):Option Bool:=
  cond ((p1.Agents.length:Int)==0) (some false) ((D1 p1.Agents 0).bind fun v1=>some ((((decide (v1.V≥0))&& (decide (v1.V≤1099511627776)))&& (decide (v1.S≥0)))&& (decide (v1.S≤1099511627776))))
theorem A5t (p1:State)(r:Bool)(h:Z1 p1=some r):PCall Tryz.prog 106 [(.agg (V2 p1))] (bo r):=by
 refine B8 (fk Tryz.func106 Tryz.ntmps106 m0 (by with_unfolding_all rfl)) (nl rfl) ?_
 unfold Z1 at h
 refine B4 (s0:=⟨T [(0,(.d _))],G []⟩) (sbr rfl rfl) ?_
 refine lr (fun u1 hu1=>sn rfl rfl (sv rfl (A1 (A6 (lr (fun u2 hu2=>sp rfl rfl (sl rfl G_hit rfl (sd rfl (F7 rfl) (sv rfl (A1 (cc rfl h (fun c1 h=> ?_) (fun c1 h=> ?_))))))))))))
 refine lr (fun u3 hu3=>sv rfl (A1 (B3 ?_)))
 cases h
 exact A7 (.inr rfl) (B7 (B6 rfl) D2) (.refl _)
 refine B0 (lr (fun u4 hu4=>sp rfl rfl (sl rfl G_hit rfl (bs h fun v1 hv1 h=>sd rfl (E4 rfl rfl hv1 rfl) (sd rfl (C9 rfl hv1 rfl rfl) (sn rfl rfl (sst rfl G_hit (S7 v1) rfl (A1 (lr (fun u5 hu5=>sp rfl rfl (sl rfl G_hit rfl (sv rfl (sv rfl (gp rfl (Q2 rfl) (fun _=>rfl) (gt rfl (vl rfl G_hit rfl) (gt rfl (vb rfl rfl rfl) (sa rfl rfl rfl (sv rfl (gp rfl (Q2 rfl) (fun _=>rfl) (gt rfl (vl rfl G_hit rfl) (gt rfl (vb rfl rfl rfl) (sa rfl rfl rfl (sv rfl (gp rfl (Q2 rfl) (fun _=>rfl) (gt rfl (vl rfl G_hit rfl) (gt rfl (vb rfl rfl rfl) (sa rfl rfl rfl (sv rfl (A1 (B3 ?_))))))))))))))))))))))))))))))
 cases h
 exact A7 (.inr rfl) (B7 (B6 rfl) D2) (.refl _)
noncomputable def A5u (p1:Int)(p2:Int):Option Int:=
  (C0p p1 p2).bind fun v1=>cond (decide (v1<0)) (some (w64 (v1+p2))) (some v1)
theorem B1x (p1:Int)(p2:Int)(r:Int)(h:A5u p1 p2=some r):PCall Tryz.prog 107 [(i64 p1),(i64 p2)] (i64 r):=by
 refine B8 (fk Tryz.func107 Tryz.ntmps107 m0 (by with_unfolding_all rfl)) (nl rfl) ?_
 unfold A5u at h
 refine B4 (s0:=⟨T [(0,(.d _)),(1,(.d _))],G []⟩) (sbr rfl rfl) ?_
 refine lr (fun u1 hu1=>sv rfl (A1 (lr (fun u2 hu2=>sv rfl (sv rfl (bs h fun v1 hv1 h=>sd rfl (C23 rfl rfl hv1) (sv rfl (A1 (A6 (lr (fun u3 hu3=>sv rfl (sv rfl (A1 (cc rfl h (fun c1 h=> ?_) (fun c1 h=> ?_)))))))))))))))
 refine D0 fun u4 hu4=>sv rfl (sv rfl (sv rfl (sv rfl (A1 (lr (fun u5 hu5=>sv rfl (sv rfl (A1 (B3 ?_)))))))))
 cases h
 exact A7 (.inr rfl) (B7 (B6 rfl) D2) (.refl _)
 refine B0 (lr (fun u6 hu6=>sv rfl (sv rfl (A1 (B3 ?_)))))
 cases h
 exact A7 (.inr rfl) (B7 (B6 rfl) D2) (.refl _)
noncomputable def A4h (p1:State)(p2:Int):Option Mark:=
  (Z1 p1).bind fun v1=>cond (!v1) (some (Mark.mk 0 0 0)) ((D1 p1.Agents 0).bind fun v2=>(A5u p2 7).bind fun v3=>some (Mark.mk p1.Tick (mm2 true 0 (w64 ((w64 ((w64 (v2.V+v3)) - 3)) - 3))) (w64 ((w64 ((w64 (v2.V+v3)) - 3))+3))))
theorem B57 (p1:State)(p2:Int)(r:Mark)(h:A4h p1 p2=some r):PCall Tryz.prog 48 [(.agg (V2 p1)),(i64 p2)] (.agg (C28 r)):=by
 refine B8 (fk Tryz.func48 Tryz.ntmps48 m0 (by with_unfolding_all rfl)) (nl rfl) ?_
 unfold A4h at h
 refine B4 (s0:=⟨T [(0,(.d _)),(1,(.d _))],G []⟩) (sbr rfl rfl) ?_
 refine lr (fun u1 hu1=>sn rfl rfl (sn rfl rfl (A1 (A6 (lr (fun u2 hu2=>sd rfl (B2 rfl (gq rfl) rfl rfl) (bs h fun v1 hv1 h=>B1 rfl rfl A2 (A5t _ _ hv1) (.inl rfl) (C4 (.d (bo (!v1))) rfl rfl (A1 (cc rfl h (fun c1 h=> ?_) (fun c1 h=> ?_)))))))))))
 refine lr (fun u3 hu3=>sv rfl (sst rfl G_hit [(di 0),(di 0),(di 0)] rfl (A1 (B3 ?_))))
 cases h
 exact A7 (.inr rfl) (B7 (D4 rfl G_hit (nl rfl) rfl) D2) (.refl _)
 refine B0 (A6 (G5 rfl fun u4 hu4=>sp rfl rfl (sl rfl (gq rfl) rfl (bs h fun v2 hv2 h=>sd rfl (E4 rfl rfl hv2 rfl) (sv rfl (sd rfl (F9 rfl hv2 rfl) (sv rfl (bs h fun v3 hv3 h=>B1 rfl rfl A2 (B1x _ _ _ hv3) (.inl rfl) (sv rfl (sv rfl (sv rfl (A1 (lr (fun u5 hu5=>sp rfl rfl (sl rfl (gq rfl) rfl (sv rfl (sv rfl (sv rfl (sv rfl (sv rfl (sv rfl (sst rfl G_hit [(di p1.Tick),(di (mm2 true 0 (w64 ((w64 ((w64 (v2.V+v3)) - 3)) - 3)))),(di (w64 ((w64 ((w64 (v2.V+v3)) - 3))+3)))] rfl (A1 (B3 ?_))))))))))))))))))))))))
 cases h
 exact A7 (.inr rfl) (B7 (D4 rfl G_hit (nl rfl) rfl) D2) (.refl _)
noncomputable def A7u (p1:State)(p2:Int):Option Mark:=
  (A0o p1).bind fun v1=>cond (!v1.2) (some (Mark.mk 0 0 0)) ((A5s p2 401).bind fun v2=>some (Mark.mk p1.Tick (w64 ((w64 ((w64 (v1.1.S+v2)) - 200)) - 200)) (w64 ((w64 ((w64 (v1.1.S+v2)) - 200))+200))))
theorem B8n (p1:State)(p2:Int)(r:Mark)(h:A7u p1 p2=some r):PCall Tryz.prog 49 [(.agg (V2 p1)),(i64 p2)] (.agg (C28 r)):=by
 refine B8 (fk Tryz.func49 Tryz.ntmps49 m0 (by with_unfolding_all rfl)) (nl rfl) ?_
 unfold A7u at h
 refine B4 (s0:=⟨T [(0,(.d _)),(1,(.d _))],G []⟩) (sbr rfl rfl) ?_
 refine lr (fun u1 hu1=>sn rfl rfl (sn rfl rfl (A1 (lr (fun u2 hu2=>sd rfl (B2 rfl (gq rfl) rfl rfl) (bs h fun v1 hv1 h=>B1 rfl rfl A2 (A73 _ _ hv1) (.inl rfl) (sv rfl (sv rfl (sv rfl (sn rfl rfl (sst rfl G_hit (S7 v1.1) rfl (sv rfl (A1 (A6 (lr (fun u3 hu3=>sv rfl (C4 (.d (bo (!v1.2))) rfl rfl (A1 (cc rfl h (fun c1 h=> ?_) (fun c1 h=> ?_))))))))))))))))))))
 refine lr (fun u4 hu4=>sv rfl (sst rfl (gq rfl) [(di 0),(di 0),(di 0)] rfl (A1 (B3 ?_))))
 cases h
 exact A7 (.inr rfl) (B7 (D4 rfl G_hit (nl rfl) rfl) D2) (.refl _)
 refine B0 (A6 (G5 rfl fun u5 hu5=>sp rfl rfl (sl rfl G_hit rfl (sv rfl (bs h fun v2 hv2 h=>B1 rfl rfl A2 (B1w _ _ _ hv2) (.inl rfl) (sv rfl (sv rfl (sv rfl (A1 (lr (fun u6 hu6=>sp rfl rfl (sl rfl (gq rfl) rfl (sv rfl (sv rfl (sv rfl (sv rfl (sv rfl (sst rfl (gq rfl) [(di p1.Tick),(di (w64 ((w64 ((w64 (v1.1.S+v2)) - 200)) - 200))),(di (w64 ((w64 ((w64 (v1.1.S+v2)) - 200))+200)))] rfl (A1 (B3 ?_))))))))))))))))))))
 cases h
 exact A7 (.inr rfl) (B7 (D4 rfl G_hit (nl rfl) rfl) D2) (.refl _)
noncomputable def A7v (p1:State)(p2:Int):Option Mark:=
  (Z1 p1).bind fun v1=>cond (!v1) (some (Mark.mk 0 0 0)) ((D1 p1.Agents 0).bind fun v2=>(A5u p2 401).bind fun v3=>some (Mark.mk p1.Tick (w64 ((w64 ((w64 (v2.S+v3)) - 200)) - 200)) (w64 ((w64 ((w64 (v2.S+v3)) - 200))+200))))
theorem B8o (p1:State)(p2:Int)(r:Mark)(h:A7v p1 p2=some r):PCall Tryz.prog 50 [(.agg (V2 p1)),(i64 p2)] (.agg (C28 r)):=by
 refine B8 (fk Tryz.func50 Tryz.ntmps50 m0 (by with_unfolding_all rfl)) (nl rfl) ?_
 unfold A7v at h
 refine B4 (s0:=⟨T [(0,(.d _)),(1,(.d _))],G []⟩) (sbr rfl rfl) ?_
 refine lr (fun u1 hu1=>sn rfl rfl (sn rfl rfl (A1 (A6 (lr (fun u2 hu2=>sd rfl (B2 rfl (gq rfl) rfl rfl) (bs h fun v1 hv1 h=>B1 rfl rfl A2 (A5t _ _ hv1) (.inl rfl) (C4 (.d (bo (!v1))) rfl rfl (A1 (cc rfl h (fun c1 h=> ?_) (fun c1 h=> ?_)))))))))))
 refine lr (fun u3 hu3=>sv rfl (sst rfl G_hit [(di 0),(di 0),(di 0)] rfl (A1 (B3 ?_))))
 cases h
 exact A7 (.inr rfl) (B7 (D4 rfl G_hit (nl rfl) rfl) D2) (.refl _)
 refine B0 (A6 (G5 rfl fun u4 hu4=>sp rfl rfl (sl rfl (gq rfl) rfl (bs h fun v2 hv2 h=>sd rfl (E4 rfl rfl hv2 rfl) (sv rfl (sd rfl (F9 rfl hv2 rfl) (sv rfl (bs h fun v3 hv3 h=>B1 rfl rfl A2 (B1x _ _ _ hv3) (.inl rfl) (sv rfl (sv rfl (sv rfl (A1 (lr (fun u5 hu5=>sp rfl rfl (sl rfl (gq rfl) rfl (sv rfl (sv rfl (sv rfl (sv rfl (sv rfl (sst rfl G_hit [(di p1.Tick),(di (w64 ((w64 ((w64 (v2.S+v3)) - 200)) - 200))),(di (w64 ((w64 ((w64 (v2.S+v3)) - 200))+200)))] rfl (A1 (B3 ?_)))))))))))))))))))))))
 cases h
 exact A7 (.inr rfl) (B7 (D4 rfl G_hit (nl rfl) rfl) D2) (.refl _)
noncomputable def A19 (p1:State)(p2:Int):Option Bool:=
  (A3v p1).bind fun v1=>cond (!v1) ((A1l).bind fun v2=>some v2) ((A4g p1 p2).bind fun v3=>(A4h p1 p2).bind fun v4=>((cond (v3.Stamp==v4.Stamp&& (v3.Lo==v4.Lo&& (v3.Hi==v4.Hi&&true))) (A7u p1 p2) (some default))).bind fun v5=>((cond (v3.Stamp==v4.Stamp&& (v3.Lo==v4.Lo&& (v3.Hi==v4.Hi&&true))) (A7v p1 p2) (some default))).bind fun v6=>((cond ((v3.Stamp==v4.Stamp&& (v3.Lo==v4.Lo&& (v3.Hi==v4.Hi&&true)))&& (v5.Stamp==v6.Stamp&& (v5.Lo==v6.Lo&& (v5.Hi==v6.Hi&&true)))) (A1l) (some default))).bind fun v7=>some (((v3.Stamp==v4.Stamp&& (v3.Lo==v4.Lo&& (v3.Hi==v4.Hi&&true)))&& (v5.Stamp==v6.Stamp&& (v5.Lo==v6.Lo&& (v5.Hi==v6.Hi&&true))))&&v7))
theorem A9v (p1:State)(p2:Int)(r:Bool)(h:A19 p1 p2=some r):PCall Tryz.prog 12 [(.agg (V2 p1)),(i64 p2)] (bo r):=by
 refine B8 (fk Tryz.func12 Tryz.ntmps12 m0 (by with_unfolding_all rfl)) (nl rfl) ?_
 unfold A19 at h
 refine B4 (s0:=⟨T [(0,(.d _)),(1,(.d _))],G []⟩) (sbr rfl rfl) ?_
 refine lr (fun u1 hu1=>sn rfl rfl (sv rfl (A1 (A6 (lr (fun u2 hu2=>sd rfl (B2 rfl G_hit rfl rfl) (bs h fun v1 hv1 h=>B1 rfl rfl A2 (B51 _ _ hv1) (.inl rfl) (C4 (.d (bo (!v1))) rfl rfl (A1 (cc rfl h (fun c1 h=> ?_) (fun c1 h=> ?_)))))))))))
 refine lr (fun u3 hu3=>bs h fun v2 hv2 h=>B1 rfl rfl A2 (A98 _ hv2) (.inl rfl) (sv rfl (A1 (B3 ?_))))
 cases h
 exact A7 (.inr rfl) (B7 (B6 rfl) D2) (.refl _)
 refine B0 (A6 (G5 rfl fun u4 hu4=>sd rfl (B2 rfl G_hit rfl rfl) (sv rfl (bs h fun v3 hv3 h=>B1 rfl rfl A2 (B56 _ _ _ hv3) (.inl rfl) (sd rfl (B2 rfl G_hit rfl rfl) (sv rfl (bs h fun v4 hv4 h=>B1 rfl rfl A2 (B57 _ _ _ hv4) (.inl rfl) (C4 (.d (bo (v3.Stamp==v4.Stamp&& (v3.Lo==v4.Lo&& (v3.Hi==v4.Hi&&true))))) rfl rfl (sv rfl (gt rfl (fun w1=>(B2 rfl G_hit rfl rfl)) (gt rfl (fun _=>rfl) (bs h fun v5 hv5 h=> ?_))))))))))))
 refine N6 _ (.agg (C28 v5)) (Q2 rfl) (fun w3=>⟨_,[(.d (.agg (V2 p1))),(di p2)],_,_,(by simp only [A5 w3];rfl),rfl,A2,B8n _ _ _ (C8 w3 hv5),(.inl rfl)⟩) ?_
 refine gt rfl (fun w4=>(B2 rfl G_hit rfl rfl)) (gt rfl (fun _=>rfl) (bs h fun v6 hv6 h=> ?_))
 refine N6 _ (.agg (C28 v6)) (Q2 rfl) (fun w6=>⟨_,[(.d (.agg (V2 p1))),(di p2)],_,_,(by simp only [A5 w6];rfl),rfl,A2,B8o _ _ _ (C8 w6 hv6),(.inl rfl)⟩) ?_
 refine Q9 _ (.d (bo (v5.Stamp==v6.Stamp&& (v5.Lo==v6.Lo&& (v5.Hi==v6.Hi&&true))))) rfl (Q2 rfl) (fun w7=>(by simp only [A5 w7];rfl)) ?_
 refine sa rfl rfl rfl (sv rfl (bs h fun v7 hv7 h=>N6 _ (bo v7) (Q2 rfl) (fun w8=>⟨_,_,_,_,rfl,rfl,A2,A98 _ (C8 w8 hv7),(.inl rfl)⟩) (sa rfl rfl rfl (sv rfl (A1 (B3 ?_))))))
 cases h
 exact A7 (.inr rfl) (B7 (B6 rfl) D2) (.refl _)
end Go.Abs.World
