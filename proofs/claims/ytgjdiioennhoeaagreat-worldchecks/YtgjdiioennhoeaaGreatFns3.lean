/-
  The functions, part 3.
-/
import Derived.Test.YtgjdiioennhoeaaGreatFns2
set_option maxRecDepth 20000
set_option maxHeartbeats 4000000
set_option linter.unusedVariables false
namespace Go.Abs.World
open Go Go.Abs Go.Proofs
attribute [local irreducible] X8 B3m AWL
noncomputable def A8n (p1:Map)(p2:Int)(p3:Int)(v1:Zone)(x2:((List Int)×Int)):Option (Stp ((List Int)×Int) (List Int)):=
  cond (decide (x2.2< (v1.Parts.length:Int))) ((D6 v1.Parts x2.2).bind fun v2=>((cond (v2.Lane_==p2) (D6 p1.Signals (w64 (v1.Signal_ - 1))) (some default))).bind fun v3=>((cond (v2.Lane_==p2) (A80 v3 p2 p3) (some default))).bind fun v4=>cond ((v2.Lane_==p2)&& (!v4)) ((A8h x2.1 [v2.From]).bind fun v5=>some (.go (v5,(w64 (x2.2+1))))) (some (.go (x2.1,(w64 (x2.2+1)))))) (some (.out x2.1))
noncomputable def A8o (p1:Map)(p2:Int)(p3:Int)(x1:((List Int)×Int)):Option (Stp ((List Int)×Int) (List Int)):=
  cond (decide (x1.2< (p1.Zones.length:Int))) ((D6 p1.Zones x1.2).bind fun v1=>cond (v1.Signal_==0) (some (.go (x1.1,(w64 (x1.2+1))))) ((loop (A8n p1 p2 p3 v1) (x1.1,0)).bind fun y2=>some (.go (y2,(w64 (x1.2+1)))))) (some (.out x1.1))
noncomputable def B44 (p1:Map)(p2:Int)(p3:Int):Option (List Int):=
  (loop (A8o p1 p2 p3) ([],0)).bind fun y1=>cond (List.isEmpty y1) ((W2).bind fun v8=>some []) ((W1 y1).bind fun v6=>(B95 v6).bind fun v7=>some v7)
theorem C4v (p1:Map)(p2:Int)(p3:Int)(r:(List Int))(h:B44 p1 p2 p3=some r):PCall Tryz.prog 223 [(.agg (A4h p1)),(i64 p2),(i64 p3)] (.list (List.map A5 r)):=by
 refine B8 (fk Tryz.func223 Tryz.ntmps223 (fun r=>if r==10 then [1003]else if r==13 then [1013001]else if r==14 then [1014001]else []) (by with_unfolding_all rfl)) (nl rfl) ?_
 unfold B44 at h
 refine B5 (s0:=⟨T [(0,(.d _)),(1,(.d _)),(2,(.d _))],G []⟩) (sbr rfl rfl) ?_
 refine lr (fun u1 hu1=>sn rfl rfl (sv rfl (A1 (lr (fun u2 hu2=>sv rfl (A1 (A6 (lr (fun u3 hu3=>sp rfl rfl (sl rfl G_hit rfl (sd rfl (E5 rfl) (sv rfl (A1 (bs h fun y1 hy1 h=>E0 (fun s=> ∃g1:Nat,Sb ⟨T [(7,(oS y1 (50,g1)))],G [((50,g1),oB 2 1 A5 y1)]⟩ s) ?_ ?_))))))))))))))
 refine A8 (E7 (A8o p1 p2 p3) (fun (x1:((List Int)×Int)) (g2:Nat)=>⟨T [(1,(di p2)),(2,(di p3)),(3,(.ptr (3,u1) 0)),(7,(oS x1.1 (50,g2))),(13,(dl A7r p1.Zones)),(14,(di (p1.Zones.length:Int))),(15,(di x1.2))],G [((3,u1),some (.box 33 (A0i p1))),((50,g2),oB 2 1 A5 x1.1)]⟩) ([],0) 0 _ hy1 (G8 ⟨.of rfl, .of rfl, .of rfl, .of rfl, .of rfl, .of rfl, .of rfl,trivial⟩ (B0 G_hit (.of rfl) (Y3 trivial))) ?_)
 intro x1 g2 z1 hz1 ez1
 unfold A8o at hz1
 refine lr (fun u4 hu4=>sv rfl (A1 (A6 (cc rfl hz1 (fun c1 hz1=> ?_) (fun c1 hz1=> ?_)))))
 refine A9 (A6 (A8 (lr (fun u5 hu5=>bs hz1 fun v1 hv1 hz1=>sd rfl (E4 rfl rfl hv1 rfl) (sd rfl (C4 rfl hv1 rfl rfl) (sn rfl rfl (sst rfl G_hit [(dl A6b v1.Parts),(di v1.Signal_)] rfl (A1 (A6 (lr (fun u6 hu6=>sp rfl rfl (sl rfl G_hit rfl (sv rfl (A1 (cc rfl hz1 (fun c2 hz1=> ?_) (fun c2 hz1=> ?_))))))))))))))))
 refine B9t rfl (D0 fun u7 hu7=>sv rfl (sv rfl (A1 (G3 ?_))))
 cases hz1
 exact ⟨rfl,g2,(G8 ⟨.of rfl, .of rfl, .of rfl, .of rfl, .of rfl, .of rfl, .of rfl,trivial⟩ (sg rfl (B7 (gq rfl) trivial)))⟩
 refine A9 (lr (fun u8 hu8=>sp rfl rfl (sl rfl G_hit rfl (sd rfl (E5 rfl) (sv rfl (A1 (bs hz1 fun y2 hy2 hz1=>E0 (fun s=> ∃g3:Nat,Sb ⟨T [(1,(di p2)),(2,(di p3)),(3,(.ptr (3,u1) 0)),(7,(oS y2 (50,g3))),(13,(dl A7r p1.Zones)),(14,(di (p1.Zones.length:Int))),(15,(di x1.2))],G [((3,u1),some (.box 33 (A0i p1))),((50,g3),oB 2 1 A5 y2)]⟩ s) ?_ ?_)))))))
 refine A8 (E7 (A8n p1 p2 p3 v1) (fun (x2:((List Int)×Int)) (g4:Nat)=>⟨T [(1,(di p2)),(2,(di p3)),(3,(.ptr (3,u1) 0)),(7,(oS x2.1 (50,g4))),(9,(.ptr (9,u5) 0)),(13,(dl A7r p1.Zones)),(14,(di (p1.Zones.length:Int))),(15,(di x1.2)),(23,(dl A6b v1.Parts)),(24,(di (v1.Parts.length:Int))),(25,(di x2.2))],G [((3,u1),some (.box 33 (A0i p1))),((9,u5),some (.box 117 [(dl A6b v1.Parts),(di v1.Signal_)])),((50,g4),oB 2 1 A5 x2.1)]⟩) (x1.1,0) g2 _ hy2 (G8 ⟨.of rfl, .of rfl, .of rfl, .of rfl, .of rfl, .of rfl, .of rfl, .of rfl, .of rfl, .of rfl, .of rfl,trivial⟩ (sg rfl (B0 G_hit (.of rfl) (B7 (gq rfl) trivial)))) ?_)
 intro x2 g4 z2 hz2 ez2
 unfold A8n at hz2
 refine lr (fun u9 hu9=>sv rfl (A1 (A6 (cc rfl hz2 (fun c3 hz2=> ?_) (fun c3 hz2=> ?_)))))
 refine A9 (A6 (A8 (lr (fun u10 hu10=>bs hz2 fun v2 hv2 hz2=>sd rfl (E4 rfl rfl hv2 rfl) (sd rfl (C4 rfl hv2 rfl rfl) (sn rfl rfl (sst rfl G_hit (C62 v2) rfl (A1 (lr (fun u11 hu11=>sp rfl rfl (sl rfl G_hit rfl (sv rfl (sv rfl (sv rfl (gp rfl (A19 rfl) (fun _=>rfl) (gt rfl (vl rfl (gq rfl) rfl) (gp rfl (A19 rfl) (fun _=>rfl) (gt rfl (vl rfl (gq rfl) rfl) (gt rfl (vb rfl rfl rfl) (bs hz2 fun v3 hv3 hz2=>gt rfl (fun w6=>(E4 (A3 w6) (A3 w6) (C7 w6 hv3) rfl)) (gt rfl (fun w7=>(C4 (A3 w7) (C7 w7 hv3) rfl rfl)) (gt rfl (fun _=>rfl) (gt rfl (fun _=>rfl) (bs hz2 fun v4 hv4 hz2=> ?_))))))))))))))))))))))))
 refine U8 _ (bo v4) (A19 rfl) (fun w10=>⟨_,[(.d (.agg [(i64 v3.Offset),(.list (List.map A5q v3.Phases))])),(di p2),(di p3)],_,_,(by simp only [A3 w10];rfl),rfl,A2,B59 _ _ _ _ (C7 w10 hv4),(.inl rfl)⟩) ?_
 refine Z7 _ (.d (bo (!v4))) rfl (A19 rfl) (fun w11=>(by simp only [A3 w11];rfl)) ?_
 refine sa rfl rfl rfl (A1 (cc rfl hz2 (fun c4 hz2=> ?_) (fun c4 hz2=> ?_)))
 refine D0 fun u12 hu12=>B9 (oS x2.1 (50,g4)) rfl rfl (sp rfl rfl (sl rfl G_hit rfl (B9 (dl A5 [v2.From]) rfl rfl (bs hz2 fun v5 hv5 hz2=>X0 A5 (50,g4) x2.1 v2.From [] _ (O2 (fun _=>rfl)) rfl (gq rfl) hv5 (ss rfl (A1 (F9 (D0 fun u13 hu13=>sv rfl (sv rfl (A1 (G3 ?_)))))))))))
 cases hz2
 exact ⟨rfl,u12,(G8 ⟨.of rfl, .of rfl, .of rfl,(.of (A2r (A18 hv5)).symm), .of rfl, .of rfl, .of rfl, .of rfl, .of rfl, .of rfl, .of rfl,trivial⟩ (sg rfl (sg rfl (T1 G_hit trivial))))⟩
 refine A9 (F9 (D0 fun u14 hu14=>sv rfl (sv rfl (A1 (G3 ?_)))))
 cases hz2
 exact ⟨rfl,g4,(G8 ⟨.of rfl, .of rfl, .of rfl, .of rfl, .of rfl, .of rfl, .of rfl, .of rfl, .of rfl, .of rfl, .of rfl,trivial⟩ (sg rfl (sg rfl (B7 (gq rfl) trivial))))⟩
 refine C3 rfl ?_
 cases hz2
 obtain rfl:=ez2 _ rfl
 refine ⟨nofun,C0 rfl (l_j ?_)⟩
 exact ⟨g4,(G8 ⟨.of rfl, .of rfl, .of rfl, .of rfl, .of rfl, .of rfl, .of rfl,trivial⟩ (B0 G_hit (.of rfl) (B7 (gq rfl) trivial)))⟩
 rintro _ ⟨g3,q1⟩
 refine F9 (B5 q1 (D0 fun u15 hu15=>sv rfl (sv rfl (A1 (G3 ?_)))))
 cases hz1
 exact ⟨rfl,g3,(G8 ⟨.of rfl, .of rfl, .of rfl, .of rfl, .of rfl, .of rfl, .of rfl,trivial⟩ (B0 G_hit (.of rfl) (B7 (gq rfl) trivial)))⟩
 refine C3 rfl ?_
 cases hz1
 obtain rfl:=ez1 _ rfl
 refine ⟨nofun,C0 rfl (l_j ?_)⟩
 exact ⟨g2,(G8 ⟨.of rfl,trivial⟩ (B7 (gq rfl) trivial))⟩
 rintro _ ⟨g1,q2⟩
 refine B5 q2 (A6 ?_)
 rcases C4q h with ⟨e1,h⟩|⟨e1,h⟩
 refine B5 (s0:=⟨T [(7,(.d .nilS))],G []⟩) (G8 ⟨.of (D4r e1),trivial⟩ trivial) ?_
 refine D0 fun u19 hu19=>sv rfl (bs h fun v8 hv8 h=>C9f (v:= .d (.tup [])) (us:= []) (D8r [] _ rfl rfl A2 (A9k _ hv8) rfl rfl) (A1 (lr (fun u20 hu20=>sv rfl (C9f (v:= .d .nilS) (us:= []) (D8r [] _ rfl rfl A2 D6h rfl rfl) (sv rfl (A1 (B3 ?_))))))))
 cases h
 exact A7 (.inr rfl) (B6 (B4 rfl) E1) DLe.nil
 refine B5 (s0:=⟨T [(7,(.sl (50,g1)))],G [((50,g1),some (.arr 2 1 (List.map A5 y1)))]⟩) (G8 ⟨.of (A2r e1),trivial⟩ (B0 (B7k G_hit e1) (.of rfl) trivial)) ?_
 refine D0 fun u17 hu17=>ss rfl (bs h fun v6 hv6 h=>C9f (v:= .d (.tup [])) (us:= [(50,g1)]) (D21 (A9j _ _ hv6) [(50,g1)] [(50,g1)] _ (((50,g1),some (.arr 2 1 (List.map A5 v6)))::_) rfl A9z (A1a C4n B6n) (A71 G_hit A70) ⟨⟨_,G_hit, .of rfl⟩,trivial⟩ (fun _ h=>h) nd1 rfl rfl rfl) (A1 (lr (fun u18 hu18=>ss rfl (bs h fun v7 hv7 h=>C9f (v:= .sl (10140010,u18)) (us:= [(50,g1),(10140010,u18)]) (D21 (D90 _ _ hv7) [(50,g1)] [(50,g1)] _ (((10140010,u18),some (.arr 2 1 (List.map A5 v7)))::((50,g1),none)::_) rfl A9z (A1a C4n B6n) (A71 G_hit A70) ⟨⟨_,G_hit, .of rfl⟩,trivial⟩ (fun _ h=>h) nd1 rfl rfl rfl) (ss rfl (A1 (B3 ?_))))))))
 cases h
 exact A7 (.inr rfl) (B6 (B4 rfl) (D0a G_hit)) (.refl _)
noncomputable def B45 (p1:Map)(p2:Int)(p3:Int):Option (List Int):=
  ((cond (!(decide (p3<0))) (B31 p1 p2) (some default))).bind fun v1=>cond ((decide (p3<0))||(!v1)) (some []) ((B44 p1 p2 p3).bind fun v2=>some v2)
theorem C4w (p1:Map)(p2:Int)(p3:Int)(r:(List Int))(h:B45 p1 p2 p3=some r):PCall Tryz.prog 180 [(.agg (A4h p1)),(i64 p2),(i64 p3)] (.list (List.map A5 r)):=by
 refine B8 (fk Tryz.func180 Tryz.ntmps180 m0 (by with_unfolding_all rfl)) (nl rfl) ?_
 unfold B45 at h
 refine B5 (s0:=⟨T [(0,(.d _)),(1,(.d _)),(2,(.d _))],G []⟩) (sbr rfl rfl) ?_
 refine lr (fun u1 hu1=>sn rfl rfl (sv rfl (A1 (A6 (lr (fun u2 hu2=>sv rfl (sv rfl (sv rfl (gf rfl (fun w1=>(B2 rfl G_hit rfl rfl)) (gf rfl (fun _=>rfl) (bs h fun v1 hv1 h=> ?_)))))))))))
 refine U8 _ (bo v1) (T8 rfl) (fun w3=>⟨_,[(.d (.agg (A4h p1))),(di p2)],_,_,(by simp only [A3 w3];rfl),rfl,A2,B5t _ _ _ (C7 w3 hv1),(.inl rfl)⟩) ?_
 refine Z7 _ (.d (bo (!v1))) rfl (T8 rfl) (fun w4=>(by simp only [A3 w4];rfl)) ?_
 refine sd rfl (A0u rfl rfl (fun hc=>A3 (L6 hc))) (A1 (cc rfl h (fun c1 h=> ?_) (fun c1 h=> ?_)))
 refine lr (fun u3 hu3=>sv rfl (A1 (B3 ?_)))
 cases h
 exact A7 (.inr rfl) (B6 (B4 rfl) E1) DLe.nil
 refine A9 (lr (fun u4 hu4=>sd rfl (B2 rfl G_hit rfl rfl) (sv rfl (sv rfl (bs h fun v2 hv2 h=>B1 rfl rfl A2 (C4v _ _ _ _ hv2) (.inl rfl) (sv rfl (A1 (B3 ?_))))))))
 cases h
 exact A7 (.inr rfl) (B6 (B4 rfl) E1) (.refl _)
noncomputable def A1s (p1:Int)(p2:Agent)(p3:Int):Option Int:=
  some (mm2 true 0 (mm2 false (w64 (p2.V+p1)) p3))
theorem B0d (p1:Int)(p2:Agent)(p3:Int)(r:Int)(h:A1s p1 p2 p3=some r):PCall Tryz.prog 179 [(i64 p1),(.bp (D2 p2) 0),(.bp [(i64 p3)] 0)] (i64 r):=by
 refine B8 (fk Tryz.func179 Tryz.ntmps179 m0 (by with_unfolding_all rfl)) (nl rfl) ?_
 unfold A1s at h
 refine B5 (s0:=⟨T [(0,(.d _)),(1,(.d _)),(2,(.d _))],G []⟩) (sbr rfl rfl) ?_
 refine lr (fun u1 hu1=>sv rfl (A1 (lr (fun u2 hu2=>sv rfl (sv rfl (sv rfl (sv rfl (sv rfl (sv rfl (sv rfl (sv rfl (A1 (B3 ?_)))))))))))))
 cases h
 exact A7 (.inr rfl) (B6 (B4 rfl) E1) (.refl _)
noncomputable def A81 (p1:Int)(p2:Int):Option Int:=
  cond ((decide (p1<1))||(decide (p2<1))) (some 0) ((D7q .i64 (w64 ((mm2 false p1 1000000) - 1)) (mm2 false p2 1000000)).bind fun v1=>some (w64 ((w64 (v1* (mm2 false p1 1000000))) - (w64 ((mm2 false p2 1000000)* (w64 ((w64 (v1* (w64 (v1+1)))).tdiv 2)))))))
theorem B33 (p1:Int)(p2:Int)(r:Int)(h:A81 p1 p2=some r):PCall Tryz.prog 41 [(i64 p1),(i64 p2)] (i64 r):=by
 refine B8 (fk Tryz.func41 Tryz.ntmps41 m0 (by with_unfolding_all rfl)) (nl rfl) ?_
 unfold A81 at h
 refine B5 (s0:=⟨T [(0,(.d _)),(1,(.d _))],G []⟩) (sbr rfl rfl) ?_
 refine lr (fun u1 hu1=>sv rfl (A1 (A6 (lr (fun u2 hu2=>sv rfl (sv rfl (sv rfl (gf rfl (fun _=>rfl) (gf rfl (vb rfl rfl rfl) (sd rfl (A0u rfl rfl (fun hc=>A3 (L6 hc))) (A1 (cc rfl h (fun c1 h=> ?_) (fun c1 h=> ?_)))))))))))))
 refine lr (fun u3 hu3=>sv rfl (A1 (B3 ?_)))
 cases h
 exact A7 (.inr rfl) (B6 (B4 rfl) E1) (.refl _)
 refine A9 (lr (fun u4 hu4=>sv rfl (sv rfl (sv rfl (sv rfl (sv rfl (sv rfl (A1 (lr (fun u5 hu5=>sv rfl (sv rfl (sv rfl (bs h fun v1 hv1 h=>sd rfl (D8o rfl rfl hv1) (sv rfl (A1 (lr (fun u6 hu6=>sv rfl (sv rfl (sv rfl (sv rfl (sv rfl (sv rfl (sv rfl (sv rfl (sv rfl (sv rfl (sv rfl (sv rfl (A1 (B3 ?_))))))))))))))))))))))))))))))
 cases h
 exact A7 (.inr rfl) (B6 (B4 rfl) E1) (.refl _)
noncomputable def A0a (p1:Int)(p2:Int)(p3:Int)(p4:Int)(p5:Int):Option Bool:=
  ((cond (decide (p1>p2)) (A81 p3 p4) (some default))).bind fun v1=>((cond ((decide (p1>p2))&& (decide ((w64 (p2+v1))<p1))) (A81 p5 p4) (some default))).bind fun v2=>some (((decide (p1>p2))&& (decide ((w64 (p2+v1))<p1)))&& (decide ((w64 ((w64 (p2+p5))+v2))≥p1)))
theorem B2g (p1:Int)(p2:Int)(p3:Int)(p4:Int)(p5:Int)(r:Bool)(h:A0a p1 p2 p3 p4 p5=some r):PCall Tryz.prog 225 [(i64 p1),(.bp [(i64 p2)] 0),(.bp [(i64 p3)] 0),(.bp [(i64 p4)] 0),(.bp [(i64 p5)] 0)] (bo r):=by
 refine B8 (fk Tryz.func225 Tryz.ntmps225 m0 (by with_unfolding_all rfl)) (nl rfl) ?_
 unfold A0a at h
 refine B5 (s0:=⟨T [(0,(.d _)),(1,(.d _)),(2,(.d _)),(3,(.d _)),(4,(.d _))],G []⟩) (sbr rfl rfl) ?_
 refine lr (fun u1 hu1=>sv rfl (A1 (A6 (I6 rfl fun u2 hu2=>sv rfl (sv rfl (sv rfl (sv rfl (gt rfl (fun _=>rfl) (gt rfl (fun _=>rfl) (gt rfl (fun _=>rfl) (bs h fun v1 hv1 h=> ?_)))))))))))
 refine U8 _ (i64 v1) (A19 rfl) (fun w4=>⟨_,[(di p3),(di p4)],_,_,(by simp only [A3 w4];rfl),rfl,A2,B33 _ _ _ (C7 w4 hv1),(.inl rfl)⟩) ?_
 refine gt rfl (fun w5=>(V8 (A3 w5) (A3 w5) rfl)) (gt rfl (fun _=>rfl) (gt rfl (fun w7=>(V8 (A3 w7) (A3 w7) rfl)) (sa rfl rfl rfl (sv rfl (gt rfl (fun _=>rfl) (gt rfl (fun _=>rfl) (gt rfl (fun w10=>(V8 (A3 w10) (A3 w10) rfl)) (gt rfl (fun _=>rfl) (gt rfl (fun _=>rfl) (bs h fun v2 hv2 h=> ?_))))))))))
 refine U8 _ (i64 v2) (A19 rfl) (fun w13=>⟨_,[(di p5),(di p4)],_,_,(by simp only [A3 w13];rfl),rfl,A2,B33 _ _ _ (C7 w13 hv2),(.inl rfl)⟩) ?_
 refine gt rfl (fun w14=>(V8 (A3 w14) (A3 w14) rfl)) (gt rfl (fun _=>rfl) (gt rfl (fun w16=>(V8 (A3 w16) (A3 w16) rfl)) (sa rfl rfl rfl (sv rfl (A1 (B3 ?_))))))
 cases h
 exact A7 (.inr rfl) (B6 (B4 rfl) E1) (.refl _)
noncomputable def F7 (p1:(List Int))(p2:Int)(p3:Int)(p4:Int)(p5:Int)(x1:Int):Option (Stp Int (Sum Unit Int)):=
  cond (decide (x1< (p1.length:Int))) ((D6 p1 x1).bind fun v1=>(A0a v1 p2 p3 p4 p5).bind fun v2=>cond v2 (some (.out (.inr x1))) (some (.go (w64 (x1+1))))) (some (.out (.inl ())))
noncomputable def H4 (p1:(List Int))(p2:Int)(p3:Int)(p4:Int)(p5:Int):Option Int:=
  thenS (loop (F7 p1 p2 p3 p4 p5) 0) (fun _=>some (-1)) (fun r=>some r)
theorem A1o (p1:(List Int))(p2:Int)(p3:Int)(p4:Int)(p5:Int)(r:Int)(h:H4 p1 p2 p3 p4 p5=some r):PCall Tryz.prog 254 [(.list (List.map A5 p1)),(.fn (.func 225) [] [(.bp [(i64 p2)] 0),(.bp [(i64 p3)] 0),(.bp [(i64 p4)] 0),(.bp [(i64 p5)] 0)])] (i64 r):=by
 refine B8 (fk Tryz.func254 Tryz.ntmps254 m0 (by with_unfolding_all rfl)) (nl rfl) ?_
 unfold H4 at h
 refine B5 (s0:=⟨T [(0,(.d _)),(1,(.d _))],G []⟩) (sbr rfl rfl) ?_
 refine lr (fun u1 hu1=>sv rfl (A1 (A6 (lr (fun u2 hu2=>sv rfl (sd rfl (E5 rfl) (sv rfl (A1 (js h fun z1 hz1 h=>E0 (fun s=> ∃(y1:Unit) (g1:Unit),z1= .inl y1∧Sb ⟨T [],G []⟩ s) ?_ ?_)))))))))
 refine A8 (E7 (F7 p1 p2 p3 p4 p5) (fun (x1:Int) (g2:Unit)=>⟨T [(0,(dl A5 p1)),(1,(.d (.fn (.func 225) [] [(.bp [(i64 p2)] 0),(.bp [(i64 p3)] 0),(.bp [(i64 p4)] 0),(.bp [(i64 p5)] 0)]))),(7,(di (p1.length:Int))),(8,(di x1))],G []⟩) 0 () _ hz1 (sbr rfl rfl) ?_)
 intro x1 g2 z2 hz2 ez2
 unfold F7 at hz2
 refine lr (fun u3 hu3=>sv rfl (A1 (A6 (cc rfl hz2 (fun c1 hz2=> ?_) (fun c1 hz2=> ?_)))))
 refine A9 (A6 (A8 (lr (fun u4 hu4=>sv rfl (sv rfl (A1 (lr (fun u5 hu5=>sv rfl (sv rfl (sv rfl (bs hz2 fun v1 hv1 hz2=>sd rfl (E4 rfl rfl hv1 rfl) (sd rfl (F3 rfl hv1 rfl) (bs hz2 fun v2 hv2 hz2=>B1 rfl rfl A2 (B2g _ _ _ _ _ _ hv2) (.inl rfl) (A1 (cc rfl hz2 (fun c2 hz2=> ?_) (fun c2 hz2=> ?_))))))))))))))))
 refine lr (fun u6 hu6=>sv rfl (sv rfl (A1 (B3 ?_))))
 cases hz2
 obtain rfl:=ez2 _ rfl
 refine ⟨nofun,D7 ?_⟩
 rw [Sum.elim_inr]at h
 cases h
 exact A7 (.inr rfl) (B6 (B4 rfl) E1) (.refl _)
 refine A9 (F9 (D0 fun u7 hu7=>sv rfl (sv rfl (A1 (G3 ?_)))))
 cases hz2
 exact ⟨rfl,(),(sbr rfl rfl)⟩
 refine C3 rfl ?_
 cases hz2
 obtain rfl:=ez2 _ rfl
 refine ⟨nofun,C0 rfl (l_j ?_)⟩
 exact ⟨_,(),rfl,(sbr rfl rfl)⟩
 rintro _ ⟨y1,g1,rfl,q1⟩
 rw [Sum.elim_inl]at h
 refine B5 q1 (lr (fun u8 hu8=>sv rfl (A1 (B3 ?_))))
 cases h
 exact A7 (.inr rfl) (B6 (B4 rfl) E1) (.refl _)
noncomputable def F8 (p1:(List Int))(p2:Int)(p3:Int)(p4:Int)(p5:Int):Option Bool:=
  (H4 p1 p2 p3 p4 p5).bind fun v1=>some (decide (v1≥0))
theorem A14 (p1:(List Int))(p2:Int)(p3:Int)(p4:Int)(p5:Int)(r:Bool)(h:F8 p1 p2 p3 p4 p5=some r):PCall Tryz.prog 224 [(.list (List.map A5 p1)),(.fn (.func 225) [] [(.bp [(i64 p2)] 0),(.bp [(i64 p3)] 0),(.bp [(i64 p4)] 0),(.bp [(i64 p5)] 0)])] (bo r):=by
 refine B8 (fk Tryz.func224 Tryz.ntmps224 m0 (by with_unfolding_all rfl)) (nl rfl) ?_
 unfold F8 at h
 refine B5 (s0:=⟨T [(0,(.d _)),(1,(.d _))],G []⟩) (sbr rfl rfl) ?_
 refine lr (fun u1 hu1=>sv rfl (A1 (lr (fun u2 hu2=>sv rfl (sv rfl (bs h fun v1 hv1 h=>B1 rfl rfl A2 (A1o _ _ _ _ _ _ hv1) (.inl rfl) (sv rfl (sv rfl (A1 (B3 ?_))))))))))
 cases h
 exact A7 (.inr rfl) (B6 (B4 rfl) E1) (.refl _)
noncomputable def B0e (p1:(List Int))(p2:Int)(p3:Int)(p4:Int)(p5:Int):Option Bool:=
  (F8 p1 p2 p3 p5 p4).bind fun v1=>some (!v1)
theorem C1h (p1:(List Int))(p2:Int)(p3:Int)(p4:Int)(p5:Int)(r:Bool)(h:B0e p1 p2 p3 p4 p5=some r):PCall Tryz.prog 181 [(.list (List.map A5 p1)),(i64 p2),(i64 p3),(i64 p4),(i64 p5)] (bo r):=by
 refine B8 (fk Tryz.func181 Tryz.ntmps181 m0 (by with_unfolding_all rfl)) (nl rfl) ?_
 unfold B0e at h
 refine B5 (s0:=⟨T [(0,(.d _)),(1,(.d _)),(2,(.d _)),(3,(.d _)),(4,(.d _))],G []⟩) (sbr rfl rfl) ?_
 refine lr (fun u1 hu1=>sn rfl rfl (sn rfl rfl (sn rfl rfl (sn rfl rfl (sv rfl (A1 (lr (fun u2 hu2=>sv rfl (B9 (.fn _ _ _) rfl rfl (bs h fun v1 hv1 h=>B1 rfl (rD (C9 (C1a E2 (C9 (A2q (gq rfl) (rD E2)) (C9 (A2q (gq rfl) (rD E2)) (C9 (A2q G_hit (rD E2)) (C9 (A2q (gq rfl) (rD E2)) E2))))) E2)) A2 (A14 _ _ _ _ _ _ hv1) (.inr rfl) (B9 (.d (bo (!v1))) rfl rfl (sv rfl (A1 (B3 ?_))))))))))))))
 cases h
 exact A7 (.inr rfl) (B6 (B4 rfl) E1) (.refl _)
noncomputable def A79 (p2:Agent)(v1:(Int×Int))(v3:(Int×Int×Int))(v5:(List Int))(x1:Int):Option (Stp Int Int):=
  ((cond (decide (x1>(w64 (0 - v3.2.2)))) (A1s x1 p2 v3.1) (some default))).bind fun v6=>((cond (decide (x1>(w64 (0 - v3.2.2)))) (B0e v5 v1.2 p2.V v6 v3.2.2) (some default))).bind fun v7=>cond ((decide (x1>(w64 (0 - v3.2.2))))&& (!v7)) (some (.go (w64 (x1 - 1)))) (some (.out x1))
noncomputable def B2h (p1:Map)(p2:Agent)(p3:Int)(p4:Int):Option Agent:=
  (A6p p1 p2).bind fun v1=>(D6 p1.Lanes v1.1).bind fun v2=>(A0y v2.Kind).bind fun v3=>((cond p2.Obey (A4r p1 v1.1) (some default))).bind fun v4=>(cond (p2.Obey&& (decide (v1.2≤v4))) ((B45 p1 v1.1 p3).bind fun v5=>(loop (A79 p2 v1 v3 v5) (mm2 true (w64 (0 - v3.2.2)) (mm2 false p4 v3.2.1))).bind fun y2=>some y2) (some (mm2 true (w64 (0 - v3.2.2)) (mm2 false p4 v3.2.1)))).bind fun y1=>(A1s y1 p2 v3.1).bind fun v8=>(A6q p1 (Agent.mk p2.Route (w64 (p2.S+v8)) v8 p2.Len p2.Begin p2.Obey p2.Gone)).bind fun v9=>some (Agent.mk p2.Route (w64 (p2.S+v8)) v8 p2.Len p2.Begin p2.Obey v9)
theorem C34 (p1:Map)(p2:Agent)(p3:Int)(p4:Int)(r:Agent)(h:B2h p1 p2 p3 p4=some r):PCall Tryz.prog 88 [(.agg (A4h p1)),(.agg (D2 p2)),(i64 p3),(i64 p4)] (.agg (D2 r)):=by
 refine B8 (fk Tryz.func88 Tryz.ntmps88 m0 (by with_unfolding_all rfl)) (nl rfl) ?_
 unfold B2h at h
 refine B5 (s0:=⟨T [(0,(.d _)),(1,(.d _)),(2,(.d _)),(3,(.d _))],G []⟩) (sbr rfl rfl) ?_
 refine lr (fun u1 hu1=>sn rfl rfl (sn rfl rfl (sn rfl rfl (A1 (lr (fun u2 hu2=>sd rfl (B2 rfl (gq rfl) rfl rfl) (sd rfl (B2 rfl (gq rfl) rfl rfl) (bs h fun v1 hv1 h=>B1 rfl rfl A2 (B6t _ _ _ hv1) (.inl rfl) (sv rfl (sv rfl (sv rfl (sv rfl (sv rfl (A1 (lr (fun u3 hu3=>sp rfl rfl (sl rfl (gq rfl) rfl (sv rfl (bs h fun v2 hv2 h=>sd rfl (E4 rfl rfl hv2 rfl) (sv rfl (sd rfl (F3 rfl hv2 rfl) (bs h fun v3 hv3 h=>B1 rfl rfl A2 (A73 _ _ hv3) (.inl rfl) (sv rfl (sv rfl (sv rfl (sv rfl (sn rfl rfl (sst rfl G_hit [(di v3.1)] rfl (sv rfl (sv rfl (A1 (lr (fun u4 hu4=>B9 (.fn _ _ _) rfl rfl (B9 (.fn _ _ _) rfl rfl (A1 (lr (fun u5 hu5=>sv rfl (B9 (di (w64 (0 - v3.2.2))) rfl rfl (sv rfl (sv rfl (sv rfl (sv rfl (sv rfl (A1 (A6 (lr (fun u6 hu6=>sp rfl rfl (sl rfl (gq rfl) rfl (sv rfl (gt rfl (fun _=>rfl) ?_))))))))))))))))))))))))))))))))))))))))))))))))))
 refine gt rfl (fun w2=>(B2 rfl (gq rfl) rfl rfl)) (gt rfl (fun _=>rfl) (bs h fun v4 hv4 h=> ?_))
 refine U8 p2.Obey (i64 v4) (A19 rfl) (fun w4=>⟨_,[(.d (.agg (A4h p1))),(di v1.1)],_,_,(by simp only [A3 w4];rfl),rfl,A2,B0b _ _ _ (C7 w4 hv4),(.inl rfl)⟩) ?_
 refine gt rfl (fun w5=>(V8 (A3 w5) (A3 w5) rfl)) (sa rfl rfl rfl (A1 (bs h fun y1 hy1 h=>E0 (fun s=> ∃g1:Unit,Sb ⟨T [(3,(di y1)),(4,(.ptr (4,u1) 0)),(5,(.ptr (5,u1) 0)),(8,(.ptr (8,u1) 0)),(14,(.fn (.func 179) [] [(.ptr (5,u1) 0),(.ptr (11,u3) 0)]))],G [((4,u1),some (.box 33 (A0i p1))),((5,u1),some (.box 45 (A0h p2))),((8,u1),some (.box 45 ([(.d .nilS)]++ (zs 4)++ [(.d (bo false)),(.d (bo false))]))),((11,u3),some (.box 2 [(di v3.1)]))]⟩ s) ?_ ?_)))
 refine cc rfl hy1 (fun c1 hy1=> ?_) (fun c1 hy1=> ?_)
 refine lr (fun u7 hu7=>sd rfl (B2 rfl (gq rfl) rfl rfl) (sv rfl (sv rfl (bs hy1 fun v5 hv5 hy1=>B1 rfl rfl A2 (C4w _ _ _ _ hv5) (.inl rfl) (sv rfl (A1 (bs hy1 fun y2 hy2 hy1=>E0 (fun s=> ∃g2:Unit,Sb ⟨T [(3,(di y2)),(4,(.ptr (4,u1) 0)),(5,(.ptr (5,u1) 0)),(8,(.ptr (8,u1) 0)),(14,(.fn (.func 179) [] [(.ptr (5,u1) 0),(.ptr (11,u3) 0)]))],G [((4,u1),some (.box 33 (A0i p1))),((5,u1),some (.box 45 (A0h p2))),((8,u1),some (.box 45 ([(.d .nilS)]++ (zs 4)++ [(.d (bo false)),(.d (bo false))]))),((11,u3),some (.box 2 [(di v3.1)]))]⟩ s) ?_ ?_)))))))
 refine A8 (E7 (A79 p2 v1 v3 v5) (fun (x1:Int) (g3:Unit)=>⟨T [(3,(di x1)),(4,(.ptr (4,u1) 0)),(5,(.ptr (5,u1) 0)),(8,(.ptr (8,u1) 0)),(10,(di v1.2)),(13,(di v3.2.2)),(14,(.fn (.func 179) [] [(.ptr (5,u1) 0),(.ptr (11,u3) 0)])),(15,(dl A5 v5))],G [((4,u1),some (.box 33 (A0i p1))),((5,u1),some (.box 45 (A0h p2))),((8,u1),some (.box 45 ([(.d .nilS)]++ (zs 4)++ [(.d (bo false)),(.d (bo false))]))),((11,u3),some (.box 2 [(di v3.1)]))]⟩) (mm2 true (w64 (0 - v3.2.2)) (mm2 false p4 v3.2.1)) () _ hy2 (sbr rfl rfl) ?_)
 intro x1 g3 z1 hz1 ez1
 unfold A79 at hz1
 refine A6 (A6 (I6 rfl fun u8 hu8=>sv rfl (sv rfl (B9 (di (w64 (0 - v3.2.2))) rfl rfl (sv rfl (sv rfl (gt rfl (fun _=>rfl) (gt rfl (fun _=>rfl) (gp rfl (A19 rfl) (fun _=>rfl) (gt rfl (vl rfl (gq rfl) rfl) (Z7 _ (.fn _ _ _) rfl (A19 rfl) (fun _=>rfl) (gt rfl (fun _=>rfl) (bs hz1 fun v6 hv6 hz1=> ?_)))))))))))))
 refine U8 _ (i64 v6) (A19 rfl) (fun w12=>⟨_,[(di x1),(.ptr (5,u1) 0),(.ptr (11,u3) 0)],_,_,(by simp only [A3 w12];rfl),(rD (C9 (A2q (gq rfl) (rD (rD (rD (rD (rD (rD (rD E2)))))))) (C9 (A2q (gq rfl) (rD E2)) E2))),A2,B0d _ _ _ _ (C7 w12 hv6),(.inr rfl)⟩) ?_
 refine gt rfl (fun _=>rfl) (bs hz1 fun v7 hv7 hz1=> ?_)
 refine U8 _ (bo v7) (A19 rfl) (fun w14=>⟨_,[(dl A5 v5),(di v1.2),(di p2.V),(di v6),(di v3.2.2)],_,_,(by simp only [A3 w14];rfl),rfl,A2,C1h _ _ _ _ _ _ (C7 w14 hv7),(.inl rfl)⟩) ?_
 refine Z7 _ (.d (bo (!v7))) rfl (A19 rfl) (fun w15=>(by simp only [A3 w15];rfl)) ?_
 refine sa rfl rfl rfl (A1 (cc rfl hz1 (fun c2 hz1=> ?_) (fun c2 hz1=> ?_)))
 refine A9 (A8 (D0 fun u9 hu9=>sv rfl (sv rfl (sv rfl (A1 (F9 (G3 ?_)))))))
 cases hz1
 exact ⟨rfl,(),(sbr rfl rfl)⟩
 refine C3 rfl ?_
 cases hz1
 obtain rfl:=ez1 _ rfl
 refine ⟨nofun,C0 rfl (l_j ?_)⟩
 exact ⟨(),(sbr rfl rfl)⟩
 rintro _ ⟨g2,q1⟩
 obtain rfl:=(Option.some.inj hy1)
 exact l_j ⟨(),(Sb.after q1 (sbr rfl rfl))⟩
 refine A9 ?_
 cases hy1
 exact l_j ⟨(),(sbr rfl rfl)⟩
 rintro _ ⟨g1,q2⟩
 refine B5 q2 (lr (fun u10 hu10=>B9 (.fn _ _ _) rfl rfl (sv rfl (bs h fun v8 hv8 h=>B1 rfl (rD (C9 (A2q (gq rfl) (rD (rD (rD (rD (rD (rD (rD E2)))))))) (C9 (A2q (gq rfl) (rD E2)) E2))) A2 (B0d _ _ _ _ hv8) (.inr rfl) (sp rfl rfl (sst rfl (gq rfl) ((A0h p2).set 2 (di v8)) rfl (A1 (lr (fun u11 hu11=>sp rfl rfl (sl rfl G_hit rfl (sp rfl rfl (sl rfl G_hit rfl (sv rfl (sp rfl rfl (sst rfl G_hit (((A0h p2).set 1 (di (w64 (p2.S+v8)))).set 2 (di v8)) rfl (A1 (lr (fun u12 hu12=>sd rfl (B2 rfl (gq rfl) rfl rfl) (sd rfl (B2 rfl G_hit rfl rfl) (bs h fun v9 hv9 h=>B1 rfl rfl A2 (B6u _ _ _ hv9) (.inl rfl) (sp rfl rfl (sst rfl G_hit ((((A0h p2).set 1 (di (w64 (p2.S+v8)))).set 2 (di v8)).set 6 (.d (bo v9))) rfl (A1 (lr (fun u13 hu13=>sd rfl (B2 rfl G_hit rfl rfl) (sst rfl (gq rfl) ((((A0h p2).set 1 (di (w64 (p2.S+v8)))).set 2 (di v8)).set 6 (.d (bo v9))) rfl (A1 (B3 ?_))))))))))))))))))))))))))))
 cases h
 exact A7 (.inr rfl) (B6 (K9 rfl G_hit (nl rfl) rfl) E1) (.refl _)
noncomputable def B2i (p1:Map)(p2:State)(p3:Int)(p4:Int):Option Agent:=
  cond ((decide (p3<0))||(decide (p3≥(p2.Agents.length:Int)))) (some (Agent.mk [] 0 0 0 0 false false)) ((D6 p2.Agents p3).bind fun v1=>(A2b v1).bind fun v2=>(A4n p2 p3).bind fun v3=>((cond (!(!v3)) (A2d p1 p2) (some default))).bind fun v4=>cond ((!v3)||(v4 !=0)) (some v2) ((B2h p1 v2 p2.Tick p4).bind fun v5=>some v5))
theorem C35 (p1:Map)(p2:State)(p3:Int)(p4:Int)(r:Agent)(h:B2i p1 p2 p3 p4=some r):PCall Tryz.prog 29 [(.agg (A4h p1)),(.agg (A2s p2)),(i64 p3),(i64 p4)] (.agg (D2 r)):=by
 refine B8 (fk Tryz.func29 Tryz.ntmps29 m0 (by with_unfolding_all rfl)) (nl rfl) ?_
 unfold B2i at h
 refine B5 (s0:=⟨T [(0,(.d _)),(1,(.d _)),(2,(.d _)),(3,(.d _))],G []⟩) (sbr rfl rfl) ?_
 refine lr (fun u1 hu1=>sn rfl rfl (sn rfl rfl (sn rfl rfl (A1 (A6 (lr (fun u2 hu2=>sv rfl (sv rfl (sv rfl (gf rfl (fun _=>rfl) (gp rfl (T8 rfl) (fun _=>rfl) (gf rfl (vl rfl (gq rfl) rfl) (gf rfl (fun w4=>(E5 (A3 w4))) (gf rfl (fun w5=>(V8 (A3 w5) (A3 w5) rfl)) (sd rfl (A0u rfl rfl (fun hc=>A3 (L6 hc))) (A1 (cc rfl h (fun c1 h=> ?_) (fun c1 h=> ?_))))))))))))))))))
 refine lr (fun u3 hu3=>sv rfl (sst rfl G_hit ([(.d .nilS)]++ (zs 4)++ [(.d (bo false)),(.d (bo false))]) rfl (A1 (B3 ?_))))
 cases h
 exact A7 (.inr rfl) (B6 (K9 rfl G_hit (nl rfl) rfl) E1) (.agg (.cons ⟨DLe.nil,rfl⟩ (cz rfl)))
 refine A9 (lr (fun u4 hu4=>sp rfl rfl (sl rfl (gq rfl) rfl (sv rfl (bs h fun v1 hv1 h=>sd rfl (E4 rfl rfl hv1 rfl) (sd rfl (C4 rfl hv1 rfl rfl) (bs h fun v2 hv2 h=>B1 rfl rfl A2 (A7x _ _ hv2) (.inl rfl) (sn rfl rfl (sst rfl G_hit (A0h v2) rfl (A1 (A6 (lr (fun u5 hu5=>sd rfl (B2 rfl (gq rfl) rfl rfl) (sv rfl (bs h fun v3 hv3 h=>B1 rfl rfl A2 (A8a _ _ _ hv3) (.inl rfl) (B9 (.d (bo (!v3))) rfl rfl (sv rfl (gf rfl (fun w6=>(B2 rfl (gq rfl) rfl rfl)) (gf rfl (fun w7=>(B2 rfl (gq rfl) rfl rfl)) (bs h fun v4 hv4 h=> ?_))))))))))))))))))))
 refine U8 _ (i64 v4) (T8 rfl) (fun w8=>⟨_,[(.d (.agg (A4h p1))),(.d (.agg (A2s p2)))],_,_,(by simp only [A3 w8];rfl),rfl,A2,A89 _ _ _ (C7 w8 hv4),(.inl rfl)⟩) ?_
 refine gf rfl (vb rfl rfl rfl) (sd rfl (A0u rfl rfl (fun hc=>A3 (L6 hc))) (A1 (cc rfl h (fun c2 h=> ?_) (fun c2 h=> ?_))))
 refine lr (fun u6 hu6=>sd rfl (B2 rfl G_hit rfl rfl) (sst rfl (gq rfl) (A0h v2) rfl (A1 (B3 ?_))))
 cases h
 exact A7 (.inr rfl) (B6 (K9 rfl G_hit (nl rfl) rfl) E1) (.refl _)
 refine A9 (lr (fun u7 hu7=>sd rfl (B2 rfl (gq rfl) rfl rfl) (sd rfl (B2 rfl G_hit rfl rfl) (sp rfl rfl (sl rfl (gq rfl) rfl (sv rfl (bs h fun v5 hv5 h=>B1 rfl rfl A2 (C34 _ _ _ _ _ hv5) (.inl rfl) (sst rfl (gq rfl) (A0h v5) rfl (A1 (B3 ?_))))))))))
 cases h
 exact A7 (.inr rfl) (B6 (K9 rfl G_hit (nl rfl) rfl) E1) (.refl _)
theorem B15 (p1:List Stay)(r:List Stay)(h:V6 p1=some r):MCall Tryz.prog 121 [.d (.list (List.map L7 p1))] [] (oE r (800000,0)) [] [oB 127 4 L7 r]:=by
  cases p1 with
  |nil=>
   have hr:r= []:=by obtain ⟨_,rfl⟩:=A6y h;rfl
   subst hr
   exact MCall.ofP (A5x [] [] h)
  |cons x xs=>
  have hr:A8h ([]:List Stay) (x::xs)=some r:=h
  have e:=(A6y hr).2
  rw [List.nil_append]at e
  rw [D8s (A18 hr),D5y (A18 hr)]
  refine D0p (fk Tryz.func121 Tryz.ntmps121 m0 (by with_unfolding_all rfl)) rfl (Nat.le_of_ble_eq_true rfl) ?_
  refine (B5 (s0:=⟨T [(0, .d (.list (List.map L7 (x::xs))))],G []⟩) (G8 ⟨.of rfl,trivial⟩ trivial) ?_)
  refine A6 ?_
  refine D0 fun u1 hu1=> ?_
  refine B9 (.d .nilS) rfl rfl ?_
  refine A1 ?_
  refine A6 ?_
  refine A6 ?_
  refine D0 fun u2 hu2=> ?_
  refine B9 (.d (.list (List.map L7 (x::xs)))) rfl rfl ?_
  refine B9 (.d (bo false)) rfl rfl ?_
  refine A1 ?_
  refine B3y rfl ?_
  refine A9 ?_
  refine A6 ?_
  refine D0 fun u3 hu3=> ?_
  refine B4t (.sl _) (.arr 127 4 (List.map L7 ([]:List Stay))) rfl rfl ?_
  refine B9 (.d (.list (List.map L7 (x::xs)))) rfl rfl ?_
  refine B6l L7 _ [] (x::xs) _ (O2 (fun _=>rfl)) rfl G_hit hr ?_
  refine B9 (.sl _) rfl rfl ?_
  refine A1 ?_
  refine B3 ?_
  exact D7z (v1:= .sl (7,u3)) (.inr rfl) (D3h (B4 rfl)) (.of rfl) [((7,u3),some (.arr 127 4 (List.map L7 r)))] (B0 G_hit (.of rfl) trivial) (D3g [(7,u3)] rfl trivial ⟨G_hit,trivial⟩ rfl (by simp only [List.mem_cons,List.not_mem_nil,or_false,forall_eq];exact fun i=>D4n rfl i) nd1)
noncomputable def A3r (p1:State)(x1:(Int×State)):Option (Stp (Int×State) State):=
  cond (decide (x1.1< (p1.Agents.length:Int))) ((D6 p1.Agents x1.1).bind fun v2=>(A2b v2).bind fun v3=>(A8h x1.2.Agents [v3]).bind fun v4=>some (.go ((w64 (x1.1+1)),(State.mk x1.2.Tick v4 x1.2.In)))) (some (.out x1.2))
noncomputable def A7a (p1:State):Option State:=
  (V6 p1.In).bind fun v1=>(loop (A3r p1) (0,(State.mk p1.Tick [] v1))).bind fun y1=>some y1
theorem B8p (p1:State)(r:State)(h:A7a p1=some r):MCall Tryz.prog 56 [(.d (.agg (A2s p1)))] [] (A39 [(di r.Tick),(oS r.Agents (800000,0)),(oE r.In (800001,0))]) [] [oB 45 7 D2 r.Agents,oB 127 4 L7 r.In]:=by
 refine D0p (fk Tryz.func56 Tryz.ntmps56 (fun r=>if r==1 then [1001004]else if r==5 then [1004]else []) (by with_unfolding_all rfl)) (by generalize r.Agents=x1;generalize r.In=x2;cases x1<;>cases x2<;>rfl) (nl rfl) ?_
 unfold A7a at h
 refine B5 (s0:=⟨T [(0,(.d _))],G []⟩) (sbr rfl rfl) ?_
 refine lr (fun u1 hu1=>sn rfl rfl (sn rfl rfl (A1 (A6 (B7m fun u2 hu2=>A1y (.ptr _ _) rfl rfl (A1y (.d _) rfl (X1 rfl (gq rfl) rfl) (A1y (.ptr _ _) rfl rfl (A1y (.d _) rfl (X1 rfl (gq rfl) rfl) (bs h fun v1 hv1 h=> ?_)))))))))
 refine t_oc (v:=oE v1 (10010040,u2)) (us:= [(10010040,u2)]) (D82 (B15 _ _ hv1) [] [] _ (((10010040,u2),oB 127 4 L7 v1)::_) rfl A9z rfl A70 trivial (fun _ h=>h) List.nodup_nil (by generalize v1=x1;cases x1<;>rfl) rfl (D0t (rfl)) rfl) ?_
 refine A1y (A39 [(di p1.Tick),(.d .nilS),(oE v1 (10010040,u2))]) rfl (by generalize v1=x1;cases x1<;>rfl) ?_
 refine D0l (.ptr _ _) (.box _ _) rfl rfl (B9w _ _ _ _ _ (Z1 _) rfl rfl G_hit (nl rfl) [(di p1.Tick),(.d .nilS),(oE v1 (10010040,u2))] rfl (C8r ⟨rfl,?_⟩))
 refine A6 (lr (fun u3 hu3=>sp rfl rfl (sl rfl (gq rfl) rfl (sd rfl (E5 rfl) (sv rfl (A1 (bs h fun y1 hy1 h=>E0 (fun s=> ∃g1:(Nat×Nat),Sb ⟨T [(2,(.ptr (2,u1) 0)),(3,(.ptr (3,u2) 0))],G [((2,u1),some (.box 25 [(di 0),(.d .nilS),(.d .nilS)])),((3,u2),some (.box 25 [(di y1.Tick),(oS y1.Agents (24,g1.1)),(oE y1.In (10010040,g1.2))])),((24,g1.1),oB 45 7 D2 y1.Agents),((10010040,g1.2),oB 127 4 L7 y1.In)]⟩ s) ?_ ?_)))))))
 refine A8 (E7 (A3r p1) (fun (x1:(Int×State)) (g2:(Nat×Nat))=>⟨T [(2,(.ptr (2,u1) 0)),(3,(.ptr (3,u2) 0)),(13,(dl D2 p1.Agents)),(14,(di (p1.Agents.length:Int))),(15,(di x1.1))],G [((2,u1),some (.box 25 [(di 0),(.d .nilS),(.d .nilS)])),((3,u2),some (.box 25 [(di x1.2.Tick),(oS x1.2.Agents (24,g2.1)),(oE x1.2.In (10010040,g2.2))])),((24,g2.1),oB 45 7 D2 x1.2.Agents),((10010040,g2.2),oB 127 4 L7 x1.2.In)]⟩) (0,(State.mk p1.Tick [] v1)) (0,u2) _ hy1 (G8 ⟨.of rfl, .of rfl, .of rfl, .of rfl, .of rfl,trivial⟩ (sg rfl (B0 G_hit (.of rfl) (Y3 (B7 (gq rfl) trivial))))) ?_)
 intro x1 g2 z1 hz1 ez1
 unfold A3r at hz1
 refine lr (fun u4 hu4=>sv rfl (A1 (A6 (cc rfl hz1 (fun c1 hz1=> ?_) (fun c1 hz1=> ?_)))))
 refine A9 (A6 (A8 (lr (fun u5 hu5=>bs hz1 fun v2 hv2 hz1=>sd rfl (E4 rfl rfl hv2 rfl) (sd rfl (C4 rfl hv2 rfl rfl) (sn rfl rfl (sst rfl G_hit (A0h v2) rfl (A1 (I6 rfl fun u6 hu6=>sp rfl rfl (B9 (oS x1.2.Agents (24,g2.1)) rfl (X1 rfl (gq rfl) rfl) (sd rfl (B2 rfl G_hit rfl rfl) (bs hz1 fun v3 hv3 hz1=>B1 rfl rfl A2 (A7x _ _ hv3) (.inl rfl) (B9 (dl D2 [v3]) rfl rfl (bs hz1 fun v4 hv4 hz1=>X0 D2 (24,g2.1) x1.2.Agents v3 [] _ (O2 (fun _=>rfl)) rfl (gq rfl) hv4 (sp rfl rfl (sst rfl (gq rfl) [(di x1.2.Tick),(.sl (24,u6)),(oE x1.2.In (10010040,g2.2))] rfl (A1 (F9 (D0 fun u7 hu7=>sv rfl (sv rfl (A1 (G3 ?_))))))))))))))))))))))
 cases hz1
 exact ⟨rfl,(u6,g2.2),(G8 ⟨.of rfl, .of rfl, .of rfl, .of rfl, .of rfl,trivial⟩ (sg rfl (B0 G_hit (.box (cv (.cons (.of (A2r (A18 hv4)).symm) cw))) (T1 (gq rfl) (B7 (gq rfl) trivial)))))⟩
 refine C3 rfl ?_
 cases hz1
 obtain rfl:=ez1 _ rfl
 refine ⟨nofun,C0 rfl (l_j ?_)⟩
 exact ⟨(g2.1,g2.2),(G8 ⟨.of rfl, .of rfl,trivial⟩ (B0 G_hit (.of rfl) (sg rfl (B7 (gq rfl) (B7 (gq rfl) trivial)))))⟩
 rintro _ ⟨g1,q1⟩
 refine B5 q1 (lr (fun u8 hu8=>B9 (A39 [(di y1.Tick),(oS y1.Agents (24,g1.1)),(oE y1.In (10010040,g1.2))]) rfl (B2 rfl (gq rfl) rfl rfl) (A8z _ _ _ _ _ (Z1 _) rfl rfl G_hit (nl rfl) [(di y1.Tick),(oS y1.Agents (24,g1.1)),(oE y1.In (10010040,g1.2))] rfl (A1 (B3 ?_)))))
 obtain rfl:=(Option.some.inj h)
 exact D7z (v1:=(A39 [(di y1.Tick),(oS y1.Agents (24,g1.1)),(oE y1.In (10010040,g1.2))])) (.inr rfl) (D3h (K9 rfl G_hit (Nat.le_of_ble_eq_true rfl) rfl)) (.of rfl) [((24,g1.1),oB 45 7 D2 y1.Agents),((10010040,g1.2),oB 127 4 L7 y1.In)] (B7 (gq rfl) (B7 (gq rfl) trivial)) (D6c [(24,g1.1),(10010040,g1.2)] (by generalize y1.Agents=x1;generalize y1.In=x2;cases x1<;>cases x2<;>rfl) trivial ⟨(G_hit).trans oB_ren.symm,((gq rfl)).trans oB_ren.symm,trivial⟩ rfl (List.forall_mem_cons.2 ⟨fun i hi=>D0u rfl hi,(List.forall_mem_cons.2 ⟨fun i hi=>D0u rfl hi,(fun _ h=>nomatch h)⟩)⟩) (nd2 (C03 rfl)))
noncomputable def Z9 (p1:WorldScene)(p2:Int)(p3:Int):Option (Int×Bool):=
  (D6 p1.before.Agents p2).bind fun v1=>(V1 v1.Route p3).bind fun v2=>cond (decide (v2<0)) (some (0,false)) ((A22 p1.m v1.Route).bind fun v3=>(D6 v3 v2).bind fun v4=>some (v4,true))
theorem A7v (p1:WorldScene)(p2:Int)(p3:Int)(r:(Int×Bool))(h:Z9 p1 p2 p3=some r):PCall Tryz.prog 227 [(.bp (B01 p1) 0),(i64 p2),(i64 p3)] (.tup [(i64 r.1),(bo r.2)]):=by
 refine B8 (fk Tryz.func227 Tryz.ntmps227 m0 (by with_unfolding_all rfl)) (nl rfl) ?_
 unfold Z9 at h
 refine B5 (s0:=⟨T [(0,(.d _)),(1,(.d _)),(2,(.d _))],G []⟩) (sbr rfl rfl) ?_
 refine lr (fun u1 hu1=>sv rfl (sv rfl (A1 (lr (fun u2 hu2=>sv rfl (sv rfl (sv rfl (sv rfl (sv rfl (sv rfl (bs h fun v1 hv1 h=>sd rfl (E4 rfl rfl hv1 rfl) (sv rfl (sd rfl (F3 rfl hv1 rfl) (sv rfl (A1 (lr (fun u3 hu3=>sv rfl (sv rfl (bs h fun v2 hv2 h=>B1 rfl rfl A2 (A75 _ _ _ hv2) (.inl rfl) (sv rfl (A1 (A6 (lr (fun u4 hu4=>sv rfl (sv rfl (A1 (cc rfl h (fun c1 h=> ?_) (fun c1 h=> ?_))))))))))))))))))))))))))))
 refine lr (fun u5 hu5=>sv rfl (sv rfl (A1 (B3 ?_))))
 cases h
 exact A7 (.inr rfl) (B6j (B4 rfl) (B4 rfl) E1 E1) (.refl _)
 refine A9 (lr (fun u6 hu6=>sv rfl (sv rfl (sv rfl (sv rfl (sv rfl (bs h fun v3 hv3 h=>B1 rfl rfl A2 (B07 _ _ _ hv3) (.inl rfl) (sv rfl (bs h fun v4 hv4 h=>sd rfl (E4 rfl rfl hv4 rfl) (sd rfl (F3 rfl hv4 rfl) (sv rfl (sv rfl (A1 (B3 ?_))))))))))))))
 cases h
 exact A7 (.inr rfl) (B6j (B4 rfl) (B4 rfl) E1 E1) (.refl _)
noncomputable def A0k (p1:WorldScene)(p2:Int)(p3:Int):Option Stay:=
  (C8 p1.after.In (Stay.mk p2 p3 0 0)).bind fun v1=>(D6 p1.after.In v1.1).bind fun v2=>some v2
theorem A8p (p1:WorldScene)(p2:Int)(p3:Int)(r:Stay)(h:A0k p1 p2 p3=some r):PCall Tryz.prog 228 [(.bp (B01 p1) 0),(i64 p2),(i64 p3)] (.agg (L7 r)):=by
 refine B8 (fk Tryz.func228 Tryz.ntmps228 m0 (by with_unfolding_all rfl)) (nl rfl) ?_
 unfold A0k at h
 refine B5 (s0:=⟨T [(0,(.d _)),(1,(.d _)),(2,(.d _))],G []⟩) (sbr rfl rfl) ?_
 refine lr (fun u1 hu1=>sn rfl rfl (A1 (lr (fun u2 hu2=>sv rfl (sv rfl (sv rfl (sv rfl (sv rfl (sv rfl (sv rfl (sv rfl (bs h fun v1 hv1 h=>B1 rfl rfl A2 (L9 _ _ _ hv1) (.inl rfl) (sv rfl (sv rfl (sv rfl (sv rfl (sv rfl (A1 (lr (fun u3 hu3=>sv rfl (sv rfl (sv rfl (sv rfl (sv rfl (sv rfl (bs h fun v2 hv2 h=>sd rfl (E4 rfl rfl hv2 rfl) (sd rfl (C4 rfl hv2 rfl rfl) (sst rfl G_hit (B8n v2) rfl (A1 (B3 ?_))))))))))))))))))))))))))))))
 cases h
 exact A7 (.inr rfl) (B6 (K9 rfl G_hit (nl rfl) rfl) E1) (.refl _)
noncomputable def A66 (p1:Map)(p2:State)(p3:(List Int))(v2:State)(y2:(List Agent))(y5:(List Stay))(a1:(Int×Int))(x6:(Int× (List Crash))):Option (Stp (Int× (List Crash)) (List Crash)):=
  cond (decide (x6.1< (p1.Zones.length:Int))) ((Z8 (WorldScene.mk p1 p2 (State.mk v2.Tick y2 y5) p3 x6.2) a1.1 a1.2 x6.1).bind fun v28=>cond (!v28) (some (.go ((w64 (x6.1+1)),x6.2))) ((A0k (WorldScene.mk p1 p2 (State.mk v2.Tick y2 y5) p3 x6.2) a1.1 x6.1).bind fun v29=>(A0k (WorldScene.mk p1 p2 (State.mk v2.Tick y2 y5) p3 x6.2) a1.2 x6.1).bind fun v30=>(W0 v29.Rank v30.Rank).bind fun v31=>(A12 v30.Since v29.Since).bind fun v32=>(A5d [v31,v32]).bind fun v33=>(cond (v33==(-1)) (some [a1.1]) (cond (v33==1) (some [a1.2]) (some [a1.1,a1.2]))).bind fun y17=>(A8h x6.2 [(Crash.mk p2.Tick a1.1 a1.2 (-1) x6.1 y17)]).bind fun v34=>some (.go ((w64 (x6.1+1)),v34)))) (some (.out x6.2))
noncomputable def A8b (p1:Map)(p2:State)(p3:(List Int))(v2:State)(y2:(List Agent))(y5:(List Stay))(a1:(Int×Int))(y12:(List Crash)):Option (List Crash):=
  (loop (A66 p1 p2 p3 v2 y2 y5 a1) (0,y12)).bind fun y16=>some y16
noncomputable def A67 (p1:Map)(p2:State)(p3:(List Int))(v2:State)(y2:(List Agent))(y5:(List Stay))(x4:(List Crash))(a1:(Int×Int))(x5:Int):Option (Stp Int (Sum Unit (List Crash))):=
  cond (decide (x5< (p1.Lanes.length:Int))) ((Z9 (WorldScene.mk p1 p2 (State.mk v2.Tick y2 y5) p3 x4) a1.1 x5).bind fun v13=>(Z9 (WorldScene.mk p1 p2 (State.mk v2.Tick y2 y5) p3 x4) a1.2 x5).bind fun v14=>cond ((!v13.2)||(!v14.2)) (some (.go (w64 (x5+1)))) ((D6 p2.Agents a1.1).bind fun v15=>(D6 p2.Agents a1.2).bind fun v16=>(cond (decide ((w64 (v15.S - v13.1))< (w64 (v16.S - v14.1)))) (some (v14.1,v13.1,a1.2,a1.1)) (some (v13.1,v14.1,a1.1,a1.2))).bind fun y14=>(D6 y2 y14.2.2.1).bind fun v17=>(A2w v17).bind fun v18=>(A09 v18 y14.1).bind fun v19=>(D6 y2 y14.2.2.2).bind fun v20=>(A2w v20).bind fun v21=>(A09 v21 y14.2.1).bind fun v22=>(D6 p2.Agents y14.2.2.2).bind fun v23=>(A2w v23).bind fun v24=>(A09 v24 y14.2.1).bind fun v25=>(A4r p1 x5).bind fun v26=>cond (((((decide (v19.to≥0))&& (decide (v22.to≥0)))&& (decide (v25.from_≤v26)))&& (decide (v19.from_≤v26)))&& (decide (v22.to≥v19.from_))) ((A8h x4 [(Crash.mk p2.Tick a1.1 a1.2 x5 (-1) [y14.2.2.2])]).bind fun v27=>some (.out (.inr v27))) (some (.go (w64 (x5+1)))))) (some (.out (.inl ())))
noncomputable def A9l (p1:Map)(p2:State)(p3:(List Int))(v2:State)(y2:(List Agent))(y5:(List Stay))(x4:(List Crash))(a1:(Int×Int)):Option (List Crash):=
  thenS (loop (A67 p1 p2 p3 v2 y2 y5 x4 a1) 0) (fun _=>some x4) (fun r=>some r)
noncomputable def A7b (p1:Map)(p2:State)(p3:(List Int))(v2:State)(y2:(List Agent))(y5:(List Stay))(x4:(List Crash))(a1:(Int×Int)):Option (Stp (List Crash) (List Crash)):=
  (A9l p1 p2 p3 v2 y2 y5 x4 a1).bind fun y12=>(A8b p1 p2 p3 v2 y2 y5 a1 y12).bind fun y15=>some (.go y15)
noncomputable def A9m:Option Unit:=
  some ()
noncomputable def A9n (p1:Map)(p2:State)(p3:(List Int))(v2:State)(y2:(List Agent))(y5:(List Stay)):Option (List Crash):=
  (A9m).bind fun y10=>((C20 p2).bind fun v12=>loopL (A7b p1 p2 p3 v2 y2 y5) (fun (x4:(List Crash))=>x4) v12 []).bind fun y11=>some y11
noncomputable def A7c (p1:Map)(p2:State)(p3:(List Int))(v2:State)(y2:(List Agent))(x2:(Int× (List Stay)))(v6:Agent)(x3:(Int× (List Stay))):Option (Stp (Int× (List Stay)) (List Stay)):=
  cond (decide (x3.1< (p1.Zones.length:Int))) ((Q6 (WorldScene.mk p1 p2 (State.mk v2.Tick y2 x3.2) p3 []) x2.1 x3.1).bind fun v7=>cond (!v7) (some (.go ((w64 (x3.1+1)),x3.2))) ((C8 p2.In (Stay.mk x2.1 x3.1 p2.Tick 0)).bind fun v8=>(cond v8.2 ((D6 p2.In v8.1).bind fun v9=>some v9) ((A9t p1 v6 x3.1 p2.Tick).bind fun v10=>some (Stay.mk x2.1 x3.1 p2.Tick v10))).bind fun y8=>(A8h x3.2 [y8]).bind fun v11=>some (.go ((w64 (x3.1+1)),v11)))) (some (.out x3.2))
noncomputable def A7d (p1:Map)(p2:State)(p3:(List Int))(v2:State)(y2:(List Agent))(x2:(Int× (List Stay))):Option (Stp (Int× (List Stay)) (List Stay)):=
  cond (decide (x2.1< (p2.Agents.length:Int))) ((D6 p2.Agents x2.1).bind fun v6=>(loop (A7c p1 p2 p3 v2 y2 x2 v6) (0,x2.2)).bind fun y7=>some (.go ((w64 (x2.1+1)),y7))) (some (.out x2.2))
noncomputable def A9o (p1:Map)(p2:State)(p3:(List Int))(v2:State)(y2:(List Agent)):Option (List Stay):=
  (loop (A7d p1 p2 p3 v2 y2) (0,[])).bind fun y6=>some y6
noncomputable def A7e (p1:Map)(p2:State)(p3:(List Int))(x1:(Int× (List Agent))):Option (Stp (Int× (List Agent)) (List Agent)):=
  cond (decide (x1.1< (p2.Agents.length:Int))) ((cond (decide (x1.1< (p3.length:Int))) ((D6 p3 x1.1).bind fun v3=>some v3) (some 0)).bind fun y4=>(B2i p1 p2 x1.1 y4).bind fun v4=>(D6 x1.2 x1.1).bind fun v5=>some (.go ((w64 (x1.1+1)),(B8d x1.2 x1.1 v4)))) (some (.out x1.2))
noncomputable def A9p (p1:Map)(p2:State)(p3:(List Int))(v2:State):Option (List Agent):=
  (loop (A7e p1 p2 p3) (0,v2.Agents)).bind fun y3=>some y3
noncomputable def B2j (p1:Map)(p2:State)(p3:(List Int)):Option (State× (List Crash)×Int):=
  (A2d p1 p2).bind fun v1=>cond (v1 !=0) (some ((State.mk 0 [] []),[],v1)) (cond (decide (p2.Tick≥1099511627776)) (some ((State.mk 0 [] []),[],2)) ((A7a p2).bind fun v2=>((A9p p1 p2 p3 v2).bind fun y2=>(A9o p1 p2 p3 v2 y2).bind fun y5=>(A9n p1 p2 p3 v2 y2 y5).bind fun y9=>some (y2,y5,y9)).bind fun y1=>some ((State.mk (w64 (v2.Tick+1)) y1.1 y1.2.1),y1.2.2,0)))
theorem C36 (p1:Map)(p2:State)(p3:(List Int))(r:(State× (List Crash)×Int))(h:B2j p1 p2 p3=some r):PCall Tryz.prog 31 [(.agg (A4h p1)),(.agg (A2s p2)),(.list (List.map A5 p3))] (.tup [(.agg (A2s r.1)),(.list (List.map A4a r.2.1)),(i64 r.2.2)]):=by
 refine B8 (fk Tryz.func31 Tryz.ntmps31 (fun r=>if r==6 then [1006003]else if r==10 then [2]else []) (by with_unfolding_all rfl)) (nl rfl) ?_
 unfold B2j at h
 refine B5 (s0:=⟨T [(0,(.d _)),(1,(.d _)),(2,(.d _))],G []⟩) (sbr rfl rfl) ?_
 refine lr (fun u1 hu1=>sn rfl rfl (sn rfl rfl (sn rfl rfl (sv rfl (sv rfl (A1 (A6 (lr (fun u2 hu2=>sd rfl (B2 rfl (gq rfl) rfl rfl) (sd rfl (B2 rfl (gq rfl) rfl rfl) (bs h fun v1 hv1 h=>B1 rfl rfl A2 (A89 _ _ _ hv1) (.inl rfl) (sv rfl (A1 (lr (fun u3 hu3=>sv rfl (sv rfl (A1 (cc rfl h (fun c1 h=> ?_) (fun c1 h=> ?_)))))))))))))))))))
 refine lr (fun u4 hu4=>sv rfl (sv rfl (sst rfl G_hit [(di 0),(.d .nilS),(.d .nilS)] rfl (sv rfl (sv rfl (A1 (B3 ?_)))))))
 cases h
 exact A7 (.inr rfl) (C2p (K9 rfl G_hit (nl rfl) rfl) (B4 rfl) (B4 rfl) E1 E1 E1) (.tup (.cons (.agg (ca rfl (.cons ⟨DLe.nil,rfl⟩ (.cons ⟨DLe.nil,rfl⟩ .nil)))) (.cons DLe.nil A2)))
 refine A9 (A6 (lr (fun u5 hu5=>sp rfl rfl (sl rfl (gq rfl) rfl (sv rfl (A1 (cc rfl h (fun c2 h=> ?_) (fun c2 h=> ?_))))))))
 refine lr (fun u6 hu6=>sv rfl (sst rfl G_hit [(di 0),(.d .nilS),(.d .nilS)] rfl (sv rfl (sv rfl (A1 (B3 ?_))))))
 cases h
 exact A7 (.inr rfl) (C2p (K9 rfl G_hit (nl rfl) rfl) (B4 rfl) (B4 rfl) E1 E1 E1) (.tup (.cons (.agg (ca rfl (.cons ⟨DLe.nil,rfl⟩ (.cons ⟨DLe.nil,rfl⟩ .nil)))) (.cons DLe.nil A2)))
 refine A9 (A6 (B7m fun u7 hu7=>A1y (.d _) rfl (B2 rfl (gq rfl) rfl rfl) (A1y (.d _) rfl (B2 rfl (gq rfl) rfl rfl) (A1y (.d _) rfl (B2 rfl (gq rfl) rfl rfl) (bs h fun v2 hv2 h=> ?_)))))
 refine t_oc (v:=A39 [(di v2.Tick),(oS v2.Agents (10060030,u7)),(oE v2.In (10060031,u7))]) (us:= [(10060030,u7),(10060031,u7)]) (D82 (B8p _ _ hv2) [] [] _ (((10060031,u7),oB 127 4 L7 v2.In)::(((10060030,u7),oB 45 7 D2 v2.Agents)::_)) rfl A9z rfl A70 trivial (fun _ h=>h) List.nodup_nil (by generalize v2.Agents=x1;generalize v2.In=x2;cases x1<;>cases x2<;>rfl) rfl (D0t (D0t (rfl))) rfl) ?_
 refine A1y (.d _) rfl rfl ?_
 refine A1y (A39 ((A0i p1)++ (L5 p2)++ [(di v2.Tick),(oS v2.Agents (10060030,u7)),(oE v2.In (10060031,u7)),(dl A5 p3),(.d .nilS)])) rfl (by generalize v2.Agents=x1;generalize v2.In=x2;cases x1<;>cases x2<;>rfl) ?_
 refine D0l (.ptr _ _) (.box _ _) rfl (C8t rfl) (A1y (.ptr _ _) rfl rfl (C8r ⟨rfl,?_⟩))
 refine A6 (lr (fun u8 hu8=>sv rfl (sv rfl (A1 (bs h fun y1 hy1 h=>E0 (fun s=> ∃g1:(Nat×Nat× ({d:Nat // d∈ [72,158]}×Nat)),Sb ⟨T [(6,(.ptr (6,u1) 0)),(10,(.ptr (30,u7) 0))],G [((6,u1),some (.box 25 [(di 0),(.d .nilS),(.d .nilS)])),((30,u7),some (.box 135 ((A0i p1)++ (L5 p2)++ [(di v2.Tick),(oS y1.1 (10060030,g1.1)),(oS y1.2.1 (85,g1.2.1)),(dl A5 p3),(oS y1.2.2 (g1.2.2.1.val,g1.2.2.2))]))),((10060030,g1.1),oB 45 7 D2 y1.1),((85,g1.2.1),oB 127 4 L7 y1.2.1),((g1.2.2.1.val,g1.2.2.2),oB 77 6 A4a y1.2.2)]⟩ s) ?_ ?_)))))
 refine A8 (B94 (lr (fun u9 hu9=>sv rfl (A1 (A6 (B7j rfl (A9 (A6 (A8 (lr (fun u10 hu10=>sv rfl (sv rfl (A1 (D0 fun u11 hu11=>sv rfl (sp rfl rfl (bs hy1 fun y2 hy2 hy1=>C09 (fk Tryz.func90 Tryz.ntmps90 m0 (by with_unfolding_all rfl)) (fun (g2:Nat)=> [(6,(.ptr (6,u1) 0)),(10,(.ptr (30,u7) 0)),(31,(.d (.agg [(.fn (.func 90) [] []),(.fn (.func 80) [] []),(.fn (.func 91) [] [])]))),(32,(di 0))]) (fun (g2:Nat)=> [((6,u1),some (.box 25 [(di 0),(.d .nilS),(.d .nilS)])),((30,u7),some (.box 135 ((A0i p1)++ (L5 p2)++ [(di v2.Tick),(oS y2 (10060030,g2)),(oE v2.In (10060031,u7)),(dl A5 p3),(.d .nilS)]))),((10060031,u7),oB 127 4 L7 v2.In),((10060030,g2),oB 45 7 D2 y2)]) rfl (nl rfl) ?_ ?_))))))))))))))))
 unfold A9p at hy2
 refine B5 (s0:=⟨T [(0,(.ptr (30,u7) 0))],G [((30,u7),some (.box 135 ((A0i p1)++ (L5 p2)++ [(di v2.Tick),(oS v2.Agents (10060030,u7)),(oE v2.In (10060031,u7)),(dl A5 p3),(.d .nilS)]))),((10060030,u7),oB 45 7 D2 v2.Agents),((10060031,u7),oB 127 4 L7 v2.In),((6,u1),some (.box 25 [(di 0),(.d .nilS),(.d .nilS)]))]⟩) (G8 ⟨.of rfl,trivial⟩ (B0 G_hit (.of rfl) (B7 (gq rfl) (B7 (gq rfl) (sg rfl trivial))))) ?_
 refine lr (fun u12 hu12=>sp rfl rfl (sp rfl rfl (sp rfl rfl (sp rfl rfl (sl rfl G_hit rfl (sd rfl (E5 rfl) (sv rfl (A1 (bs hy2 fun y3 hy3 hy2=>E0 (fun s=> ∃g3:Nat,Sb ⟨T [],G [((6,u1),some (.box 25 [(di 0),(.d .nilS),(.d .nilS)])),((30,u7),some (.box 135 ((A0i p1)++ (L5 p2)++ [(di v2.Tick),(oS y3 (10060030,g3)),(oE v2.In (10060031,u7)),(dl A5 p3),(.d .nilS)]))),((10060031,u7),oB 127 4 L7 v2.In),((10060030,g3),oB 45 7 D2 y3)]⟩ s) ?_ ?_)))))))))
 refine A8 (E7 (A7e p1 p2 p3) (fun (x1:(Int× (List Agent))) (g4:Nat)=>⟨T [(0,(.ptr (30,u7) 0)),(9,(di (p2.Agents.length:Int))),(10,(di x1.1))],G [((30,u7),some (.box 135 ((A0i p1)++ (L5 p2)++ [(di v2.Tick),(oS x1.2 (10060030,g4)),(oE v2.In (10060031,u7)),(dl A5 p3),(.d .nilS)]))),((6,u1),some (.box 25 [(di 0),(.d .nilS),(.d .nilS)])),((10060031,u7),oB 127 4 L7 v2.In),((10060030,g4),oB 45 7 D2 x1.2)]⟩) (0,v2.Agents) u7 _ hy3 (G8 ⟨.of rfl, .of rfl, .of rfl,trivial⟩ (B0 G_hit (.of rfl) (sg rfl (B7 (gq rfl) (B7 (gq rfl) trivial))))) ?_)
 intro x1 g4 z1 hz1 ez1
 unfold A7e at hz1
 refine lr (fun u13 hu13=>sv rfl (A1 (A6 (cc rfl hz1 (fun c3 hz1=> ?_) (fun c3 hz1=> ?_)))))
 refine A9 (A6 (A8 (lr (fun u14 hu14=>sv rfl (sv rfl (A1 (lr (fun u15 hu15=>sv rfl (A1 (A6 (lr (fun u16 hu16=>sv rfl (sp rfl rfl (sp rfl rfl (sp rfl rfl (sl rfl G_hit rfl (sd rfl (E5 rfl) (sv rfl (A1 (bs hz1 fun y4 hy4 hz1=>E0 (fun s=> ∃g5:Unit,Sb ⟨T [(0,(.ptr (30,u7) 0)),(2,(di x1.1)),(3,(di y4)),(9,(di (p2.Agents.length:Int))),(10,(di x1.1))],G [((30,u7),some (.box 135 ((A0i p1)++ (L5 p2)++ [(di v2.Tick),(oS x1.2 (10060030,g4)),(oE v2.In (10060031,u7)),(dl A5 p3),(.d .nilS)]))),((6,u1),some (.box 25 [(di 0),(.d .nilS),(.d .nilS)])),((10060030,g4),oB 45 7 D2 x1.2),((10060031,u7),oB 127 4 L7 v2.In)]⟩ s) ?_ ?_))))))))))))))))))))
 refine cc rfl hy4 (fun c4 hy4=> ?_) (fun c4 hy4=> ?_)
 refine D0 fun u17 hu17=>sp rfl rfl (sp rfl rfl (sp rfl rfl (sl rfl G_hit rfl (sv rfl (bs hy4 fun v3 hv3 hy4=>sd rfl (E4 rfl rfl hv3 rfl) (sd rfl (F3 rfl hv3 rfl) (sv rfl (A1 ?_))))))))
 obtain rfl:=(Option.some.inj hy4)
 exact l_j ⟨(),(G8 ⟨.of rfl, .of rfl, .of rfl, .of rfl, .of rfl,trivial⟩ (B0 G_hit (.of rfl) (sg rfl (B7 (gq rfl) (B7 (gq rfl) trivial)))))⟩
 refine A9 ?_
 cases hy4
 exact l_j ⟨(),(G8 ⟨.of rfl, .of rfl, .of rfl, .of rfl, .of rfl,trivial⟩ (B0 G_hit (.of rfl) (sg rfl (B7 (gq rfl) (B7 (gq rfl) trivial)))))⟩
 rintro _ ⟨g5,q1⟩
 refine B5 q1 (I6 rfl fun u18 hu18=>sp rfl rfl (sp rfl rfl (sp rfl rfl (sp rfl rfl (B9 (oS x1.2 (10060030,g4)) rfl (X1 rfl G_hit rfl) (sv rfl (sp rfl rfl (sp rfl rfl (sp rfl rfl (sd rfl (B2 rfl G_hit rfl rfl) (sp rfl rfl (sp rfl rfl (sp rfl rfl (sd rfl (B2 rfl G_hit rfl rfl) (sv rfl (sv rfl (bs hz1 fun v4 hv4 hz1=>B1 rfl rfl A2 (C35 _ _ _ _ _ hv4) (.inl rfl) (bs hz1 fun v5 hv5 hz1=>B9 (.aptr _ _ _ _) rfl (D0j rfl rfl (gq rfl) hv5) ?_))))))))))))))))))
 rw [A2r (B5p hv5)]
 refine B4p D2 _ _ _ (x1.1) _ v4 (D2 v4) rfl rfl rfl (B7k (gq rfl) (B5p hv5)) hv5 (nl rfl) rfl (A1 (F9 (D0 fun u19 hu19=>sv rfl (sv rfl (A1 (G3 ?_))))))
 cases hz1
 exact ⟨rfl,g4,(G8 ⟨.of rfl, .of rfl, .of rfl,trivial⟩ (B0 (gq rfl) (.box (cv (cv (cv (cv (cv (cv (cv (cv (cv (.cons (.of (A2r (C2r (B5p hv5))).symm) cw))))))))))) (sg rfl (B7 (gq rfl) (T1 G_hit trivial)))))⟩
 refine C3 rfl ?_
 cases hz1
 obtain rfl:=ez1 _ rfl
 refine ⟨nofun,C0 rfl (l_j ?_)⟩
 exact ⟨g4,(G8 trivial (sg rfl (B0 G_hit (.of rfl) (B7 (gq rfl) (B7 (gq rfl) trivial)))))⟩
 rintro _ ⟨g3,q2⟩
 refine G3 ?_
 obtain rfl:=(Option.some.inj hy2)
 exact B6p q2 (.inl rfl) g3 ⟨.of rfl, .of rfl, .of rfl, .of rfl,trivial⟩ (B0 G_hit (.of rfl) (sg rfl (B7 (gq rfl) (B7 (gq rfl) trivial))))
 intro g2
 intro u20 hu20
 refine A1 (F9 (D0 fun u21 hu21=>sv rfl (sv rfl (A1 (B94 (lr (fun u22 hu22=>sv rfl (A1 (A6 (B7j rfl (A9 (A6 (A8 (lr (fun u23 hu23=>sv rfl (sv rfl (A1 (D0 fun u24 hu24=>sv rfl (sp rfl rfl (bs hy1 fun y5 hy5 hy1=>C09 (fk Tryz.func80 Tryz.ntmps80 (fun r=>if r==13 then [1007]else []) (by with_unfolding_all rfl)) (fun (g6:Nat)=> [(6,(.ptr (6,u1) 0)),(10,(.ptr (30,u7) 0)),(31,(.d (.agg [(.fn (.func 90) [] []),(.fn (.func 80) [] []),(.fn (.func 91) [] [])]))),(32,(di 1))]) (fun (g6:Nat)=> [((6,u1),some (.box 25 [(di 0),(.d .nilS),(.d .nilS)])),((30,u7),some (.box 135 ((A0i p1)++ (L5 p2)++ [(di v2.Tick),(oS y2 (10060030,g2)),(oS y5 (85,g6)),(dl A5 p3),(.d .nilS)]))),((10060030,g2),oB 45 7 D2 y2),((85,g6),oB 127 4 L7 y5)]) rfl (nl rfl) ?_ ?_))))))))))))))))))))
 unfold A9o at hy5
 refine B5 (s0:=⟨T [(0,(.ptr (30,u7) 0))],G [((30,u7),some (.box 135 ((A0i p1)++ (L5 p2)++ [(di v2.Tick),(oS y2 (10060030,g2)),(oE v2.In (10060031,u7)),(dl A5 p3),(.d .nilS)]))),((10060030,g2),oB 45 7 D2 y2),((10060031,u7),oB 127 4 L7 v2.In),((6,u1),some (.box 25 [(di 0),(.d .nilS),(.d .nilS)]))]⟩) (G8 ⟨.of rfl,trivial⟩ (sg rfl (B7 (gq rfl) (B7 (gq rfl) (B0 G_hit (.of rfl) trivial))))) ?_
 refine lr (fun u25 hu25=>sp rfl rfl (sp rfl rfl (sp rfl rfl (sp rfl rfl (sst rfl G_hit ((A0i p1)++ (L5 p2)++ [(di v2.Tick),(oS y2 (10060030,g2)),(.d .nilS),(dl A5 p3),(.d .nilS)]) rfl (A1 (lr (fun u26 hu26=>sp rfl rfl (sp rfl rfl (sp rfl rfl (sp rfl rfl (sl rfl G_hit rfl (sd rfl (E5 rfl) (sv rfl (A1 (bs hy5 fun y6 hy6 hy5=>E0 (fun s=> ∃g7:Nat,Sb ⟨T [],G [((6,u1),some (.box 25 [(di 0),(.d .nilS),(.d .nilS)])),((30,u7),some (.box 135 ((A0i p1)++ (L5 p2)++ [(di v2.Tick),(oS y2 (10060030,g2)),(oS y6 (85,g7)),(dl A5 p3),(.d .nilS)]))),((10060030,g2),oB 45 7 D2 y2),((85,g7),oB 127 4 L7 y6)]⟩ s) ?_ ?_))))))))))))))))
 refine A8 (E7 (A7d p1 p2 p3 v2 y2) (fun (x2:(Int× (List Stay))) (g8:Nat)=>⟨T [(0,(.ptr (30,u7) 0)),(16,(dl D2 p2.Agents)),(17,(di (p2.Agents.length:Int))),(18,(di x2.1))],G [((30,u7),some (.box 135 ((A0i p1)++ (L5 p2)++ [(di v2.Tick),(oS y2 (10060030,g2)),(oS x2.2 (85,g8)),(dl A5 p3),(.d .nilS)]))),((6,u1),some (.box 25 [(di 0),(.d .nilS),(.d .nilS)])),((10060030,g2),oB 45 7 D2 y2),((85,g8),oB 127 4 L7 x2.2)]⟩) (0,[]) 0 _ hy6 (G8 ⟨.of rfl, .of rfl, .of rfl, .of rfl,trivial⟩ (B0 G_hit (.of rfl) (sg rfl (B7 (gq rfl) (Y3 trivial))))) ?_)
 intro x2 g8 z2 hz2 ez2
 unfold A7d at hz2
 refine lr (fun u27 hu27=>sv rfl (A1 (A6 (cc rfl hz2 (fun c5 hz2=> ?_) (fun c5 hz2=> ?_)))))
 refine A9 (A6 (A8 (lr (fun u28 hu28=>sv rfl (bs hz2 fun v6 hv6 hz2=>sd rfl (E4 rfl rfl hv6 rfl) (sd rfl (C4 rfl hv6 rfl rfl) (sn rfl rfl (sv rfl (sst rfl G_hit (A0h v6) rfl (A1 (lr (fun u29 hu29=>sp rfl rfl (sp rfl rfl (sp rfl rfl (sp rfl rfl (sl rfl (gq rfl) rfl (sd rfl (E5 rfl) (sv rfl (A1 (bs hz2 fun y7 hy7 hz2=>E0 (fun s=> ∃g9:Nat,Sb ⟨T [(0,(.ptr (30,u7) 0)),(16,(dl D2 p2.Agents)),(17,(di (p2.Agents.length:Int))),(18,(di x2.1))],G [((30,u7),some (.box 135 ((A0i p1)++ (L5 p2)++ [(di v2.Tick),(oS y2 (10060030,g2)),(oS y7 (85,g9)),(dl A5 p3),(.d .nilS)]))),((6,u1),some (.box 25 [(di 0),(.d .nilS),(.d .nilS)])),((10060030,g2),oB 45 7 D2 y2),((85,g9),oB 127 4 L7 y7)]⟩ s) ?_ ?_))))))))))))))))))))
 refine A8 (E7 (A7c p1 p2 p3 v2 y2 x2 v6) (fun (x3:(Int× (List Stay))) (g10:Nat)=>⟨T [(0,(.ptr (30,u7) 0)),(2,(di x2.1)),(3,(.ptr (3,u28) 0)),(16,(dl D2 p2.Agents)),(17,(di (p2.Agents.length:Int))),(18,(di x2.1)),(28,(di (p1.Zones.length:Int))),(29,(di x3.1))],G [((30,u7),some (.box 135 ((A0i p1)++ (L5 p2)++ [(di v2.Tick),(oS y2 (10060030,g2)),(oS x3.2 (85,g10)),(dl A5 p3),(.d .nilS)]))),((3,u28),some (.box 45 (A0h v6))),((6,u1),some (.box 25 [(di 0),(.d .nilS),(.d .nilS)])),((10060030,g2),oB 45 7 D2 y2),((85,g10),oB 127 4 L7 x3.2)]⟩) (0,x2.2) g8 _ hy7 (G8 ⟨.of rfl, .of rfl, .of rfl, .of rfl, .of rfl, .of rfl, .of rfl, .of rfl,trivial⟩ (sg rfl (B0 G_hit (.of rfl) (sg rfl (B7 (gq rfl) (B7 (gq rfl) trivial)))))) ?_)
 intro x3 g10 z3 hz3 ez3
 unfold A7c at hz3
 refine lr (fun u30 hu30=>sv rfl (A1 (A6 (cc rfl hz3 (fun c6 hz3=> ?_) (fun c6 hz3=> ?_)))))
 refine A9 (A6 (A8 (lr (fun u31 hu31=>sv rfl (sv rfl (A1 (A6 (lr (fun u32 hu32=>sp rfl rfl (sv rfl (sv rfl (bs hz3 fun v7 hv7 hz3=>B1 rfl (C9 (A2q G_hit (rD (rD (rD (rD (rD (rD (rD (rD (rD (C9 (A1x (gq rfl)) (C9 (A1x (gq rfl)) (rD (rD E2)))))))))))))) (rD (rD E2))) (.cons (DLe.bp (ca rfl (ca rfl (ca rfl (ca rfl (ca rfl (ca rfl (ca rfl (ca rfl (ca rfl (.cons ⟨A1w,rfl⟩ (.cons ⟨A1w,rfl⟩ (ca rfl (.cons ⟨DLe.nil,rfl⟩ .nil)))))))))))))) (.cons (.refl _) A2)) (A0j _ _ _ _ hv7) (.inr rfl) (B9 (.d (bo (!v7))) rfl rfl (A1 (cc rfl hz3 (fun c7 hz3=> ?_) (fun c7 hz3=> ?_))))))))))))))))
 refine B9t rfl (D0 fun u33 hu33=>sv rfl (sv rfl (A1 (G3 ?_))))
 cases hz3
 exact ⟨rfl,g10,(G8 ⟨.of rfl, .of rfl, .of rfl, .of rfl, .of rfl, .of rfl, .of rfl, .of rfl,trivial⟩ (B0 G_hit (.of rfl) (sg rfl (sg rfl (B7 (gq rfl) (B7 (gq rfl) trivial))))))⟩
 refine A9 (lr (fun u34 hu34=>sv rfl (sv rfl (sp rfl rfl (sp rfl rfl (sp rfl rfl (sp rfl rfl (sl rfl G_hit rfl (sv rfl (sn rfl rfl (sst rfl G_hit [(di x2.1),(di x3.1),(di p2.Tick),(di 0)] rfl (A1 (A6 (A6 (I6 rfl fun u35 hu35=>sp rfl rfl (sp rfl rfl (sp rfl rfl (sp rfl rfl (sl rfl (gq rfl) rfl (sd rfl (B2 rfl G_hit rfl rfl) (bs hz3 fun v8 hv8 hz3=>B1 rfl rfl A2 (L9 _ _ _ hv8) (.inl rfl) (sv rfl (sv rfl (sv rfl (sv rfl (sv rfl (A1 (lr (fun u36 hu36=>sv rfl (A1 (bs hz3 fun y8 hy8 hz3=>E0 (fun s=> ∃g11:Unit,Sb ⟨T [(0,(.ptr (30,u7) 0)),(2,(di x2.1)),(3,(.ptr (3,u28) 0)),(5,(.ptr (5,u34) 0)),(16,(dl D2 p2.Agents)),(17,(di (p2.Agents.length:Int))),(18,(di x2.1)),(28,(di (p1.Zones.length:Int))),(29,(di x3.1))],G [((30,u7),some (.box 135 ((A0i p1)++ (L5 p2)++ [(di v2.Tick),(oS y2 (10060030,g2)),(oS x3.2 (85,g10)),(dl A5 p3),(.d .nilS)]))),((3,u28),some (.box 45 (A0h v6))),((5,u34),some (.box 127 (B8n y8))),((6,u1),some (.box 25 [(di 0),(.d .nilS),(.d .nilS)])),((10060030,g2),oB 45 7 D2 y2),((85,g10),oB 127 4 L7 x3.2)]⟩ s) ?_ ?_)))))))))))))))))))))))))))))))
 refine cc rfl hy8 (fun c8 hy8=> ?_) (fun c8 hy8=> ?_)
 refine D0 fun u37 hu37=>sp rfl rfl (sp rfl rfl (sp rfl rfl (sp rfl rfl (sl rfl (gq rfl) rfl (sv rfl (bs hy8 fun v9 hv9 hy8=>sd rfl (E4 rfl rfl hv9 rfl) (sd rfl (C4 rfl hv9 rfl rfl) (sst rfl G_hit (B8n v9) rfl (A1 ?_)))))))))
 obtain rfl:=(Option.some.inj hy8)
 exact l_j ⟨(),(G8 ⟨.of rfl, .of rfl, .of rfl, .of rfl, .of rfl, .of rfl, .of rfl, .of rfl, .of rfl,trivial⟩ (sg rfl (sg rfl (B0 G_hit (.of rfl) (sg rfl (B7 (gq rfl) (B7 (gq rfl) trivial)))))))⟩
 refine I6 rfl fun u38 hu38=>sp rfl rfl (sp rfl rfl (sp rfl rfl (sd rfl (B2 rfl (gq rfl) rfl rfl) (sd rfl (B2 rfl (gq rfl) rfl rfl) (sv rfl (sp rfl rfl (sp rfl rfl (sp rfl rfl (sp rfl rfl (sl rfl (gq rfl) rfl (bs hy8 fun v10 hv10 hy8=>B1 rfl rfl A2 (B6w _ _ _ _ _ hv10) (.inl rfl) (sp rfl rfl (sst rfl G_hit [(di x2.1),(di x3.1),(di p2.Tick),(di v10)] rfl (A1 ?_))))))))))))))
 cases hy8
 exact l_j ⟨(),(G8 ⟨.of rfl, .of rfl, .of rfl, .of rfl, .of rfl, .of rfl, .of rfl, .of rfl, .of rfl,trivial⟩ (sg rfl (sg rfl (B0 G_hit (.of rfl) (sg rfl (B7 (gq rfl) (B7 (gq rfl) trivial)))))))⟩
 rintro _ ⟨g11,q3⟩
 refine B5 q3 (I6 rfl fun u39 hu39=>sp rfl rfl (sp rfl rfl (sp rfl rfl (sp rfl rfl (sp rfl rfl (B9 (oS x3.2 (85,g10)) rfl (X1 rfl G_hit rfl) (sd rfl (B2 rfl (gq rfl) rfl rfl) (B9 (dl L7 [y8]) rfl rfl (bs hz3 fun v11 hv11 hz3=>X0 L7 (85,g10) x3.2 y8 [] _ (O2 (fun _=>rfl)) rfl (gq rfl) hv11 (sp rfl rfl (sp rfl rfl (sp rfl rfl (sst rfl (gq rfl) ((A0i p1)++ (L5 p2)++ [(di v2.Tick),(oS y2 (10060030,g2)),(.sl (85,u39)),(dl A5 p3),(.d .nilS)]) rfl (A1 (F9 (D0 fun u40 hu40=>sv rfl (sv rfl (A1 (G3 ?_)))))))))))))))))))
 cases hz3
 exact ⟨rfl,u39,(G8 ⟨.of rfl, .of rfl, .of rfl, .of rfl, .of rfl, .of rfl, .of rfl, .of rfl,trivial⟩ (B0 G_hit (.box (cv (cv (cv (cv (cv (cv (cv (cv (cv (cv (.cons (.of (A2r (A18 hv11)).symm) cw)))))))))))) (sg rfl (sg rfl (B7 (gq rfl) (T1 (gq rfl) trivial))))))⟩
 refine C3 rfl ?_
 cases hz3
 obtain rfl:=ez3 _ rfl
 refine ⟨nofun,C0 rfl (l_j ?_)⟩
 exact ⟨g10,(G8 ⟨.of rfl, .of rfl, .of rfl, .of rfl,trivial⟩ (B0 G_hit (.of rfl) (sg rfl (B7 (gq rfl) (B7 (gq rfl) trivial)))))⟩
 rintro _ ⟨g9,q4⟩
 refine F9 (B5 q4 (D0 fun u41 hu41=>sv rfl (sv rfl (A1 (G3 ?_)))))
 cases hz2
 exact ⟨rfl,g9,(G8 ⟨.of rfl, .of rfl, .of rfl, .of rfl,trivial⟩ (B0 G_hit (.of rfl) (sg rfl (B7 (gq rfl) (B7 (gq rfl) trivial)))))⟩
 refine C3 rfl ?_
 cases hz2
 obtain rfl:=ez2 _ rfl
 refine ⟨nofun,C0 rfl (l_j ?_)⟩
 exact ⟨g8,(G8 trivial (sg rfl (B0 G_hit (.of rfl) (B7 (gq rfl) (B7 (gq rfl) trivial)))))⟩
 rintro _ ⟨g7,q5⟩
 refine G3 ?_
 obtain rfl:=(Option.some.inj hy5)
 exact B6p q5 (.inl rfl) g7 ⟨.of rfl, .of rfl, .of rfl, .of rfl,trivial⟩ (B0 G_hit (.of rfl) (sg rfl (B7 (gq rfl) (B7 (gq rfl) trivial))))
 intro g6
 intro u42 hu42
 refine A1 (F9 (D0 fun u43 hu43=>sv rfl (sv rfl (A1 (B94 (lr (fun u44 hu44=>sv rfl (A1 (A6 (B7j rfl (A9 (A6 (A8 (lr (fun u45 hu45=>sv rfl (sv rfl (A1 (D0 fun u46 hu46=>sv rfl (sp rfl rfl (bs hy1 fun y9 hy9 hy1=>C09 (fk Tryz.func91 Tryz.ntmps91 (fun r=>if r==1 then [1]else if r==4 then [3]else if r==5 then [3]else []) (by with_unfolding_all rfl)) (fun (g12:({d:Nat // d∈ [72,158]}×Nat))=> [(6,(.ptr (6,u1) 0)),(10,(.ptr (30,u7) 0)),(31,(.d (.agg [(.fn (.func 90) [] []),(.fn (.func 80) [] []),(.fn (.func 91) [] [])]))),(32,(di 2))]) (fun (g12:({d:Nat // d∈ [72,158]}×Nat))=> [((6,u1),some (.box 25 [(di 0),(.d .nilS),(.d .nilS)])),((30,u7),some (.box 135 ((A0i p1)++ (L5 p2)++ [(di v2.Tick),(oS y2 (10060030,g2)),(oS y5 (85,g6)),(dl A5 p3),(oS y9 (g12.1.val,g12.2))]))),((10060030,g2),oB 45 7 D2 y2),((85,g6),oB 127 4 L7 y5),((g12.1.val,g12.2),oB 77 6 A4a y9)]) rfl (nl rfl) ?_ ?_))))))))))))))))))))
 unfold A9n at hy9
 refine B5 (s0:=⟨T [(0,(.ptr (30,u7) 0))],G [((30,u7),some (.box 135 ((A0i p1)++ (L5 p2)++ [(di v2.Tick),(oS y2 (10060030,g2)),(oS y5 (85,g6)),(dl A5 p3),(.d .nilS)]))),((10060030,g2),oB 45 7 D2 y2),((85,g6),oB 127 4 L7 y5),((6,u1),some (.box 25 [(di 0),(.d .nilS),(.d .nilS)]))]⟩) (G8 ⟨.of rfl,trivial⟩ (sg rfl (B7 (gq rfl) (B7 (gq rfl) (B0 G_hit (.of rfl) trivial))))) ?_
 refine lr (fun u47 hu47=>sn rfl rfl (A1 (lr (fun u48 hu48=>sp rfl (X1 rfl G_hit rfl) (bs hy9 fun y10 hy10 hy9=>C09 (fk Tryz.func81 Tryz.ntmps81 m0 (by with_unfolding_all rfl)) (fun (g13:{g:Nat // g≠u47})=> [(1,(.ptr (1,u47) 0)),(5,(.fn (.func 174) [] [(.ptr (1,g13.1) 0)]))]) (fun (g13:{g:Nat // g≠u47})=> [((1,u47),some (.box 133 [(.ptr (30,u7) 0)])),((30,u7),some (.box 135 ((A0i p1)++ (L5 p2)++ [(di v2.Tick),(oS y2 (10060030,g2)),(oS y5 (85,g6)),(dl A5 p3),(.d .nilS)]))),((6,u1),some (.box 25 [(di 0),(.d .nilS),(.d .nilS)])),((10060030,g2),oB 45 7 D2 y2),((85,g6),oB 127 4 L7 y5),((1,g13.1),some (.box 133 [(.ptr (30,u7) 0)]))]) rfl (nl rfl) ?_ ?_)))))
 unfold A9m at hy10
 refine B5 (s0:=⟨T [(0,(.ptr (30,u7) 0))],G [((30,u7),some (.box 135 ((A0i p1)++ (L5 p2)++ [(di v2.Tick),(oS y2 (10060030,g2)),(oS y5 (85,g6)),(dl A5 p3),(.d .nilS)]))),((10060030,g2),oB 45 7 D2 y2),((85,g6),oB 127 4 L7 y5),((6,u1),some (.box 25 [(di 0),(.d .nilS),(.d .nilS)])),((1,u47),some (.box 133 [(.ptr (30,u7) 0)]))]⟩) (G8 ⟨.of rfl,trivial⟩ (sg rfl (B7 (gq rfl) (B7 (gq rfl) (sg rfl (B0 G_hit (.of rfl) trivial)))))) ?_
 refine lr (fun u49 hu49=>sn rfl rfl (sv rfl (A1 (lr (fun u50 hu50=>B9 (.fn _ _ _) rfl rfl (B9 (.fn _ _ _) rfl rfl (A1 (B3 ?_))))))))
 cases hy10
 exact C5z (.inr rfl) (D3h (B4 rfl)) ⟨u49,(Ne.symm (C78 (k:=(1,u47)) hu49 (gq rfl)))⟩ ⟨.of rfl, .of rfl,trivial⟩ (B0 (A0o (C78 hu49 (gq rfl)) (gq rfl)) (.of rfl) (sg rfl (sg rfl (B7 (gq rfl) (B7 (gq rfl) (B0 G_hit (.of rfl) trivial))))))
 intro g13
 intro u51 hu51
 refine A1 (bs hy9 fun y11 hy11 hy9=>E0 (fun s=> ∃g14:({d:Nat // d∈ [72,158]}×Nat),Sb ⟨T [],G [((6,u1),some (.box 25 [(di 0),(.d .nilS),(.d .nilS)])),((30,u7),some (.box 135 ((A0i p1)++ (L5 p2)++ [(di v2.Tick),(oS y2 (10060030,g2)),(oS y5 (85,g6)),(dl A5 p3),(oS y11 (g14.1.val,g14.2))]))),((10060030,g2),oB 45 7 D2 y2),((85,g6),oB 127 4 L7 y5),((g14.1.val,g14.2),oB 77 6 A4a y11)]⟩ s) ?_ ?_)
 refine A8 (bs hy11 fun v12 hv12 hy11=>B5 (s0:=⟨T [(1,(.ptr (1,u47) 0)),(5,(.fn (.func 174) [] [(.ptr (1,g13.1) 0)]))],G [((1,u47),some (.box 133 [(.ptr (30,u7) 0)])),((30,u7),some (.box 135 ((A0i p1)++ (L5 p2)++ [(di v2.Tick),(oS y2 (10060030,g2)),(oS y5 (85,g6)),(dl A5 p3),(.d .nilS)]))),((10060030,g2),oB 45 7 D2 y2),((85,g6),oB 127 4 L7 y5),((1,g13.1),some (.box 133 [(.ptr (30,u7) 0)])),((6,u1),some (.box 25 [(di 0),(.d .nilS),(.d .nilS)]))]⟩) (G8 ⟨.of rfl, .of rfl,trivial⟩ (B0 G_hit (.of rfl) (sg rfl (B7 (gq rfl) (B7 (gq rfl) (B0 (A0o g13.2 (gq rfl)) (.of rfl) (sg rfl trivial))))))) ?_)
 refine C7n (.fn (.func 174) [] [(.ptr (1,g13.1) 0)]) (B5u (1,g13.1) (30,u7) p2) C65 v12 (A7b p1 p2 p3 v2 y2 y5) (fun (x4:(List Crash))=>x4) (fun (x4:(List Crash)) (g15:({d:Nat // d∈ [72,158]}×Nat))=> [((1,u47),some (.box 133 [(.ptr (30,u7) 0)])),((1,g13.1),some (.box 133 [(.ptr (30,u7) 0)])),((6,u1),some (.box 25 [(di 0),(.d .nilS),(.d .nilS)])),((30,u7),some (.box 135 ((A0i p1)++ (L5 p2)++ [(di v2.Tick),(oS y2 (10060030,g2)),(oS y5 (85,g6)),(dl A5 p3),(oS x4 (g15.1.val,g15.2))]))),((10060030,g2),oB 45 7 D2 y2),((85,g6),oB 127 4 L7 y5),((g15.1.val,g15.2),oB 77 6 A4a x4)]) [] (⟨72, .head _⟩,0) _ rfl (C21 hv12 _ _) (fun x4 g15 _ _=>⟨A4 rfl (A0o g13.2 G_hit),_,_,_,_,_,_,_,_,_,_,A4 rfl (gq rfl)⟩) (fun _=>rfl) hy11 (G8 trivial (B0 G_hit (.of rfl) (B0 (A0o g13.2 (gq rfl)) (.of rfl) (sg rfl (sg rfl (B7 (gq rfl) (B7 (gq rfl) (Y3 trivial)))))))) nofun ?_ ?_
 intro u53 hu53 hku53
 refine ⟨fun x4 g15=>(A4 rfl (A4 rfl (A4 rfl (A4 rfl (A4 rfl (A4 rfl (A4 (neR g15.1.property rfl) rfl))))))),?_⟩
 intro r1 x4 g15 a1 z4 hrr1 hz4 ez4
 unfold A7b at hz4
 show AWL _ _ _ _ _ _ ⟨T [(7,(di a1.2)),(6,(di a1.1)),(1,(.ptr (1,u47) 0)),(5,(.fn (.func 174) [] [(.ptr (1,g13.1) 0)]))],G [((1000000,u53),some (.obj (T [(1,(.ptr (1,u47) 0)),(5,(.fn (.func 174) [] [(.ptr (1,g13.1) 0)]))]) r1)),((1,u47),some (.box 133 [(.ptr (30,u7) 0)])),((1,g13.1),some (.box 133 [(.ptr (30,u7) 0)])),((6,u1),some (.box 25 [(di 0),(.d .nilS),(.d .nilS)])),((30,u7),some (.box 135 ((A0i p1)++ (L5 p2)++ [(di v2.Tick),(oS y2 (10060030,g2)),(oS y5 (85,g6)),(dl A5 p3),(oS x4 (g15.1.val,g15.2))]))),((10060030,g2),oB 45 7 D2 y2),((85,g6),oB 127 4 L7 y5),((g15.1.val,g15.2),oB 77 6 A4a x4)]⟩
 refine lr (fun u54 hu54=>sv rfl (A1 (D0 fun u55 hu55=>sv rfl (A1 (l_j (D0h G_hit ?_))))))
 refine A8 (lr (fun u56 hu56=>sp rfl (X1 rfl (gq rfl) rfl) (sv rfl (sv rfl (bs hz4 fun y12 hy12 hz4=>C09 (fk Tryz.func183 Tryz.ntmps183 (fun r=>if r==13 then [1014,1016]else []) (by with_unfolding_all rfl)) (fun (g16:({d:Nat // d∈ [72,158]}×Nat))=> [(1,(.ptr (1,u47) 0)),(2,(di a1.1)),(3,(di a1.2))]) (fun (g16:({d:Nat // d∈ [72,158]}×Nat))=> [((1,u47),some (.box 133 [(.ptr (30,u7) 0)])),((6,u1),some (.box 25 [(di 0),(.d .nilS),(.d .nilS)])),((30,u7),some (.box 135 ((A0i p1)++ (L5 p2)++ [(di v2.Tick),(oS y2 (10060030,g2)),(oS y5 (85,g6)),(dl A5 p3),(oS y12 (g16.1.val,g16.2))]))),((1,g13.1),some (.box 133 [(.ptr (30,u7) 0)])),((1000000,u53),some (.obj (T [(1,(.ptr (1,u47) 0)),(5,(.fn (.func 174) [] [(.ptr (1,g13.1) 0)]))]) {r1 with state:= .busy})),((10060030,g2),oB 45 7 D2 y2),((85,g6),oB 127 4 L7 y5),((g16.1.val,g16.2),oB 77 6 A4a y12)]) rfl (nl rfl) ?_ ?_)))))
 unfold A9l at hy12
 refine B5 (s0:=⟨T [(0,(.ptr (30,u7) 0)),(1,(di a1.1)),(2,(di a1.2))],G [((30,u7),some (.box 135 ((A0i p1)++ (L5 p2)++ [(di v2.Tick),(oS y2 (10060030,g2)),(oS y5 (85,g6)),(dl A5 p3),(oS x4 (g15.1.val,g15.2))]))),((10060030,g2),oB 45 7 D2 y2),((85,g6),oB 127 4 L7 y5),((g15.1.val,g15.2),oB 77 6 A4a x4),((6,u1),some (.box 25 [(di 0),(.d .nilS),(.d .nilS)])),((1,u47),some (.box 133 [(.ptr (30,u7) 0)])),((1,g13.1),some (.box 133 [(.ptr (30,u7) 0)])),((1000000,u53),some (.obj (T [(1,(.ptr (1,u47) 0)),(5,(.fn (.func 174) [] [(.ptr (1,g13.1) 0)]))]) {r1 with state:= .busy}))]⟩) (G8 ⟨.of rfl, .of rfl, .of rfl,trivial⟩ (sg rfl (B7 (gq rfl) (B7 (gq rfl) (B7 (A4 (neL g15.1.property rfl) (A4 (neL g15.1.property rfl) (A4 (neL g15.1.property rfl) (A4 (neL g15.1.property rfl) (A4 (neL g15.1.property rfl) (A4 (neL g15.1.property rfl) (A4 (neL g15.1.property rfl) (A4 (neL g15.1.property rfl) G_hit)))))))) (sg rfl (sg rfl (B0 (A4 rfl (A4 rfl (A0o g13.2 G_hit))) (.of rfl) (B0 G_hit (.of rfl) trivial))))))))) ?_
 refine lr (fun u57 hu57=>sp rfl rfl (sp rfl rfl (sp rfl rfl (sp rfl rfl (sl rfl G_hit rfl (sd rfl (E5 rfl) (sv rfl (A1 (js hy12 fun z5 hz5 hy12=>E0 (fun s=> ∃(y13:Unit) (g17:Unit),z5= .inl y13∧Sb ⟨T [],G [((6,u1),some (.box 25 [(di 0),(.d .nilS),(.d .nilS)])),((30,u7),some (.box 135 ((A0i p1)++ (L5 p2)++ [(di v2.Tick),(oS y2 (10060030,g2)),(oS y5 (85,g6)),(dl A5 p3),(oS x4 (g15.1.val,g15.2))]))),((1,u47),some (.box 133 [(.ptr (30,u7) 0)])),((1,g13.1),some (.box 133 [(.ptr (30,u7) 0)])),((1000000,u53),some (.obj (T [(1,(.ptr (1,u47) 0)),(5,(.fn (.func 174) [] [(.ptr (1,g13.1) 0)]))]) {r1 with state:= .busy})),((10060030,g2),oB 45 7 D2 y2),((85,g6),oB 127 4 L7 y5),((g15.1.val,g15.2),oB 77 6 A4a x4)]⟩ s) ?_ ?_)))))))))
 refine A8 (E7 (A67 p1 p2 p3 v2 y2 y5 x4 a1) (fun (x5:Int) (g18:Unit)=>⟨T [(0,(.ptr (30,u7) 0)),(1,(di a1.1)),(2,(di a1.2)),(22,(di (p1.Lanes.length:Int))),(23,(di x5))],G [((30,u7),some (.box 135 ((A0i p1)++ (L5 p2)++ [(di v2.Tick),(oS y2 (10060030,g2)),(oS y5 (85,g6)),(dl A5 p3),(oS x4 (g15.1.val,g15.2))]))),((6,u1),some (.box 25 [(di 0),(.d .nilS),(.d .nilS)])),((1,u47),some (.box 133 [(.ptr (30,u7) 0)])),((1,g13.1),some (.box 133 [(.ptr (30,u7) 0)])),((1000000,u53),some (.obj (T [(1,(.ptr (1,u47) 0)),(5,(.fn (.func 174) [] [(.ptr (1,g13.1) 0)]))]) {r1 with state:= .busy})),((10060030,g2),oB 45 7 D2 y2),((85,g6),oB 127 4 L7 y5),((g15.1.val,g15.2),oB 77 6 A4a x4)]⟩) 0 () _ hz5 (G8 ⟨.of rfl, .of rfl, .of rfl, .of rfl, .of rfl,trivial⟩ (B0 G_hit (.of rfl) (B0 (A4 rfl (A4 rfl (A4 rfl (A4 (neR g15.1.property rfl) G_hit)))) (.of rfl) (B0 (A4 rfl (A4 rfl (A4 rfl (A4 (neR g15.1.property rfl) (gq rfl))))) (.of rfl) (B0 (A4 rfl (A4 rfl (A4 rfl (A4 (neR g15.1.property rfl) (A4 rfl (A0o g13.2 G_hit)))))) (.of rfl) (B0 (A4 rfl (A4 rfl (A4 rfl (A4 (neR g15.1.property rfl) (gq rfl))))) (.of rfl) (B7 (gq rfl) (B7 (gq rfl) (B7 (A4 (neL g15.1.property rfl) (A4 (neL g15.1.property rfl) (A4 (neL g15.1.property rfl) G_hit))) trivial))))))))) ?_)
 intro x5 g18 z6 hz6 ez6
 unfold A67 at hz6
 refine lr (fun u58 hu58=>sv rfl (A1 (A6 (cc rfl hz6 (fun c9 hz6=> ?_) (fun c9 hz6=> ?_)))))
 refine A9 (A6 (A8 (lr (fun u59 hu59=>sv rfl (sv rfl (A1 (lr (fun u60 hu60=>sp rfl rfl (sv rfl (sv rfl (bs hz6 fun v13 hv13 hz6=>B1 rfl (C9 (A2q G_hit (rD (rD (rD (rD (rD (rD (rD (rD (rD (C9 (A1x (gq rfl)) (C9 (A1x (gq rfl)) (rD (C9 (A1x (A4 (neL g15.1.property rfl) (A4 (neL g15.1.property rfl) (A4 (neL g15.1.property rfl) (A4 (neL g15.1.property rfl) (A4 (neL g15.1.property rfl) (A4 (neL g15.1.property rfl) (A4 (neL g15.1.property rfl) G_hit)))))))) E2)))))))))))))) (rD (rD E2))) (.cons (DLe.bp (ca rfl (ca rfl (ca rfl (ca rfl (ca rfl (ca rfl (ca rfl (ca rfl (ca rfl (.cons ⟨A1w,rfl⟩ (.cons ⟨A1w,rfl⟩ (ca rfl (.cons ⟨A1w,rfl⟩ .nil)))))))))))))) (.cons (.refl _) A2)) (A7v _ _ _ _ hv13) (.inr rfl) (sv rfl (sv rfl (sv rfl (sv rfl (sv rfl (A1 (lr (fun u61 hu61=>sp rfl rfl (sv rfl (sv rfl (bs hz6 fun v14 hv14 hz6=>B1 rfl (C9 (A2q G_hit (rD (rD (rD (rD (rD (rD (rD (rD (rD (C9 (A1x (gq rfl)) (C9 (A1x (gq rfl)) (rD (C9 (A1x (A4 (neL g15.1.property rfl) (A4 (neL g15.1.property rfl) (A4 (neL g15.1.property rfl) (A4 (neL g15.1.property rfl) (A4 (neL g15.1.property rfl) (A4 (neL g15.1.property rfl) (A4 (neL g15.1.property rfl) G_hit)))))))) E2)))))))))))))) (rD (rD E2))) (.cons (DLe.bp (ca rfl (ca rfl (ca rfl (ca rfl (ca rfl (ca rfl (ca rfl (ca rfl (ca rfl (.cons ⟨A1w,rfl⟩ (.cons ⟨A1w,rfl⟩ (ca rfl (.cons ⟨A1w,rfl⟩ .nil)))))))))))))) (.cons (.refl _) A2)) (A7v _ _ _ _ hv14) (.inr rfl) (sv rfl (sv rfl (sv rfl (sv rfl (sv rfl (A1 (A6 (lr (fun u62 hu62=>sv rfl (B9 (.d (bo (!v13.2))) rfl rfl (sv rfl (gf rfl (fun _=>rfl) ?_))))))))))))))))))))))))))))))))))
 refine Z7 _ (.d (bo (!v14.2))) rfl (T8 rfl) (fun w2=>(by simp only [A3 w2];rfl)) ?_
 refine sd rfl (A0u rfl rfl (fun hc=>A3 (L6 hc))) (A1 (cc rfl hz6 (fun c10 hz6=> ?_) (fun c10 hz6=> ?_)))
 refine B9t rfl (D0 fun u63 hu63=>sv rfl (sv rfl (A1 (G3 ?_))))
 cases hz6
 exact ⟨rfl,(),(G8 ⟨.of rfl, .of rfl, .of rfl, .of rfl, .of rfl,trivial⟩ (B0 G_hit (.of rfl) (sg rfl (sg rfl (B0 (A4 rfl (A4 rfl (A0o g13.2 G_hit))) (.of rfl) (sg rfl (B7 (gq rfl) (B7 (gq rfl) (B7 (A4 (neL g15.1.property rfl) (A4 (neL g15.1.property rfl) (A4 (neL g15.1.property rfl) (A4 (neL g15.1.property rfl) (A4 (neL g15.1.property rfl) (A4 (neL g15.1.property rfl) (A4 (neL g15.1.property rfl) G_hit))))))) trivial)))))))))⟩
 refine A9 (lr (fun u64 hu64=>sv rfl (sv rfl (sv rfl (sv rfl (A1 (A6 (A6 (I6 rfl fun u65 hu65=>sp rfl rfl (sp rfl rfl (sp rfl rfl (sp rfl rfl (sl rfl G_hit rfl (sv rfl (bs hz6 fun v15 hv15 hz6=>sd rfl (E4 rfl rfl hv15 rfl) (sv rfl (sd rfl (F3 rfl hv15 rfl) (sv rfl (sv rfl (sp rfl rfl (sp rfl rfl (sp rfl rfl (sp rfl rfl (sl rfl G_hit rfl (sv rfl (bs hz6 fun v16 hv16 hz6=>sd rfl (E4 rfl rfl hv16 rfl) (sv rfl (sd rfl (F3 rfl hv16 rfl) (sv rfl (sv rfl (sv rfl (A1 (bs hz6 fun y14 hy14 hz6=>E0 (fun s=> ∃g19:Unit,Sb ⟨T [(0,(.ptr (30,u7) 0)),(1,(di a1.1)),(2,(di a1.2)),(6,(di x5)),(7,(di y14.1)),(9,(di y14.2.1)),(11,(di y14.2.2.1)),(12,(di y14.2.2.2)),(22,(di (p1.Lanes.length:Int))),(23,(di x5))],G [((30,u7),some (.box 135 ((A0i p1)++ (L5 p2)++ [(di v2.Tick),(oS y2 (10060030,g2)),(oS y5 (85,g6)),(dl A5 p3),(oS x4 (g15.1.val,g15.2))]))),((6,u1),some (.box 25 [(di 0),(.d .nilS),(.d .nilS)])),((1,u47),some (.box 133 [(.ptr (30,u7) 0)])),((1,g13.1),some (.box 133 [(.ptr (30,u7) 0)])),((1000000,u53),some (.obj (T [(1,(.ptr (1,u47) 0)),(5,(.fn (.func 174) [] [(.ptr (1,g13.1) 0)]))]) {r1 with state:= .busy})),((10060030,g2),oB 45 7 D2 y2),((85,g6),oB 127 4 L7 y5),((g15.1.val,g15.2),oB 77 6 A4a x4)]⟩ s) ?_ ?_)))))))))))))))))))))))))))))))))
 refine cc rfl hy14 (fun c11 hy14=> ?_) (fun c11 hy14=> ?_)
 refine D0 fun u66 hu66=>sv rfl (sv rfl (sv rfl (sv rfl (sv rfl (sv rfl (sv rfl (sv rfl (A1 ?_))))))))
 cases hy14
 exact l_j ⟨(),(G8 ⟨.of rfl, .of rfl, .of rfl, .of rfl, .of rfl, .of rfl, .of rfl, .of rfl, .of rfl, .of rfl,trivial⟩ (B0 G_hit (.of rfl) (sg rfl (sg rfl (B0 (A4 rfl (A4 rfl (A0o g13.2 G_hit))) (.of rfl) (sg rfl (B7 (gq rfl) (B7 (gq rfl) (B7 (A4 (neL g15.1.property rfl) (A4 (neL g15.1.property rfl) (A4 (neL g15.1.property rfl) (A4 (neL g15.1.property rfl) (A4 (neL g15.1.property rfl) (A4 (neL g15.1.property rfl) (A4 (neL g15.1.property rfl) G_hit))))))) trivial)))))))))⟩
 refine A9 ?_
 cases hy14
 exact l_j ⟨(),(G8 ⟨.of rfl, .of rfl, .of rfl, .of rfl, .of rfl, .of rfl, .of rfl, .of rfl, .of rfl, .of rfl,trivial⟩ (B0 G_hit (.of rfl) (sg rfl (sg rfl (B0 (A4 rfl (A4 rfl (A0o g13.2 G_hit))) (.of rfl) (sg rfl (B7 (gq rfl) (B7 (gq rfl) (B7 (A4 (neL g15.1.property rfl) (A4 (neL g15.1.property rfl) (A4 (neL g15.1.property rfl) (A4 (neL g15.1.property rfl) (A4 (neL g15.1.property rfl) (A4 (neL g15.1.property rfl) (A4 (neL g15.1.property rfl) G_hit))))))) trivial)))))))))⟩
 rintro _ ⟨g19,q6⟩
 refine B5 q6 (A6 (I6 rfl fun u67 hu67=>sp rfl rfl (sp rfl rfl (sp rfl rfl (sp rfl rfl (B9 (oS y2 (10060030,g2)) rfl (X1 rfl G_hit rfl) (sv rfl (bs hz6 fun v17 hv17 hz6=>B9 (.aptr _ _ _ _) rfl (D0j rfl rfl (gq rfl) hv17) (sd rfl (B4q rfl (B7k (gq rfl) (B5p hv17)) hv17 rfl rfl) (bs hz6 fun v18 hv18 hz6=>B1 rfl rfl A2 (A5c _ _ hv18) (.inl rfl) (sv rfl (bs hz6 fun v19 hv19 hz6=>B1 rfl rfl A2 (A4d _ _ _ hv19) (.inl rfl) (sp rfl rfl (sp rfl rfl (sp rfl rfl (sp rfl rfl (B9 (oS y2 (10060030,g2)) rfl (X1 rfl G_hit rfl) (sv rfl (bs hz6 fun v20 hv20 hz6=>B9 (.aptr _ _ _ _) rfl (D0j rfl rfl (gq rfl) hv20) (sd rfl (B4q rfl (B7k (gq rfl) (B5p hv20)) hv20 rfl rfl) (bs hz6 fun v21 hv21 hz6=>B1 rfl rfl A2 (A5c _ _ hv21) (.inl rfl) (sv rfl (bs hz6 fun v22 hv22 hz6=>B1 rfl rfl A2 (A4d _ _ _ hv22) (.inl rfl) (sn rfl rfl (sn rfl rfl (sst rfl (gq rfl) [(di v19.from_),(di v19.to)] rfl (sst rfl (gq rfl) [(di v22.from_),(di v22.to)] rfl (A1 (lr (fun u68 hu68=>sp rfl rfl (sp rfl rfl (sp rfl rfl (sp rfl rfl (sl rfl (gq rfl) rfl (sv rfl (bs hz6 fun v23 hv23 hz6=>sd rfl (E4 rfl rfl hv23 rfl) (sd rfl (C4 rfl hv23 rfl rfl) (bs hz6 fun v24 hv24 hz6=>B1 rfl rfl A2 (A5c _ _ hv24) (.inl rfl) (sv rfl (bs hz6 fun v25 hv25 hz6=>B1 rfl rfl A2 (A4d _ _ _ hv25) (.inl rfl) (sn rfl rfl (sst rfl G_hit [(di v25.from_),(di v25.to)] rfl (A1 (lr (fun u69 hu69=>sp rfl rfl (sp rfl rfl (sp rfl rfl ?_)))))))))))))))))))))))))))))))))))))))))))))))
 refine sd rfl (B2 rfl (gq rfl) rfl rfl) (sv rfl (bs hz6 fun v26 hv26 hz6=>B1 rfl rfl A2 (B0b _ _ _ hv26) (.inl rfl) (sv rfl (A1 (lr (fun u70 hu70=>sp rfl rfl (sl rfl (gq rfl) rfl (sv rfl (sv rfl (gp rfl (A19 rfl) (fun _=>rfl) (gt rfl (vl rfl (gq rfl) rfl) (gt rfl (vb rfl rfl rfl) (sa rfl rfl rfl (sv rfl (gp rfl (A19 rfl) (fun _=>rfl) (gt rfl (vl rfl G_hit rfl) (gt rfl (fun _=>rfl) (gt rfl (fun w9=>(V8 (A3 w9) (A3 w9) rfl)) (sa rfl rfl rfl (sv rfl (gp rfl (A19 rfl) (fun _=>rfl) (gt rfl (vl rfl (gq rfl) rfl) (gt rfl (fun _=>rfl) (gt rfl (fun w13=>(V8 (A3 w13) (A3 w13) rfl)) (sa rfl rfl rfl (sv rfl (gp rfl (A19 rfl) (fun _=>rfl) (gt rfl (vl rfl (gq rfl) rfl) (gp rfl (A19 rfl) (fun _=>rfl) (gt rfl (vl rfl (gq rfl) rfl) (gt rfl (fun w18=>(V8 (A3 w18) (A3 w18) rfl)) (sa rfl rfl rfl (A1 (cc rfl hz6 (fun c12 hz6=> ?_) (fun c12 hz6=> ?_)))))))))))))))))))))))))))))))))))
 refine A6 (B5 (s0:=⟨T [(0,(.ptr (30,u7) 0)),(1,(di a1.1)),(2,(di a1.2)),(6,(di x5)),(12,(di y14.2.2.2))],G [((30,u7),some (.box 135 ((A0i p1)++ (L5 p2)++ [(di v2.Tick),(oS y2 (10060030,g2)),(oS y5 (85,g6)),(dl A5 p3),(oS x4 (g15.1.val,g15.2))]))),((10060030,g2),oB 45 7 D2 y2),((85,g6),oB 127 4 L7 y5),((g15.1.val,g15.2),oB 77 6 A4a x4),((6,u1),some (.box 25 [(di 0),(.d .nilS),(.d .nilS)])),((1,u47),some (.box 133 [(.ptr (30,u7) 0)])),((1,g13.1),some (.box 133 [(.ptr (30,u7) 0)])),((1000000,u53),some (.obj (T [(1,(.ptr (1,u47) 0)),(5,(.fn (.func 174) [] [(.ptr (1,g13.1) 0)]))]) {r1 with state:= .busy}))]⟩) (G8 ⟨.of rfl, .of rfl, .of rfl, .of rfl, .of rfl,trivial⟩ (sg rfl (B7 (gq rfl) (B7 (gq rfl) (B7 (A4 (neL g15.1.property rfl) (A4 (neL g15.1.property rfl) (A4 (neL g15.1.property rfl) (A4 (neL g15.1.property rfl) (A4 (neL g15.1.property rfl) (A4 (neL g15.1.property rfl) (A4 (neL g15.1.property rfl) (A4 (neL g15.1.property rfl) (A4 (neL g15.1.property rfl) (A4 (neL g15.1.property rfl) (A4 (neL g15.1.property rfl) (A4 (neL g15.1.property rfl) (A4 (neL g15.1.property rfl) G_hit))))))))))))) (sg rfl (sg rfl (B0 (A4 rfl (A4 rfl (A4 rfl (A4 rfl (A4 rfl (A4 rfl (A4 rfl (A4 rfl (A0o g13.2 G_hit))))))))) (.of rfl) (sg rfl trivial))))))))) ?_)
 refine I6 rfl fun u71 hu71=>sp rfl rfl (sp rfl rfl (sp rfl rfl (sp rfl rfl (B9 (oS x4 (g15.1.val,g15.2)) rfl (X1 rfl G_hit rfl) (sp rfl rfl (sp rfl rfl (sp rfl rfl (sp rfl rfl (sl rfl G_hit rfl (sv rfl (sv rfl (sv rfl (sv rfl (B9 (dl A5 [y14.2.2.2]) rfl rfl (sv rfl (B9 (dl A4a [(Crash.mk p2.Tick a1.1 a1.2 x5 (-1) [y14.2.2.2])]) rfl rfl (bs hz6 fun v27 hv27 hz6=>X0 A4a (g15.1.val,g15.2) x4 (Crash.mk p2.Tick a1.1 a1.2 x5 (-1) [y14.2.2.2]) [] _ (O2 (fun _=>rfl)) rfl (A4 (neL g15.1.property rfl) (A4 (neL g15.1.property rfl) (A4 (neL g15.1.property rfl) G_hit))) hv27 (sp rfl rfl (sp rfl rfl (A8z _ _ _ _ _ rfl rfl rfl (A4 rfl (A4 (neR g15.1.property rfl) G_hit)) (nl rfl) ((A0i p1)++ (L5 p2)++ [(di v2.Tick),(oS y2 (10060030,g2)),(oS y5 (85,g6)),(dl A5 p3),(.sl (158,u71))]) rfl (A1 (B3 ?_))))))))))))))))))))))
 cases hz6
 obtain rfl:=ez6 _ rfl
 refine ⟨nofun,D7 ?_⟩
 rw [Sum.elim_inr]at hy12
 cases hy12
 exact C5z (.inr rfl) (D8q) (⟨158, .tail _ (.head _)⟩,u71) ⟨.of rfl, .of rfl, .of rfl,trivial⟩ (B0 (A4 rfl (A4 rfl (A4 (neR g15.1.property rfl) (A4 rfl (A4 rfl (A4 rfl (A4 (neR g15.1.property rfl) (gq rfl)))))))) (.of rfl) (B0 (A4 rfl (A4 rfl (A4 (neR g15.1.property rfl) (A4 rfl (A4 rfl (A4 rfl (A4 (neR g15.1.property rfl) G_hit))))))) (.of rfl) (B0 G_hit (.box (cv (cv (cv (cv (cv (cv (cv (cv (cv (cv (cv (cv (.cons (.of (A2r (A18 hv27)).symm) .nil)))))))))))))) (B0 (A4 rfl (A4 rfl (A4 (neR g15.1.property rfl) (A4 rfl (A4 rfl (A4 rfl (A4 (neR g15.1.property rfl) (A4 rfl (A0o g13.2 G_hit))))))))) (.of rfl) (B0 (A4 rfl (A4 rfl (A4 (neR g15.1.property rfl) (A4 rfl (A4 rfl (A4 rfl (A4 (neR g15.1.property rfl) (gq rfl)))))))) (.of rfl) (B7 (A4 rfl (A4 rfl (A4 (neR g15.1.property rfl) (gq rfl)))) (B7 (A4 rfl (A4 rfl (A4 (neR g15.1.property rfl) (gq rfl)))) (T1 (gq rfl) trivial))))))))
 refine A9 (F9 (B5 (s0:=⟨T [(0,(.ptr (30,u7) 0)),(1,(di a1.1)),(2,(di a1.2)),(22,(di (p1.Lanes.length:Int))),(23,(di x5))],G [((30,u7),some (.box 135 ((A0i p1)++ (L5 p2)++ [(di v2.Tick),(oS y2 (10060030,g2)),(oS y5 (85,g6)),(dl A5 p3),(oS x4 (g15.1.val,g15.2))]))),((10060030,g2),oB 45 7 D2 y2),((85,g6),oB 127 4 L7 y5),((g15.1.val,g15.2),oB 77 6 A4a x4),((6,u1),some (.box 25 [(di 0),(.d .nilS),(.d .nilS)])),((1,u47),some (.box 133 [(.ptr (30,u7) 0)])),((1,g13.1),some (.box 133 [(.ptr (30,u7) 0)])),((1000000,u53),some (.obj (T [(1,(.ptr (1,u47) 0)),(5,(.fn (.func 174) [] [(.ptr (1,g13.1) 0)]))]) {r1 with state:= .busy}))]⟩) (G8 ⟨.of rfl, .of rfl, .of rfl, .of rfl, .of rfl,trivial⟩ (sg rfl (B7 (gq rfl) (B7 (gq rfl) (B7 (A4 (neL g15.1.property rfl) (A4 (neL g15.1.property rfl) (A4 (neL g15.1.property rfl) (A4 (neL g15.1.property rfl) (A4 (neL g15.1.property rfl) (A4 (neL g15.1.property rfl) (A4 (neL g15.1.property rfl) (A4 (neL g15.1.property rfl) (A4 (neL g15.1.property rfl) (A4 (neL g15.1.property rfl) (A4 (neL g15.1.property rfl) (A4 (neL g15.1.property rfl) (A4 (neL g15.1.property rfl) G_hit))))))))))))) (sg rfl (sg rfl (B0 (A4 rfl (A4 rfl (A4 rfl (A4 rfl (A4 rfl (A4 rfl (A4 rfl (A4 rfl (A0o g13.2 G_hit))))))))) (.of rfl) (sg rfl trivial))))))))) ?_))
 refine D0 fun u72 hu72=>sv rfl (sv rfl (A1 (G3 ?_)))
 cases hz6
 exact ⟨rfl,(),(G8 ⟨.of rfl, .of rfl, .of rfl, .of rfl, .of rfl,trivial⟩ (B0 G_hit (.of rfl) (B0 (A4 rfl (A4 rfl (A4 rfl (A4 (neR g15.1.property rfl) G_hit)))) (.of rfl) (B0 (A4 rfl (A4 rfl (A4 rfl (A4 (neR g15.1.property rfl) (gq rfl))))) (.of rfl) (B0 (A4 rfl (A4 rfl (A4 rfl (A4 (neR g15.1.property rfl) (A4 rfl (A0o g13.2 G_hit)))))) (.of rfl) (B0 (A4 rfl (A4 rfl (A4 rfl (A4 (neR g15.1.property rfl) (gq rfl))))) (.of rfl) (B7 (gq rfl) (B7 (gq rfl) (B7 (A4 (neL g15.1.property rfl) (A4 (neL g15.1.property rfl) (A4 (neL g15.1.property rfl) G_hit))) trivial)))))))))⟩
 refine C3 rfl ?_
 cases hz6
 obtain rfl:=ez6 _ rfl
 refine ⟨nofun,C0 rfl (l_j ?_)⟩
 exact ⟨_,(),rfl,(G8 trivial (sg rfl (B0 G_hit (.of rfl) (sg rfl (B0 (A4 rfl (A4 rfl (A0o g13.2 G_hit))) (.of rfl) (sg rfl (B7 (gq rfl) (B7 (gq rfl) (B7 (A4 (neL g15.1.property rfl) (A4 (neL g15.1.property rfl) (A4 (neL g15.1.property rfl) (A4 (neL g15.1.property rfl) (A4 (neL g15.1.property rfl) (A4 (neL g15.1.property rfl) (A4 (neL g15.1.property rfl) G_hit))))))) trivial)))))))))⟩
 rintro _ ⟨y13,g17,rfl,q7⟩
 rw [Sum.elim_inl]at hy12
 refine G3 ?_
 obtain rfl:=(Option.some.inj hy12)
 exact B6p q7 (.inl rfl) (g15.1,g15.2) ⟨.of rfl, .of rfl, .of rfl,trivial⟩ (sg rfl (B0 G_hit (.of rfl) (sg rfl (B0 (A4 rfl (A4 rfl (A0o g13.2 G_hit))) (.of rfl) (sg rfl (B7 (gq rfl) (B7 (gq rfl) (B7 (A4 (neL g15.1.property rfl) (A4 (neL g15.1.property rfl) (A4 (neL g15.1.property rfl) (A4 (neL g15.1.property rfl) (A4 (neL g15.1.property rfl) (A4 (neL g15.1.property rfl) (A4 (neL g15.1.property rfl) G_hit))))))) trivial))))))))
 intro g16
 intro u73 hu73
 refine A1 (D0 fun u74 hu74=>sp rfl (X1 rfl G_hit rfl) (sv rfl (sv rfl (bs hz4 fun y15 hy15 hz4=>C09 (fk Tryz.func184 Tryz.ntmps184 (fun r=>if r==5 then [1002]else if r==6 then [1010]else if r==8 then [1001]else if r==10 then [1001]else if r==11 then [1015]else []) (by with_unfolding_all rfl)) (fun (g20:({d:Nat // d∈ [72,158]}×Nat))=> []) (fun (g20:({d:Nat // d∈ [72,158]}×Nat))=> [((6,u1),some (.box 25 [(di 0),(.d .nilS),(.d .nilS)])),((30,u7),some (.box 135 ((A0i p1)++ (L5 p2)++ [(di v2.Tick),(oS y2 (10060030,g2)),(oS y5 (85,g6)),(dl A5 p3),(oS y15 (g20.1.val,g20.2))]))),((1,u47),some (.box 133 [(.ptr (30,u7) 0)])),((1,g13.1),some (.box 133 [(.ptr (30,u7) 0)])),((1000000,u53),some (.obj (T [(1,(.ptr (1,u47) 0)),(5,(.fn (.func 174) [] [(.ptr (1,g13.1) 0)]))]) {r1 with state:= .busy})),((10060030,g2),oB 45 7 D2 y2),((85,g6),oB 127 4 L7 y5),((g20.1.val,g20.2),oB 77 6 A4a y15)]) rfl (nl rfl) ?_ ?_))))
 unfold A8b at hy15
 refine B5 (s0:=⟨T [(0,(.ptr (30,u7) 0)),(1,(di a1.1)),(2,(di a1.2))],G [((30,u7),some (.box 135 ((A0i p1)++ (L5 p2)++ [(di v2.Tick),(oS y2 (10060030,g2)),(oS y5 (85,g6)),(dl A5 p3),(oS y12 (g16.1.val,g16.2))]))),((10060030,g2),oB 45 7 D2 y2),((85,g6),oB 127 4 L7 y5),((g16.1.val,g16.2),oB 77 6 A4a y12),((6,u1),some (.box 25 [(di 0),(.d .nilS),(.d .nilS)])),((1,u47),some (.box 133 [(.ptr (30,u7) 0)])),((1,g13.1),some (.box 133 [(.ptr (30,u7) 0)])),((1000000,u53),some (.obj (T [(1,(.ptr (1,u47) 0)),(5,(.fn (.func 174) [] [(.ptr (1,g13.1) 0)]))]) {r1 with state:= .busy}))]⟩) (G8 ⟨.of rfl, .of rfl, .of rfl,trivial⟩ (sg rfl (B7 (gq rfl) (B7 (gq rfl) (B7 (A4 (neL g16.1.property rfl) (A4 (neL g16.1.property rfl) (A4 (neL g16.1.property rfl) (A4 (neL g16.1.property rfl) (A4 (neL g16.1.property rfl) (A4 (neL g16.1.property rfl) (A4 (neL g16.1.property rfl) G_hit))))))) (sg rfl (B0 G_hit (.of rfl) (B0 (A0o g13.2 (gq rfl)) (.of rfl) (sg rfl trivial))))))))) ?_
 refine lr (fun u75 hu75=>sp rfl rfl (sp rfl rfl (sp rfl rfl (sp rfl rfl (sl rfl G_hit rfl (sd rfl (E5 rfl) (sv rfl (A1 (bs hy15 fun y16 hy16 hy15=>E0 (fun s=> ∃g21:({d:Nat // d∈ [72,158]}×Nat),Sb ⟨T [],G [((6,u1),some (.box 25 [(di 0),(.d .nilS),(.d .nilS)])),((30,u7),some (.box 135 ((A0i p1)++ (L5 p2)++ [(di v2.Tick),(oS y2 (10060030,g2)),(oS y5 (85,g6)),(dl A5 p3),(oS y16 (g21.1.val,g21.2))]))),((1,u47),some (.box 133 [(.ptr (30,u7) 0)])),((1,g13.1),some (.box 133 [(.ptr (30,u7) 0)])),((1000000,u53),some (.obj (T [(1,(.ptr (1,u47) 0)),(5,(.fn (.func 174) [] [(.ptr (1,g13.1) 0)]))]) {r1 with state:= .busy})),((10060030,g2),oB 45 7 D2 y2),((85,g6),oB 127 4 L7 y5),((g21.1.val,g21.2),oB 77 6 A4a y16)]⟩ s) ?_ ?_)))))))))
 refine A8 (E7 (A66 p1 p2 p3 v2 y2 y5 a1) (fun (x6:(Int× (List Crash))) (g22:({d:Nat // d∈ [72,158]}×Nat))=>⟨T [(0,(.ptr (30,u7) 0)),(1,(di a1.1)),(2,(di a1.2)),(15,(di (p1.Zones.length:Int))),(16,(di x6.1))],G [((30,u7),some (.box 135 ((A0i p1)++ (L5 p2)++ [(di v2.Tick),(oS y2 (10060030,g2)),(oS y5 (85,g6)),(dl A5 p3),(oS x6.2 (g22.1.val,g22.2))]))),((6,u1),some (.box 25 [(di 0),(.d .nilS),(.d .nilS)])),((1,u47),some (.box 133 [(.ptr (30,u7) 0)])),((1,g13.1),some (.box 133 [(.ptr (30,u7) 0)])),((1000000,u53),some (.obj (T [(1,(.ptr (1,u47) 0)),(5,(.fn (.func 174) [] [(.ptr (1,g13.1) 0)]))]) {r1 with state:= .busy})),((10060030,g2),oB 45 7 D2 y2),((85,g6),oB 127 4 L7 y5),((g22.1.val,g22.2),oB 77 6 A4a x6.2)]⟩) (0,y12) (g16.1,g16.2) _ hy16 (G8 ⟨.of rfl, .of rfl, .of rfl, .of rfl, .of rfl,trivial⟩ (B0 G_hit (.of rfl) (B0 (A4 rfl (A4 rfl (A4 rfl (A4 (neR g16.1.property rfl) G_hit)))) (.of rfl) (B0 (A4 rfl (A4 rfl (A4 rfl (A4 (neR g16.1.property rfl) (gq rfl))))) (.of rfl) (B0 (A4 rfl (A4 rfl (A4 rfl (A4 (neR g16.1.property rfl) (A4 rfl (A0o g13.2 G_hit)))))) (.of rfl) (B0 (A4 rfl (A4 rfl (A4 rfl (A4 (neR g16.1.property rfl) (gq rfl))))) (.of rfl) (B7 (gq rfl) (B7 (gq rfl) (B7 (A4 (neL g16.1.property rfl) (A4 (neL g16.1.property rfl) (A4 (neL g16.1.property rfl) G_hit))) trivial))))))))) ?_)
 intro x6 g22 z7 hz7 ez7
 unfold A66 at hz7
 refine lr (fun u76 hu76=>sv rfl (A1 (A6 (cc rfl hz7 (fun c13 hz7=> ?_) (fun c13 hz7=> ?_)))))
 refine A9 (A6 (A8 (lr (fun u77 hu77=>sv rfl (sv rfl (A1 (A6 (lr (fun u78 hu78=>sp rfl rfl (sv rfl (sv rfl (sv rfl (bs hz7 fun v28 hv28 hz7=>B1 rfl (C9 (A2q G_hit (rD (rD (rD (rD (rD (rD (rD (rD (rD (C9 (A1x (gq rfl)) (C9 (A1x (gq rfl)) (rD (C9 (A1x (A4 (neL g22.1.property rfl) (A4 (neL g22.1.property rfl) (A4 (neL g22.1.property rfl) (A4 (neL g22.1.property rfl) (A4 (neL g22.1.property rfl) (A4 (neL g22.1.property rfl) (A4 (neL g22.1.property rfl) G_hit)))))))) E2)))))))))))))) (rD (rD (rD E2)))) (.cons (DLe.bp (ca rfl (ca rfl (ca rfl (ca rfl (ca rfl (ca rfl (ca rfl (ca rfl (ca rfl (.cons ⟨A1w,rfl⟩ (.cons ⟨A1w,rfl⟩ (ca rfl (.cons ⟨A1w,rfl⟩ .nil)))))))))))))) (.cons (.refl _) (.cons (.refl _) A2))) (A7u _ _ _ _ _ hv28) (.inr rfl) (B9 (.d (bo (!v28))) rfl rfl (A1 (cc rfl hz7 (fun c14 hz7=> ?_) (fun c14 hz7=> ?_)))))))))))))))))
 refine B9t rfl (D0 fun u79 hu79=>sv rfl (sv rfl (A1 (G3 ?_))))
 cases hz7
 exact ⟨rfl,(g22.1,g22.2),(G8 ⟨.of rfl, .of rfl, .of rfl, .of rfl, .of rfl,trivial⟩ (B0 G_hit (.of rfl) (sg rfl (sg rfl (B0 (A4 rfl (A4 rfl (A0o g13.2 G_hit))) (.of rfl) (sg rfl (B7 (gq rfl) (B7 (gq rfl) (B7 (A4 (neL g22.1.property rfl) (A4 (neL g22.1.property rfl) (A4 (neL g22.1.property rfl) (A4 (neL g22.1.property rfl) (A4 (neL g22.1.property rfl) (A4 (neL g22.1.property rfl) (A4 (neL g22.1.property rfl) G_hit))))))) trivial)))))))))⟩
 refine A9 (lr (fun u80 hu80=>sp rfl rfl (sv rfl (sv rfl (bs hz7 fun v29 hv29 hz7=>B1 rfl (C9 (A2q G_hit (rD (rD (rD (rD (rD (rD (rD (rD (rD (C9 (A1x (gq rfl)) (C9 (A1x (gq rfl)) (rD (C9 (A1x (A4 (neL g22.1.property rfl) (A4 (neL g22.1.property rfl) (A4 (neL g22.1.property rfl) (A4 (neL g22.1.property rfl) (A4 (neL g22.1.property rfl) (A4 (neL g22.1.property rfl) (A4 (neL g22.1.property rfl) G_hit)))))))) E2)))))))))))))) (rD (rD E2))) (.cons (DLe.bp (ca rfl (ca rfl (ca rfl (ca rfl (ca rfl (ca rfl (ca rfl (ca rfl (ca rfl (.cons ⟨A1w,rfl⟩ (.cons ⟨A1w,rfl⟩ (ca rfl (.cons ⟨A1w,rfl⟩ .nil)))))))))))))) (.cons (.refl _) A2)) (A8p _ _ _ _ hv29) (.inr rfl) (sp rfl rfl (sv rfl (sv rfl (bs hz7 fun v30 hv30 hz7=>B1 rfl (C9 (A2q G_hit (rD (rD (rD (rD (rD (rD (rD (rD (rD (C9 (A1x (gq rfl)) (C9 (A1x (gq rfl)) (rD (C9 (A1x (A4 (neL g22.1.property rfl) (A4 (neL g22.1.property rfl) (A4 (neL g22.1.property rfl) (A4 (neL g22.1.property rfl) (A4 (neL g22.1.property rfl) (A4 (neL g22.1.property rfl) (A4 (neL g22.1.property rfl) G_hit)))))))) E2)))))))))))))) (rD (rD E2))) (.cons (DLe.bp (ca rfl (ca rfl (ca rfl (ca rfl (ca rfl (ca rfl (ca rfl (ca rfl (ca rfl (.cons ⟨A1w,rfl⟩ (.cons ⟨A1w,rfl⟩ (ca rfl (.cons ⟨A1w,rfl⟩ .nil)))))))))))))) (.cons (.refl _) A2)) (A8p _ _ _ _ hv30) (.inr rfl) (sn rfl rfl (sn rfl rfl (sst rfl (gq rfl) (B8n v29) rfl (sst rfl (gq rfl) (B8n v30) rfl (A1 (lr (fun u81 hu81=>sv rfl (sv rfl (B9 (dl A5 [a1.1,a1.2]) rfl rfl (B9 (dl A5 [a1.1,a1.2]) rfl rfl (A1 (A6 (A6 (I6 rfl fun u82 hu82=>sp rfl rfl (sl rfl (gq rfl) rfl (sp rfl rfl (sl rfl G_hit rfl (bs hz7 fun v31 hv31 hz7=>B1 rfl rfl A2 (A4b _ _ _ hv31) (.inl rfl) (sp rfl rfl (sl rfl G_hit rfl (sp rfl rfl (sl rfl (gq rfl) rfl (bs hz7 fun v32 hv32 hz7=>B1 rfl rfl A2 (A9f _ _ _ hv32) (.inl rfl) (B9 (dl A5 [v31,v32]) rfl rfl (bs hz7 fun v33 hv33 hz7=>B1 rfl rfl A2 (B2z _ _ hv33) (.inl rfl) (A1 (bs hz7 fun y17 hy17 hz7=>E0 (fun s=> ∃g23:Unit,Sb ⟨T [(0,(.ptr (30,u7) 0)),(1,(di a1.1)),(2,(di a1.2)),(6,(di x6.1)),(9,(dl A5 y17)),(15,(di (p1.Zones.length:Int))),(16,(di x6.1))],G [((30,u7),some (.box 135 ((A0i p1)++ (L5 p2)++ [(di v2.Tick),(oS y2 (10060030,g2)),(oS y5 (85,g6)),(dl A5 p3),(oS x6.2 (g22.1.val,g22.2))]))),((6,u1),some (.box 25 [(di 0),(.d .nilS),(.d .nilS)])),((1,u47),some (.box 133 [(.ptr (30,u7) 0)])),((1,g13.1),some (.box 133 [(.ptr (30,u7) 0)])),((1000000,u53),some (.obj (T [(1,(.ptr (1,u47) 0)),(5,(.fn (.func 174) [] [(.ptr (1,g13.1) 0)]))]) {r1 with state:= .busy})),((10060030,g2),oB 45 7 D2 y2),((85,g6),oB 127 4 L7 y5),((g22.1.val,g22.2),oB 77 6 A4a x6.2)]⟩ s) ?_ ?_))))))))))))))))))))))))))))))))))))
 refine A8 (lr (fun u83 hu83=>sv rfl (sv rfl (A1 (cc rfl hy17 (fun c15 hy17=> ?_) (fun c15 hy17=> ?_))))))
 refine D0 fun u84 hu84=>sv rfl (B9 (dl A5 [a1.1]) rfl rfl (B9 (dl A5 [a1.1]) rfl rfl (A1 (F9 ?_))))
 cases hy17
 exact l_j ⟨(),(G8 ⟨.of rfl, .of rfl, .of rfl, .of rfl, .of rfl, .of rfl, .of rfl,trivial⟩ (sg rfl (sg rfl (sg rfl (B0 (A4 rfl (A4 rfl (A4 rfl (A4 rfl (A4 rfl (A4 rfl (A0o g13.2 G_hit))))))) (.of rfl) (sg rfl (B7 (gq rfl) (B7 (gq rfl) (B7 (A4 (neL g22.1.property rfl) (A4 (neL g22.1.property rfl) (A4 (neL g22.1.property rfl) (A4 (neL g22.1.property rfl) (A4 (neL g22.1.property rfl) (A4 (neL g22.1.property rfl) (A4 (neL g22.1.property rfl) (A4 (neL g22.1.property rfl) (A4 (neL g22.1.property rfl) (A4 (neL g22.1.property rfl) (A4 (neL g22.1.property rfl) G_hit))))))))))) trivial)))))))))⟩
 refine lr (fun u85 hu85=>sv rfl (sv rfl (A1 (cc rfl hy17 (fun c16 hy17=> ?_) (fun c16 hy17=> ?_)))))
 refine D0 fun u86 hu86=>sv rfl (B9 (dl A5 [a1.2]) rfl rfl (B9 (dl A5 [a1.2]) rfl rfl (A1 (F9 ?_))))
 cases hy17
 exact l_j ⟨(),(G8 ⟨.of rfl, .of rfl, .of rfl, .of rfl, .of rfl, .of rfl, .of rfl,trivial⟩ (sg rfl (sg rfl (sg rfl (B0 (A4 rfl (A4 rfl (A4 rfl (A4 rfl (A4 rfl (A4 rfl (A0o g13.2 G_hit))))))) (.of rfl) (sg rfl (B7 (gq rfl) (B7 (gq rfl) (B7 (A4 (neL g22.1.property rfl) (A4 (neL g22.1.property rfl) (A4 (neL g22.1.property rfl) (A4 (neL g22.1.property rfl) (A4 (neL g22.1.property rfl) (A4 (neL g22.1.property rfl) (A4 (neL g22.1.property rfl) (A4 (neL g22.1.property rfl) (A4 (neL g22.1.property rfl) (A4 (neL g22.1.property rfl) (A4 (neL g22.1.property rfl) G_hit))))))))))) trivial)))))))))⟩
 refine A9 (F9 ?_)
 cases hy17
 exact l_j ⟨(),(G8 ⟨.of rfl, .of rfl, .of rfl, .of rfl, .of rfl, .of rfl, .of rfl,trivial⟩ (sg rfl (sg rfl (sg rfl (B0 (A4 rfl (A4 rfl (A4 rfl (A4 rfl (A4 rfl (A4 rfl (A0o g13.2 G_hit))))))) (.of rfl) (sg rfl (B7 (gq rfl) (B7 (gq rfl) (B7 (A4 (neL g22.1.property rfl) (A4 (neL g22.1.property rfl) (A4 (neL g22.1.property rfl) (A4 (neL g22.1.property rfl) (A4 (neL g22.1.property rfl) (A4 (neL g22.1.property rfl) (A4 (neL g22.1.property rfl) (A4 (neL g22.1.property rfl) (A4 (neL g22.1.property rfl) (A4 (neL g22.1.property rfl) (A4 (neL g22.1.property rfl) G_hit))))))))))) trivial)))))))))⟩
 rintro _ ⟨g23,q8⟩
 refine B5 q8 (I6 rfl fun u87 hu87=>sp rfl rfl (sp rfl rfl (sp rfl rfl (sp rfl rfl (B9 (oS x6.2 (g22.1.val,g22.2)) rfl (X1 rfl G_hit rfl) (sp rfl rfl (sp rfl rfl (sp rfl rfl (sp rfl rfl (sl rfl G_hit rfl (sv rfl (sv rfl (sv rfl (sv rfl (sv rfl (B9 (dl A4a [(Crash.mk p2.Tick a1.1 a1.2 (-1) x6.1 y17)]) rfl rfl (bs hz7 fun v34 hv34 hz7=>X0 A4a (g22.1.val,g22.2) x6.2 (Crash.mk p2.Tick a1.1 a1.2 (-1) x6.1 y17) [] _ (O2 (fun _=>rfl)) rfl (A4 (neL g22.1.property rfl) (A4 (neL g22.1.property rfl) (A4 (neL g22.1.property rfl) (A4 (neL g22.1.property rfl) (A4 (neL g22.1.property rfl) (A4 (neL g22.1.property rfl) (A4 (neL g22.1.property rfl) G_hit))))))) hv34 (sp rfl rfl (sp rfl rfl (A8z _ _ _ _ _ rfl rfl rfl (A4 rfl (A4 (neR g22.1.property rfl) G_hit)) (nl rfl) ((A0i p1)++ (L5 p2)++ [(di v2.Tick),(oS y2 (10060030,g2)),(oS y5 (85,g6)),(dl A5 p3),(.sl (72,u87))]) rfl (A1 (F9 (D0 fun u88 hu88=>sv rfl (sv rfl (A1 (G3 ?_))))))))))))))))))))))))))
 cases hz7
 exact ⟨rfl,(⟨72, .head _⟩,u87),(G8 ⟨.of rfl, .of rfl, .of rfl, .of rfl, .of rfl,trivial⟩ (B0 G_hit (.box (cv (cv (cv (cv (cv (cv (cv (cv (cv (cv (cv (cv (.cons (.of (A2r (A18 hv34)).symm) .nil)))))))))))))) (B0 (A4 rfl (A4 rfl (A4 (neR g22.1.property rfl) (gq rfl)))) (.of rfl) (B0 (A4 rfl (A4 rfl (A4 (neR g22.1.property rfl) (gq rfl)))) (.of rfl) (B0 (A4 rfl (A4 rfl (A4 (neR g22.1.property rfl) (A4 rfl (A4 rfl (A0o g13.2 G_hit)))))) (.of rfl) (B0 (A4 rfl (A4 rfl (A4 (neR g22.1.property rfl) (gq rfl)))) (.of rfl) (B7 (A4 rfl (A4 rfl (A4 (neR g22.1.property rfl) (gq rfl)))) (B7 (A4 rfl (A4 rfl (A4 (neR g22.1.property rfl) (gq rfl)))) (T1 (gq rfl) trivial)))))))))⟩
 refine C3 rfl ?_
 cases hz7
 obtain rfl:=ez7 _ rfl
 refine ⟨nofun,C0 rfl (l_j ?_)⟩
 exact ⟨(g22.1,g22.2),(G8 trivial (sg rfl (B0 G_hit (.of rfl) (sg rfl (B0 (A4 rfl (A4 rfl (A0o g13.2 G_hit))) (.of rfl) (sg rfl (B7 (gq rfl) (B7 (gq rfl) (B7 (A4 (neL g22.1.property rfl) (A4 (neL g22.1.property rfl) (A4 (neL g22.1.property rfl) (A4 (neL g22.1.property rfl) (A4 (neL g22.1.property rfl) (A4 (neL g22.1.property rfl) (A4 (neL g22.1.property rfl) G_hit))))))) trivial)))))))))⟩
 rintro _ ⟨g21,q9⟩
 refine G3 ?_
 obtain rfl:=(Option.some.inj hy15)
 exact B6p q9 (.inl rfl) (g21.1,g21.2) trivial (B0 G_hit (.of rfl) (sg rfl (sg rfl (B0 (A4 rfl (A4 rfl (A0o g13.2 G_hit))) (.of rfl) (sg rfl (B7 (gq rfl) (B7 (gq rfl) (B7 (A4 (neL g21.1.property rfl) (A4 (neL g21.1.property rfl) (A4 (neL g21.1.property rfl) (A4 (neL g21.1.property rfl) (A4 (neL g21.1.property rfl) (A4 (neL g21.1.property rfl) (A4 (neL g21.1.property rfl) G_hit))))))) trivial))))))))
 intro g20
 intro u89 hu89
 refine A1 (F9 (G3 ?_))
 cases hz4
 exact D4j (gq rfl) (g20.1,g20.2) (sg rfl (B0 (A4 rfl (A4 rfl (A0o g13.2 G_hit))) (.of rfl) (B0 G_hit (.of rfl) (sg rfl (B7 (gq rfl) (B7 (gq rfl) (B7 (A4 (neL g20.1.property rfl) (A4 (neL g20.1.property rfl) (A4 (neL g20.1.property rfl) (A4 (neL g20.1.property rfl) (A4 (neL g20.1.property rfl) (A4 (neL g20.1.property rfl) (A4 (neL g20.1.property rfl) G_hit))))))) trivial)))))))
 rintro x4 g15 _ rfl qx4
 refine F9 (l_j ?_)
 exact ⟨(g15.1,g15.2),(Sb.after qx4 (G8 trivial (sg rfl (sg rfl (B7 (gq rfl) (B7 (gq rfl) (B7 (A4 (neL g15.1.property rfl) (A4 (neL g15.1.property rfl) (A4 (neL g15.1.property rfl) (A4 (neL g15.1.property rfl) (A4 (neL g15.1.property rfl) (A4 (neL g15.1.property rfl) G_hit)))))) trivial)))))))⟩
 rintro _ ⟨g14,q10⟩
 refine G3 ?_
 obtain rfl:=(Option.some.inj hy9)
 exact B6p q10 (.inl rfl) (g14.1,g14.2) ⟨.of rfl, .of rfl, .of rfl, .of rfl,trivial⟩ (B0 G_hit (.of rfl) (sg rfl (B7 (gq rfl) (B7 (gq rfl) (B7 (A4 (neL g14.1.property rfl) (A4 (neL g14.1.property rfl) (A4 (neL g14.1.property rfl) (A4 (neL g14.1.property rfl) G_hit)))) trivial)))))
 intro g12
 intro u90 hu90
 refine A1 (F9 (D0 fun u91 hu91=>sv rfl (sv rfl (A1 (B94 (lr (fun u92 hu92=>sv rfl (A1 (A6 (B3y rfl (B9t rfl ?_)))))))))))
 cases hy1
 exact l_j ⟨(g2,g6,(g12.1,g12.2)),(G8 ⟨.of rfl, .of rfl,trivial⟩ (B0 G_hit (.of rfl) (sg rfl (B7 (gq rfl) (B7 (gq rfl) (B7 (A4 (neL g12.1.property rfl) (A4 (neL g12.1.property rfl) (A4 (neL g12.1.property rfl) (A4 (neL g12.1.property rfl) G_hit)))) trivial))))))⟩
 rintro _ ⟨g1,q11⟩
 refine B5 q11 (lr (fun u93 hu93=>sp rfl rfl (sp rfl rfl (sp rfl rfl (sp rfl rfl (sl rfl (gq rfl) rfl (sv rfl (sp rfl rfl (sp rfl rfl (sp rfl rfl (sst rfl (gq rfl) ((A0i p1)++ (L5 p2)++ [(di (w64 (v2.Tick+1))),(oS y1.1 (10060030,g1.1)),(oS y1.2.1 (85,g1.2.1)),(dl A5 p3),(oS y1.2.2 (g1.2.2.1.val,g1.2.2.2))]) rfl (A1 (A6 (B7m fun u94 hu94=>A1y (.ptr _ _) rfl rfl (A1y (.ptr _ _) rfl rfl (A1y (.ptr _ _) rfl rfl (A1y (A39 [(di (w64 (v2.Tick+1))),(oS y1.1 (10060030,g1.1)),(oS y1.2.1 (85,g1.2.1))]) rfl (B2 rfl G_hit rfl rfl) (A1y (.ptr _ _) rfl rfl (A1y (.ptr _ _) rfl rfl (A1y (.ptr _ _) rfl rfl (A1y (oS y1.2.2 (g1.2.2.1.val,g1.2.2.2)) rfl (X1 rfl G_hit rfl) (B9w _ _ _ _ _ (Z1 _) rfl rfl (gq rfl) (nl rfl) [(di (w64 (v2.Tick+1))),(oS y1.1 (10060030,g1.1)),(oS y1.2.1 (85,g1.2.1))] rfl (A1y (oS y1.2.2 (g1.2.2.1.val,g1.2.2.2)) rfl rfl (A1y (.d _) rfl rfl (C8r ⟨by first|rfl|((generalize g1.2.2.1=q0;rcases q0 with ⟨d0,_|⟨_,_|⟨_,h0⟩⟩⟩)<;>(generalize y1.2.2=z4;cases z4)<;>first|rfl|contradiction),?_⟩)))))))))))))))))))))))))
 refine B3 ?_
 cases h
 exact A7 (.inr rfl) (C2p (K9 rfl G_hit (nl rfl) rfl) (B4 rfl) (B4 rfl) (B18 (rD (C9 (A1x (gq rfl)) (C9 (A1x (gq rfl)) E2)))) (A1x (A4 (neL g1.2.2.1.property rfl) (A4 (neL g1.2.2.1.property rfl) (A4 (neL g1.2.2.1.property rfl) (A4 (neL g1.2.2.1.property rfl) (A4 (neL g1.2.2.1.property rfl) (A4 (neL g1.2.2.1.property rfl) G_hit))))))) E1) (.tup (.cons (.agg (ca rfl (.cons ⟨A1w,rfl⟩ (.cons ⟨A1w,rfl⟩ .nil)))) (.cons A1w A2)))
noncomputable def A6e:Option Bool:=
  (B3z).bind fun v1=>(A7w 0 10000 1000).bind fun v2=>(A7w 1 46000 1000).bind fun v3=>(B43 v1 [v2,v3]).bind fun v4=>cond (((v4.2 !=0)||((v4.1.In.length:Int) !=0))||((v4.1.Agents.length:Int) !=2)) (some false) ((B2j v1 v4.1 [50,(-90)]).bind fun v5=>((cond (((v5.2.2==0)&& ((v5.2.1.length:Int)==0))&& ((v5.1.Agents.length:Int)==2)) (D6 v5.1.Agents 0) (some default))).bind fun v6=>((cond ((((v5.2.2==0)&& ((v5.2.1.length:Int)==0))&& ((v5.1.Agents.length:Int)==2))&& (v6.S==11030)) (D6 v5.1.Agents 1) (some default))).bind fun v7=>((cond (((((v5.2.2==0)&& ((v5.2.1.length:Int)==0))&& ((v5.1.Agents.length:Int)==2))&& (v6.S==11030))&& (v7.V==910)) (A81 100 30) (some default))).bind fun v8=>some ((((((v5.2.2==0)&& ((v5.2.1.length:Int)==0))&& ((v5.1.Agents.length:Int)==2))&& (v6.S==11030))&& (v7.V==910))&& (v8==120)))
theorem B5a (r:Bool)(h:A6e=some r):PCall Tryz.prog 21 [] (bo r):=by
 refine B8 (fk Tryz.func21 Tryz.ntmps21 (fun r=>if r==2 then [1003]else if r==5 then [1002]else []) (by with_unfolding_all rfl)) (nl rfl) ?_
 unfold A6e at h
 refine B5 (s0:=⟨T [],G []⟩) (sbr rfl rfl) ?_
 refine lr (fun u1 hu1=>sv rfl (A1 (lr (fun u2 hu2=>bs h fun v1 hv1 h=>B1 rfl rfl A2 (C4s _ hv1) (.inl rfl) (sn rfl rfl (sst rfl G_hit (A0i v1) rfl (A1 (A6 (I6 rfl fun u3 hu3=>sd rfl (B2 rfl G_hit rfl rfl) (bs h fun v2 hv2 h=>B1 rfl rfl A2 (B57 _ _ _ _ hv2) (.inl rfl) (bs h fun v3 hv3 h=>B1 rfl rfl A2 (B57 _ _ _ _ hv3) (.inl rfl) (B9 (dl D2 [v2,v3]) rfl (C06 D2 ([v2,v3]:List Agent) (fun _=>rfl) rfl rfl ⟨rfl,rfl,rfl,rfl,rfl,rfl,trivial⟩ (fun _=>rfl)) (bs h fun v4 hv4 h=>B1 rfl rfl A2 (C4t _ _ _ hv4) (.inl rfl) (sv rfl (sv rfl (sv rfl (sn rfl rfl (sst rfl G_hit (L5 v4.1) rfl (sv rfl (A1 (A6 (lr (fun u4 hu4=>sv rfl (sv rfl (sv rfl (gp rfl (T8 rfl) (fun _=>rfl) (gf rfl (vl rfl G_hit rfl) (gf rfl (fun w3=>(E5 (A3 w3))) (gf rfl (vb rfl rfl rfl) (sd rfl (A0u rfl rfl (fun hc=>A3 (L6 hc))) (sv rfl (gp rfl (T8 rfl) (fun _=>rfl) (gf rfl (vl rfl G_hit rfl) (gf rfl (fun w7=>(E5 (A3 w7))) (gf rfl (vb rfl rfl rfl) (sd rfl (A0u rfl rfl (fun hc=>A3 (L6 hc))) (A1 (cc rfl h (fun c1 h=> ?_) (fun c1 h=> ?_)))))))))))))))))))))))))))))))))))))))
 refine lr (fun u5 hu5=>sv rfl (A1 (B3 ?_)))
 cases h
 exact A7 (.inr rfl) (B6 (B4 rfl) E1) (.refl _)
 refine A9 (lr (fun u6 hu6=>sd rfl (B2 rfl (gq rfl) rfl rfl) (sd rfl (B2 rfl G_hit rfl rfl) (B9 (dl A5 [50,(-90)]) rfl rfl (bs h fun v5 hv5 h=>B1 rfl rfl A2 (C36 _ _ _ _ hv5) (.inl rfl) (sv rfl (sv rfl (sv rfl (sv rfl (sn rfl rfl (sst rfl G_hit (L5 v5.1) rfl (sv rfl (sv rfl (A1 (lr (fun u7 hu7=>sv rfl (sv rfl (sv rfl (gt rfl (fun _=>rfl) (gt rfl (fun w10=>(E5 (A3 w10))) (gt rfl (vb rfl rfl rfl) (sa rfl rfl rfl (sv rfl (gp rfl (A19 rfl) (fun _=>rfl) (gt rfl (vl rfl G_hit rfl) (gt rfl (fun w14=>(E5 (A3 w14))) (gt rfl (vb rfl rfl rfl) (sa rfl rfl rfl (sv rfl (gp rfl (A19 rfl) (fun _=>rfl) (gt rfl (vl rfl G_hit rfl) (bs h fun v6 hv6 h=>gt rfl (fun w18=>(E4 (A3 w18) rfl (C7 w18 hv6) rfl)) ?_))))))))))))))))))))))))))))))))
 refine gt rfl (fun w19=>(by simp only [A3 w19];rfl)) ?_
 refine gt rfl (fun w20=>(F3 (A3 w20) (C7 w20 hv6) rfl)) (gt rfl (vb rfl rfl rfl) (sa rfl rfl rfl (sv rfl (gp rfl (A19 rfl) (fun _=>rfl) (gt rfl (vl rfl G_hit rfl) (bs h fun v7 hv7 h=>gt rfl (fun w24=>(E4 (A3 w24) rfl (C7 w24 hv7) rfl)) ?_))))))
 refine gt rfl (fun w25=>(by simp only [A3 w25];rfl)) ?_
 refine gt rfl (fun w26=>(F3 (A3 w26) (C7 w26 hv7) rfl)) (gt rfl (vb rfl rfl rfl) (sa rfl rfl rfl (sv rfl (bs h fun v8 hv8 h=>U8 _ (i64 v8) (A19 rfl) (fun w28=>⟨_,_,_,_,rfl,rfl,A2,B33 _ _ _ (C7 w28 hv8),(.inl rfl)⟩) (gt rfl (vb rfl rfl rfl) (sa rfl rfl rfl (sv rfl (A1 (B3 ?_)))))))))
 cases h
 exact A7 (.inr rfl) (B6 (B4 rfl) E1) (.refl _)
noncomputable def C0h (p1:Int)(p2:Int):Option Int:=
  (D0d p1 p2).bind fun v1=>cond (decide (v1<0)) (some (w64 (v1+p2))) (some v1)
theorem C8v (p1:Int)(p2:Int)(r:Int)(h:C0h p1 p2=some r):PCall Tryz.prog 37 [(i64 p1),(i64 p2)] (i64 r):=by
 refine B8 (fk Tryz.func37 Tryz.ntmps37 m0 (by with_unfolding_all rfl)) (nl rfl) ?_
 unfold C0h at h
 refine B5 (s0:=⟨T [(0,(.d _)),(1,(.d _))],G []⟩) (sbr rfl rfl) ?_
 refine lr (fun u1 hu1=>sv rfl (A1 (lr (fun u2 hu2=>sv rfl (sv rfl (bs h fun v1 hv1 h=>sd rfl (D3a rfl rfl hv1) (sv rfl (A1 (A6 (lr (fun u3 hu3=>sv rfl (sv rfl (A1 (cc rfl h (fun c1 h=> ?_) (fun c1 h=> ?_)))))))))))))))
 refine D0 fun u4 hu4=>sv rfl (sv rfl (sv rfl (sv rfl (A1 (lr (fun u5 hu5=>sv rfl (sv rfl (A1 (B3 ?_)))))))))
 cases h
 exact A7 (.inr rfl) (B6 (B4 rfl) E1) (.refl _)
 refine A9 (lr (fun u6 hu6=>sv rfl (sv rfl (A1 (B3 ?_)))))
 cases h
 exact A7 (.inr rfl) (B6 (B4 rfl) E1) (.refl _)
noncomputable def B2k (p1:Int)(p2:Int)(p3:Int):Option Signal:=
  some (Signal.mk p1 [(Phase.mk 12 [p2]),(Phase.mk 5 []),(Phase.mk 9 [p3]),(Phase.mk 4 [])])
theorem B34 (p1:Int)(p2:Int)(p3:Int)(r:Signal)(h:B2k p1 p2 p3=some r):PCall Tryz.prog 70 [(i64 p1),(i64 p2),(i64 p3)] (.agg [(i64 r.Offset),(.list (List.map A5q r.Phases))]):=by
 refine B8 (fk Tryz.func70 Tryz.ntmps70 (fun r=>if r==1 then [1002,1006,1009]else []) (by with_unfolding_all rfl)) (nl rfl) ?_
 unfold B2k at h
 refine B5 (s0:=⟨T [(0,(.d _)),(1,(.d _)),(2,(.d _))],G []⟩) (sbr rfl rfl) ?_
 refine lr (fun u1 hu1=>sn rfl rfl (A1 (lr (fun u2 hu2=>sv rfl (sv rfl (B9 (dl A5 [p2]) rfl rfl (sv rfl (sv rfl (sv rfl (B9 (dl A5 [p3]) rfl rfl (sv rfl (sv rfl (B9 (dl A5q [(Phase.mk 12 [p2]),(Phase.mk 5 []),(Phase.mk 9 [p3]),(Phase.mk 4 [])]) rfl rfl (sv rfl (sst rfl G_hit [(di p1),(dl A5q [(Phase.mk 12 [p2]),(Phase.mk 5 []),(Phase.mk 9 [p3]),(Phase.mk 4 [])])] rfl (A1 (B3 ?_)))))))))))))))))
 cases h
 exact A7 (.inr rfl) (B6 (K9 rfl G_hit (nl rfl) rfl) E1) (.refl _)
noncomputable def B7x (p1:Int):Option Map:=
  (C0h p1 16777216).bind fun v1=>(D6 [1500,600,1000,300] ((w64 (v1.tdiv 7)).tmod 4)).bind fun v2=>(cond ((v1.tmod 7)==0) ((X9 1 v2 [] [0,0,60000,0]).bind fun v3=>some ([v3],[],[])) ((cond ((v1.tmod 7)==1) (some ((v1.tmod 7)==1)) (some ((v1.tmod 7)==2))).bind fun y2=>cond y2 ((X9 1 v2 [] [0,0,50000,0]).bind fun v4=>(X9 1 1500 [] [30000,(-20000),30000,20000]).bind fun v5=>cond ((v1.tmod 7)==2) ((D6 [(Zone.mk [(Part.mk 0 28000 32000 ((w64 (v1.tdiv 28)).tmod 2)),(Part.mk 1 18000 22000 (w64 (2 - (w64 (2* ((w64 (v1.tdiv 28)).tmod 2))))))] 0)] 0).bind fun v6=>(B2k ((w64 (v1.tdiv 28)).tmod 31) 0 1).bind fun v7=>some ([v4,v5],(B8d [(Zone.mk [(Part.mk 0 28000 32000 ((w64 (v1.tdiv 28)).tmod 2)),(Part.mk 1 18000 22000 (w64 (2 - (w64 (2* ((w64 (v1.tdiv 28)).tmod 2))))))] 0)] 0 (Zone.mk v6.Parts 1)),[v7])) (some ([v4,v5],[(Zone.mk [(Part.mk 0 28000 32000 ((w64 (v1.tdiv 28)).tmod 2)),(Part.mk 1 18000 22000 (w64 (2 - (w64 (2* ((w64 (v1.tdiv 28)).tmod 2))))))] 0)],[]))) (cond ((v1.tmod 7)==3) ((X9 1 v2 [1,2] [0,0,30000,0]).bind fun v8=>(X9 1 1500 [] [30000,0,60000,0]).bind fun v9=>(X9 1 800 [] [30000,0,54000,10000]).bind fun v10=>some ([v8,v9,v10],[],[])) (cond ((v1.tmod 7)==4) ((X9 1 v2 [2] [0,0,30000,0]).bind fun v11=>(X9 1 1500 [2] [6000,(-10000),30000,0]).bind fun v12=>(X9 1 1500 [] [30000,0,60000,0]).bind fun v13=>some ([v11,v12,v13],[(Zone.mk [(Part.mk 0 25000 30000 1),(Part.mk 1 20000 26000 0),(Part.mk 2 0 5000 0)] 0)],[])) (cond ((v1.tmod 7)==5) ((X9 1 v2 [1] [0,0,20000,0]).bind fun v14=>(X9 1 v2 [] [20000,0,50000,0]).bind fun v15=>(X9 3 200 [] [35000,(-8000),35000,8000]).bind fun v16=>some ([v14,v15,v16],[(Zone.mk [(Part.mk 1 14000 16000 0),(Part.mk 2 6000 10000 3)] 0)],[])) (cond ((v1.tmod 7)==6) ((X9 1 v2 [1,2] [0,0,20000,0]).bind fun v17=>(X9 1 1500 [] [20000,0,50000,0]).bind fun v18=>(X9 1 1000 [] [20000,0,44000,10000]).bind fun v19=>(X9 2 700 [] [36000,(-12000),36000,18000]).bind fun v20=>cond (((w64 (v1.tdiv 28)).tmod 2)==1) ((D6 [(Zone.mk [(Part.mk 1 14000 18000 1),(Part.mk 3 10000 14000 0)] 0),(Zone.mk [(Part.mk 2 14000 21000 1),(Part.mk 3 14500 23000 0)] 0)] 0).bind fun v21=>(D6 (B8d [(Zone.mk [(Part.mk 1 14000 18000 1),(Part.mk 3 10000 14000 0)] 0),(Zone.mk [(Part.mk 2 14000 21000 1),(Part.mk 3 14500 23000 0)] 0)] 0 (Zone.mk v21.Parts 1)) 1).bind fun v22=>(B2k ((w64 (v1.tdiv 56)).tmod 31) 1 3).bind fun v23=>(B2k ((w64 (v1.tdiv 56)).tmod 17) 2 3).bind fun v24=>some ([v17,v18,v19,v20],(B8d (B8d [(Zone.mk [(Part.mk 1 14000 18000 1),(Part.mk 3 10000 14000 0)] 0),(Zone.mk [(Part.mk 2 14000 21000 1),(Part.mk 3 14500 23000 0)] 0)] 0 (Zone.mk v21.Parts 1)) 1 (Zone.mk v22.Parts 2)),[v23,v24])) (some ([v17,v18,v19,v20],[(Zone.mk [(Part.mk 1 14000 18000 1),(Part.mk 3 10000 14000 0)] 0),(Zone.mk [(Part.mk 2 14000 21000 1),(Part.mk 3 14500 23000 0)] 0)],[]))) (some ([],[],[])))))))).bind fun y1=>cond (((w64 (v1.tdiv 1736)).tmod 3)==1) (some (Map.mk ((w64 (v1.tdiv 28)).tmod 5) y1.1 y1.2.1 y1.2.2 [(Work.mk 0 10000 15000 ((w64 (v1.tdiv 5208)).tmod 40) (w64 (((w64 (v1.tdiv 5208)).tmod 40)+20)) (w64 (((w64 (v1.tdiv 208320)).tmod 3)*200)))])) (some (Map.mk ((w64 (v1.tdiv 28)).tmod 5) y1.1 y1.2.1 y1.2.2 []))
theorem C8w (p1:Int)(r:Map)(h:B7x p1=some r):PCall Tryz.prog 22 [(i64 p1)] (.agg (A4h r)):=by
 refine B8 (fk Tryz.func22 Tryz.ntmps22 (fun r=>if r==2 then [1000]else if r==6 then [1001]else if r==9 then [1001,1003]else if r==10 then [1010]else if r==15 then [1001,1002,1004,1006]else if r==17 then [1001,1002,1004,1005,1007]else if r==18 then [1003]else if r==20 then [1001,1002,1005,1007]else if r==21 then [1002]else if r==23 then [1001,1002,1004,1006,1008]else if r==24 then [1002,1006]else if r==30 then [1012]else []) (by with_unfolding_all rfl)) (nl rfl) ?_
 unfold B7x at h
 refine B5 (s0:=⟨T [(0,(.d _))],G []⟩) (sbr rfl rfl) ?_
 refine lr (fun u1 hu1=>sn rfl rfl (A1 (lr (fun u2 hu2=>sv rfl (bs h fun v1 hv1 h=>B1 rfl rfl A2 (C8v _ _ _ hv1) (.inl rfl) (sv rfl (A1 (lr (fun u3 hu3=>B9 (dl A5 [1500,600,1000,300]) rfl rfl (sv rfl (sv rfl (sv rfl (bs h fun v2 hv2 h=>sd rfl (E4 rfl rfl hv2 rfl) (sd rfl (F3 rfl hv2 rfl) (sv rfl (A1 (lr (fun u4 hu4=>sn rfl rfl (A1 (A6 (lr (fun u5 hu5=>sv rfl (sv rfl (A1 (bs h fun y1 hy1 h=>E0 (fun s=> ∃g1:(({d:Nat // d∈ [20,30,69,82,102,122]}×Nat)× ({d:Nat // d∈ [44,89,108,132]}×Nat)× ({d:Nat // d∈ [57,154]}×Nat)),Sb ⟨T [(0,(di v1)),(2,(.ptr (2,u1) 0)),(4,(.ptr (4,u4) 0))],G [((2,u1),some (.box 33 [(di 0),(.d .nilS),(.d .nilS),(.d .nilS),(.d .nilS)])),((4,u4),some (.box 33 [(di 0),(oS y1.1 (g1.1.1.val,g1.1.2)),(oS y1.2.1 (g1.2.1.1.val,g1.2.1.2)),(oS y1.2.2 (g1.2.2.1.val,g1.2.2.2)),(.d .nilS)])),((g1.1.1.val,g1.1.2),oB 63 5 A7q y1.1),((g1.2.1.1.val,g1.2.1.2),oB 117 2 A7r y1.2.1),((g1.2.2.1.val,g1.2.2.2),oB 120 2 B00 y1.2.2)]⟩ s) ?_ ?_)))))))))))))))))))))))))
 refine A8 (lr (fun u6 hu6=>sv rfl (sv rfl (A1 (cc rfl hy1 (fun c1 hy1=> ?_) (fun c1 hy1=> ?_))))))
 refine D0 fun u7 hu7=>sv rfl (B9 (dl A5 [0,0,60000,0]) rfl rfl (bs hy1 fun v3 hv3 hy1=>B1 rfl rfl (.cons (.refl _) (.cons (.refl _) (.cons DLe.nil A2))) (S6 _ _ _ _ _ hv3) (.inl rfl) (B4t (.sl _) (.arr 63 5 (List.map A7q ([v3]:List Lane))) rfl rfl (sp rfl rfl (sst rfl (gq rfl) [(di 0),(.sl (20,u7)),(.d .nilS),(.d .nilS),(.d .nilS)] rfl (A1 (F9 ?_)))))))
 cases hy1
 exact l_j ⟨((⟨20, .head _⟩,u7),(⟨44, .head _⟩,0),(⟨57, .head _⟩,0)),(G8 ⟨.of rfl, .of rfl, .of rfl,trivial⟩ (sg rfl (B0 G_hit (.box (cv (.cons (.of (A2r (List.cons_ne_nil _ _)).symm) cw))) (T1 (gq rfl) (Y3 (Y3 trivial))))))⟩
 refine A6 (lr (fun u8 hu8=>sv rfl (sv rfl (A1 (bs hy1 fun y2 hy2 hy1=>E0 (fun s=> ∃g2:Unit,Sb ⟨T [(0,(di v1)),(2,(.ptr (2,u1) 0)),(3,(di v2)),(4,(.ptr (4,u4) 0)),(14,(di (v1.tmod 7))),(22,(.d (bo y2)))],G [((2,u1),some (.box 33 [(di 0),(.d .nilS),(.d .nilS),(.d .nilS),(.d .nilS)])),((4,u4),some (.box 33 [(di 0),(.d .nilS),(.d .nilS),(.d .nilS),(.d .nilS)]))]⟩ s) ?_ ?_)))))
 refine cc rfl hy2 (fun c2 hy2=> ?_) (fun c2 hy2=> ?_)
 refine A9 ?_
 cases hy2
 exact l_j ⟨(),(sbr rfl rfl)⟩
 refine D0 fun u9 hu9=>sv rfl (sv rfl (A1 ?_))
 cases hy2
 exact l_j ⟨(),(sbr rfl rfl)⟩
 rintro _ ⟨g2,q1⟩
 refine B5 q1 (cc rfl hy1 (fun c3 hy1=> ?_) (fun c3 hy1=> ?_))
 refine lr (fun u10 hu10=>sv rfl (B9 (dl A5 [0,0,50000,0]) rfl rfl (bs hy1 fun v4 hv4 hy1=>B1 rfl rfl (.cons (.refl _) (.cons (.refl _) (.cons DLe.nil A2))) (S6 _ _ _ _ _ hv4) (.inl rfl) (B9 (dl A5 [30000,(-20000),30000,20000]) rfl rfl (bs hy1 fun v5 hv5 hy1=>B1 rfl rfl (.cons (.refl _) (.cons (.refl _) (.cons DLe.nil A2))) (S6 _ _ _ _ _ hv5) (.inl rfl) (B4t (.sl _) (.arr 63 5 (List.map A7q ([v4,v5]:List Lane))) rfl (A8j A7q _ (fun _=>rfl) rfl rfl ⟨rfl,rfl,rfl,rfl,rfl,rfl,trivial⟩) (sp rfl rfl (sst rfl (gq rfl) [(di 0),(.sl (30,u10)),(.d .nilS),(.d .nilS),(.d .nilS)] rfl (A1 (lr (fun u11 hu11=>sv rfl (sv rfl (sv rfl (sv rfl (sv rfl (sv rfl (sv rfl (sv rfl (sv rfl (sv rfl (B9 (dl A6b [(Part.mk 0 28000 32000 ((w64 (v1.tdiv 28)).tmod 2)),(Part.mk 1 18000 22000 (w64 (2 - (w64 (2* ((w64 (v1.tdiv 28)).tmod 2))))))]) rfl rfl (sv rfl (B4t (.sl _) (.arr 117 2 (List.map A7r ([(Zone.mk [(Part.mk 0 28000 32000 ((w64 (v1.tdiv 28)).tmod 2)),(Part.mk 1 18000 22000 (w64 (2 - (w64 (2* ((w64 (v1.tdiv 28)).tmod 2))))))] 0)]:List Zone))) rfl rfl (sp rfl rfl (sst rfl (gq rfl) [(di 0),(.sl (30,u10)),(.sl (44,u11)),(.d .nilS),(.d .nilS)] rfl (A1 (lr (fun u12 hu12=>sv rfl (sv rfl (sv rfl (A1 (cc rfl hy1 (fun c4 hy1=> ?_) (fun c4 hy1=> ?_)))))))))))))))))))))))))))))))))
 refine lr (fun u13 hu13=>sp rfl rfl (B9 (.sl _) rfl (X1 rfl G_hit rfl) (bs hy1 fun v6 hv6 hy1=>B9 (.aptr _ _ _ _) rfl (A9d rfl rfl (gq rfl) hv6) (B9 (.aptr _ _ _ _) rfl rfl (B4p A7r _ _ _ (0) _ (Zone.mk v6.Parts 1) [(i64 1)] rfl rfl rfl (gq rfl) hv6 (nl rfl) rfl (A1 (D0 fun u14 hu14=>sv rfl (sv rfl (sv rfl (bs hy1 fun v7 hv7 hy1=>B1 rfl rfl A2 (B34 _ _ _ _ hv7) (.inl rfl) (B4t (.sl _) (.arr 120 2 (List.map B00 ([v7]:List Signal))) rfl rfl (sp rfl rfl (sst rfl (gq rfl) [(di 0),(.sl (30,u10)),(.sl (44,u11)),(.sl (57,u14)),(.d .nilS)] rfl (A1 (F9 ?_)))))))))))))))
 cases hy1
 exact l_j ⟨((⟨30, .tail _ (.head _)⟩,u10),(⟨44, .head _⟩,u11),(⟨57, .head _⟩,u14)),(G8 ⟨.of rfl, .of rfl, .of rfl,trivial⟩ (sg rfl (B0 G_hit (.box (cv (.cons (.of (A2r (List.cons_ne_nil _ _)).symm) (.cons (.of (A2r (C2r (List.cons_ne_nil _ _))).symm) (.cons (.of (A2r (List.cons_ne_nil _ _)).symm) cw))))) (T1 (gq rfl) (T1 (gq rfl) (T1 (gq rfl) trivial))))))⟩
 refine A9 (F9 ?_)
 cases hy1
 exact l_j ⟨((⟨30, .tail _ (.head _)⟩,u10),(⟨44, .head _⟩,u11),(⟨57, .head _⟩,0)),(G8 ⟨.of rfl, .of rfl, .of rfl,trivial⟩ (sg rfl (B0 G_hit (.box (cv (.cons (.of (A2r (List.cons_ne_nil _ _)).symm) (.cons (.of (A2r (List.cons_ne_nil _ _)).symm) cw)))) (T1 (gq rfl) (T1 (gq rfl) (Y3 trivial))))))⟩
 refine lr (fun u15 hu15=>sv rfl (sv rfl (A1 (cc rfl hy1 (fun c5 hy1=> ?_) (fun c5 hy1=> ?_)))))
 refine D0 fun u16 hu16=>sv rfl (B9 (dl A5 [1,2]) rfl rfl (B9 (dl A5 [0,0,30000,0]) rfl rfl (bs hy1 fun v8 hv8 hy1=>B1 rfl rfl A2 (S6 _ _ _ _ _ hv8) (.inl rfl) (B9 (dl A5 [30000,0,60000,0]) rfl rfl (bs hy1 fun v9 hv9 hy1=>B1 rfl rfl (.cons (.refl _) (.cons (.refl _) (.cons DLe.nil A2))) (S6 _ _ _ _ _ hv9) (.inl rfl) (B9 (dl A5 [30000,0,54000,10000]) rfl rfl (bs hy1 fun v10 hv10 hy1=>B1 rfl rfl (.cons (.refl _) (.cons (.refl _) (.cons DLe.nil A2))) (S6 _ _ _ _ _ hv10) (.inl rfl) (B4t (.sl _) (.arr 63 5 (List.map A7q ([v8,v9,v10]:List Lane))) rfl (A8j A7q _ (fun _=>rfl) rfl rfl ⟨rfl,rfl,rfl,rfl,rfl,rfl,rfl,rfl,rfl,trivial⟩) (sp rfl rfl (sst rfl (gq rfl) [(di 0),(.sl (69,u16)),(.d .nilS),(.d .nilS),(.d .nilS)] rfl (A1 (F9 ?_))))))))))))
 cases hy1
 exact l_j ⟨((⟨69, .tail _ (.tail _ (.head _))⟩,u16),(⟨44, .head _⟩,0),(⟨57, .head _⟩,0)),(G8 ⟨.of rfl, .of rfl, .of rfl,trivial⟩ (sg rfl (B0 G_hit (.box (cv (.cons (.of (A2r (List.cons_ne_nil _ _)).symm) cw))) (T1 (gq rfl) (Y3 (Y3 trivial))))))⟩
 refine lr (fun u17 hu17=>sv rfl (sv rfl (A1 (cc rfl hy1 (fun c6 hy1=> ?_) (fun c6 hy1=> ?_)))))
 refine lr (fun u18 hu18=>sv rfl (B9 (dl A5 [2]) rfl rfl (B9 (dl A5 [0,0,30000,0]) rfl rfl (bs hy1 fun v11 hv11 hy1=>B1 rfl rfl A2 (S6 _ _ _ _ _ hv11) (.inl rfl) (B9 (dl A5 [2]) rfl rfl (B9 (dl A5 [6000,(-10000),30000,0]) rfl rfl (bs hy1 fun v12 hv12 hy1=>B1 rfl rfl A2 (S6 _ _ _ _ _ hv12) (.inl rfl) (B9 (dl A5 [30000,0,60000,0]) rfl rfl (bs hy1 fun v13 hv13 hy1=>B1 rfl rfl (.cons (.refl _) (.cons (.refl _) (.cons DLe.nil A2))) (S6 _ _ _ _ _ hv13) (.inl rfl) (B4t (.sl _) (.arr 63 5 (List.map A7q ([v11,v12,v13]:List Lane))) rfl (A8j A7q _ (fun _=>rfl) rfl rfl ⟨rfl,rfl,rfl,rfl,rfl,rfl,rfl,rfl,rfl,trivial⟩) (sp rfl rfl (sst rfl (gq rfl) [(di 0),(.sl (82,u18)),(.d .nilS),(.d .nilS),(.d .nilS)] rfl (A1 (D0 fun u19 hu19=>sv rfl (sv rfl (sv rfl (B9 (dl A6b [(Part.mk 0 25000 30000 1),(Part.mk 1 20000 26000 0),(Part.mk 2 0 5000 0)]) rfl (C06 A6b ([(Part.mk 0 25000 30000 1),(Part.mk 1 20000 26000 0),(Part.mk 2 0 5000 0)]:List Part) (fun _=>rfl) rfl rfl ⟨rfl,rfl,rfl,rfl,rfl,rfl,rfl,rfl,rfl,trivial⟩ (fun _=>rfl)) (sv rfl (B4t (.sl _) (.arr 117 2 (List.map A7r ([(Zone.mk [(Part.mk 0 25000 30000 1),(Part.mk 1 20000 26000 0),(Part.mk 2 0 5000 0)] 0)]:List Zone))) rfl rfl (sp rfl rfl (sst rfl (gq rfl) [(di 0),(.sl (82,u18)),(.sl (89,u19)),(.d .nilS),(.d .nilS)] rfl (A1 (F9 ?_)))))))))))))))))))))))
 cases hy1
 exact l_j ⟨((⟨82, .tail _ (.tail _ (.tail _ (.head _)))⟩,u18),(⟨89, .tail _ (.head _)⟩,u19),(⟨57, .head _⟩,0)),(G8 ⟨.of rfl, .of rfl, .of rfl,trivial⟩ (sg rfl (B0 G_hit (.box (cv (.cons (.of (A2r (List.cons_ne_nil _ _)).symm) (.cons (.of (A2r (List.cons_ne_nil _ _)).symm) cw)))) (T1 (gq rfl) (T1 (gq rfl) (Y3 trivial))))))⟩
 refine lr (fun u20 hu20=>sv rfl (sv rfl (A1 (cc rfl hy1 (fun c7 hy1=> ?_) (fun c7 hy1=> ?_)))))
 refine lr (fun u21 hu21=>sv rfl (B9 (dl A5 [1]) rfl rfl (B9 (dl A5 [0,0,20000,0]) rfl rfl (bs hy1 fun v14 hv14 hy1=>B1 rfl rfl A2 (S6 _ _ _ _ _ hv14) (.inl rfl) (sv rfl (B9 (dl A5 [20000,0,50000,0]) rfl rfl (bs hy1 fun v15 hv15 hy1=>B1 rfl rfl (.cons (.refl _) (.cons (.refl _) (.cons DLe.nil A2))) (S6 _ _ _ _ _ hv15) (.inl rfl) (B9 (dl A5 [35000,(-8000),35000,8000]) rfl rfl (bs hy1 fun v16 hv16 hy1=>B1 rfl rfl (.cons (.refl _) (.cons (.refl _) (.cons DLe.nil A2))) (S6 _ _ _ _ _ hv16) (.inl rfl) (B4t (.sl _) (.arr 63 5 (List.map A7q ([v14,v15,v16]:List Lane))) rfl (A8j A7q _ (fun _=>rfl) rfl rfl ⟨rfl,rfl,rfl,rfl,rfl,rfl,rfl,rfl,rfl,trivial⟩) (sp rfl rfl (sst rfl (gq rfl) [(di 0),(.sl (102,u21)),(.d .nilS),(.d .nilS),(.d .nilS)] rfl (A1 (D0 fun u22 hu22=>sv rfl (sv rfl (B9 (dl A6b [(Part.mk 1 14000 16000 0),(Part.mk 2 6000 10000 3)]) rfl rfl (sv rfl (B4t (.sl _) (.arr 117 2 (List.map A7r ([(Zone.mk [(Part.mk 1 14000 16000 0),(Part.mk 2 6000 10000 3)] 0)]:List Zone))) rfl rfl (sp rfl rfl (sst rfl (gq rfl) [(di 0),(.sl (102,u21)),(.sl (108,u22)),(.d .nilS),(.d .nilS)] rfl (A1 (F9 ?_))))))))))))))))))))))
 cases hy1
 exact l_j ⟨((⟨102, .tail _ (.tail _ (.tail _ (.tail _ (.head _))))⟩,u21),(⟨108, .tail _ (.tail _ (.head _))⟩,u22),(⟨57, .head _⟩,0)),(G8 ⟨.of rfl, .of rfl, .of rfl,trivial⟩ (sg rfl (B0 G_hit (.box (cv (.cons (.of (A2r (List.cons_ne_nil _ _)).symm) (.cons (.of (A2r (List.cons_ne_nil _ _)).symm) cw)))) (T1 (gq rfl) (T1 (gq rfl) (Y3 trivial))))))⟩
 refine lr (fun u23 hu23=>sv rfl (sv rfl (A1 (cc rfl hy1 (fun c8 hy1=> ?_) (fun c8 hy1=> ?_)))))
 refine lr (fun u24 hu24=>sv rfl (B9 (dl A5 [1,2]) rfl rfl (B9 (dl A5 [0,0,20000,0]) rfl rfl (bs hy1 fun v17 hv17 hy1=>B1 rfl rfl A2 (S6 _ _ _ _ _ hv17) (.inl rfl) (B9 (dl A5 [20000,0,50000,0]) rfl rfl (bs hy1 fun v18 hv18 hy1=>B1 rfl rfl (.cons (.refl _) (.cons (.refl _) (.cons DLe.nil A2))) (S6 _ _ _ _ _ hv18) (.inl rfl) (B9 (dl A5 [20000,0,44000,10000]) rfl rfl (bs hy1 fun v19 hv19 hy1=>B1 rfl rfl (.cons (.refl _) (.cons (.refl _) (.cons DLe.nil A2))) (S6 _ _ _ _ _ hv19) (.inl rfl) (B9 (dl A5 [36000,(-12000),36000,18000]) rfl rfl (bs hy1 fun v20 hv20 hy1=>B1 rfl rfl (.cons (.refl _) (.cons (.refl _) (.cons DLe.nil A2))) (S6 _ _ _ _ _ hv20) (.inl rfl) (B4t (.sl _) (.arr 63 5 (List.map A7q ([v17,v18,v19,v20]:List Lane))) rfl (A8j A7q _ (fun _=>rfl) rfl rfl ⟨rfl,rfl,rfl,rfl,rfl,rfl,rfl,rfl,rfl,rfl,rfl,rfl,trivial⟩) (sp rfl rfl (sst rfl (gq rfl) [(di 0),(.sl (122,u24)),(.d .nilS),(.d .nilS),(.d .nilS)] rfl (A1 (lr (fun u25 hu25=>sv rfl (sv rfl (B9 (dl A6b [(Part.mk 1 14000 18000 1),(Part.mk 3 10000 14000 0)]) rfl rfl (sv rfl (sv rfl (sv rfl (B9 (dl A6b [(Part.mk 2 14000 21000 1),(Part.mk 3 14500 23000 0)]) rfl rfl (sv rfl (B4t (.sl _) (.arr 117 2 (List.map A7r ([(Zone.mk [(Part.mk 1 14000 18000 1),(Part.mk 3 10000 14000 0)] 0),(Zone.mk [(Part.mk 2 14000 21000 1),(Part.mk 3 14500 23000 0)] 0)]:List Zone))) rfl rfl (sp rfl rfl (sst rfl (gq rfl) [(di 0),(.sl (122,u24)),(.sl (132,u25)),(.d .nilS),(.d .nilS)] rfl (A1 (lr (fun u26 hu26=>sv rfl (sv rfl (sv rfl (sv rfl (A1 (cc rfl hy1 (fun c9 hy1=> ?_) (fun c9 hy1=> ?_)))))))))))))))))))))))))))))))))))
 refine A6 (B7m fun u27 hu27=>A1y (.ptr _ _) rfl rfl (A1y (.sl _) rfl (X1 rfl G_hit rfl) (A1y (.ptr _ _) rfl rfl (A1y (.sl _) rfl (X1 rfl G_hit rfl) (bs hy1 fun v21 hv21 hy1=>A1y (.aptr _ _ _ _) rfl (A9d rfl rfl (gq rfl) hv21) (A1y (.aptr _ _ _ _) rfl rfl (C7m A7r _ _ _ (0) _ (Zone.mk v21.Parts 1) [(i64 1)] rfl rfl rfl (gq rfl) hv21 (nl rfl) rfl (bs hy1 fun v22 hv22 hy1=>A1y (.aptr _ _ _ _) rfl (A9d rfl rfl G_hit hv22) (A1y (.aptr _ _ _ _) rfl rfl (C7m A7r _ _ _ (1) _ (Zone.mk v22.Parts 2) [(i64 2)] rfl rfl rfl G_hit hv22 (nl rfl) rfl (C8r ⟨rfl,?_⟩)))))))))))
 refine D0 fun u28 hu28=>sv rfl (sv rfl (sv rfl (bs hy1 fun v23 hv23 hy1=>B1 rfl rfl A2 (B34 _ _ _ _ hv23) (.inl rfl) (sv rfl (sv rfl (sv rfl (bs hy1 fun v24 hv24 hy1=>B1 rfl rfl A2 (B34 _ _ _ _ hv24) (.inl rfl) (B4t (.sl _) (.arr 120 2 (List.map B00 ([v23,v24]:List Signal))) rfl rfl (sp rfl rfl (sst rfl (gq rfl) [(di 0),(.sl (122,u24)),(.sl (132,u25)),(.sl (154,u28)),(.d .nilS)] rfl (A1 (F9 ?_))))))))))))
 cases hy1
 exact l_j ⟨((⟨122, .tail _ (.tail _ (.tail _ (.tail _ (.tail _ (.head _)))))⟩,u24),(⟨132, .tail _ (.tail _ (.tail _ (.head _)))⟩,u25),(⟨154, .tail _ (.head _)⟩,u28)),(G8 ⟨.of rfl, .of rfl, .of rfl,trivial⟩ (sg rfl (B0 G_hit (.box (cv (.cons (.of (A2r (List.cons_ne_nil _ _)).symm) (.cons (.of (A2r (C2r (C2r (List.cons_ne_nil _ _)))).symm) (.cons (.of (A2r (List.cons_ne_nil _ _)).symm) cw))))) (T1 (gq rfl) (T1 (gq rfl) (T1 (gq rfl) trivial))))))⟩
 refine A9 (F9 ?_)
 cases hy1
 exact l_j ⟨((⟨122, .tail _ (.tail _ (.tail _ (.tail _ (.tail _ (.head _)))))⟩,u24),(⟨132, .tail _ (.tail _ (.tail _ (.head _)))⟩,u25),(⟨57, .head _⟩,0)),(G8 ⟨.of rfl, .of rfl, .of rfl,trivial⟩ (sg rfl (B0 G_hit (.box (cv (.cons (.of (A2r (List.cons_ne_nil _ _)).symm) (.cons (.of (A2r (List.cons_ne_nil _ _)).symm) cw)))) (T1 (gq rfl) (T1 (gq rfl) (Y3 trivial))))))⟩
 refine A9 (F9 ?_)
 cases hy1
 exact l_j ⟨((⟨20, .head _⟩,0),(⟨44, .head _⟩,0),(⟨57, .head _⟩,0)),(G8 ⟨.of rfl, .of rfl, .of rfl,trivial⟩ (B0 G_hit (.of rfl) (sg rfl (Y3 (Y3 (Y3 trivial))))))⟩
 rintro _ ⟨g1,q2⟩
 refine B5 q2 (lr (fun u29 hu29=>sv rfl (sv rfl (sv rfl (sp rfl rfl (sst rfl (gq rfl) [(di ((w64 (v1.tdiv 28)).tmod 5)),(oS y1.1 (g1.1.1.val,g1.1.2)),(oS y1.2.1 (g1.2.1.1.val,g1.2.1.2)),(oS y1.2.2 (g1.2.2.1.val,g1.2.2.2)),(.d .nilS)] rfl (A1 (A6 (lr (fun u30 hu30=>sv rfl (sv rfl (sv rfl (sv rfl (A1 (cc rfl h (fun c10 h=> ?_) (fun c10 h=> ?_))))))))))))))))
 refine D0 fun u31 hu31=>sv rfl (sv rfl (sv rfl (sv rfl (sv rfl (sv rfl (sv rfl (sv rfl (sv rfl (sv rfl (sv rfl (sv rfl (B9 (dl B7q [(Work.mk 0 10000 15000 ((w64 (v1.tdiv 5208)).tmod 40) (w64 (((w64 (v1.tdiv 5208)).tmod 40)+20)) (w64 (((w64 (v1.tdiv 208320)).tmod 3)*200)))]) rfl rfl (sp rfl rfl (sst rfl G_hit [(di ((w64 (v1.tdiv 28)).tmod 5)),(oS y1.1 (g1.1.1.val,g1.1.2)),(oS y1.2.1 (g1.2.1.1.val,g1.2.1.2)),(oS y1.2.2 (g1.2.2.1.val,g1.2.2.2)),(dl B7q [(Work.mk 0 10000 15000 ((w64 (v1.tdiv 5208)).tmod 40) (w64 (((w64 (v1.tdiv 5208)).tmod 40)+20)) (w64 (((w64 (v1.tdiv 208320)).tmod 3)*200)))])] rfl (A1 (lr (fun u32 hu32=>B9 (A39 [(di ((w64 (v1.tdiv 28)).tmod 5)),(oS y1.1 (g1.1.1.val,g1.1.2)),(oS y1.2.1 (g1.2.1.1.val,g1.2.1.2)),(oS y1.2.2 (g1.2.2.1.val,g1.2.2.2)),(dl B7q [(Work.mk 0 10000 15000 ((w64 (v1.tdiv 5208)).tmod 40) (w64 (((w64 (v1.tdiv 5208)).tmod 40)+20)) (w64 (((w64 (v1.tdiv 208320)).tmod 3)*200)))])]) rfl (B2 rfl G_hit rfl rfl) (A8z _ _ _ _ _ (Z1 _) rfl rfl (gq rfl) (nl rfl) [(di ((w64 (v1.tdiv 28)).tmod 5)),(oS y1.1 (g1.1.1.val,g1.1.2)),(oS y1.2.1 (g1.2.1.1.val,g1.2.1.2)),(oS y1.2.2 (g1.2.2.1.val,g1.2.2.2)),(dl B7q [(Work.mk 0 10000 15000 ((w64 (v1.tdiv 5208)).tmod 40) (w64 (((w64 (v1.tdiv 5208)).tmod 40)+20)) (w64 (((w64 (v1.tdiv 208320)).tmod 3)*200)))])] rfl (A1 (B3 ?_))))))))))))))))))))
 cases h
 exact A7 (.inr rfl) (B6 (K9 rfl G_hit (nl rfl) rfl) (B18 (rD (C9 (A1x (A4 (neL g1.1.1.property rfl) (A4 (neL g1.1.1.property rfl) (A4 (neL g1.1.1.property rfl) (A4 (neL g1.1.1.property rfl) (A4 (neL g1.1.1.property rfl) G_hit)))))) (C9 (A1x (A4 (neL g1.2.1.1.property rfl) (A4 (neL g1.2.1.1.property rfl) (A4 (neL g1.2.1.1.property rfl) (A4 (neL g1.2.1.1.property rfl) (A4 (neL g1.2.1.1.property rfl) (A4 (D70 g1.2.1.1.property g1.1.1.property rfl) G_hit))))))) (C9 (A1x (A4 (neL g1.2.2.1.property rfl) (A4 (neL g1.2.2.1.property rfl) (A4 (neL g1.2.2.1.property rfl) (A4 (neL g1.2.2.1.property rfl) (A4 (neL g1.2.2.1.property rfl) (A4 (D70 g1.2.2.1.property g1.1.1.property rfl) (A4 (D70 g1.2.2.1.property g1.2.1.1.property rfl) G_hit)))))))) (rD E2))))))) (.agg (ca rfl (.cons ⟨A1w,rfl⟩ (.cons ⟨A1w,rfl⟩ (.cons ⟨A1w,rfl⟩ (cz rfl))))))
 refine A9 (lr (fun u33 hu33=>B9 (A39 [(di ((w64 (v1.tdiv 28)).tmod 5)),(oS y1.1 (g1.1.1.val,g1.1.2)),(oS y1.2.1 (g1.2.1.1.val,g1.2.1.2)),(oS y1.2.2 (g1.2.2.1.val,g1.2.2.2)),(.d .nilS)]) rfl (B2 rfl G_hit rfl rfl) (A8z _ _ _ _ _ (Z1 _) rfl rfl (gq rfl) (nl rfl) [(di ((w64 (v1.tdiv 28)).tmod 5)),(oS y1.1 (g1.1.1.val,g1.1.2)),(oS y1.2.1 (g1.2.1.1.val,g1.2.1.2)),(oS y1.2.2 (g1.2.2.1.val,g1.2.2.2)),(.d .nilS)] rfl (A1 (B3 ?_)))))
 cases h
 exact A7 (.inr rfl) (B6 (K9 rfl G_hit (nl rfl) rfl) (B18 (rD (C9 (A1x (A4 (neL g1.1.1.property rfl) (A4 (neL g1.1.1.property rfl) (A4 (neL g1.1.1.property rfl) (A4 (neL g1.1.1.property rfl) G_hit))))) (C9 (A1x (A4 (neL g1.2.1.1.property rfl) (A4 (neL g1.2.1.1.property rfl) (A4 (neL g1.2.1.1.property rfl) (A4 (neL g1.2.1.1.property rfl) (A4 (D70 g1.2.1.1.property g1.1.1.property rfl) G_hit)))))) (C9 (A1x (A4 (neL g1.2.2.1.property rfl) (A4 (neL g1.2.2.1.property rfl) (A4 (neL g1.2.2.1.property rfl) (A4 (neL g1.2.2.1.property rfl) (A4 (D70 g1.2.2.1.property g1.1.1.property rfl) (A4 (D70 g1.2.2.1.property g1.2.1.1.property rfl) G_hit))))))) (rD E2))))))) (.agg (ca rfl (.cons ⟨A1w,rfl⟩ (.cons ⟨A1w,rfl⟩ (.cons ⟨A1w,rfl⟩ (.cons ⟨DLe.nil,rfl⟩ .nil))))))
noncomputable def A5h (p1:State)(x1:(Int×State)):Option (Stp (Int×State) State):=
  cond (decide (x1.1< (p1.Agents.length:Int))) ((D6 p1.Agents x1.1).bind fun v2=>(A8h ([]:List Int) v2.Route).bind fun v3=>(A8h x1.2.Agents [(Agent.mk v3 v2.S v2.V v2.Len v2.Begin v2.Obey v2.Gone)]).bind fun v4=>some (.go ((w64 (x1.1+1)),(State.mk x1.2.Tick v4 x1.2.In)))) (some (.out x1.2))
noncomputable def B2l (p1:State):Option State:=
  (A8h ([]:List Stay) p1.In).bind fun v1=>(loop (A5h p1) (0,(State.mk p1.Tick [] v1))).bind fun y1=>some y1
theorem C37 (p1:State)(r:State)(h:B2l p1=some r):PCall Tryz.prog 23 [(.agg (A2s p1))] (.agg (A2s r)):=by
 refine B8 (fk Tryz.func23 Tryz.ntmps23 (fun r=>if r==7 then [1003]else []) (by with_unfolding_all rfl)) (nl rfl) ?_
 unfold B2l at h
 refine B5 (s0:=⟨T [(0,(.d _))],G []⟩) (sbr rfl rfl) ?_
 refine lr (fun u1 hu1=>sn rfl rfl (sn rfl rfl (A1 (A6 (B7m fun u2 hu2=>A1y (.ptr _ _) rfl rfl (A1y (.d _) rfl (X1 rfl (gq rfl) rfl) (A1y (.ptr _ _) rfl rfl (A1y (.d _) rfl (X1 rfl (gq rfl) rfl) (bs h fun v1 hv1 h=>D11 L7 p1.In _ (O2 (fun _=>rfl)) rfl hv1 (B7l hu2) ?_)))))))))
 refine A1y (A39 [(di p1.Tick),(.d .nilS),(oS v1 (10,u2))]) rfl (by generalize v1=x1;cases x1<;>rfl) ?_
 refine D0l (.ptr _ _) (.box _ _) rfl rfl (B9w _ _ _ _ _ (Z1 _) rfl rfl G_hit (nl rfl) [(di p1.Tick),(.d .nilS),(oS v1 (10,u2))] rfl (C8r (D8u (fun q=>⟨⟨by first|rfl|((generalize v1=l0;cases l0)<;>rfl),q⟩,⟨by first|rfl|((generalize v1=l0;cases l0)<;>rfl),q⟩⟩) ?_)))
 refine A6 (lr (fun u3 hu3=>sv rfl (A1 (bs h fun y1 hy1 h=>E0 (fun s=> ∃g1:(Nat×Nat),Sb ⟨T [(2,(.ptr (2,u1) 0)),(3,(.ptr (3,u2) 0))],G [((2,u1),some (.box 25 [(di 0),(.d .nilS),(.d .nilS)])),((3,u2),some (.box 25 [(di y1.Tick),(oS y1.Agents (32,g1.1)),(oS y1.In (10,g1.2))])),((32,g1.1),oB 45 7 D2 y1.Agents),((10,g1.2),oB 127 4 L7 y1.In)]⟩ s) ?_ ?_))))
 refine A8 (E7 (A5h p1) (fun (x1:(Int×State)) (g2:(Nat×Nat))=>⟨T [(1,(.ptr (1,u1) 0)),(2,(.ptr (2,u1) 0)),(3,(.ptr (3,u2) 0)),(4,(di x1.1))],G [((1,u1),some (.box 25 (L5 p1))),((2,u1),some (.box 25 [(di 0),(.d .nilS),(.d .nilS)])),((3,u2),some (.box 25 [(di x1.2.Tick),(oS x1.2.Agents (32,g2.1)),(oS x1.2.In (10,g2.2))])),((32,g2.1),oB 45 7 D2 x1.2.Agents),((10,g2.2),oB 127 4 L7 x1.2.In)]⟩) (0,(State.mk p1.Tick [] v1)) (0,u2) _ hy1 (G8 ⟨.of rfl, .of rfl, .of rfl, .of rfl,trivial⟩ (sg rfl (sg rfl (B0 G_hit (.of rfl) (Y3 (B7 (gq rfl) trivial)))))) ?_)
 intro x1 g2 z1 hz1 ez1
 unfold A5h at hz1
 refine A6 (lr (fun u4 hu4=>sv rfl (sp rfl rfl (sl rfl G_hit rfl (sd rfl (E5 rfl) (sv rfl (A1 (cc rfl hz1 (fun c1 hz1=> ?_) (fun c1 hz1=> ?_)))))))))
 refine A9 (A6 (A8 (lr (fun u5 hu5=>sp rfl rfl (sl rfl G_hit rfl (sv rfl (bs hz1 fun v2 hv2 hz1=>sd rfl (E4 rfl rfl hv2 rfl) (sd rfl (C4 rfl hv2 rfl rfl) (sn rfl rfl (sst rfl G_hit (A0h v2) rfl (A1 (lr (fun u6 hu6=>sp rfl rfl (sl rfl G_hit rfl (bs hz1 fun v3 hv3 hz1=>D0s A5 (26,u6) ([]:List Int) v2.Route _ (O2 (fun _=>rfl)) rfl (B7l hu6) hv3 (B7l hu6) (sp rfl rfl (A8z _ _ _ _ _ (D0r _ _) rfl rfl (gq rfl) (nl rfl) ((A0h v2).set 0 (oS v3 (26,u6))) rfl (A1 (l_fr [(26,u6)] [(1,(.ptr (1,u1) 0)),(2,(.ptr (2,u1) 0)),(3,(.ptr (3,u2) 0)),(4,(di x1.1)),(5,(.ptr (5,u5) 0)),(12,(di x1.1)),(13,(.ptr (1,u1) 1)),(14,(dl D2 p1.Agents)),(15,(di (p1.Agents.length:Int))),(16,(.d (bo (decide (x1.1< (p1.Agents.length:Int)))))),(19,(.ptr (1,u1) 1)),(20,(dl D2 p1.Agents)),(21,(di x1.1)),(22,(.d (.lp (List.map D2 p1.Agents) (x1.1).toNat 0))),(23,(.d (.agg (D2 v2)))),(24,(.ptr (5,u5) 0)),(25,(dl A5 v2.Route)),(26,(dl A5 v3)),(27,(.ptr (5,u5) 0))] [((5,u5),some (.box 45 ((A0h v2).set 0 (dl A5 v3)))),((1,u1),some (.box 25 (L5 p1))),((2,u1),some (.box 25 [(di 0),(.d .nilS),(.d .nilS)])),((3,u2),some (.box 25 [(di x1.2.Tick),(oS x1.2.Agents (32,g2.1)),(oS x1.2.In (10,g2.2))])),((32,g2.1),oB 45 7 D2 x1.2.Agents),((10,g2.2),oB 127 4 L7 x1.2.In)] ⟨A9h rfl,A9h rfl,A9h rfl,A9h rfl,A9h rfl,A9h rfl,A9h rfl,A9h rfl,A9h rfl,A9h rfl,A9h rfl,A9h rfl,A9h rfl,A9h rfl,A9h rfl,A9h rfl,A9h rfl,(fr_d (A1x (D6a (.head _) (gq rfl))) A1w),A9h rfl,trivial⟩ (D6d G_hit (B7p (C03 rfl) C1y) (.cons (fr_d (A1x (D6a (.head _) (gq rfl))) A1w) (.cons (A9h rfl) (.cons (A9h rfl) (.cons (A9h rfl) (.cons (A9h rfl) (.cons (A9h rfl) (.cons (A9h rfl) .nil))))))) (D0z (gq rfl) (B7p (C03 rfl) C1y) (D0z (gq rfl) (B7p (C03 rfl) C1y) (D0z (gq rfl) (B7p (C03 rfl) C1y) (D4p (gq rfl) (B7p (C03 rfl) C1y) (D4p (gq rfl) (B7p (C03 rfl) C1y) trivial)))))) (D0 fun u7 hu7=>sp rfl rfl (B9 (oS x1.2.Agents (32,g2.1)) rfl (X1 rfl (gq rfl) rfl) (sd rfl (B2 rfl G_hit rfl rfl) (B9 (dl D2 [(Agent.mk v3 v2.S v2.V v2.Len v2.Begin v2.Obey v2.Gone)]) rfl rfl (bs hz1 fun v4 hv4 hz1=>X0 D2 (32,g2.1) x1.2.Agents (Agent.mk v3 v2.S v2.V v2.Len v2.Begin v2.Obey v2.Gone) [] _ (O2 (fun _=>rfl)) rfl (gq rfl) hv4 (sp rfl rfl (sst rfl (gq rfl) [(di x1.2.Tick),(.sl (32,u7)),(oS x1.2.In (10,g2.2))] rfl (A1 (F9 (D0 fun u8 hu8=>sv rfl (sv rfl (sv rfl (A1 (G3 ?_)))))))))))))))))))))))))))))))))
 cases hz1
 exact ⟨rfl,(u7,g2.2),(G8 ⟨.of rfl, .of rfl, .of rfl, .of rfl,trivial⟩ (sg rfl (sg rfl (B0 G_hit (.box (cv (.cons (.of (A2r (A18 hv4)).symm) cw))) (T1 (gq rfl) (B7 (gq rfl) trivial))))))⟩
 refine C3 rfl ?_
 cases hz1
 obtain rfl:=ez1 _ rfl
 refine ⟨nofun,C0 rfl (l_j ?_)⟩
 exact ⟨(g2.1,g2.2),(G8 ⟨.of rfl, .of rfl,trivial⟩ (sg rfl (sg rfl (B7 (gq rfl) (B7 (gq rfl) trivial)))))⟩
 rintro _ ⟨g1,q1⟩
 refine B5 q1 (lr (fun u9 hu9=>B9 (A39 [(di y1.Tick),(oS y1.Agents (32,g1.1)),(oS y1.In (10,g1.2))]) rfl (B2 rfl (gq rfl) rfl rfl) (A8z _ _ _ _ _ (Z1 _) rfl rfl G_hit (nl rfl) [(di y1.Tick),(oS y1.Agents (32,g1.1)),(oS y1.In (10,g1.2))] rfl (A1 (B3 ?_)))))
 cases h
 exact A7 (.inr rfl) (B6 (K9 rfl G_hit (nl rfl) rfl) (B18 (rD (C9 (A1x (gq rfl)) (C9 (A1x (gq rfl)) E2))))) (.agg (ca rfl (.cons ⟨A1w,rfl⟩ (.cons ⟨A1w,rfl⟩ .nil))))
noncomputable def A26 (p1:Int)(p2:Int)(p3:Int):Option Bool:=
  some ((decide (p1≥p2))&& (decide (p1≤p3)))
theorem A31 (p1:Int)(p2:Int)(p3:Int)(r:Bool)(h:A26 p1 p2 p3=some r):PCall Tryz.prog 162 [(i64 p1),(i64 p2),(i64 p3)] (bo r):=by
 refine B8 (fk Tryz.func162 Tryz.ntmps162 m0 (by with_unfolding_all rfl)) (nl rfl) ?_
 unfold A26 at h
 refine B5 (s0:=⟨T [(0,(.d _)),(1,(.d _)),(2,(.d _))],G []⟩) (sbr rfl rfl) ?_
 refine lr (fun u1 hu1=>sv rfl (A1 (lr (fun u2 hu2=>sv rfl (sv rfl (sv rfl (sv rfl (gt rfl (fun _=>rfl) (gt rfl (fun _=>rfl) (gt rfl (fun w3=>(V8 (A3 w3) (A3 w3) rfl)) (sa rfl rfl rfl (sv rfl (A1 (B3 ?_))))))))))))))
 cases h
 exact A7 (.inr rfl) (B6 (B4 rfl) E1) (.refl _)
noncomputable def B0f (p1:Spot):Option Bool:=
  some ((((decide (p1.X≥(-16777216)))&& (decide (p1.X≤16777216)))&& (decide (p1.Y≥(-16777216))))&& (decide (p1.Y≤16777216)))
theorem C1i (p1:Spot)(r:Bool)(h:B0f p1=some r):PCall Tryz.prog 234 [(.agg [(i64 p1.X),(i64 p1.Y)])] (bo r):=by
 refine B8 (fk Tryz.func234 Tryz.ntmps234 m0 (by with_unfolding_all rfl)) (nl rfl) ?_
 unfold B0f at h
 refine B5 (s0:=⟨T [(0,(.d _))],G []⟩) (sbr rfl rfl) ?_
 refine lr (fun u1 hu1=>sn rfl rfl (sv rfl (A1 (lr (fun u2 hu2=>sp rfl rfl (sl rfl G_hit rfl (sv rfl (sv rfl (gp rfl (A19 rfl) (fun _=>rfl) (gt rfl (vl rfl G_hit rfl) (gt rfl (vb rfl rfl rfl) (sa rfl rfl rfl (sv rfl (gp rfl (A19 rfl) (fun _=>rfl) (gt rfl (vl rfl G_hit rfl) (gt rfl (vb rfl rfl rfl) (sa rfl rfl rfl (sv rfl (gp rfl (A19 rfl) (fun _=>rfl) (gt rfl (vl rfl G_hit rfl) (gt rfl (vb rfl rfl rfl) (sa rfl rfl rfl (sv rfl (A1 (B3 ?_)))))))))))))))))))))))))
 cases h
 exact A7 (.inr rfl) (B6 (B4 rfl) E1) (.refl _)
noncomputable def A6f (p1:Spot)(p2:Spot):Option Spot:=
  some (Spot.mk (w64 (p1.X - p2.X)) (w64 (p1.Y - p2.Y)))
theorem B1i (p1:Spot)(p2:Spot)(r:Spot)(h:A6f p1 p2=some r):PCall Tryz.prog 136 [(.agg [(i64 p1.X),(i64 p1.Y)]),(.agg [(i64 p2.X),(i64 p2.Y)])] (.agg [(i64 r.X),(i64 r.Y)]):=by
 refine B8 (fk Tryz.func136 Tryz.ntmps136 m0 (by with_unfolding_all rfl)) (nl rfl) ?_
 unfold A6f at h
 refine B5 (s0:=⟨T [(0,(.d _)),(1,(.d _))],G []⟩) (sbr rfl rfl) ?_
 refine lr (fun u1 hu1=>sn rfl rfl (sn rfl rfl (sn rfl rfl (A1 (lr (fun u2 hu2=>sp rfl rfl (sl rfl (gq rfl) rfl (sp rfl rfl (sl rfl (gq rfl) rfl (sv rfl (sp rfl rfl (sl rfl (gq rfl) rfl (sp rfl rfl (sl rfl (gq rfl) rfl (sv rfl (sv rfl (sst rfl G_hit [(di (w64 (p1.X - p2.X))),(di (w64 (p1.Y - p2.Y)))] rfl (A1 (B3 ?_)))))))))))))))))))
 cases h
 exact A7 (.inr rfl) (B6 (K9 rfl G_hit (nl rfl) rfl) E1) (.refl _)
noncomputable def A8q (p1:Spot)(p2:Spot):Option Int:=
  some (w64 ((w64 (p1.X*p2.X))+ (w64 (p1.Y*p2.Y))))
theorem B1a (p1:Spot)(p2:Spot)(r:Int)(h:A8q p1 p2=some r):PCall Tryz.prog 203 [(.agg [(i64 p1.X),(i64 p1.Y)]),(.agg [(i64 p2.X),(i64 p2.Y)])] (i64 r):=by
 refine B8 (fk Tryz.func203 Tryz.ntmps203 m0 (by with_unfolding_all rfl)) (nl rfl) ?_
 unfold A8q at h
 refine B5 (s0:=⟨T [(0,(.d _)),(1,(.d _))],G []⟩) (sbr rfl rfl) ?_
 refine lr (fun u1 hu1=>sn rfl rfl (sn rfl rfl (sv rfl (A1 (lr (fun u2 hu2=>sp rfl rfl (sl rfl (gq rfl) rfl (sp rfl rfl (sl rfl G_hit rfl (sv rfl (sp rfl rfl (sl rfl (gq rfl) rfl (sp rfl rfl (sl rfl G_hit rfl (sv rfl (sv rfl (sv rfl (A1 (B3 ?_)))))))))))))))))))
 cases h
 exact A7 (.inr rfl) (B6 (B4 rfl) E1) (.refl _)
noncomputable def A7f (p1:Int)(x1:(Int×Int)):Option (Stp (Int×Int) Int):=
  cond (decide (x1.2>0)) (cond (decide ((w64 ((w64 (x1.1+x1.2))* (w64 (x1.1+x1.2))))≤p1)) (some (.go ((w64 (x1.1+x1.2)),(w64 (x1.2.tdiv 2))))) (some (.go (x1.1,(w64 (x1.2.tdiv 2)))))) (some (.out x1.1))
noncomputable def A6r (p1:Int):Option Int:=
  (loop (A7f p1) (0,67108864)).bind fun y1=>some y1
theorem B6z (p1:Int)(r:Int)(h:A6r p1=some r):PCall Tryz.prog 202 [(i64 p1)] (i64 r):=by
 refine B8 (fk Tryz.func202 Tryz.ntmps202 m0 (by with_unfolding_all rfl)) (nl rfl) ?_
 unfold A6r at h
 refine B5 (s0:=⟨T [(0,(.d _))],G []⟩) (sbr rfl rfl) ?_
 refine lr (fun u1 hu1=>sv rfl (A1 (lr (fun u2 hu2=>sv rfl (A1 (A6 (lr (fun u3 hu3=>sv rfl (A1 (bs h fun y1 hy1 h=>E0 (fun s=> ∃g1:Unit,Sb ⟨T [(3,(di y1))],G []⟩ s) ?_ ?_))))))))))
 refine A8 (E7 (A7f p1) (fun (x1:(Int×Int)) (g2:Unit)=>⟨T [(0,(di p1)),(3,(di x1.1)),(4,(di x1.2))],G []⟩) (0,67108864) () _ hy1 (sbr rfl rfl) ?_)
 intro x1 g2 z1 hz1 ez1
 unfold A7f at hz1
 refine A6 (lr (fun u4 hu4=>sv rfl (sv rfl (A1 (cc rfl hz1 (fun c1 hz1=> ?_) (fun c1 hz1=> ?_))))))
 refine A9 (A6 (A8 (lr (fun u5 hu5=>sv rfl (sv rfl (sv rfl (sv rfl (sv rfl (sv rfl (sv rfl (sv rfl (sv rfl (A1 (cc rfl hz1 (fun c2 hz1=> ?_) (fun c2 hz1=> ?_)))))))))))))))
 refine D0 fun u6 hu6=>sv rfl (sv rfl (sv rfl (sv rfl (A1 (F9 (D0 fun u7 hu7=>sv rfl (sv rfl (sv rfl (A1 (G3 ?_))))))))))
 cases hz1
 exact ⟨rfl,(),(sbr rfl rfl)⟩
 refine A9 (F9 (D0 fun u8 hu8=>sv rfl (sv rfl (sv rfl (A1 (G3 ?_))))))
 cases hz1
 exact ⟨rfl,(),(sbr rfl rfl)⟩
 refine C3 rfl ?_
 cases hz1
 obtain rfl:=ez1 _ rfl
 refine ⟨nofun,C0 rfl (l_j ?_)⟩
 exact ⟨(),(sbr rfl rfl)⟩
 rintro _ ⟨g1,q1⟩
 refine B5 q1 (lr (fun u9 hu9=>sv rfl (sv rfl (A1 (B3 ?_)))))
 cases h
 exact A7 (.inr rfl) (B6 (B4 rfl) E1) (.refl _)
noncomputable def A2g (p1:Curve)(x2:Int):Option (Stp Int (Sum Unit Int)):=
  cond (decide ((w64 (x2+1))< (p1.Pts.length:Int))) ((D6 p1.Pts (w64 (x2+1))).bind fun v3=>(D6 p1.Pts x2).bind fun v4=>(A6f v3 v4).bind fun v5=>(A8q v5 v5).bind fun v6=>(A6r v6).bind fun v7=>(A8q v5 v5).bind fun v8=>cond ((w64 (v7*v7)) !=v8) (some (.out (.inr 3))) (cond ((decide (v7<1000))||(decide (v7>1048576))) (some (.out (.inr 2))) (((cond (decide (x2>0)) (D6 p1.Pts x2) (some default))).bind fun v9=>((cond (decide (x2>0)) (D6 p1.Pts (w64 (x2 - 1))) (some default))).bind fun v10=>((cond (decide (x2>0)) (A6f v9 v10) (some default))).bind fun v11=>((cond (decide (x2>0)) (A8q v5 v11) (some default))).bind fun v12=>cond ((decide (x2>0))&& (decide (v12≤0))) (some (.out (.inr 12))) (some (.go (w64 (x2+1))))))) (some (.out (.inl ())))
noncomputable def A2h (p1:Curve)(x1:Int):Option (Stp Int (Sum Unit Int)):=
  cond (decide (x1< (p1.Pts.length:Int))) ((D6 p1.Pts x1).bind fun v1=>(B0f v1).bind fun v2=>cond (!v2) (some (.out (.inr 2))) (some (.go (w64 (x1+1))))) (some (.out (.inl ())))
noncomputable def A82 (p1:Curve):Option Int:=
  cond (decide ((p1.Pts.length:Int)<2)) (some 6) (cond (decide ((p1.Pts.length:Int)>16)) (some 5) (thenS (loop (A2h p1) 0) (fun _=>thenS (loop (A2g p1) 0) (fun _=>some 0) (fun r=>some r)) (fun r=>some r)))
theorem B5b (p1:Curve)(r:Int)(h:A82 p1=some r):PCall Tryz.prog 201 [(.agg [(.list (List.map A5a p1.Pts))])] (i64 r):=by
 refine B8 (fk Tryz.func201 Tryz.ntmps201 m0 (by with_unfolding_all rfl)) (nl rfl) ?_
 unfold A82 at h
 refine B5 (s0:=⟨T [(0,(.d _))],G []⟩) (sbr rfl rfl) ?_
 refine lr (fun u1 hu1=>sn rfl rfl (sv rfl (A1 (A6 (lr (fun u2 hu2=>sp rfl rfl (sl rfl G_hit rfl (sd rfl (E5 rfl) (sv rfl (A1 (cc rfl h (fun c1 h=> ?_) (fun c1 h=> ?_))))))))))))
 refine lr (fun u3 hu3=>sv rfl (A1 (B3 ?_)))
 cases h
 exact A7 (.inr rfl) (B6 (B4 rfl) E1) (.refl _)
 refine A9 (A6 (lr (fun u4 hu4=>sp rfl rfl (sl rfl G_hit rfl (sd rfl (E5 rfl) (sv rfl (A1 (cc rfl h (fun c2 h=> ?_) (fun c2 h=> ?_)))))))))
 refine lr (fun u5 hu5=>sv rfl (A1 (B3 ?_)))
 cases h
 exact A7 (.inr rfl) (B6 (B4 rfl) E1) (.refl _)
 refine A9 (A6 (lr (fun u6 hu6=>sv rfl (A1 (js h fun z1 hz1 h=>E0 (fun s=> ∃(y1:Unit) (g1:Unit),z1= .inl y1∧Sb ⟨T [(1,(.ptr (1,u1) 0))],G [((1,u1),some (.box 61 [(dl A5a p1.Pts)]))]⟩ s) ?_ ?_)))))
 refine A8 (E7 (A2h p1) (fun (x1:Int) (g2:Unit)=>⟨T [(1,(.ptr (1,u1) 0)),(3,(di x1))],G [((1,u1),some (.box 61 [(dl A5a p1.Pts)]))]⟩) 0 () _ hz1 (sbr rfl rfl) ?_)
 intro x1 g2 z2 hz2 ez2
 unfold A2h at hz2
 refine A6 (lr (fun u7 hu7=>sv rfl (sp rfl rfl (sl rfl G_hit rfl (sd rfl (E5 rfl) (sv rfl (A1 (cc rfl hz2 (fun c3 hz2=> ?_) (fun c3 hz2=> ?_)))))))))
 refine A9 (A6 (A8 (lr (fun u8 hu8=>sp rfl rfl (sl rfl G_hit rfl (sv rfl (bs hz2 fun v1 hv1 hz2=>sd rfl (E4 rfl rfl hv1 rfl) (sd rfl (C4 rfl hv1 rfl rfl) (bs hz2 fun v2 hv2 hz2=>B1 rfl rfl A2 (C1i _ _ hv2) (.inl rfl) (B9 (.d (bo (!v2))) rfl rfl (A1 (cc rfl hz2 (fun c4 hz2=> ?_) (fun c4 hz2=> ?_)))))))))))))
 refine lr (fun u9 hu9=>sv rfl (A1 (B3 ?_)))
 cases hz2
 obtain rfl:=ez2 _ rfl
 refine ⟨nofun,D7 ?_⟩
 rw [Sum.elim_inr]at h
 cases h
 exact A7 (.inr rfl) (B6 (B4 rfl) E1) (.refl _)
 refine A9 (F9 (D0 fun u10 hu10=>sv rfl (sv rfl (sv rfl (A1 (G3 ?_))))))
 cases hz2
 exact ⟨rfl,(),(sbr rfl rfl)⟩
 refine C3 rfl ?_
 cases hz2
 obtain rfl:=ez2 _ rfl
 refine ⟨nofun,C0 rfl (l_j ?_)⟩
 exact ⟨_,(),rfl,(sbr rfl rfl)⟩
 rintro _ ⟨y1,g1,rfl,q1⟩
 rw [Sum.elim_inl]at h
 refine B5 q1 (A6 (lr (fun u11 hu11=>sv rfl (A1 (js h fun z3 hz3 h=>E0 (fun s=> ∃(y2:Unit) (g3:Unit),z3= .inl y2∧Sb ⟨T [],G []⟩ s) ?_ ?_)))))
 refine A8 (E7 (A2g p1) (fun (x2:Int) (g4:Unit)=>⟨T [(1,(.ptr (1,u1) 0)),(4,(di x2))],G [((1,u1),some (.box 61 [(dl A5a p1.Pts)]))]⟩) 0 () _ hz3 (sbr rfl rfl) ?_)
 intro x2 g4 z4 hz4 ez4
 unfold A2g at hz4
 refine A6 (lr (fun u12 hu12=>sv rfl (sv rfl (sp rfl rfl (sl rfl G_hit rfl (sd rfl (E5 rfl) (sv rfl (A1 (cc rfl hz4 (fun c5 hz4=> ?_) (fun c5 hz4=> ?_))))))))))
 refine A9 (A6 (A8 (A6 (I6 rfl fun u13 hu13=>sp rfl rfl (sl rfl G_hit rfl (sv rfl (sv rfl (bs hz4 fun v3 hv3 hz4=>sd rfl (E4 rfl rfl hv3 rfl) (sd rfl (C4 rfl hv3 rfl rfl) (sp rfl rfl (sl rfl G_hit rfl (sv rfl (bs hz4 fun v4 hv4 hz4=>sd rfl (E4 rfl rfl hv4 rfl) (sd rfl (C4 rfl hv4 rfl rfl) (bs hz4 fun v5 hv5 hz4=>B1 rfl rfl A2 (B1i _ _ _ hv5) (.inl rfl) (sn rfl rfl (sst rfl G_hit [(di v5.X),(di v5.Y)] rfl (A1 (lr (fun u14 hu14=>sd rfl (B2 rfl G_hit rfl rfl) (sd rfl (B2 rfl G_hit rfl rfl) (bs hz4 fun v6 hv6 hz4=>B1 rfl rfl A2 (B1a _ _ _ hv6) (.inl rfl) (bs hz4 fun v7 hv7 hz4=>B1 rfl rfl A2 (B6z _ _ hv7) (.inl rfl) (sv rfl (A1 (A6 (lr (fun u15 hu15=>sv rfl (sv rfl (sv rfl (sd rfl (B2 rfl G_hit rfl rfl) (sd rfl (B2 rfl G_hit rfl rfl) (bs hz4 fun v8 hv8 hz4=>B1 rfl rfl A2 (B1a _ _ _ hv8) (.inl rfl) (sv rfl (A1 (cc rfl hz4 (fun c6 hz4=> ?_) (fun c6 hz4=> ?_)))))))))))))))))))))))))))))))))))))
 refine lr (fun u16 hu16=>sv rfl (A1 (B3 ?_)))
 cases hz4
 obtain rfl:=ez4 _ rfl
 refine ⟨nofun,D7 ?_⟩
 rw [Sum.elim_inr]at h
 cases h
 exact A7 (.inr rfl) (B6 (B4 rfl) E1) (.refl _)
 refine A9 (A6 (lr (fun u17 hu17=>sv rfl (sv rfl (sv rfl (gf rfl (fun _=>rfl) (gf rfl (vb rfl rfl rfl) (sd rfl (A0u rfl rfl (fun hc=>A3 (L6 hc))) (A1 (cc rfl hz4 (fun c7 hz4=> ?_) (fun c7 hz4=> ?_)))))))))))
 refine lr (fun u18 hu18=>sv rfl (A1 (B3 ?_)))
 cases hz4
 obtain rfl:=ez4 _ rfl
 refine ⟨nofun,D7 ?_⟩
 rw [Sum.elim_inr]at h
 cases h
 exact A7 (.inr rfl) (B6 (B4 rfl) E1) (.refl _)
 refine A9 (A6 (I6 rfl fun u19 hu19=>sv rfl (sv rfl (sv rfl (gt rfl (fun w3=>(B2 rfl G_hit rfl rfl)) (gp rfl (A19 rfl) (fun _=>rfl) (gt rfl (vl rfl (gq rfl) rfl) (gt rfl (fun _=>rfl) (bs hz4 fun v9 hv9 hz4=>gt rfl (fun w7=>(E4 (A3 w7) (A3 w7) (C7 w7 hv9) rfl)) (gt rfl (fun w8=>(C4 (A3 w8) (C7 w8 hv9) rfl rfl)) (gp rfl (A19 rfl) (fun _=>rfl) (gt rfl (vl rfl (gq rfl) rfl) (gt rfl (fun _=>rfl) (gt rfl (vb rfl rfl rfl) (bs hz4 fun v10 hv10 hz4=>gt rfl (fun w13=>(E4 (A3 w13) (A3 w13) (C7 w13 hv10) rfl)) (gt rfl (fun w14=>(C4 (A3 w14) (C7 w14 hv10) rfl rfl)) (bs hz4 fun v11 hv11 hz4=> ?_)))))))))))))))))
 refine U8 _ (.agg [(i64 v11.X),(i64 v11.Y)]) (A19 rfl) (fun w15=>⟨_,[(.d (.agg [(i64 v9.X),(i64 v9.Y)])),(.d (.agg [(i64 v10.X),(i64 v10.Y)]))],_,_,(by simp only [A3 w15];rfl),rfl,A2,B1i _ _ _ (C7 w15 hv11),(.inl rfl)⟩) ?_
 refine bs hz4 fun v12 hv12 hz4=> ?_
 refine U8 _ (i64 v12) (A19 rfl) (fun w16=>⟨_,[(.d (.agg [(i64 v5.X),(i64 v5.Y)])),(.d (.agg [(i64 v11.X),(i64 v11.Y)]))],_,_,(by simp only [A3 w16];rfl),rfl,A2,B1a _ _ _ (C7 w16 hv12),(.inl rfl)⟩) ?_
 refine gt rfl (vb rfl rfl rfl) (sa rfl rfl rfl (A1 (cc rfl hz4 (fun c8 hz4=> ?_) (fun c8 hz4=> ?_))))
 refine lr (fun u20 hu20=>sv rfl (A1 (B3 ?_)))
 cases hz4
 obtain rfl:=ez4 _ rfl
 refine ⟨nofun,D7 ?_⟩
 rw [Sum.elim_inr]at h
 cases h
 exact A7 (.inr rfl) (B6 (B4 rfl) E1) (.refl _)
 refine A9 (F9 (D0 fun u21 hu21=>sv rfl (sv rfl (sv rfl (A1 (G3 ?_))))))
 cases hz4
 exact ⟨rfl,(),(sbr rfl rfl)⟩
 refine C3 rfl ?_
 cases hz4
 obtain rfl:=ez4 _ rfl
 refine ⟨nofun,C0 rfl (l_j ?_)⟩
 exact ⟨_,(),rfl,(sbr rfl rfl)⟩
 rintro _ ⟨y2,g3,rfl,q2⟩
 rw [Sum.elim_inl]at h
 refine B5 q2 (lr (fun u22 hu22=>sv rfl (A1 (B3 ?_))))
 cases h
 exact A7 (.inr rfl) (B6 (B4 rfl) E1) (.refl _)
noncomputable def A4t (p1:Int):Option (Int×Int×Int):=
  cond (p1==1) (some (2000,30,90)) (cond (p1==2) (some (1000,20,60)) (cond (p1==3) (some (300,100,300)) (some (0,0,0))))
theorem B0g (p1:Int)(r:(Int×Int×Int))(h:A4t p1=some r):PCall Tryz.prog 35 [(i64 p1)] (.tup [(i64 r.1),(i64 r.2.1),(i64 r.2.2)]):=by
 refine B8 (fk Tryz.func35 Tryz.ntmps35 m0 (by with_unfolding_all rfl)) (nl rfl) ?_
 unfold A4t at h
 refine B5 (s0:=⟨T [(0,(.d _))],G []⟩) (sbr rfl rfl) ?_
 refine lr (fun u1 hu1=>sv rfl (sv rfl (sv rfl (A1 (A6 (lr (fun u2 hu2=>sv rfl (A1 (A8 (lr (fun u3 hu3=>sv rfl (sv rfl (A1 (cc rfl h (fun c1 h=> ?_) (fun c1 h=> ?_)))))))))))))))
 refine lr (fun u4 hu4=>sv rfl (sv rfl (sv rfl (A1 (B3 ?_)))))
 cases h
 exact A7 (.inr rfl) (C2p (B4 rfl) (B4 rfl) (B4 rfl) E1 E1 E1) (.refl _)
 refine lr (fun u5 hu5=>sv rfl (sv rfl (A1 (cc rfl h (fun c2 h=> ?_) (fun c2 h=> ?_)))))
 refine lr (fun u6 hu6=>sv rfl (sv rfl (sv rfl (A1 (B3 ?_)))))
 cases h
 exact A7 (.inr rfl) (C2p (B4 rfl) (B4 rfl) (B4 rfl) E1 E1 E1) (.refl _)
 refine lr (fun u7 hu7=>sv rfl (sv rfl (A1 (cc rfl h (fun c3 h=> ?_) (fun c3 h=> ?_)))))
 refine lr (fun u8 hu8=>sv rfl (sv rfl (sv rfl (A1 (B3 ?_)))))
 cases h
 exact A7 (.inr rfl) (C2p (B4 rfl) (B4 rfl) (B4 rfl) E1 E1 E1) (.refl _)
 refine A9 (F9 (lr (fun u9 hu9=>sv rfl (sv rfl (sv rfl (A1 (B3 ?_)))))))
 cases h
 exact A7 (.inr rfl) (C2p (B4 rfl) (B4 rfl) (B4 rfl) E1 E1 E1) (.refl _)
noncomputable def A0q (p1:(List Int))(p2:Int)(p3:Int)(x1:Int):Option (Stp Int (Sum Unit Bool)):=
  cond (decide (x1< (p1.length:Int))) ((D6 p1 x1).bind fun v1=>((cond (!(decide (v1<p2))) (D6 p1 x1) (some default))).bind fun v2=>((cond ((!((decide (v1<p2))||(decide (v2≥p3))))&& (decide (x1>0))) (D6 p1 x1) (some default))).bind fun v3=>((cond ((!((decide (v1<p2))||(decide (v2≥p3))))&& (decide (x1>0))) (D6 p1 (w64 (x1 - 1))) (some default))).bind fun v4=>cond (((decide (v1<p2))||(decide (v2≥p3)))||((decide (x1>0))&& (decide (v3≤v4)))) (some (.out (.inr false))) (some (.go (w64 (x1+1))))) (some (.out (.inl ())))
noncomputable def A3j (p1:(List Int))(p2:Int)(p3:Int):Option Bool:=
  thenS (loop (A0q p1 p2 p3) 0) (fun _=>some true) (fun r=>some r)
theorem A91 (p1:(List Int))(p2:Int)(p3:Int)(r:Bool)(h:A3j p1 p2 p3=some r):PCall Tryz.prog 217 [(.list (List.map A5 p1)),(i64 p2),(i64 p3)] (bo r):=by
 refine B8 (fk Tryz.func217 Tryz.ntmps217 m0 (by with_unfolding_all rfl)) (nl rfl) ?_
 unfold A3j at h
 refine B5 (s0:=⟨T [(0,(.d _)),(1,(.d _)),(2,(.d _))],G []⟩) (sbr rfl rfl) ?_
 refine lr (fun u1 hu1=>sv rfl (A1 (A6 (lr (fun u2 hu2=>sv rfl (A1 (js h fun z1 hz1 h=>E0 (fun s=> ∃(y1:Unit) (g1:Unit),z1= .inl y1∧Sb ⟨T [],G []⟩ s) ?_ ?_)))))))
 refine A8 (E7 (A0q p1 p2 p3) (fun (x1:Int) (g2:Unit)=>⟨T [(0,(dl A5 p1)),(1,(di p2)),(2,(di p3)),(7,(di x1))],G []⟩) 0 () _ hz1 (sbr rfl rfl) ?_)
 intro x1 g2 z2 hz2 ez2
 unfold A0q at hz2
 refine A6 (lr (fun u3 hu3=>sv rfl (sv rfl (sd rfl (E5 rfl) (sv rfl (A1 (cc rfl hz2 (fun c1 hz2=> ?_) (fun c1 hz2=> ?_))))))))
 refine A9 (A6 (A8 (A6 (I6 rfl fun u4 hu4=>sv rfl (sv rfl (bs hz2 fun v1 hv1 hz2=>sd rfl (E4 rfl rfl hv1 rfl) (sd rfl (F3 rfl hv1 rfl) (sv rfl (sv rfl (sv rfl (gf rfl (fun _=>rfl) (gf rfl (fun _=>rfl) (bs hz2 fun v2 hv2 hz2=>gf rfl (fun w3=>(E4 (A3 w3) (A3 w3) (C7 w3 hv2) rfl)) (gf rfl (fun w4=>(F3 (A3 w4) (C7 w4 hv2) rfl)) (gf rfl (fun _=>rfl) (gf rfl (fun w6=>(V8 (A3 w6) (A3 w6) rfl)) (sd rfl (A0u rfl rfl (fun hc=>A3 (L6 hc))) (sv rfl (gf rfl (fun _=>rfl) (gf rfl (vb rfl rfl rfl) (gf rfl (fun w9=>(D60 (A3 w9))) (gv rfl (A3q rfl) (fun _=>rfl) (gv rfl (A3q rfl) (fun _=>rfl) (bs hz2 fun v3 hv3 hz2=>gv rfl (A3q rfl) (fun w12=>(E4 (A3 w12) (A3 w12) (C7 w12 hv3) rfl)) (gv rfl (A3q rfl) (fun w13=>(F3 (A3 w13) (C7 w13 hv3) rfl)) (gv rfl (A3q rfl) (fun _=>rfl) (gv rfl (A3q rfl) (fun _=>rfl) (gv rfl (A3q rfl) (vb rfl rfl rfl) (bs hz2 fun v4 hv4 hz2=>gv rfl (A3q rfl) (fun w17=>(E4 (A3 w17) (A3 w17) (C7 w17 hv4) rfl)) (gv rfl (A3q rfl) (fun w18=>(F3 (A3 w18) (C7 w18 hv4) rfl)) (gv rfl (A3q rfl) (fun w19=>(V8 (A3 w19) (A3 w19) rfl)) (gf rfl (fun w20=>(C5v (A3 w20) (fun hc=>A3 (C5w w20 hc)) rfl)) (sd rfl (A0u rfl rfl (fun hc=>A3 (L6 hc))) (A1 (cc rfl hz2 (fun c2 hz2=> ?_) (fun c2 hz2=> ?_))))))))))))))))))))))))))))))))))))
 refine lr (fun u5 hu5=>sv rfl (A1 (B3 ?_)))
 cases hz2
 obtain rfl:=ez2 _ rfl
 refine ⟨nofun,D7 ?_⟩
 rw [Sum.elim_inr]at h
 cases h
 exact A7 (.inr rfl) (B6 (B4 rfl) E1) (.refl _)
 refine A9 (F9 (D0 fun u6 hu6=>sv rfl (sv rfl (sv rfl (A1 (G3 ?_))))))
 cases hz2
 exact ⟨rfl,(),(sbr rfl rfl)⟩
 refine C3 rfl ?_
 cases hz2
 obtain rfl:=ez2 _ rfl
 refine ⟨nofun,C0 rfl (l_j ?_)⟩
 exact ⟨_,(),rfl,(sbr rfl rfl)⟩
 rintro _ ⟨y1,g1,rfl,q1⟩
 rw [Sum.elim_inl]at h
 refine B5 q1 (lr (fun u7 hu7=>sv rfl (A1 (B3 ?_))))
 cases h
 exact A7 (.inr rfl) (B6 (B4 rfl) E1) (.refl _)
noncomputable def A4u (p1:Map)(p2:Int):Option Int:=
  (D6 p1.Lanes p2).bind fun v1=>cond ((decide (v1.Kind<1))||(decide (v1.Kind>3))) (some 4) ((A82 v1.Curve_).bind fun v2=>cond (v2 !=0) (some v2) ((A4t v1.Kind).bind fun v3=>(A26 v1.Half 200 4000).bind fun v4=>((cond (!(!v4)) (A26 v1.Limit 1 v3.1) (some default))).bind fun v5=>cond ((!v4)||(!v5)) (some 2) (cond (decide ((v1.Next.length:Int)>3)) (some 8) ((A3j v1.Next (w64 (p2+1)) (p1.Lanes.length:Int)).bind fun v6=>cond (!v6) (some 11) (some 0)))))
theorem B70 (p1:Map)(p2:Int)(r:Int)(h:A4u p1 p2=some r):PCall Tryz.prog 163 [(.agg (A4h p1)),(i64 p2)] (i64 r):=by
 refine B8 (fk Tryz.func163 Tryz.ntmps163 m0 (by with_unfolding_all rfl)) (nl rfl) ?_
 unfold A4u at h
 refine B5 (s0:=⟨T [(0,(.d _)),(1,(.d _))],G []⟩) (sbr rfl rfl) ?_
 refine lr (fun u1 hu1=>sn rfl rfl (sv rfl (A1 (lr (fun u2 hu2=>sp rfl rfl (sl rfl G_hit rfl (sv rfl (bs h fun v1 hv1 h=>sd rfl (E4 rfl rfl hv1 rfl) (sd rfl (C4 rfl hv1 rfl rfl) (sn rfl rfl (sst rfl G_hit (C31 v1) rfl (A1 (A6 (lr (fun u3 hu3=>sp rfl rfl (sl rfl G_hit rfl (sv rfl (sv rfl (gp rfl (T8 rfl) (fun _=>rfl) (gf rfl (vl rfl G_hit rfl) (gf rfl (vb rfl rfl rfl) (sd rfl (A0u rfl rfl (fun hc=>A3 (L6 hc))) (A1 (cc rfl h (fun c1 h=> ?_) (fun c1 h=> ?_)))))))))))))))))))))))))
 refine lr (fun u4 hu4=>sv rfl (A1 (B3 ?_)))
 cases h
 exact A7 (.inr rfl) (B6 (B4 rfl) E1) (.refl _)
 refine A9 (lr (fun u5 hu5=>sp rfl rfl (sd rfl (B2 rfl G_hit rfl rfl) (bs h fun v2 hv2 h=>B1 rfl rfl A2 (B5b _ _ hv2) (.inl rfl) (sv rfl (A1 (A6 (lr (fun u6 hu6=>sv rfl (sv rfl (A1 (cc rfl h (fun c2 h=> ?_) (fun c2 h=> ?_)))))))))))))
 refine lr (fun u7 hu7=>sv rfl (sv rfl (A1 (B3 ?_))))
 cases h
 exact A7 (.inr rfl) (B6 (B4 rfl) E1) (.refl _)
 refine A9 (lr (fun u8 hu8=>sp rfl rfl (sl rfl G_hit rfl (bs h fun v3 hv3 h=>B1 rfl rfl A2 (B0g _ _ hv3) (.inl rfl) (sv rfl (sv rfl (sv rfl (sv rfl (sv rfl (sv rfl (sv rfl (A1 (A6 (lr (fun u9 hu9=>sp rfl rfl (sl rfl G_hit rfl (bs h fun v4 hv4 h=>B1 rfl rfl A2 (A31 _ _ _ _ hv4) (.inl rfl) (B9 (.d (bo (!v4))) rfl rfl (sv rfl (gp rfl (T8 rfl) (fun _=>rfl) (gf rfl (vl rfl G_hit rfl) (gf rfl (fun _=>rfl) (bs h fun v5 hv5 h=> ?_)))))))))))))))))))))))
 refine U8 _ (bo v5) (T8 rfl) (fun w7=>⟨_,[(di v1.Limit),(di 1),(di v3.1)],_,_,(by simp only [A3 w7];rfl),rfl,A2,A31 _ _ _ _ (C7 w7 hv5),(.inl rfl)⟩) ?_
 refine Z7 _ (.d (bo (!v5))) rfl (T8 rfl) (fun w8=>(by simp only [A3 w8];rfl)) ?_
 refine sd rfl (A0u rfl rfl (fun hc=>A3 (L6 hc))) (A1 (cc rfl h (fun c3 h=> ?_) (fun c3 h=> ?_)))
 refine lr (fun u10 hu10=>sv rfl (A1 (B3 ?_)))
 cases h
 exact A7 (.inr rfl) (B6 (B4 rfl) E1) (.refl _)
 refine A9 (A6 (lr (fun u11 hu11=>sp rfl rfl (sl rfl G_hit rfl (sd rfl (E5 rfl) (sv rfl (A1 (cc rfl h (fun c4 h=> ?_) (fun c4 h=> ?_)))))))))
 refine lr (fun u12 hu12=>sv rfl (A1 (B3 ?_)))
 cases h
 exact A7 (.inr rfl) (B6 (B4 rfl) E1) (.refl _)
 refine A9 (A6 (lr (fun u13 hu13=>sp rfl rfl (sl rfl G_hit rfl (sv rfl (sv rfl (sp rfl rfl (sl rfl (gq rfl) rfl (sd rfl (E5 rfl) (bs h fun v6 hv6 h=>B1 rfl rfl A2 (A91 _ _ _ _ hv6) (.inl rfl) (B9 (.d (bo (!v6))) rfl rfl (A1 (cc rfl h (fun c5 h=> ?_) (fun c5 h=> ?_))))))))))))))
 refine lr (fun u14 hu14=>sv rfl (A1 (B3 ?_)))
 cases h
 exact A7 (.inr rfl) (B6 (B4 rfl) E1) (.refl _)
 refine A9 (lr (fun u15 hu15=>sv rfl (A1 (B3 ?_))))
 cases h
 exact A7 (.inr rfl) (B6 (B4 rfl) E1) (.refl _)
noncomputable def A0l (p1:Map)(v1:Lane)(x2:Int):Option (Stp Int (Sum Unit Int)):=
  cond (decide (x2< (v1.Next.length:Int))) ((D6 v1.Next x2).bind fun v2=>(D6 p1.Lanes v2).bind fun v3=>cond (v3.Kind !=v1.Kind) (some (.out (.inr 4))) ((D6 v3.Curve_.Pts 0).bind fun v4=>(D6 v1.Curve_.Pts (w64 ((v1.Curve_.Pts.length:Int) - 1))).bind fun v5=>cond (!(v4.X==v5.X&& (v4.Y==v5.Y&&true))) (some (.out (.inr 3))) (some (.go (w64 (x2+1)))))) (some (.out (.inl ())))
noncomputable def A0m (p1:Map)(x1:Int):Option (Stp Int (Sum Unit Int)):=
  cond (decide (x1< (p1.Lanes.length:Int))) ((D6 p1.Lanes x1).bind fun v1=>thenS (loop (A0l p1 v1) 0) (fun _=>some (.go (w64 (x1+1)))) (fun r=>some (.out (.inr r)))) (some (.out (.inl ())))
noncomputable def A4v (p1:Map):Option Int:=
  thenS (loop (A0m p1) 0) (fun _=>some 0) (fun r=>some r)
theorem B71 (p1:Map)(r:Int)(h:A4v p1=some r):PCall Tryz.prog 164 [(.agg (A4h p1))] (i64 r):=by
 refine B8 (fk Tryz.func164 Tryz.ntmps164 m0 (by with_unfolding_all rfl)) (nl rfl) ?_
 unfold A4v at h
 refine B5 (s0:=⟨T [(0,(.d _))],G []⟩) (sbr rfl rfl) ?_
 refine lr (fun u1 hu1=>sn rfl rfl (sv rfl (A1 (A6 (lr (fun u2 hu2=>sv rfl (A1 (js h fun z1 hz1 h=>E0 (fun s=> ∃(y1:Unit) (g1:Unit),z1= .inl y1∧Sb ⟨T [],G []⟩ s) ?_ ?_))))))))
 refine A8 (E7 (A0m p1) (fun (x1:Int) (g2:Unit)=>⟨T [(1,(.ptr (1,u1) 0)),(3,(di x1))],G [((1,u1),some (.box 33 (A0i p1)))]⟩) 0 () _ hz1 (sbr rfl rfl) ?_)
 intro x1 g2 z2 hz2 ez2
 unfold A0m at hz2
 refine A6 (lr (fun u3 hu3=>sv rfl (sp rfl rfl (sl rfl G_hit rfl (sd rfl (E5 rfl) (sv rfl (A1 (cc rfl hz2 (fun c1 hz2=> ?_) (fun c1 hz2=> ?_)))))))))
 refine A9 (A6 (A8 (lr (fun u4 hu4=>sp rfl rfl (sl rfl G_hit rfl (sv rfl (bs hz2 fun v1 hv1 hz2=>sd rfl (E4 rfl rfl hv1 rfl) (sd rfl (C4 rfl hv1 rfl rfl) (sn rfl rfl (sst rfl G_hit (C31 v1) rfl (A1 (lr (fun u5 hu5=>sv rfl (A1 (js hz2 fun z3 hz3 hz2=>E0 (fun s=> ∃(y2:Unit) (g3:Unit),z3= .inl y2∧Sb ⟨T [(1,(.ptr (1,u1) 0)),(3,(di x1))],G [((1,u1),some (.box 33 (A0i p1)))]⟩ s) ?_ ?_)))))))))))))))
 refine A8 (E7 (A0l p1 v1) (fun (x2:Int) (g4:Unit)=>⟨T [(1,(.ptr (1,u1) 0)),(3,(di x1)),(4,(.ptr (4,u4) 0)),(5,(di x2))],G [((1,u1),some (.box 33 (A0i p1))),((4,u4),some (.box 63 (C31 v1)))]⟩) 0 () _ hz3 (sbr rfl rfl) ?_)
 intro x2 g4 z4 hz4 ez4
 unfold A0l at hz4
 refine A6 (lr (fun u6 hu6=>sv rfl (sp rfl rfl (sl rfl (gq rfl) rfl (sd rfl (E5 rfl) (sv rfl (A1 (cc rfl hz4 (fun c2 hz4=> ?_) (fun c2 hz4=> ?_)))))))))
 refine A9 (A6 (A8 (A6 (I6 rfl fun u7 hu7=>sp rfl rfl (sl rfl G_hit rfl (sp rfl rfl (sl rfl (gq rfl) rfl (sv rfl (bs hz4 fun v2 hv2 hz4=>sd rfl (E4 rfl rfl hv2 rfl) (sd rfl (F3 rfl hv2 rfl) (bs hz4 fun v3 hv3 hz4=>sd rfl (E4 rfl rfl hv3 rfl) (sd rfl (C4 rfl hv3 rfl rfl) (sn rfl rfl (sst rfl G_hit (C31 v3) rfl (A1 (A6 (lr (fun u8 hu8=>sp rfl rfl (sl rfl G_hit rfl (sp rfl rfl (sl rfl (gq rfl) rfl (sv rfl (A1 (cc rfl hz4 (fun c3 hz4=> ?_) (fun c3 hz4=> ?_)))))))))))))))))))))))))
 refine lr (fun u9 hu9=>sv rfl (A1 (B3 ?_)))
 cases hz4
 obtain rfl:=ez4 _ rfl
 refine ⟨nofun,D7 ?_⟩
 rw [Sum.elim_inr]at hz2
 cases hz2
 obtain rfl:=ez2 _ rfl
 refine ⟨nofun,D7 ?_⟩
 rw [Sum.elim_inr]at h
 cases h
 exact A7 (.inr rfl) (B6 (B4 rfl) E1) (.refl _)
 refine A9 (A6 (I6 rfl fun u10 hu10=>sp rfl rfl (sp rfl rfl (sl rfl G_hit rfl (bs hz4 fun v4 hv4 hz4=>sd rfl (E4 rfl rfl hv4 rfl) (sd rfl (C4 rfl hv4 rfl rfl) (sp rfl rfl (sp rfl rfl (sl rfl (gq rfl) rfl (sp rfl rfl (sp rfl rfl (sl rfl (gq rfl) rfl (sd rfl (E5 rfl) (sv rfl (bs hz4 fun v5 hv5 hz4=>sd rfl (E4 rfl rfl hv5 rfl) (sd rfl (C4 rfl hv5 rfl rfl) (B9 (.d (bo (!(v4.X==v5.X&& (v4.Y==v5.Y&&true))))) rfl rfl (A1 (cc rfl hz4 (fun c4 hz4=> ?_) (fun c4 hz4=> ?_))))))))))))))))))))
 refine lr (fun u11 hu11=>sv rfl (A1 (B3 ?_)))
 cases hz4
 obtain rfl:=ez4 _ rfl
 refine ⟨nofun,D7 ?_⟩
 rw [Sum.elim_inr]at hz2
 cases hz2
 obtain rfl:=ez2 _ rfl
 refine ⟨nofun,D7 ?_⟩
 rw [Sum.elim_inr]at h
 cases h
 exact A7 (.inr rfl) (B6 (B4 rfl) E1) (.refl _)
 refine A9 (F9 (D0 fun u12 hu12=>sv rfl (sv rfl (sv rfl (A1 (G3 ?_))))))
 cases hz4
 exact ⟨rfl,(),(sbr rfl rfl)⟩
 refine C3 rfl ?_
 cases hz4
 obtain rfl:=ez4 _ rfl
 refine ⟨nofun,C0 rfl (l_j ?_)⟩
 exact ⟨_,(),rfl,(sbr rfl rfl)⟩
 rintro _ ⟨y2,g3,rfl,q1⟩
 rw [Sum.elim_inl]at hz2
 refine F9 (B5 q1 (D0 fun u13 hu13=>sv rfl (sv rfl (sv rfl (A1 (G3 ?_))))))
 cases hz2
 exact ⟨rfl,(),(sbr rfl rfl)⟩
 refine C3 rfl ?_
 cases hz2
 obtain rfl:=ez2 _ rfl
 refine ⟨nofun,C0 rfl (l_j ?_)⟩
 exact ⟨_,(),rfl,(sbr rfl rfl)⟩
 rintro _ ⟨y1,g1,rfl,q2⟩
 rw [Sum.elim_inl]at h
 refine B5 q2 (lr (fun u14 hu14=>sv rfl (A1 (B3 ?_))))
 cases h
 exact A7 (.inr rfl) (B6 (B4 rfl) E1) (.refl _)
end Go.Abs.World
