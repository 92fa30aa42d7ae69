/-
  The functions, part 2.
-/
import Derived.Test.YtimbepcdlehjjaaFns1
set_option maxRecDepth 20000
set_option maxHeartbeats 4000000
set_option linter.unusedVariables false
namespace Go.Abs.Roads
open Go Go.Abs Go.Proofs
attribute [local irreducible] T3 B55 AWL
noncomputable def Z0 (p1:Map)(p2:Int)(p3:Int)(v1:Zone)(x2:((List Int)×Int)):Option (Stp ((List Int)×Int) (List Int)):=
  cond (decide (x2.2< (v1.Parts.length:Int))) ((F1 v1.Parts x2.2).bind fun v2=>((cond (v2.Lane_==p2) (F1 p1.Signals (w64 (v1.Signal_ - 1))) (some default))).bind fun v3=>((cond (v2.Lane_==p2) (A2x v3 p2 p3) (some default))).bind fun v4=>cond ((v2.Lane_==p2)&& (!v4)) ((A9u x2.1 [v2.From]).bind fun v5=>some (.go (v5,(w64 (x2.2+1))))) (some (.go (x2.1,(w64 (x2.2+1)))))) (some (.out x2.1))
noncomputable def Z1 (p1:Map)(p2:Int)(p3:Int)(x1:((List Int)×Int)):Option (Stp ((List Int)×Int) (List Int)):=
  cond (decide (x1.2< (p1.Zones.length:Int))) ((F1 p1.Zones x1.2).bind fun v1=>cond (v1.Signal_==0) (some (.go (x1.1,(w64 (x1.2+1))))) ((loop (Z0 p1 p2 p3 v1) (x1.1,0)).bind fun y2=>some (.go (y2,(w64 (x1.2+1)))))) (some (.out x1.1))
noncomputable def A7m (p1:Map)(p2:Int)(p3:Int):Option (List Int):=
  (loop (Z1 p1 p2 p3) ([],0)).bind fun y1=>cond (List.isEmpty y1) ((O1).bind fun v8=>some []) ((O0 y1).bind fun v6=>(B2b v6).bind fun v7=>some v7)
theorem B6w (p1:Map)(p2:Int)(p3:Int)(r:(List Int))(h:A7m p1 p2 p3=some r):PCall Try.prog 72 [(.agg (A12 p1)),(i64 p2),(i64 p3)] (.list (List.map A2 r)):=by
 refine E1 (fk Try.func72 Try.ntmps72 (fun r=>if r==10 then [1003]else if r==13 then [1013001]else if r==14 then [1014001]else []) (by with_unfolding_all rfl)) (nl rfl) ?_
 unfold A7m at h
 refine A7 (s0:=⟨T [(0,(.d _)),(1,(.d _)),(2,(.d _))],G []⟩) (sbr rfl rfl) ?_
 refine lr (fun u1 hu1=>sn rfl rfl (sv rfl (A1 (lr (fun u2 hu2=>sv rfl (A1 (A5 (lr (fun u3 hu3=>sp rfl rfl (sl rfl G_hit rfl (sd rfl (I8 rfl) (sv rfl (A1 (bs h fun y1 hy1 h=>F8 (fun s=> ∃g1:Nat,Sb ⟨T [(7,(oS y1 (50,g1)))],G [((50,g1),oB 2 1 A2 y1)]⟩ s) ?_ ?_))))))))))))))
 refine A4 (G5 (Z1 p1 p2 p3) (fun (x1:((List Int)×Int)) (g2:Nat)=>⟨T [(1,(di p2)),(2,(di p3)),(3,(.ptr (3,u1) 0)),(7,(oS x1.1 (50,g2))),(13,(dl Q8 p1.Zones)),(14,(di (p1.Zones.length:Int))),(15,(di x1.2))],G [((3,u1),some (.box 28 (A05 p1))),((50,g2),oB 2 1 A2 x1.1)]⟩) ([],0) 0 _ hy1 (F7 ⟨.of rfl, .of rfl, .of rfl, .of rfl, .of rfl, .of rfl, .of rfl,trivial⟩ (B3 G_hit (.of rfl) (V2 trivial))) ?_)
 intro x1 g2 z1 hz1 ez1
 unfold Z1 at hz1
 refine lr (fun u4 hu4=>sv rfl (A1 (A5 (cc rfl hz1 (fun c1 hz1=> ?_) (fun c1 hz1=> ?_)))))
 refine B4 (A5 (A4 (lr (fun u5 hu5=>bs hz1 fun v1 hv1 hz1=>sd rfl (K6 rfl rfl hv1 rfl) (sd rfl (G1 rfl hv1 rfl rfl) (sn rfl rfl (sst rfl G_hit [(dl M9 v1.Parts),(di v1.Signal_)] rfl (A1 (A5 (lr (fun u6 hu6=>sp rfl rfl (sl rfl G_hit rfl (sv rfl (A1 (cc rfl hz1 (fun c2 hz1=> ?_) (fun c2 hz1=> ?_))))))))))))))))
 refine C25 rfl (C3 fun u7 hu7=>sv rfl (sv rfl (A1 (L6 ?_))))
 cases hz1
 exact ⟨rfl,g2,(F7 ⟨.of rfl, .of rfl, .of rfl, .of rfl, .of rfl, .of rfl, .of rfl,trivial⟩ (sg rfl (F9 (gq rfl) trivial)))⟩
 refine B4 (lr (fun u8 hu8=>sp rfl rfl (sl rfl G_hit rfl (sd rfl (I8 rfl) (sv rfl (A1 (bs hz1 fun y2 hy2 hz1=>F8 (fun s=> ∃g3:Nat,Sb ⟨T [(1,(di p2)),(2,(di p3)),(3,(.ptr (3,u1) 0)),(7,(oS y2 (50,g3))),(13,(dl Q8 p1.Zones)),(14,(di (p1.Zones.length:Int))),(15,(di x1.2))],G [((3,u1),some (.box 28 (A05 p1))),((50,g3),oB 2 1 A2 y2)]⟩ s) ?_ ?_)))))))
 refine A4 (G5 (Z0 p1 p2 p3 v1) (fun (x2:((List Int)×Int)) (g4:Nat)=>⟨T [(1,(di p2)),(2,(di p3)),(3,(.ptr (3,u1) 0)),(7,(oS x2.1 (50,g4))),(9,(.ptr (9,u5) 0)),(13,(dl Q8 p1.Zones)),(14,(di (p1.Zones.length:Int))),(15,(di x1.2)),(23,(dl M9 v1.Parts)),(24,(di (v1.Parts.length:Int))),(25,(di x2.2))],G [((3,u1),some (.box 28 (A05 p1))),((9,u5),some (.box 69 [(dl M9 v1.Parts),(di v1.Signal_)])),((50,g4),oB 2 1 A2 x2.1)]⟩) (x1.1,0) g2 _ hy2 (F7 ⟨.of rfl, .of rfl, .of rfl, .of rfl, .of rfl, .of rfl, .of rfl, .of rfl, .of rfl, .of rfl, .of rfl,trivial⟩ (sg rfl (B3 G_hit (.of rfl) (F9 (gq rfl) trivial)))) ?_)
 intro x2 g4 z2 hz2 ez2
 unfold Z0 at hz2
 refine lr (fun u9 hu9=>sv rfl (A1 (A5 (cc rfl hz2 (fun c3 hz2=> ?_) (fun c3 hz2=> ?_)))))
 refine B4 (A5 (A4 (lr (fun u10 hu10=>bs hz2 fun v2 hv2 hz2=>sd rfl (K6 rfl rfl hv2 rfl) (sd rfl (G1 rfl hv2 rfl rfl) (sn rfl rfl (sst rfl G_hit (A8c v2) rfl (A1 (lr (fun u11 hu11=>sp rfl rfl (sl rfl G_hit rfl (sv rfl (sv rfl (sv rfl (gp rfl (A38 rfl) (fun _=>rfl) (gt rfl (vl rfl (gq rfl) rfl) (gp rfl (A38 rfl) (fun _=>rfl) (gt rfl (vl rfl (gq rfl) rfl) (gt rfl (vb rfl rfl rfl) (bs hz2 fun v3 hv3 hz2=>gt rfl (fun w6=>(K6 (A6 w6) (A6 w6) (G9 w6 hv3) rfl)) (gt rfl (fun w7=>(G1 (A6 w7) (G9 w7 hv3) rfl rfl)) (gt rfl (fun _=>rfl) (gt rfl (fun _=>rfl) (bs hz2 fun v4 hv4 hz2=> ?_))))))))))))))))))))))))
 refine V3 _ (bo v4) (A38 rfl) (fun w10=>⟨_,[(.d (.agg [(i64 v3.Offset),(.list (List.map A1c v3.Phases))])),(di p2),(di p3)],_,_,(by simp only [A6 w10];rfl),rfl,A3,A8u _ _ _ _ (G9 w10 hv4),(.inl rfl)⟩) ?_
 refine A1i _ (.d (bo (!v4))) rfl (A38 rfl) (fun w11=>(by simp only [A6 w11];rfl)) ?_
 refine sa rfl rfl rfl (A1 (cc rfl hz2 (fun c4 hz2=> ?_) (fun c4 hz2=> ?_)))
 refine A7 (s0:=⟨T [(1,(di p2)),(2,(di p3)),(3,(.ptr (3,u1) 0)),(7,(oS x2.1 (50,g4))),(9,(.ptr (9,u5) 0)),(11,(.ptr (11,u10) 0)),(13,(dl Q8 p1.Zones)),(14,(di (p1.Zones.length:Int))),(15,(di x1.2)),(23,(dl M9 v1.Parts)),(24,(di (v1.Parts.length:Int))),(25,(di x2.2))],G [((3,u1),some (.box 28 (A05 p1))),((50,g4),oB 2 1 A2 x2.1),((9,u5),some (.box 69 [(dl M9 v1.Parts),(di v1.Signal_)])),((11,u10),some (.box 71 (A8c v2)))]⟩) (F7 ⟨.of rfl, .of rfl, .of rfl, .of rfl, .of rfl, .of rfl, .of rfl, .of rfl, .of rfl, .of rfl, .of rfl, .of rfl,trivial⟩ (sg rfl (F9 (gq rfl) (sg rfl (B3 G_hit (.of rfl) trivial))))) ?_
 refine C3 fun u12 hu12=>D3 (oS x2.1 (50,g4)) rfl rfl (sp rfl rfl (sl rfl (gq rfl) rfl (D3 (dl A2 [v2.From]) rfl rfl (bs hz2 fun v5 hv5 hz2=>A00 A2 (50,g4) x2.1 v2.From [] _ (W6 (fun _=>rfl)) rfl (gq rfl) hv5 (ss rfl (A1 (I3 (A7 (s0:=⟨T [(1,(.d _)),(2,(.d _)),(3,(.ptr _ _)),(7,(.sl _)),(9,(.ptr _ _)),(13,(.d _)),(14,(.d _)),(15,(.d _)),(23,(.d _)),(24,(.d _)),(25,(.d _))],G [((3,u1),some (.box 28 _)),((50,u12),some _),((9,u5),some (.box 69 _))]⟩) (sbr rfl rfl) ?_))))))))
 refine C3 fun u13 hu13=>sv rfl (sv rfl (A1 (L6 ?_)))
 cases hz2
 exact ⟨rfl,u12,(F7 ⟨.of rfl, .of rfl, .of rfl,(.of (A2a (A3u hv5)).symm), .of rfl, .of rfl, .of rfl, .of rfl, .of rfl, .of rfl, .of rfl,trivial⟩ (B3 G_hit (.of rfl) (sg rfl (Q6 (gq rfl) trivial))))⟩
 refine B4 (I3 (A7 (s0:=⟨T [(1,(di p2)),(2,(di p3)),(3,(.ptr (3,u1) 0)),(7,(oS x2.1 (50,g4))),(9,(.ptr (9,u5) 0)),(13,(dl Q8 p1.Zones)),(14,(di (p1.Zones.length:Int))),(15,(di x1.2)),(23,(dl M9 v1.Parts)),(24,(di (v1.Parts.length:Int))),(25,(di x2.2))],G [((3,u1),some (.box 28 (A05 p1))),((50,g4),oB 2 1 A2 x2.1),((9,u5),some (.box 69 [(dl M9 v1.Parts),(di v1.Signal_)]))]⟩) (F7 ⟨.of rfl, .of rfl, .of rfl, .of rfl, .of rfl, .of rfl, .of rfl, .of rfl, .of rfl, .of rfl, .of rfl,trivial⟩ (sg rfl (F9 (gq rfl) (sg rfl trivial)))) ?_))
 refine C3 fun u14 hu14=>sv rfl (sv rfl (A1 (L6 ?_)))
 cases hz2
 exact ⟨rfl,g4,(F7 ⟨.of rfl, .of rfl, .of rfl, .of rfl, .of rfl, .of rfl, .of rfl, .of rfl, .of rfl, .of rfl, .of rfl,trivial⟩ (B3 G_hit (.of rfl) (sg rfl (F9 (gq rfl) trivial))))⟩
 refine E3 rfl ?_
 cases hz2
 obtain rfl:=ez2 _ rfl
 refine ⟨nofun,D7 rfl (l_j ?_)⟩
 exact ⟨g4,(F7 ⟨.of rfl, .of rfl, .of rfl, .of rfl, .of rfl, .of rfl, .of rfl,trivial⟩ (B3 G_hit (.of rfl) (F9 (gq rfl) trivial)))⟩
 rintro _ ⟨g3,q1⟩
 refine I3 (A7 q1 (C3 fun u15 hu15=>sv rfl (sv rfl (A1 (L6 ?_)))))
 cases hz1
 exact ⟨rfl,g3,(F7 ⟨.of rfl, .of rfl, .of rfl, .of rfl, .of rfl, .of rfl, .of rfl,trivial⟩ (B3 G_hit (.of rfl) (F9 (gq rfl) trivial)))⟩
 refine E3 rfl ?_
 cases hz1
 obtain rfl:=ez1 _ rfl
 refine ⟨nofun,D7 rfl (l_j ?_)⟩
 exact ⟨g2,(F7 ⟨.of rfl,trivial⟩ (F9 (gq rfl) trivial))⟩
 rintro _ ⟨g1,q2⟩
 refine A7 q2 (A5 ?_)
 rcases C2j h with ⟨e1,h⟩|⟨e1,h⟩
 refine A7 (s0:=⟨T [(7,(.d .nilS))],G []⟩) (F7 ⟨.of (C8q e1),trivial⟩ trivial) ?_
 refine C3 fun u19 hu19=>sv rfl (bs h fun v8 hv8 h=>C3c (v:= .d (.tup [])) (us:= []) (oc_f [] _ rfl rfl A3 (A4a _ hv8) rfl rfl) (A1 (lr (fun u20 hu20=>sv rfl (C3c (v:= .d .nilS) (us:= []) (oc_f [] _ rfl rfl A3 C76 rfl rfl) (sv rfl (A1 (C1 ?_))))))))
 cases h
 exact A8 (.inr rfl) (D0 (C2 rfl) M3) DLe.nil
 refine A7 (s0:=⟨T [(7,(.sl (50,g1)))],G [((50,g1),some (.arr 2 1 (List.map A2 y1)))]⟩) (F7 ⟨.of (A2a e1),trivial⟩ (B3 (C6t G_hit e1) (.of rfl) trivial)) ?_
 refine C3 fun u17 hu17=>ss rfl (bs h fun v6 hv6 h=>C3c (v:= .d (.tup [])) (us:= [(50,g1)]) (C5o (A49 _ _ hv6) [(50,g1)] [(50,g1)] _ (((50,g1),some (.arr 2 1 (List.map A2 v6)))::_) rfl A7h (U0 C4r A7g) (A0d G_hit A5b) ⟨⟨_,G_hit, .of rfl⟩,trivial⟩ (fun _ h=>h) nd1 rfl rfl rfl) (A1 (lr (fun u18 hu18=>ss rfl (bs h fun v7 hv7 h=>C3c (v:= .sl (10140010,u18)) (us:= [(50,g1),(10140010,u18)]) (C5o (C9u _ _ hv7) [(50,g1)] [(50,g1)] _ (((10140010,u18),some (.arr 2 1 (List.map A2 v7)))::((50,g1),none)::_) rfl A7h (U0 C4r A7g) (A0d G_hit A5b) ⟨⟨_,G_hit, .of rfl⟩,trivial⟩ (fun _ h=>h) nd1 rfl rfl rfl) (ss rfl (A1 (C1 ?_))))))))
 cases h
 exact A8 (.inr rfl) (D0 (C2 rfl) (C86 G_hit)) (.refl _)
noncomputable def A7n (p1:Map)(p2:Int)(p3:Int):Option (List Int):=
  ((cond (!(decide (p3<0))) (A3b p1 p2) (some default))).bind fun v1=>cond ((decide (p3<0))||(!v1)) (some []) ((A7m p1 p2 p3).bind fun v2=>some v2)
theorem B6x (p1:Map)(p2:Int)(p3:Int)(r:(List Int))(h:A7n p1 p2 p3=some r):PCall Try.prog 37 [(.agg (A12 p1)),(i64 p2),(i64 p3)] (.list (List.map A2 r)):=by
 refine E1 (fk Try.func37 Try.ntmps37 m0 (by with_unfolding_all rfl)) (nl rfl) ?_
 unfold A7n at h
 refine A7 (s0:=⟨T [(0,(.d _)),(1,(.d _)),(2,(.d _))],G []⟩) (sbr rfl rfl) ?_
 refine lr (fun u1 hu1=>sn rfl rfl (sv rfl (A1 (A5 (lr (fun u2 hu2=>sv rfl (sv rfl (sv rfl (gf rfl (fun w1=>(B9 rfl G_hit rfl rfl)) (gf rfl (fun _=>rfl) (bs h fun v1 hv1 h=> ?_)))))))))))
 refine V3 _ (bo v1) (A39 rfl) (fun w3=>⟨_,[(.d (.agg (A12 p1))),(di p2)],_,_,(by simp only [A6 w3];rfl),rfl,A3,A6e _ _ _ (G9 w3 hv1),(.inl rfl)⟩) ?_
 refine A1i _ (.d (bo (!v1))) rfl (A39 rfl) (fun w4=>(by simp only [A6 w4];rfl)) ?_
 refine sd rfl (A8s rfl rfl (fun hc=>A6 (A1h hc))) (A1 (cc rfl h (fun c1 h=> ?_) (fun c1 h=> ?_)))
 refine lr (fun u3 hu3=>sv rfl (A1 (C1 ?_)))
 cases h
 exact A8 (.inr rfl) (D0 (C2 rfl) M3) DLe.nil
 refine B4 (lr (fun u4 hu4=>sd rfl (B9 rfl G_hit rfl rfl) (sv rfl (sv rfl (bs h fun v2 hv2 h=>B7 rfl rfl A3 (B6w _ _ _ _ hv2) (.inl rfl) (sv rfl (A1 (C1 ?_))))))))
 cases h
 exact A8 (.inr rfl) (D0 (C2 rfl) M3) (.refl _)
noncomputable def A7o:Option Map:=
  (P6 1 1500 [] [0,0,100000,0]).bind fun v1=>(P6 1 1500 [] [50000,(-50000),50000,50000]).bind fun v2=>some (Map.mk 0 [v1,v2] [(Zone.mk [(Part.mk 0 48000 52000 1),(Part.mk 1 48000 52000 0)] 0)] [] [])
theorem B6y (r:Map)(h:A7o=some r):PCall Try.prog 49 [] (.agg (A12 r)):=by
 refine E1 (fk Try.func49 Try.ntmps49 (fun r=>if r==1 then [1000,1002,1004,1007,1009]else []) (by with_unfolding_all rfl)) (nl rfl) ?_
 unfold A7o at h
 refine A7 (s0:=⟨T [],G []⟩) (sbr rfl rfl) ?_
 refine lr (fun u1 hu1=>sn rfl rfl (A1 (lr (fun u2 hu2=>D3 (dl A2 [0,0,100000,0]) rfl rfl (bs h fun v1 hv1 h=>B7 rfl rfl (.cons (.refl _) (.cons (.refl _) (.cons DLe.nil A3))) (K7 _ _ _ _ _ hv1) (.inl rfl) (D3 (dl A2 [50000,(-50000),50000,50000]) rfl rfl (bs h fun v2 hv2 h=>B7 rfl rfl (.cons (.refl _) (.cons (.refl _) (.cons DLe.nil A3))) (K7 _ _ _ _ _ hv2) (.inl rfl) (D3 (dl A2v [v1,v2]) rfl (B6r A2v ([v1,v2]:List Lane) (fun _=>rfl) rfl rfl ⟨rfl,rfl,rfl,rfl,rfl,rfl,trivial⟩ (fun _=>rfl)) (sv rfl (sv rfl (D3 (dl M9 [(Part.mk 0 48000 52000 1),(Part.mk 1 48000 52000 0)]) rfl rfl (sv rfl (D3 (dl Q8 [(Zone.mk [(Part.mk 0 48000 52000 1),(Part.mk 1 48000 52000 0)] 0)]) rfl rfl (sv rfl (sst rfl G_hit [(di 0),(dl A2v [v1,v2]),(dl Q8 [(Zone.mk [(Part.mk 0 48000 52000 1),(Part.mk 1 48000 52000 0)] 0)]),(.d .nilS),(.d .nilS)] rfl (A1 (C1 ?_)))))))))))))))))
 cases h
 exact A8 (.inr rfl) (D0 (Z9 rfl G_hit (nl rfl) rfl) M3) (.agg (ca rfl (ca rfl (ca rfl (.cons ⟨DLe.nil,rfl⟩ (.cons ⟨DLe.nil,rfl⟩ .nil))))))
noncomputable def A0h (p1:Map)(p2:Int)(x1:((List Int)×Int)):Option (Stp ((List Int)×Int) (List Int)):=
  cond (decide (x1.2< (p1.Lanes.length:Int))) ((F1 p1.Lanes x1.2).bind fun v1=>(D8 v1.Next p2).bind fun v2=>cond v2 ((A9u x1.1 [x1.2]).bind fun v3=>some (.go (v3,(w64 (x1.2+1))))) (some (.go (x1.1,(w64 (x1.2+1)))))) (some (.out x1.1))
noncomputable def A0i (p1:Map)(p2:Int):Option (List Int):=
  (loop (A0h p1 p2) ([],0)).bind fun y1=>some y1
theorem A4o (p1:Map)(p2:Int)(r:(List Int))(h:A0i p1 p2=some r):PCall Try.prog 59 [(.agg (A12 p1)),(i64 p2)] (.list (List.map A2 r)):=by
 refine E1 (fk Try.func59 Try.ntmps59 (fun r=>if r==6 then [1002]else []) (by with_unfolding_all rfl)) (nl rfl) ?_
 unfold A0i at h
 refine A7 (s0:=⟨T [(0,(.d _)),(1,(.d _))],G []⟩) (sbr rfl rfl) ?_
 refine lr (fun u1 hu1=>sn rfl rfl (sv rfl (A1 (lr (fun u2 hu2=>sv rfl (A1 (A5 (lr (fun u3 hu3=>sp rfl rfl (sl rfl G_hit rfl (sd rfl (I8 rfl) (sv rfl (A1 (bs h fun y1 hy1 h=>F8 (fun s=> ∃g1:Nat,Sb ⟨T [(5,(oS y1 (23,g1)))],G [((23,g1),oB 3 1 A2 y1)]⟩ s) ?_ ?_))))))))))))))
 refine A4 (G5 (A0h p1 p2) (fun (x1:((List Int)×Int)) (g2:Nat)=>⟨T [(1,(di p2)),(5,(oS x1.1 (23,g2))),(9,(dl A2v p1.Lanes)),(10,(di (p1.Lanes.length:Int))),(11,(di x1.2))],G [((23,g2),oB 3 1 A2 x1.1)]⟩) ([],0) 0 _ hy1 (F7 ⟨.of rfl, .of rfl, .of rfl, .of rfl, .of rfl,trivial⟩ (V2 trivial)) ?_)
 intro x1 g2 z1 hz1 ez1
 unfold A0h at hz1
 refine lr (fun u4 hu4=>sv rfl (A1 (A5 (cc rfl hz1 (fun c1 hz1=> ?_) (fun c1 hz1=> ?_)))))
 refine B4 (A5 (A4 (lr (fun u5 hu5=>sv rfl (bs hz1 fun v1 hv1 hz1=>sd rfl (K6 rfl rfl hv1 rfl) (sd rfl (G1 rfl hv1 rfl rfl) (sn rfl rfl (sv rfl (sst rfl G_hit (B1o v1) rfl (A1 (lr (fun u6 hu6=>sp rfl rfl (sl rfl G_hit rfl (sv rfl (bs hz1 fun v2 hv2 hz1=>B7 rfl rfl A3 (N1 _ _ _ hv2) (.inl rfl) (A1 (cc rfl hz1 (fun c2 hz1=> ?_) (fun c2 hz1=> ?_))))))))))))))))))
 refine C3 fun u7 hu7=>D3 (oS x1.1 (23,g2)) rfl rfl (sv rfl (D3 (dl A2 [x1.2]) rfl rfl (bs hz1 fun v3 hv3 hz1=>A00 A2 (23,g2) x1.1 x1.2 [] _ (W6 (fun _=>rfl)) rfl (gq rfl) hv3 (ss rfl (A1 (I3 (A7 (s0:=⟨T [(1,(.d _)),(5,(.sl _)),(9,(.d _)),(10,(.d _)),(11,(.d _))],G [((23,u7),some _)]⟩) (sbr rfl rfl) ?_)))))))
 refine C3 fun u8 hu8=>sv rfl (sv rfl (A1 (L6 ?_)))
 cases hz1
 exact ⟨rfl,u7,(F7 ⟨.of rfl,(.of (A2a (A3u hv3)).symm), .of rfl, .of rfl, .of rfl,trivial⟩ (Q6 G_hit trivial))⟩
 refine B4 (I3 (C3 fun u9 hu9=>sv rfl (sv rfl (A1 (L6 ?_)))))
 cases hz1
 exact ⟨rfl,g2,(F7 ⟨.of rfl, .of rfl, .of rfl, .of rfl, .of rfl,trivial⟩ (F9 (gq rfl) trivial))⟩
 refine E3 rfl ?_
 cases hz1
 obtain rfl:=ez1 _ rfl
 refine ⟨nofun,D7 rfl (l_j ?_)⟩
 exact ⟨g2,(F7 ⟨.of rfl,trivial⟩ (F9 G_hit trivial))⟩
 rintro _ ⟨g1,q1⟩
 refine A7 q1 (lr (fun u10 hu10=>D3 (oS y1 (23,g1)) rfl rfl (D3 (oS y1 (23,g1)) rfl rfl (A1 (C1 ?_)))))
 cases h
 exact A8 (.inr rfl) (D0 (C2 rfl) (A76 G_hit)) A75
noncomputable def V4 (p1:Map)(v7:List Int)(x1:(Int×Int)):Option (Stp (Int×Int) (Sum Unit Int)):=
  cond (decide (x1.2< (v7.length:Int))) ((F1 v7 x1.2).bind fun v8=>(F1 p1.Lanes x1.1).bind fun v9=>(D8 v9.Next v8).bind fun v10=>cond (!v10) (some (.out (.inr 13))) (some (.go (v8,(w64 (x1.2+1)))))) (some (.out (.inl ())))
noncomputable def A01 (p1:Map)(p2:(List Int)):Option Int:=
  (X3 p1).bind fun v1=>cond (v1 !=0) (some v1) (((cond (!(((p2.length:Int)==0)||(decide ((p2.length:Int)>8)))) (F1 p2 0) (some default))).bind fun v2=>((cond (!((((p2.length:Int)==0)||(decide ((p2.length:Int)>8)))||(decide (v2<0)))) (F1 p2 0) (some default))).bind fun v3=>((cond (!(((((p2.length:Int)==0)||(decide ((p2.length:Int)>8)))||(decide (v2<0)))||(decide (v3≥(p1.Lanes.length:Int))))) (F1 p2 0) (some default))).bind fun v4=>((cond (!(((((p2.length:Int)==0)||(decide ((p2.length:Int)>8)))||(decide (v2<0)))||(decide (v3≥(p1.Lanes.length:Int))))) (A0i p1 v4) (some default))).bind fun v5=>cond ((((((p2.length:Int)==0)||(decide ((p2.length:Int)>8)))||(decide (v2<0)))||(decide (v3≥(p1.Lanes.length:Int))))||(decide ((v5.length:Int)>0))) (some 13) ((F1 p2 0).bind fun v6=>(C39 p2 1 (p2.length:Int)).bind fun v7=>thenS (loop (V4 p1 v7) (v6,0)) (fun _=>some 0) (fun r=>some r)))
theorem A9c (p1:Map)(p2:(List Int))(r:Int)(h:A01 p1 p2=some r):PCall Try.prog 83 [(.agg (A12 p1)),(.list (List.map A2 p2))] (i64 r):=by
 refine E1 (fk Try.func83 Try.ntmps83 m0 (by with_unfolding_all rfl)) (nl rfl) ?_
 unfold A01 at h
 refine A7 (s0:=⟨T [(0,(.d _)),(1,(.d _))],G []⟩) (sbr rfl rfl) ?_
 refine lr (fun u1 hu1=>sn rfl rfl (sv rfl (A1 (A5 (lr (fun u2 hu2=>sd rfl (B9 rfl G_hit rfl rfl) (bs h fun v1 hv1 h=>B7 rfl rfl A3 (A3a _ _ hv1) (.inl rfl) (sv rfl (A1 (lr (fun u3 hu3=>sv rfl (sv rfl (A1 (cc rfl h (fun c1 h=> ?_) (fun c1 h=> ?_)))))))))))))))
 refine lr (fun u4 hu4=>sv rfl (sv rfl (A1 (C1 ?_))))
 cases h
 exact A8 (.inr rfl) (D0 (C2 rfl) M3) (.refl _)
 refine B4 (A5 (A5 (A21 rfl fun u5 hu5=>sv rfl (sd rfl (I8 rfl) (sv rfl (sv rfl (gf rfl (fun _=>rfl) (gf rfl (fun w2=>(I8 (A6 w2))) (gf rfl (vb rfl rfl rfl) (sd rfl (A8s rfl rfl (fun hc=>A6 (A1h hc))) (sv rfl (gf rfl (fun _=>rfl) (bs h fun v2 hv2 h=>gf rfl (fun w5=>(K6 (A6 w5) rfl (G9 w5 hv2) rfl)) (gf rfl (fun w6=>(I4 (A6 w6) (G9 w6 hv2) rfl)) (gf rfl (vb rfl rfl rfl) (sd rfl (A8s rfl rfl (fun hc=>A6 (A1h hc))) (sv rfl (gf rfl (fun _=>rfl) (bs h fun v3 hv3 h=>gf rfl (fun w9=>(K6 (A6 w9) rfl (G9 w9 hv3) rfl)) (gf rfl (fun w10=>(I4 (A6 w10) (G9 w10 hv3) rfl)) (gp rfl (A39 rfl) (fun _=>rfl) (gf rfl (vl rfl G_hit rfl) (gf rfl (fun w13=>(I8 (A6 w13))) (gf rfl (fun w14=>(A5i (A6 w14) (A6 w14) rfl)) (sd rfl (A8s rfl rfl (fun hc=>A6 (A1h hc))) (sv rfl (gf rfl (fun w15=>(B9 rfl G_hit rfl rfl)) (gf rfl (fun _=>rfl) (bs h fun v4 hv4 h=>gf rfl (fun w17=>(K6 (A6 w17) rfl (G9 w17 hv4) rfl)) (gf rfl (fun w18=>(I4 (A6 w18) (G9 w18 hv4) rfl)) (bs h fun v5 hv5 h=> ?_)))))))))))))))))))))))))))))))
 refine V3 _ (.list (List.map A2 v5)) (A39 rfl) (fun w19=>⟨_,[(.d (.agg (A12 p1))),(di v4)],_,_,(by simp only [A6 w19];rfl),rfl,A3,A4o _ _ _ (G9 w19 hv5),(.inl rfl)⟩) ?_
 refine gf rfl (fun w20=>(I8 (A6 w20))) (gf rfl (vb rfl rfl rfl) (sd rfl (A8s rfl rfl (fun hc=>A6 (A1h hc))) (A1 (cc rfl h (fun c2 h=> ?_) (fun c2 h=> ?_)))))
 refine A5 (A7 (s0:=⟨T [],G []⟩) (sbr rfl rfl) ?_)
 refine C3 fun u6 hu6=>sv rfl (A1 (C1 ?_))
 cases h
 exact A8 (.inr rfl) (D0 (C2 rfl) M3) (.refl _)
 refine B4 (A5 (A7 (s0:=⟨T [(1,(.d _)),(2,(.ptr _ _))],G [((2,u1),some (.box 28 _))]⟩) (sbr rfl rfl) ?_))
 refine C3 fun u7 hu7=>sv rfl (bs h fun v6 hv6 h=>sd rfl (K6 rfl rfl hv6 rfl) (sd rfl (I4 rfl hv6 rfl) (sv rfl (A1 (A5 (lr (fun u8 hu8=>sv rfl (bs h fun v7 hv7 h=>sd rfl (C4n rfl (fun _=>rfl) (C97 rfl) B93 hv7) (sd rfl (I8 rfl) (sv rfl (A1 (js h fun z1 hz1 h=>F8 (fun s=> ∃(y1:Unit) (g1:Unit),z1= .inl y1∧Sb ⟨T [],G []⟩ s) ?_ ?_))))))))))))
 refine A4 (G5 (V4 p1 v7) (fun (x1:(Int×Int)) (g2:Unit)=>⟨T [(2,(.ptr (2,u1) 0)),(6,(di x1.1)),(50,(dl A2 v7)),(51,(di (v7.length:Int))),(52,(di x1.2))],G [((2,u1),some (.box 28 (A05 p1)))]⟩) (v6,0) () _ hz1 (sbr rfl rfl) ?_)
 intro x1 g2 z2 hz2 ez2
 unfold V4 at hz2
 refine lr (fun u9 hu9=>sv rfl (A1 (A5 (cc rfl hz2 (fun c3 hz2=> ?_) (fun c3 hz2=> ?_)))))
 refine B4 (A5 (A4 (lr (fun u10 hu10=>bs hz2 fun v8 hv8 hz2=>sd rfl (K6 rfl rfl hv8 rfl) (sd rfl (I4 rfl hv8 rfl) (sv rfl (A1 (A5 (lr (fun u11 hu11=>sp rfl rfl (sl rfl G_hit rfl (sv rfl (bs hz2 fun v9 hv9 hz2=>sd rfl (K6 rfl rfl hv9 rfl) (sv rfl (sd rfl (I4 rfl hv9 rfl) (sv rfl (bs hz2 fun v10 hv10 hz2=>B7 rfl rfl A3 (N1 _ _ _ hv10) (.inl rfl) (D3 (.d (bo (!v10))) rfl rfl (A1 (cc rfl hz2 (fun c4 hz2=> ?_) (fun c4 hz2=> ?_)))))))))))))))))))))
 refine lr (fun u12 hu12=>sv rfl (A1 (C1 ?_)))
 cases hz2
 obtain rfl:=ez2 _ rfl
 refine ⟨nofun,F2 ?_⟩
 rw [Sum.elim_inr]at h
 cases h
 exact A8 (.inr rfl) (D0 (C2 rfl) M3) (.refl _)
 refine B4 (C3 fun u13 hu13=>sv rfl (sv rfl (A1 (I3 (C3 fun u14 hu14=>sv rfl (sv rfl (A1 (L6 ?_))))))))
 cases hz2
 exact ⟨rfl,(),(sbr rfl rfl)⟩
 refine E3 rfl ?_
 cases hz2
 obtain rfl:=ez2 _ rfl
 refine ⟨nofun,D7 rfl (l_j ?_)⟩
 exact ⟨_,(),rfl,(sbr rfl rfl)⟩
 rintro _ ⟨y1,g1,rfl,q1⟩
 rw [Sum.elim_inl]at h
 refine A7 q1 (lr (fun u15 hu15=>sv rfl (A1 (C1 ?_))))
 cases h
 exact A8 (.inr rfl) (D0 (C2 rfl) M3) (.refl _)
noncomputable def A0j (p1:Map)(p2:(List Int))(x1:(Int×RoadsWay)):Option (Stp (Int×RoadsWay) RoadsWay):=
  cond (decide (x1.1< (p2.length:Int))) ((F1 p2 x1.1).bind fun v2=>(A9u x1.2.starts [x1.2.length]).bind fun v3=>(U9 p1 v2).bind fun v4=>some (.go ((w64 (x1.1+1)),(RoadsWay.mk x1.2.Map_ x1.2.lanes v3 (w64 (x1.2.length+v4)))))) (some (.out x1.2))
noncomputable def A3j (p1:Map)(p2:(List Int)):Option RoadsWay:=
  (A01 p1 p2).bind fun v1=>cond (v1 !=0) (some (RoadsWay.mk (Map.mk 0 [] [] [] []) [] [] 0)) ((loop (A0j p1 p2) (0,(RoadsWay.mk p1 p2 [] 0))).bind fun y1=>some y1)
theorem B37 (p1:Map)(p2:(List Int))(r:RoadsWay)(h:A3j p1 p2=some r):PCall Try.prog 52 [(.agg (A12 p1)),(.list (List.map A2 p2))] (.agg (C2k r)):=by
 refine E1 (fk Try.func52 Try.ntmps52 (fun r=>if r==7 then [1004]else []) (by with_unfolding_all rfl)) (nl rfl) ?_
 unfold A3j at h
 refine A7 (s0:=⟨T [(0,(.d _)),(1,(.d _))],G []⟩) (sbr rfl rfl) ?_
 refine lr (fun u1 hu1=>sn rfl rfl (sn rfl rfl (A1 (A5 (lr (fun u2 hu2=>sd rfl (B9 rfl (gq rfl) rfl rfl) (sv rfl (bs h fun v1 hv1 h=>B7 rfl rfl A3 (A9c _ _ _ hv1) (.inl rfl) (sv rfl (A1 (cc rfl h (fun c1 h=> ?_) (fun c1 h=> ?_))))))))))))
 refine lr (fun u3 hu3=>sv rfl (sst rfl G_hit [(di 0),(.d .nilS),(.d .nilS),(.d .nilS),(.d .nilS),(.d .nilS),(.d .nilS),(di 0)] rfl (A1 (C1 ?_))))
 cases h
 exact A8 (.inr rfl) (D0 (Z9 rfl G_hit (nl rfl) rfl) M3) (.agg (ca rfl (.cons ⟨DLe.nil,rfl⟩ (.cons ⟨DLe.nil,rfl⟩ (.cons ⟨DLe.nil,rfl⟩ (.cons ⟨DLe.nil,rfl⟩ (.cons ⟨DLe.nil,rfl⟩ (.cons ⟨DLe.nil,rfl⟩ (cz rfl)))))))))
 refine B4 (lr (fun u4 hu4=>sd rfl (B9 rfl (gq rfl) rfl rfl) (sv rfl (sv rfl (sn rfl rfl (sst rfl G_hit ((A05 p1)++ [(dl A2 p2),(.d .nilS),(di 0)]) rfl (A1 (A5 (lr (fun u5 hu5=>sv rfl (sd rfl (I8 rfl) (sv rfl (A1 (bs h fun y1 hy1 h=>F8 (fun s=> ∃g1:Nat,Sb ⟨T [(4,(.ptr (4,u1) 0)),(5,(.ptr (5,u4) 0))],G [((4,u1),some (.box 92 [(di 0),(.d .nilS),(.d .nilS),(.d .nilS),(.d .nilS),(.d .nilS),(.d .nilS),(di 0)])),((5,u4),some (.box 92 ((A2b y1).set 6 (oS y1.starts (27,g1))))),((27,g1),oB 2 1 A2 y1.starts)]⟩ s) ?_ ?_))))))))))))))
 refine A4 (G5 (A0j p1 p2) (fun (x1:(Int×RoadsWay)) (g2:Nat)=>⟨T [(2,(.ptr (2,u1) 0)),(4,(.ptr (4,u1) 0)),(5,(.ptr (5,u4) 0)),(16,(dl A2 p2)),(17,(di (p2.length:Int))),(18,(di x1.1))],G [((2,u1),some (.box 28 (A05 p1))),((4,u1),some (.box 92 [(di 0),(.d .nilS),(.d .nilS),(.d .nilS),(.d .nilS),(.d .nilS),(.d .nilS),(di 0)])),((5,u4),some (.box 92 ((A2b x1.2).set 6 (oS x1.2.starts (27,g2))))),((27,g2),oB 2 1 A2 x1.2.starts)]⟩) (0,(RoadsWay.mk p1 p2 [] 0)) 0 _ hy1 (F7 ⟨.of rfl, .of rfl, .of rfl, .of rfl, .of rfl, .of rfl,trivial⟩ (sg rfl (sg rfl (B3 G_hit (.of rfl) (V2 trivial))))) ?_)
 intro x1 g2 z1 hz1 ez1
 unfold A0j at hz1
 refine lr (fun u6 hu6=>sv rfl (A1 (A5 (cc rfl hz1 (fun c2 hz1=> ?_) (fun c2 hz1=> ?_)))))
 refine B4 (A5 (A4 (lr (fun u7 hu7=>bs hz1 fun v2 hv2 hz1=>sd rfl (K6 rfl rfl hv2 rfl) (sd rfl (I4 rfl hv2 rfl) (sv rfl (A1 (lr (fun u8 hu8=>sp rfl rfl (D3 (oS x1.2.starts (27,g2)) rfl (A9w rfl (gq rfl) rfl) (sp rfl rfl (sl rfl (gq rfl) rfl (D3 (dl A2 [x1.2.length]) rfl rfl (bs hz1 fun v3 hv3 hz1=>A00 A2 (27,g2) x1.2.starts x1.2.length [] _ (W6 (fun _=>rfl)) rfl (gq rfl) hv3 (sp rfl rfl (sst rfl (gq rfl) ((A2b x1.2).set 6 (.sl (27,u8))) rfl (A1 (A7 (s0:=⟨T [(2,(.ptr _ _)),(4,(.ptr _ _)),(5,(.ptr _ _)),(7,(.d _)),(16,(.d _)),(17,(.d _)),(18,(.d _))],G [((2,u1),some (.box 28 _)),((4,u1),some (.box 92 _)),((5,u4),some (.box 92 _)),((27,u8),some _)]⟩) (sbr rfl rfl) ?_))))))))))))))))))
 refine A21 rfl fun u9 hu9=>sp rfl rfl (sl rfl (gq rfl) rfl (sd rfl (B9 rfl G_hit rfl rfl) (sv rfl (bs hz1 fun v4 hv4 hz1=>B7 rfl rfl A3 (A15 _ _ _ hv4) (.inl rfl) (sv rfl (sp rfl rfl (sst rfl (gq rfl) (((A2b x1.2).set 6 (.sl (27,u8))).set 7 (di (w64 (x1.2.length+v4)))) rfl (A1 (I3 (C3 fun u10 hu10=>sv rfl (sv rfl (A1 (L6 ?_)))))))))))))
 cases hz1
 exact ⟨rfl,u8,(F7 ⟨.of rfl, .of rfl, .of rfl, .of rfl, .of rfl, .of rfl,trivial⟩ (sg rfl (sg rfl (B3 G_hit (.box (cv (cv (cv (cv (cv (cv (.cons (.of (A2a (A3u hv3)).symm) cw)))))))) (Q6 (gq rfl) trivial)))))⟩
 refine E3 rfl ?_
 cases hz1
 obtain rfl:=ez1 _ rfl
 refine ⟨nofun,D7 rfl (l_j ?_)⟩
 exact ⟨g2,(F7 ⟨.of rfl, .of rfl,trivial⟩ (sg rfl (sg rfl (F9 (gq rfl) trivial))))⟩
 rintro _ ⟨g1,q1⟩
 refine A7 q1 (lr (fun u11 hu11=>D3 (A3t ((A2b y1).set 6 (oS y1.starts (27,g1)))) rfl (B9 rfl (gq rfl) rfl rfl) (A99 _ _ _ _ _ (A3f _) rfl rfl G_hit (nl rfl) ((A2b y1).set 6 (oS y1.starts (27,g1))) rfl (A1 (C1 ?_)))))
 cases h
 exact A8 (.inr rfl) (D0 (Z9 rfl G_hit (nl rfl) rfl) (A9v (rD (rD (rD (rD (rD (rD (M5 (A76 (gq rfl)) (rD M4)))))))))) (.agg (ca rfl (ca rfl (ca rfl (ca rfl (ca rfl (ca rfl (.cons ⟨A75,rfl⟩ (cz rfl)))))))))
noncomputable def A1k (p3:Int)(v1:RoadsWay)(x1:Int):Option (Stp Int Int):=
  (F1 v1.starts x1).bind fun v3=>cond (decide (v3>p3)) (some (.go (w64 (x1 - 1)))) (some (.out x1))
noncomputable def A4p (p1:Map)(p2:(List Int))(p3:Int):Option (Int×Int×Bool):=
  (A3j p1 p2).bind fun v1=>((cond (!((v1.lanes.length:Int)==0)) (L9 p3 0 v1.length) (some default))).bind fun v2=>cond (((v1.lanes.length:Int)==0)||(!v2)) (some (0,0,false)) ((loop (A1k p3 v1) (w64 ((v1.lanes.length:Int) - 1))).bind fun y1=>(F1 v1.lanes y1).bind fun v4=>(F1 v1.starts y1).bind fun v5=>some (v4,(w64 (p3 - v5)),true))
theorem B3v (p1:Map)(p2:(List Int))(p3:Int)(r:(Int×Int×Bool))(h:A4p p1 p2 p3=some r):PCall Try.prog 34 [(.agg (A12 p1)),(.list (List.map A2 p2)),(i64 p3)] (.tup [(i64 r.1),(i64 r.2.1),(bo r.2.2)]):=by
 refine E1 (fk Try.func34 Try.ntmps34 m0 (by with_unfolding_all rfl)) (nl rfl) ?_
 unfold A4p at h
 refine A7 (s0:=⟨T [(0,(.d _)),(1,(.d _)),(2,(.d _))],G []⟩) (sbr rfl rfl) ?_
 refine lr (fun u1 hu1=>sn rfl rfl (sv rfl (sv rfl (sv rfl (A1 (lr (fun u2 hu2=>sd rfl (B9 rfl G_hit rfl rfl) (sv rfl (bs h fun v1 hv1 h=>B7 rfl rfl A3 (B37 _ _ _ hv1) (.inl rfl) (sn rfl rfl (sst rfl G_hit (A2b v1) rfl (A1 (A5 (lr (fun u3 hu3=>sp rfl rfl (sl rfl G_hit rfl (sd rfl (I8 rfl) (sv rfl (sv rfl (gf rfl (fun _=>rfl) (gp rfl (A39 rfl) (fun _=>rfl) (gf rfl (vl rfl G_hit rfl) (bs h fun v2 hv2 h=> ?_)))))))))))))))))))))))
 refine V3 _ (bo v2) (A39 rfl) (fun w4=>⟨_,[(di p3),(di 0),(di v1.length)],_,_,(by simp only [A6 w4];rfl),rfl,A3,N8 _ _ _ _ (G9 w4 hv2),(.inl rfl)⟩) ?_
 refine A1i _ (.d (bo (!v2))) rfl (A39 rfl) (fun w5=>(by simp only [A6 w5];rfl)) ?_
 refine sd rfl (A8s rfl rfl (fun hc=>A6 (A1h hc))) (A1 (cc rfl h (fun c1 h=> ?_) (fun c1 h=> ?_)))
 refine A5 (A7 (s0:=⟨T [],G []⟩) (sbr rfl rfl) ?_)
 refine C3 fun u4 hu4=>sv rfl (sv rfl (sv rfl (A1 (C1 ?_))))
 cases h
 exact A8 (.inr rfl) (C4j (C2 rfl) (C2 rfl) (C2 rfl) M3 M3 M3) (.refl _)
 refine B4 (A5 (A7 (s0:=⟨T [(2,(.d _)),(9,(.ptr _ _))],G [((9,u2),some (.box 92 _))]⟩) (sbr rfl rfl) ?_))
 refine C3 fun u5 hu5=>sp rfl rfl (sl rfl G_hit rfl (sd rfl (I8 rfl) (sv rfl (sv rfl (A1 (A5 (bs h fun y1 hy1 h=>F8 (fun s=> ∃g1:Unit,Sb ⟨T [(2,(di p3)),(9,(.ptr (9,u2) 0)),(10,(di y1))],G [((9,u2),some (.box 92 (A2b v1)))]⟩ s) ?_ ?_)))))))
 refine A4 (G5 (A1k p3 v1) (fun (x1:Int) (g2:Unit)=>⟨T [(2,(di p3)),(9,(.ptr (9,u2) 0)),(10,(di x1))],G [((9,u2),some (.box 92 (A2b v1)))]⟩) (w64 ((v1.lanes.length:Int) - 1)) () _ hy1 (sbr rfl rfl) ?_)
 intro x1 g2 z1 hz1 ez1
 unfold A1k at hz1
 refine A5 (lr (fun u6 hu6=>sp rfl rfl (sl rfl G_hit rfl (sv rfl (bs hz1 fun v3 hv3 hz1=>sd rfl (K6 rfl rfl hv3 rfl) (sd rfl (I4 rfl hv3 rfl) (sv rfl (sv rfl (A1 (cc rfl hz1 (fun c2 hz1=> ?_) (fun c2 hz1=> ?_)))))))))))
 refine B4 (A4 (C3 fun u7 hu7=>sv rfl (sv rfl (sv rfl (A1 (I3 (L6 ?_)))))))
 cases hz1
 exact ⟨rfl,(),(sbr rfl rfl)⟩
 refine E3 rfl ?_
 cases hz1
 obtain rfl:=ez1 _ rfl
 refine ⟨nofun,D7 rfl (l_j ?_)⟩
 exact ⟨(),(sbr rfl rfl)⟩
 rintro _ ⟨g1,q1⟩
 refine A7 q1 (A5 (A21 rfl fun u8 hu8=>sp rfl rfl (sl rfl G_hit rfl (sv rfl (bs h fun v4 hv4 h=>sd rfl (K6 rfl rfl hv4 rfl) (sd rfl (I4 rfl hv4 rfl) (sv rfl (sp rfl rfl (sl rfl G_hit rfl (sv rfl (bs h fun v5 hv5 h=>sd rfl (K6 rfl rfl hv5 rfl) (sd rfl (I4 rfl hv5 rfl) (sv rfl (sv rfl (sv rfl (sv rfl (A1 (C1 ?_))))))))))))))))))
 cases h
 exact A8 (.inr rfl) (C4j (C2 rfl) (C2 rfl) (C2 rfl) M3 M3 M3) (.refl _)
noncomputable def A1l (p1:Part)(p2:Int):Option Bool:=
  some (p1.Lane_==p2)
theorem B10 (p1:Part)(p2:Int)(r:Bool)(h:A1l p1 p2=some r):PCall Try.prog 85 [(.agg (M9 p1)),(.bp [(i64 p2)] 0)] (bo r):=by
 refine E1 (fk Try.func85 Try.ntmps85 m0 (by with_unfolding_all rfl)) (nl rfl) ?_
 unfold A1l at h
 refine A7 (s0:=⟨T [(0,(.d _)),(1,(.d _))],G []⟩) (sbr rfl rfl) ?_
 refine lr (fun u1 hu1=>sn rfl rfl (sv rfl (A1 (lr (fun u2 hu2=>sp rfl rfl (sl rfl G_hit rfl (sv rfl (sv rfl (sv rfl (A1 (C1 ?_)))))))))))
 cases h
 exact A8 (.inr rfl) (D0 (C2 rfl) M3) (.refl _)
noncomputable def D9 (p1:(List Part))(p2:Int)(x1:Int):Option (Stp Int (Sum Unit Int)):=
  cond (decide (x1< (p1.length:Int))) ((F1 p1 x1).bind fun v1=>(A1l v1 p2).bind fun v2=>cond v2 (some (.out (.inr x1))) (some (.go (w64 (x1+1))))) (some (.out (.inl ())))
noncomputable def E5 (p1:(List Part))(p2:Int):Option Int:=
  thenS (loop (D9 p1 p2) 0) (fun _=>some (-1)) (fun r=>some r)
theorem Z4 (p1:(List Part))(p2:Int)(r:Int)(h:E5 p1 p2=some r):PCall Try.prog 84 [(.list (List.map M9 p1)),(.fn (.func 85) [] [(.bp [(i64 p2)] 0)])] (i64 r):=by
 refine E1 (fk Try.func84 Try.ntmps84 m0 (by with_unfolding_all rfl)) (nl rfl) ?_
 unfold E5 at h
 refine A7 (s0:=⟨T [(0,(.d _)),(1,(.d _))],G []⟩) (sbr rfl rfl) ?_
 refine lr (fun u1 hu1=>sv rfl (A1 (A5 (lr (fun u2 hu2=>sv rfl (sd rfl (I8 rfl) (sv rfl (A1 (js h fun z1 hz1 h=>F8 (fun s=> ∃(y1:Unit) (g1:Unit),z1= .inl y1∧Sb ⟨T [],G []⟩ s) ?_ ?_)))))))))
 refine A4 (G5 (D9 p1 p2) (fun (x1:Int) (g2:Unit)=>⟨T [(0,(dl M9 p1)),(1,(.d (.fn (.func 85) [] [(.bp [(i64 p2)] 0)]))),(7,(di (p1.length:Int))),(8,(di x1))],G []⟩) 0 () _ hz1 (sbr rfl rfl) ?_)
 intro x1 g2 z2 hz2 ez2
 unfold D9 at hz2
 refine lr (fun u3 hu3=>sv rfl (A1 (A5 (cc rfl hz2 (fun c1 hz2=> ?_) (fun c1 hz2=> ?_)))))
 refine B4 (A5 (A4 (lr (fun u4 hu4=>sv rfl (sv rfl (A1 (lr (fun u5 hu5=>sv rfl (sv rfl (sv rfl (bs hz2 fun v1 hv1 hz2=>sd rfl (K6 rfl rfl hv1 rfl) (sd rfl (G1 rfl hv1 rfl rfl) (bs hz2 fun v2 hv2 hz2=>B7 rfl rfl A3 (B10 _ _ _ hv2) (.inl rfl) (A1 (cc rfl hz2 (fun c2 hz2=> ?_) (fun c2 hz2=> ?_))))))))))))))))
 refine lr (fun u6 hu6=>sv rfl (sv rfl (A1 (C1 ?_))))
 cases hz2
 obtain rfl:=ez2 _ rfl
 refine ⟨nofun,F2 ?_⟩
 rw [Sum.elim_inr]at h
 cases h
 exact A8 (.inr rfl) (D0 (C2 rfl) M3) (.refl _)
 refine B4 (I3 (C3 fun u7 hu7=>sv rfl (sv rfl (A1 (L6 ?_)))))
 cases hz2
 exact ⟨rfl,(),(sbr rfl rfl)⟩
 refine E3 rfl ?_
 cases hz2
 obtain rfl:=ez2 _ rfl
 refine ⟨nofun,D7 rfl (l_j ?_)⟩
 exact ⟨_,(),rfl,(sbr rfl rfl)⟩
 rintro _ ⟨y1,g1,rfl,q1⟩
 rw [Sum.elim_inl]at h
 refine A7 q1 (lr (fun u8 hu8=>sv rfl (A1 (C1 ?_))))
 cases h
 exact A8 (.inr rfl) (D0 (C2 rfl) M3) (.refl _)
noncomputable def A23 (p1:Zone)(p2:Int):Option (Part×Bool):=
  (E5 p1.Parts p2).bind fun v1=>cond (decide (v1<0)) (some ((Part.mk 0 0 0 0),false)) ((F1 p1.Parts v1).bind fun v2=>some (v2,true))
theorem A4b (p1:Zone)(p2:Int)(r:(Part×Bool))(h:A23 p1 p2=some r):PCall Try.prog 55 [(.agg [(.list (List.map M9 p1.Parts)),(i64 p1.Signal_)]),(i64 p2)] (.tup [(.agg (M9 r.1)),(bo r.2)]):=by
 refine E1 (fk Try.func55 Try.ntmps55 m0 (by with_unfolding_all rfl)) (nl rfl) ?_
 unfold A23 at h
 refine A7 (s0:=⟨T [(0,(.d _)),(1,(.d _))],G []⟩) (sbr rfl rfl) ?_
 refine lr (fun u1 hu1=>sn rfl rfl (sn rfl rfl (sn rfl rfl (sv rfl (A1 (lr (fun u2 hu2=>sp rfl rfl (sl rfl (gq rfl) rfl (D3 (.fn _ _ _) rfl rfl (bs h fun v1 hv1 h=>B7 rfl (rD (M5 (C0i M4 (M5 (A8r (gq rfl) (rD M4)) M4)) M4)) A3 (Z4 _ _ _ hv1) (.inr rfl) (sv rfl (A1 (A5 (lr (fun u3 hu3=>sv rfl (sv rfl (A1 (cc rfl h (fun c1 h=> ?_) (fun c1 h=> ?_)))))))))))))))))))
 refine lr (fun u4 hu4=>sv rfl (sst rfl G_hit (zs 4) rfl (sv rfl (A1 (C1 ?_)))))
 cases h
 exact A8 (.inr rfl) (C6p (Z9 rfl G_hit (nl rfl) rfl) (C2 rfl) M3 M3) (.refl _)
 refine B4 (lr (fun u5 hu5=>sp rfl rfl (sl rfl (gq rfl) rfl (sv rfl (bs h fun v2 hv2 h=>sd rfl (K6 rfl rfl hv2 rfl) (sd rfl (G1 rfl hv2 rfl rfl) (sst rfl G_hit (A8c v2) rfl (sv rfl (A1 (C1 ?_))))))))))
 cases h
 exact A8 (.inr rfl) (C6p (Z9 rfl G_hit (nl rfl) rfl) (C2 rfl) M3 M3) (.refl _)
noncomputable def A0k (p1:Map)(p2:Zone)(v2:(List Int))(x1:Int):Option (Stp Int (Sum Unit Bool)):=
  cond (decide (x1< (v2.length:Int))) ((F1 v2 x1).bind fun v3=>(A23 p2 v3).bind fun v4=>((cond (!(!v4.2)) (U9 p1 v3) (some default))).bind fun v5=>cond ((!v4.2)||(v4.1.To !=v5)) (some (.out (.inr false))) (some (.go (w64 (x1+1))))) (some (.out (.inl ())))
noncomputable def A24 (p1:Map)(p2:Zone)(p3:Int):Option Bool:=
  (A23 p2 p3).bind fun v1=>cond ((!v1.2)||(v1.1.From !=0)) (some false) ((A0i p1 p3).bind fun v2=>thenS (loop (A0k p1 p2 v2) 0) (fun _=>some true) (fun r=>some r))
theorem A7p (p1:Map)(p2:Zone)(p3:Int)(r:Bool)(h:A24 p1 p2 p3=some r):PCall Try.prog 110 [(.agg (A12 p1)),(.agg [(.list (List.map M9 p2.Parts)),(i64 p2.Signal_)]),(i64 p3)] (bo r):=by
 refine E1 (fk Try.func110 Try.ntmps110 m0 (by with_unfolding_all rfl)) (nl rfl) ?_
 unfold A24 at h
 refine A7 (s0:=⟨T [(0,(.d _)),(1,(.d _)),(2,(.d _))],G []⟩) (sbr rfl rfl) ?_
 refine lr (fun u1 hu1=>sn rfl rfl (sn rfl rfl (sv rfl (A1 (lr (fun u2 hu2=>sd rfl (B9 rfl G_hit rfl rfl) (sv rfl (bs h fun v1 hv1 h=>B7 rfl rfl A3 (A4b _ _ _ hv1) (.inl rfl) (sv rfl (sv rfl (sv rfl (sn rfl rfl (sst rfl G_hit (A8c v1.1) rfl (sv rfl (A1 (A5 (lr (fun u3 hu3=>sv rfl (D3 (.d (bo (!v1.2))) rfl rfl (sv rfl (gp rfl (A39 rfl) (fun _=>rfl) (gf rfl (vl rfl G_hit rfl) (gf rfl (vb rfl rfl rfl) (sd rfl (A8s rfl rfl (fun hc=>A6 (A1h hc))) (A1 (cc rfl h (fun c1 h=> ?_) (fun c1 h=> ?_)))))))))))))))))))))))))))
 refine A5 (A7 (s0:=⟨T [],G []⟩) (sbr rfl rfl) ?_)
 refine C3 fun u4 hu4=>sv rfl (A1 (C1 ?_))
 cases h
 exact A8 (.inr rfl) (D0 (C2 rfl) M3) (.refl _)
 refine B4 (A5 (A5 (A7 (s0:=⟨T [(2,(.d _)),(3,(.ptr _ _)),(4,(.ptr _ _))],G [((3,u1),some (.box 28 _)),((4,u1),some (.box 69 _))]⟩) (sbr rfl rfl) ?_)))
 refine C3 fun u5 hu5=>sd rfl (B9 rfl G_hit rfl rfl) (sv rfl (bs h fun v2 hv2 h=>B7 rfl rfl A3 (A4o _ _ _ hv2) (.inl rfl) (sd rfl (I8 rfl) (sv rfl (A1 (js h fun z1 hz1 h=>F8 (fun s=> ∃(y1:Unit) (g1:Unit),z1= .inl y1∧Sb ⟨T [],G []⟩ s) ?_ ?_))))))
 refine A4 (G5 (A0k p1 p2 v2) (fun (x1:Int) (g2:Unit)=>⟨T [(3,(.ptr (3,u1) 0)),(4,(.ptr (4,u1) 0)),(28,(dl A2 v2)),(29,(di (v2.length:Int))),(30,(di x1))],G [((3,u1),some (.box 28 (A05 p1))),((4,u1),some (.box 69 [(dl M9 p2.Parts),(di p2.Signal_)]))]⟩) 0 () _ hz1 (sbr rfl rfl) ?_)
 intro x1 g2 z2 hz2 ez2
 unfold A0k at hz2
 refine lr (fun u6 hu6=>sv rfl (A1 (A5 (cc rfl hz2 (fun c2 hz2=> ?_) (fun c2 hz2=> ?_)))))
 refine B4 (A5 (A4 (lr (fun u7 hu7=>bs hz2 fun v3 hv3 hz2=>sd rfl (K6 rfl rfl hv3 rfl) (sd rfl (I4 rfl hv3 rfl) (sv rfl (A1 (lr (fun u8 hu8=>sd rfl (B9 rfl (gq rfl) rfl rfl) (sv rfl (bs hz2 fun v4 hv4 hz2=>B7 rfl rfl A3 (A4b _ _ _ hv4) (.inl rfl) (sv rfl (sv rfl (sv rfl (sn rfl rfl (sst rfl G_hit (A8c v4.1) rfl (sv rfl (A1 (A5 (A21 rfl fun u9 hu9=>sv rfl (D3 (.d (bo (!v4.2))) rfl rfl (sv rfl (gp rfl (A39 rfl) (fun _=>rfl) (gf rfl (vl rfl G_hit rfl) (gf rfl (fun w6=>(B9 rfl (gq rfl) rfl rfl)) (gf rfl (fun _=>rfl) (bs hz2 fun v5 hv5 hz2=> ?_)))))))))))))))))))))))))))
 refine V3 _ (i64 v5) (A39 rfl) (fun w8=>⟨_,[(.d (.agg (A12 p1))),(di v3)],_,_,(by simp only [A6 w8];rfl),rfl,A3,A15 _ _ _ (G9 w8 hv5),(.inl rfl)⟩) ?_
 refine gf rfl (fun w9=>(A5i (A6 w9) (A6 w9) rfl)) (sd rfl (A8s rfl rfl (fun hc=>A6 (A1h hc))) (A1 (cc rfl hz2 (fun c3 hz2=> ?_) (fun c3 hz2=> ?_))))
 refine A5 (A7 (s0:=⟨T [],G []⟩) (sbr rfl rfl) ?_)
 refine C3 fun u10 hu10=>sv rfl (A1 (C1 ?_))
 cases hz2
 obtain rfl:=ez2 _ rfl
 refine ⟨nofun,F2 ?_⟩
 rw [Sum.elim_inr]at h
 cases h
 exact A8 (.inr rfl) (D0 (C2 rfl) M3) (.refl _)
 refine B4 (I3 (A7 (s0:=⟨T [(3,(.ptr _ _)),(4,(.ptr _ _)),(28,(.d _)),(29,(.d _)),(30,(.d _))],G [((3,u1),some (.box 28 _)),((4,u1),some (.box 69 _))]⟩) (sbr rfl rfl) ?_))
 refine C3 fun u11 hu11=>sv rfl (sv rfl (A1 (L6 ?_)))
 cases hz2
 exact ⟨rfl,(),(sbr rfl rfl)⟩
 refine E3 rfl ?_
 cases hz2
 obtain rfl:=ez2 _ rfl
 refine ⟨nofun,D7 rfl (l_j ?_)⟩
 exact ⟨_,(),rfl,(sbr rfl rfl)⟩
 rintro _ ⟨y1,g1,rfl,q1⟩
 rw [Sum.elim_inl]at h
 refine A7 q1 (lr (fun u12 hu12=>sv rfl (A1 (C1 ?_))))
 cases h
 exact A8 (.inr rfl) (D0 (C2 rfl) M3) (.refl _)
noncomputable def A1m (x1:(Int× (Int×Int×Int×Int×Int×Int×Int×Int×Int×Int×Int×Int)))(v1:Lane)(x2:(Int× (Int×Int×Int×Int×Int×Int×Int×Int×Int×Int×Int×Int))):Option (Stp (Int× (Int×Int×Int×Int×Int×Int×Int×Int×Int×Int×Int×Int)) (Int×Int×Int×Int×Int×Int×Int×Int×Int×Int×Int×Int)):=
  cond (decide (x2.1< (v1.Next.length:Int))) ((F1 v1.Next x2.1).bind fun v2=>(F1 ([x2.2.1,x2.2.2.1,x2.2.2.2.1,x2.2.2.2.2.1,x2.2.2.2.2.2.1,x2.2.2.2.2.2.2.1,x2.2.2.2.2.2.2.2.1,x2.2.2.2.2.2.2.2.2.1,x2.2.2.2.2.2.2.2.2.2.1,x2.2.2.2.2.2.2.2.2.2.2.1,x2.2.2.2.2.2.2.2.2.2.2.2.1,x2.2.2.2.2.2.2.2.2.2.2.2.2]:List Int) x1.1).bind fun v3=>(F1 ([x2.2.1,x2.2.2.1,x2.2.2.2.1,x2.2.2.2.2.1,x2.2.2.2.2.2.1,x2.2.2.2.2.2.2.1,x2.2.2.2.2.2.2.2.1,x2.2.2.2.2.2.2.2.2.1,x2.2.2.2.2.2.2.2.2.2.1,x2.2.2.2.2.2.2.2.2.2.2.1,x2.2.2.2.2.2.2.2.2.2.2.2.1,x2.2.2.2.2.2.2.2.2.2.2.2.2]:List Int) v2).bind fun v4=>(C99 .u32 1 (IntKind.wrap .u64 v2)).bind fun v5=>(F1 ([x2.2.1,x2.2.2.1,x2.2.2.2.1,x2.2.2.2.2.1,x2.2.2.2.2.2.1,x2.2.2.2.2.2.2.1,x2.2.2.2.2.2.2.2.1,x2.2.2.2.2.2.2.2.2.1,x2.2.2.2.2.2.2.2.2.2.1,x2.2.2.2.2.2.2.2.2.2.2.1,x2.2.2.2.2.2.2.2.2.2.2.2.1,x2.2.2.2.2.2.2.2.2.2.2.2.2]:List Int) x1.1).bind fun v6=>(C7j ([x2.2.1,x2.2.2.1,x2.2.2.2.1,x2.2.2.2.2.1,x2.2.2.2.2.2.1,x2.2.2.2.2.2.2.1,x2.2.2.2.2.2.2.2.1,x2.2.2.2.2.2.2.2.2.1,x2.2.2.2.2.2.2.2.2.2.1,x2.2.2.2.2.2.2.2.2.2.2.1,x2.2.2.2.2.2.2.2.2.2.2.2.1,x2.2.2.2.2.2.2.2.2.2.2.2.2]:List Int) x1.1 (IntKind.wrap .u32 (((BitVec.ofInt (IntKind.bits .u32) v3|||(BitVec.ofInt (IntKind.bits .u32) (IntKind.wrap .u32 (((BitVec.ofInt (IntKind.bits .u32) v4|||(BitVec.ofInt (IntKind.bits .u32) v5)).toNat:Nat))))).toNat:Nat)))).bind fun v7=>some (.go ((w64 (x2.1+1)),((v7.getD 0 0),(v7.getD 1 0),(v7.getD 2 0),(v7.getD 3 0),(v7.getD 4 0),(v7.getD 5 0),(v7.getD 6 0),(v7.getD 7 0),(v7.getD 8 0),(v7.getD 9 0),(v7.getD 10 0),(v7.getD 11 0))))) (some (.out x2.2))
noncomputable def A1n (p1:Map)(x1:(Int× (Int×Int×Int×Int×Int×Int×Int×Int×Int×Int×Int×Int))):Option (Stp (Int× (Int×Int×Int×Int×Int×Int×Int×Int×Int×Int×Int×Int)) (Int×Int×Int×Int×Int×Int×Int×Int×Int×Int×Int×Int)):=
  cond (decide (x1.1≥0)) ((F1 p1.Lanes x1.1).bind fun v1=>(loop (A1m x1 v1) (0,x1.2)).bind fun y2=>some (.go ((w64 (x1.1 - 1)),y2))) (some (.out x1.2))
noncomputable def A4q (p1:Map):Option (Int×Int×Int×Int×Int×Int×Int×Int×Int×Int×Int×Int):=
  (loop (A1n p1) ((w64 ((p1.Lanes.length:Int) - 1)),(0,0,0,0,0,0,0,0,0,0,0,0))).bind fun y1=>some y1
theorem B3w (p1:Map)(r:(Int×Int×Int×Int×Int×Int×Int×Int×Int×Int×Int×Int))(h:A4q p1=some r):PCall Try.prog 57 [(.agg (A12 p1))] (.agg [(.v (.int .u32 r.1)),(.v (.int .u32 r.2.1)),(.v (.int .u32 r.2.2.1)),(.v (.int .u32 r.2.2.2.1)),(.v (.int .u32 r.2.2.2.2.1)),(.v (.int .u32 r.2.2.2.2.2.1)),(.v (.int .u32 r.2.2.2.2.2.2.1)),(.v (.int .u32 r.2.2.2.2.2.2.2.1)),(.v (.int .u32 r.2.2.2.2.2.2.2.2.1)),(.v (.int .u32 r.2.2.2.2.2.2.2.2.2.1)),(.v (.int .u32 r.2.2.2.2.2.2.2.2.2.2.1)),(.v (.int .u32 r.2.2.2.2.2.2.2.2.2.2.2))]):=by
 refine E1 (fk Try.func57 Try.ntmps57 m0 (by with_unfolding_all rfl)) (nl rfl) ?_
 unfold A4q at h
 refine A7 (s0:=⟨T [(0,(.d _))],G []⟩) (sbr rfl rfl) ?_
 refine lr (fun u1 hu1=>sn rfl rfl (sn rfl rfl (A1 (lr (fun u2 hu2=>sn rfl rfl (A1 (A5 (lr (fun u3 hu3=>sp rfl rfl (sl rfl (gq rfl) rfl (sd rfl (I8 rfl) (sv rfl (sv rfl (A1 (bs h fun y1 hy1 h=>F8 (fun s=> ∃g1:Unit,Sb ⟨T [(2,(.ptr (2,u1) 0)),(3,(.ptr (3,u2) 0))],G [((2,u1),some (.box 101 [(.d (.v (.int .u32 0))),(.d (.v (.int .u32 0))),(.d (.v (.int .u32 0))),(.d (.v (.int .u32 0))),(.d (.v (.int .u32 0))),(.d (.v (.int .u32 0))),(.d (.v (.int .u32 0))),(.d (.v (.int .u32 0))),(.d (.v (.int .u32 0))),(.d (.v (.int .u32 0))),(.d (.v (.int .u32 0))),(.d (.v (.int .u32 0)))])),((3,u2),some (.box 101 [(.d (.v (.int .u32 y1.1))),(.d (.v (.int .u32 y1.2.1))),(.d (.v (.int .u32 y1.2.2.1))),(.d (.v (.int .u32 y1.2.2.2.1))),(.d (.v (.int .u32 y1.2.2.2.2.1))),(.d (.v (.int .u32 y1.2.2.2.2.2.1))),(.d (.v (.int .u32 y1.2.2.2.2.2.2.1))),(.d (.v (.int .u32 y1.2.2.2.2.2.2.2.1))),(.d (.v (.int .u32 y1.2.2.2.2.2.2.2.2.1))),(.d (.v (.int .u32 y1.2.2.2.2.2.2.2.2.2.1))),(.d (.v (.int .u32 y1.2.2.2.2.2.2.2.2.2.2.1))),(.d (.v (.int .u32 y1.2.2.2.2.2.2.2.2.2.2.2)))]))]⟩ s) ?_ ?_)))))))))))))))
 refine A4 (G5 (A1n p1) (fun (x1:(Int× (Int×Int×Int×Int×Int×Int×Int×Int×Int×Int×Int×Int))) (g2:Unit)=>⟨T [(1,(.ptr (1,u1) 0)),(2,(.ptr (2,u1) 0)),(3,(.ptr (3,u2) 0)),(4,(di x1.1))],G [((1,u1),some (.box 28 (A05 p1))),((2,u1),some (.box 101 [(.d (.v (.int .u32 0))),(.d (.v (.int .u32 0))),(.d (.v (.int .u32 0))),(.d (.v (.int .u32 0))),(.d (.v (.int .u32 0))),(.d (.v (.int .u32 0))),(.d (.v (.int .u32 0))),(.d (.v (.int .u32 0))),(.d (.v (.int .u32 0))),(.d (.v (.int .u32 0))),(.d (.v (.int .u32 0))),(.d (.v (.int .u32 0)))])),((3,u2),some (.box 101 [(.d (.v (.int .u32 x1.2.1))),(.d (.v (.int .u32 x1.2.2.1))),(.d (.v (.int .u32 x1.2.2.2.1))),(.d (.v (.int .u32 x1.2.2.2.2.1))),(.d (.v (.int .u32 x1.2.2.2.2.2.1))),(.d (.v (.int .u32 x1.2.2.2.2.2.2.1))),(.d (.v (.int .u32 x1.2.2.2.2.2.2.2.1))),(.d (.v (.int .u32 x1.2.2.2.2.2.2.2.2.1))),(.d (.v (.int .u32 x1.2.2.2.2.2.2.2.2.2.1))),(.d (.v (.int .u32 x1.2.2.2.2.2.2.2.2.2.2.1))),(.d (.v (.int .u32 x1.2.2.2.2.2.2.2.2.2.2.2.1))),(.d (.v (.int .u32 x1.2.2.2.2.2.2.2.2.2.2.2.2)))]))]⟩) ((w64 ((p1.Lanes.length:Int) - 1)),(0,0,0,0,0,0,0,0,0,0,0,0)) () _ hy1 (sbr rfl rfl) ?_)
 intro x1 g2 z1 hz1 ez1
 unfold A1n at hz1
 refine A5 (lr (fun u4 hu4=>sv rfl (sv rfl (A1 (cc rfl hz1 (fun c1 hz1=> ?_) (fun c1 hz1=> ?_))))))
 refine B4 (A5 (A4 (lr (fun u5 hu5=>sp rfl rfl (sl rfl G_hit rfl (sv rfl (bs hz1 fun v1 hv1 hz1=>sd rfl (K6 rfl rfl hv1 rfl) (sv rfl (sd rfl (I4 rfl hv1 rfl) (sd rfl (I8 rfl) (sv rfl (A1 (bs hz1 fun y2 hy2 hz1=>F8 (fun s=> ∃g3:Unit,Sb ⟨T [(1,(.ptr (1,u1) 0)),(2,(.ptr (2,u1) 0)),(3,(.ptr (3,u2) 0)),(4,(di x1.1))],G [((1,u1),some (.box 28 (A05 p1))),((2,u1),some (.box 101 [(.d (.v (.int .u32 0))),(.d (.v (.int .u32 0))),(.d (.v (.int .u32 0))),(.d (.v (.int .u32 0))),(.d (.v (.int .u32 0))),(.d (.v (.int .u32 0))),(.d (.v (.int .u32 0))),(.d (.v (.int .u32 0))),(.d (.v (.int .u32 0))),(.d (.v (.int .u32 0))),(.d (.v (.int .u32 0))),(.d (.v (.int .u32 0)))])),((3,u2),some (.box 101 [(.d (.v (.int .u32 y2.1))),(.d (.v (.int .u32 y2.2.1))),(.d (.v (.int .u32 y2.2.2.1))),(.d (.v (.int .u32 y2.2.2.2.1))),(.d (.v (.int .u32 y2.2.2.2.2.1))),(.d (.v (.int .u32 y2.2.2.2.2.2.1))),(.d (.v (.int .u32 y2.2.2.2.2.2.2.1))),(.d (.v (.int .u32 y2.2.2.2.2.2.2.2.1))),(.d (.v (.int .u32 y2.2.2.2.2.2.2.2.2.1))),(.d (.v (.int .u32 y2.2.2.2.2.2.2.2.2.2.1))),(.d (.v (.int .u32 y2.2.2.2.2.2.2.2.2.2.2.1))),(.d (.v (.int .u32 y2.2.2.2.2.2.2.2.2.2.2.2)))]))]⟩ s) ?_ ?_)))))))))))))
 refine A4 (G5 (A1m x1 v1) (fun (x2:(Int× (Int×Int×Int×Int×Int×Int×Int×Int×Int×Int×Int×Int))) (g4:Unit)=>⟨T [(1,(.ptr (1,u1) 0)),(2,(.ptr (2,u1) 0)),(3,(.ptr (3,u2) 0)),(4,(di x1.1)),(20,(dl A2 v1.Next)),(21,(di (v1.Next.length:Int))),(22,(di x2.1))],G [((1,u1),some (.box 28 (A05 p1))),((2,u1),some (.box 101 [(.d (.v (.int .u32 0))),(.d (.v (.int .u32 0))),(.d (.v (.int .u32 0))),(.d (.v (.int .u32 0))),(.d (.v (.int .u32 0))),(.d (.v (.int .u32 0))),(.d (.v (.int .u32 0))),(.d (.v (.int .u32 0))),(.d (.v (.int .u32 0))),(.d (.v (.int .u32 0))),(.d (.v (.int .u32 0))),(.d (.v (.int .u32 0)))])),((3,u2),some (.box 101 [(.d (.v (.int .u32 x2.2.1))),(.d (.v (.int .u32 x2.2.2.1))),(.d (.v (.int .u32 x2.2.2.2.1))),(.d (.v (.int .u32 x2.2.2.2.2.1))),(.d (.v (.int .u32 x2.2.2.2.2.2.1))),(.d (.v (.int .u32 x2.2.2.2.2.2.2.1))),(.d (.v (.int .u32 x2.2.2.2.2.2.2.2.1))),(.d (.v (.int .u32 x2.2.2.2.2.2.2.2.2.1))),(.d (.v (.int .u32 x2.2.2.2.2.2.2.2.2.2.1))),(.d (.v (.int .u32 x2.2.2.2.2.2.2.2.2.2.2.1))),(.d (.v (.int .u32 x2.2.2.2.2.2.2.2.2.2.2.2.1))),(.d (.v (.int .u32 x2.2.2.2.2.2.2.2.2.2.2.2.2)))]))]⟩) (0,x1.2) () _ hy2 (sbr rfl rfl) ?_)
 intro x2 g4 z2 hz2 ez2
 unfold A1m at hz2
 refine lr (fun u6 hu6=>sv rfl (A1 (A5 (cc rfl hz2 (fun c2 hz2=> ?_) (fun c2 hz2=> ?_)))))
 refine B4 (A5 (A4 (lr (fun u7 hu7=>bs hz2 fun v2 hv2 hz2=>sd rfl (K6 rfl rfl hv2 rfl) (sd rfl (I4 rfl hv2 rfl) (sv rfl (A1 (A21 rfl fun u8 hu8=>sv rfl (bs hz2 fun v3 hv3 hz2=>sp rfl (B30 rfl rfl hv3 rfl) (sd rfl (B5j (f:=fun x=>(.v (.int .u32 x))) rfl (gq rfl) hv3 rfl) (sv rfl (bs hz2 fun v4 hv4 hz2=>sp rfl (B30 rfl rfl hv4 rfl) (sd rfl (B5j (f:=fun x=>(.v (.int .u32 x))) rfl (gq rfl) hv4 rfl) (sv rfl (sv rfl (bs hz2 fun v5 hv5 hz2=>sd rfl (C9r rfl rfl hv5) (sv rfl (sv rfl (bs hz2 fun v6 hv6 hz2=>sp rfl (B30 rfl rfl hv6 rfl) (bs hz2 fun v7 hv7 hz2=>A99 _ _ _ _ _ rfl rfl rfl (gq rfl) (C9q (xs:=([x2.2.1,x2.2.2.1,x2.2.2.2.1,x2.2.2.2.2.1,x2.2.2.2.2.2.1,x2.2.2.2.2.2.2.1,x2.2.2.2.2.2.2.2.1,x2.2.2.2.2.2.2.2.2.1,x2.2.2.2.2.2.2.2.2.2.1,x2.2.2.2.2.2.2.2.2.2.2.1,x2.2.2.2.2.2.2.2.2.2.2.2.1,x2.2.2.2.2.2.2.2.2.2.2.2.2]:List Int)) hv7 rfl) [(.d (.v (.int .u32 (v7.getD 0 0)))),(.d (.v (.int .u32 (v7.getD 1 0)))),(.d (.v (.int .u32 (v7.getD 2 0)))),(.d (.v (.int .u32 (v7.getD 3 0)))),(.d (.v (.int .u32 (v7.getD 4 0)))),(.d (.v (.int .u32 (v7.getD 5 0)))),(.d (.v (.int .u32 (v7.getD 6 0)))),(.d (.v (.int .u32 (v7.getD 7 0)))),(.d (.v (.int .u32 (v7.getD 8 0)))),(.d (.v (.int .u32 (v7.getD 9 0)))),(.d (.v (.int .u32 (v7.getD 10 0)))),(.d (.v (.int .u32 (v7.getD 11 0))))] (C8p (fun x=>(.v (.int .u32 x))) 0 hv7) (A1 (I3 (A7 (s0:=⟨T [(1,(.ptr _ _)),(2,(.ptr _ _)),(3,(.ptr _ _)),(4,(.d _)),(20,(.d _)),(21,(.d _)),(22,(.d _))],G [((1,u1),some (.box 28 _)),((2,u1),some (.box 101 _)),((3,u2),some (.box 101 _))]⟩) (sbr rfl rfl) ?_)))))))))))))))))))))))
 refine C3 fun u9 hu9=>sv rfl (sv rfl (A1 (L6 ?_)))
 cases hz2
 exact ⟨rfl,(),(sbr rfl rfl)⟩
 refine E3 rfl ?_
 cases hz2
 obtain rfl:=ez2 _ rfl
 refine ⟨nofun,D7 rfl (l_j ?_)⟩
 exact ⟨(),(sbr rfl rfl)⟩
 rintro _ ⟨g3,q1⟩
 refine I3 (A7 q1 (C3 fun u10 hu10=>sv rfl (sv rfl (sv rfl (A1 (L6 ?_))))))
 cases hz1
 exact ⟨rfl,(),(sbr rfl rfl)⟩
 refine E3 rfl ?_
 cases hz1
 obtain rfl:=ez1 _ rfl
 refine ⟨nofun,D7 rfl (l_j ?_)⟩
 exact ⟨(),(sbr rfl rfl)⟩
 rintro _ ⟨g1,q2⟩
 refine A7 q2 (lr (fun u11 hu11=>sd rfl (B9 rfl (gq rfl) rfl rfl) (sst rfl G_hit [(.d (.v (.int .u32 y1.1))),(.d (.v (.int .u32 y1.2.1))),(.d (.v (.int .u32 y1.2.2.1))),(.d (.v (.int .u32 y1.2.2.2.1))),(.d (.v (.int .u32 y1.2.2.2.2.1))),(.d (.v (.int .u32 y1.2.2.2.2.2.1))),(.d (.v (.int .u32 y1.2.2.2.2.2.2.1))),(.d (.v (.int .u32 y1.2.2.2.2.2.2.2.1))),(.d (.v (.int .u32 y1.2.2.2.2.2.2.2.2.1))),(.d (.v (.int .u32 y1.2.2.2.2.2.2.2.2.2.1))),(.d (.v (.int .u32 y1.2.2.2.2.2.2.2.2.2.2.1))),(.d (.v (.int .u32 y1.2.2.2.2.2.2.2.2.2.2.2)))] rfl (A1 (C1 ?_)))))
 cases h
 exact A8 (.inr rfl) (D0 (Z9 rfl G_hit (nl rfl) rfl) M3) (.refl _)
noncomputable def A2d (p1:Int)(p2:Int):Option Bool:=
  (C9a .u32 p1 (IntKind.wrap .u64 p2)).bind fun v1=>some ((IntKind.wrap .u32 (((BitVec.ofInt (IntKind.bits .u32) v1&&&(BitVec.ofInt (IntKind.bits .u32) 1)).toNat:Nat)))==1)
theorem B1p (p1:Int)(p2:Int)(r:Bool)(h:A2d p1 p2=some r):PCall Try.prog 58 [(.v (.int .u32 p1)),(i64 p2)] (bo r):=by
 refine E1 (fk Try.func58 Try.ntmps58 m0 (by with_unfolding_all rfl)) (nl rfl) ?_
 unfold A2d at h
 refine A7 (s0:=⟨T [(0,(.d _)),(1,(.d _))],G []⟩) (sbr rfl rfl) ?_
 refine lr (fun u1 hu1=>sv rfl (A1 (lr (fun u2 hu2=>sv rfl (sv rfl (sv rfl (bs h fun v1 hv1 h=>sd rfl (C9s rfl rfl hv1) (sv rfl (sv rfl (sv rfl (A1 (C1 ?_))))))))))))
 cases h
 exact A8 (.inr rfl) (D0 (C2 rfl) M3) (.refl _)
noncomputable def Y3 (p1:Part)(p2:(Int×Int×Int×Int×Int×Int×Int×Int×Int×Int×Int×Int))(p3:Int):Option Bool:=
  (F1 ([p2.1,p2.2.1,p2.2.2.1,p2.2.2.2.1,p2.2.2.2.2.1,p2.2.2.2.2.2.1,p2.2.2.2.2.2.2.1,p2.2.2.2.2.2.2.2.1,p2.2.2.2.2.2.2.2.2.1,p2.2.2.2.2.2.2.2.2.2.1,p2.2.2.2.2.2.2.2.2.2.2.1,p2.2.2.2.2.2.2.2.2.2.2.2]:List Int) p1.Lane_).bind fun v1=>(A2d v1 p3).bind fun v2=>some v2
theorem A8g (p1:Part)(p2:(Int×Int×Int×Int×Int×Int×Int×Int×Int×Int×Int×Int))(p3:Int)(r:Bool)(h:Y3 p1 p2 p3=some r):MCall Try.prog 118 [(.d (.agg (M9 p1))),(.ptr (900000,0) 0),(.ptr (900001,0) 0)] [(.box 101 [(.d (.v (.int .u32 p2.1))),(.d (.v (.int .u32 p2.2.1))),(.d (.v (.int .u32 p2.2.2.1))),(.d (.v (.int .u32 p2.2.2.2.1))),(.d (.v (.int .u32 p2.2.2.2.2.1))),(.d (.v (.int .u32 p2.2.2.2.2.2.1))),(.d (.v (.int .u32 p2.2.2.2.2.2.2.1))),(.d (.v (.int .u32 p2.2.2.2.2.2.2.2.1))),(.d (.v (.int .u32 p2.2.2.2.2.2.2.2.2.1))),(.d (.v (.int .u32 p2.2.2.2.2.2.2.2.2.2.1))),(.d (.v (.int .u32 p2.2.2.2.2.2.2.2.2.2.2.1))),(.d (.v (.int .u32 p2.2.2.2.2.2.2.2.2.2.2.2)))]),(.box 3 [(di p3)])] (.d (bo r)) [some (.box 101 [(.d (.v (.int .u32 p2.1))),(.d (.v (.int .u32 p2.2.1))),(.d (.v (.int .u32 p2.2.2.1))),(.d (.v (.int .u32 p2.2.2.2.1))),(.d (.v (.int .u32 p2.2.2.2.2.1))),(.d (.v (.int .u32 p2.2.2.2.2.2.1))),(.d (.v (.int .u32 p2.2.2.2.2.2.2.1))),(.d (.v (.int .u32 p2.2.2.2.2.2.2.2.1))),(.d (.v (.int .u32 p2.2.2.2.2.2.2.2.2.1))),(.d (.v (.int .u32 p2.2.2.2.2.2.2.2.2.2.1))),(.d (.v (.int .u32 p2.2.2.2.2.2.2.2.2.2.2.1))),(.d (.v (.int .u32 p2.2.2.2.2.2.2.2.2.2.2.2)))]),some (.box 3 [(di p3)])] []:=by
 refine A9a (fk Try.func118 Try.ntmps118 m0 (by with_unfolding_all rfl)) rfl (nl rfl) ?_
 unfold Y3 at h
 refine A7 (s0:=⟨T [(0,(.d _)),(1,(.ptr _ _)),(2,(.ptr _ _))],G [((900000,0),some (.box 101 _)),((900001,0),some (.box 3 _))]⟩) (sbr rfl rfl) ?_
 refine lr (fun u1 hu1=>sn rfl rfl (sv rfl (A1 (A5 (A21 rfl fun u2 hu2=>sp rfl rfl (sl rfl G_hit rfl (bs h fun v1 hv1 h=>sp rfl (B30 rfl rfl hv1 rfl) (sd rfl (B5j (f:=fun x=>(.v (.int .u32 x))) rfl (gq rfl) hv1 rfl) (sl rfl (gq rfl) rfl (bs h fun v2 hv2 h=>B7 rfl rfl A3 (B1p _ _ _ hv2) (.inl rfl) (sv rfl (A1 (C1 ?_)))))))))))))
 cases h
 exact B1h (.inr rfl) [] (B6q (C2 rfl) M3) (.refl _) ⟨⟨_,_,_,(gq rfl),O3,rfl,A9z,rfl⟩,⟨_,_,_,(gq rfl),O3,rfl,A9z,rfl⟩,trivial⟩
noncomputable def D4 (p1:(List Part))(p2:(Int×Int×Int×Int×Int×Int×Int×Int×Int×Int×Int×Int))(p3:Int)(x1:Int):Option (Stp Int (Sum Unit Int)):=
  cond (decide (x1< (p1.length:Int))) ((F1 p1 x1).bind fun v1=>(Y3 v1 p2 p3).bind fun v2=>cond v2 (some (.out (.inr x1))) (some (.go (w64 (x1+1))))) (some (.out (.inl ())))
noncomputable def E2 (p1:(List Part))(p2:(Int×Int×Int×Int×Int×Int×Int×Int×Int×Int×Int×Int))(p3:Int):Option Int:=
  thenS (loop (D4 p1 p2 p3) 0) (fun _=>some (-1)) (fun r=>some r)
theorem Y4 (p1:(List Part))(p2:(Int×Int×Int×Int×Int×Int×Int×Int×Int×Int×Int×Int))(p3:Int)(r:Int)(h:E2 p1 p2 p3=some r):MCall Try.prog 84 [(dl M9 p1),(.fn (.func 118) [] [(.ptr (900000,0) 0),(.ptr (900001,0) 0)])] [(.box 101 [(.d (.v (.int .u32 p2.1))),(.d (.v (.int .u32 p2.2.1))),(.d (.v (.int .u32 p2.2.2.1))),(.d (.v (.int .u32 p2.2.2.2.1))),(.d (.v (.int .u32 p2.2.2.2.2.1))),(.d (.v (.int .u32 p2.2.2.2.2.2.1))),(.d (.v (.int .u32 p2.2.2.2.2.2.2.1))),(.d (.v (.int .u32 p2.2.2.2.2.2.2.2.1))),(.d (.v (.int .u32 p2.2.2.2.2.2.2.2.2.1))),(.d (.v (.int .u32 p2.2.2.2.2.2.2.2.2.2.1))),(.d (.v (.int .u32 p2.2.2.2.2.2.2.2.2.2.2.1))),(.d (.v (.int .u32 p2.2.2.2.2.2.2.2.2.2.2.2)))]),(.box 3 [(di p3)])] (di r) [some (.box 101 [(.d (.v (.int .u32 p2.1))),(.d (.v (.int .u32 p2.2.1))),(.d (.v (.int .u32 p2.2.2.1))),(.d (.v (.int .u32 p2.2.2.2.1))),(.d (.v (.int .u32 p2.2.2.2.2.1))),(.d (.v (.int .u32 p2.2.2.2.2.2.1))),(.d (.v (.int .u32 p2.2.2.2.2.2.2.1))),(.d (.v (.int .u32 p2.2.2.2.2.2.2.2.1))),(.d (.v (.int .u32 p2.2.2.2.2.2.2.2.2.1))),(.d (.v (.int .u32 p2.2.2.2.2.2.2.2.2.2.1))),(.d (.v (.int .u32 p2.2.2.2.2.2.2.2.2.2.2.1))),(.d (.v (.int .u32 p2.2.2.2.2.2.2.2.2.2.2.2)))]),some (.box 3 [(di p3)])] []:=by
 refine A9a (fk Try.func84 Try.ntmps84 (fun r=>if r==4 then [1004005]else []) (by with_unfolding_all rfl)) rfl (nl rfl) ?_
 unfold E2 at h
 refine A7 (s0:=⟨T [(0,(.d _)),(1,(.fn _ _ _))],G [((900000,0),some (.box 101 _)),((900001,0),some (.box 3 _))]⟩) (sbr rfl rfl) ?_
 refine lr (fun u1 hu1=>sv rfl (A1 (A5 (lr (fun u2 hu2=>sv rfl (sd rfl (I8 rfl) (sv rfl (A1 (js h fun z1 hz1 h=>F8 (fun s=> ∃(y1:Unit) (g1:Unit),z1= .inl y1∧Sb ⟨T [(1,(.fn (.func 118) [] [(.ptr (900000,0) 0),(.ptr (900001,0) 0)]))],G [((900000,0),some (.box 101 [(.d (.v (.int .u32 p2.1))),(.d (.v (.int .u32 p2.2.1))),(.d (.v (.int .u32 p2.2.2.1))),(.d (.v (.int .u32 p2.2.2.2.1))),(.d (.v (.int .u32 p2.2.2.2.2.1))),(.d (.v (.int .u32 p2.2.2.2.2.2.1))),(.d (.v (.int .u32 p2.2.2.2.2.2.2.1))),(.d (.v (.int .u32 p2.2.2.2.2.2.2.2.1))),(.d (.v (.int .u32 p2.2.2.2.2.2.2.2.2.1))),(.d (.v (.int .u32 p2.2.2.2.2.2.2.2.2.2.1))),(.d (.v (.int .u32 p2.2.2.2.2.2.2.2.2.2.2.1))),(.d (.v (.int .u32 p2.2.2.2.2.2.2.2.2.2.2.2)))])),((900001,0),some (.box 3 [(di p3)]))]⟩ s) ?_ ?_)))))))))
 refine A4 (G5 (D4 p1 p2 p3) (fun (x1:Int) (g2:Unit)=>⟨T [(0,(dl M9 p1)),(1,(.fn (.func 118) [] [(.ptr (900000,0) 0),(.ptr (900001,0) 0)])),(7,(di (p1.length:Int))),(8,(di x1))],G [((900000,0),some (.box 101 [(.d (.v (.int .u32 p2.1))),(.d (.v (.int .u32 p2.2.1))),(.d (.v (.int .u32 p2.2.2.1))),(.d (.v (.int .u32 p2.2.2.2.1))),(.d (.v (.int .u32 p2.2.2.2.2.1))),(.d (.v (.int .u32 p2.2.2.2.2.2.1))),(.d (.v (.int .u32 p2.2.2.2.2.2.2.1))),(.d (.v (.int .u32 p2.2.2.2.2.2.2.2.1))),(.d (.v (.int .u32 p2.2.2.2.2.2.2.2.2.1))),(.d (.v (.int .u32 p2.2.2.2.2.2.2.2.2.2.1))),(.d (.v (.int .u32 p2.2.2.2.2.2.2.2.2.2.2.1))),(.d (.v (.int .u32 p2.2.2.2.2.2.2.2.2.2.2.2)))])),((900001,0),some (.box 3 [(di p3)]))]⟩) 0 () _ hz1 (sbr rfl rfl) ?_)
 intro x1 g2 z2 hz2 ez2
 unfold D4 at hz2
 refine lr (fun u3 hu3=>sv rfl (A1 (A5 (cc rfl hz2 (fun c1 hz2=> ?_) (fun c1 hz2=> ?_)))))
 refine B4 (A5 (A4 (lr (fun u4 hu4=>sv rfl (sv rfl (A1 (lr (fun u5 hu5=>D3 (.fn _ _ _) rfl rfl (sv rfl (sv rfl (bs hz2 fun v1 hv1 hz2=>sd rfl (K6 rfl rfl hv1 rfl) (sd rfl (G1 rfl hv1 rfl rfl) (bs hz2 fun v2 hv2 hz2=>C3c (v:= .d (bo v2)) (us:= [(900000,0),(900001,0)]) (C5o (A8g _ _ _ _ hv2) [(900000,0),(900001,0)] [(900000,0),(900001,0)] _ (((900001,0),some (.box 3 [(di p3)]))::(((900000,0),some (.box 101 [(.d (.v (.int .u32 p2.1))),(.d (.v (.int .u32 p2.2.1))),(.d (.v (.int .u32 p2.2.2.1))),(.d (.v (.int .u32 p2.2.2.2.1))),(.d (.v (.int .u32 p2.2.2.2.2.1))),(.d (.v (.int .u32 p2.2.2.2.2.2.1))),(.d (.v (.int .u32 p2.2.2.2.2.2.2.1))),(.d (.v (.int .u32 p2.2.2.2.2.2.2.2.1))),(.d (.v (.int .u32 p2.2.2.2.2.2.2.2.2.1))),(.d (.v (.int .u32 p2.2.2.2.2.2.2.2.2.2.1))),(.d (.v (.int .u32 p2.2.2.2.2.2.2.2.2.2.2.1))),(.d (.v (.int .u32 p2.2.2.2.2.2.2.2.2.2.2.2)))]))::_)) rfl A7h (U0 C3b (U0 (B2w G_hit rfl) (U0 (B2w (H6 rfl G_hit) rfl) A7g))) (A0d G_hit (A0d (H6 rfl G_hit) A5b)) ⟨⟨_,G_hit, .of rfl⟩,⟨_,(H6 rfl G_hit), .of rfl⟩,trivial⟩ (fun _ h=>h) (nd2 (C2g rfl)) rfl rfl rfl) (A1 (cc rfl hz2 (fun c2 hz2=> ?_) (fun c2 hz2=> ?_))))))))))))))))
 refine lr (fun u6 hu6=>sv rfl (sv rfl (A1 (C1 ?_))))
 cases hz2
 obtain rfl:=ez2 _ rfl
 refine ⟨nofun,F2 ?_⟩
 rw [Sum.elim_inr]at h
 cases h
 exact B1h (.inr rfl) [] (B6q (C2 rfl) M3) (.refl _) ⟨⟨_,_,_,(gq rfl),O3,rfl,A9z,rfl⟩,⟨_,_,_,G_hit,O3,rfl,A9z,rfl⟩,trivial⟩
 refine B4 (I3 (C3 fun u7 hu7=>sv rfl (sv rfl (A1 (L6 ?_)))))
 cases hz2
 exact ⟨rfl,(),(sbr rfl rfl)⟩
 refine E3 rfl ?_
 cases hz2
 obtain rfl:=ez2 _ rfl
 refine ⟨nofun,D7 rfl (l_j ?_)⟩
 exact ⟨_,(),rfl,(sbr rfl rfl)⟩
 rintro _ ⟨y1,g1,rfl,q1⟩
 rw [Sum.elim_inl]at h
 refine A7 q1 (lr (fun u8 hu8=>sv rfl (A1 (C1 ?_))))
 cases h
 exact B1h (.inr rfl) [] (B6q (C2 rfl) M3) (.refl _) ⟨⟨_,_,_,G_hit,O3,rfl,A9z,rfl⟩,⟨_,_,_,(gq rfl),O3,rfl,A9z,rfl⟩,trivial⟩
noncomputable def D5 (p1:(List Part))(p2:(Int×Int×Int×Int×Int×Int×Int×Int×Int×Int×Int×Int))(p3:Int):Option Bool:=
  (E2 p1 p2 p3).bind fun v1=>some (decide (v1≥0))
theorem X0 (p1:(List Part))(p2:(Int×Int×Int×Int×Int×Int×Int×Int×Int×Int×Int×Int))(p3:Int)(r:Bool)(h:D5 p1 p2 p3=some r):MCall Try.prog 117 [(dl M9 p1),(.fn (.func 118) [] [(.ptr (900000,0) 0),(.ptr (900001,0) 0)])] [(.box 101 [(.d (.v (.int .u32 p2.1))),(.d (.v (.int .u32 p2.2.1))),(.d (.v (.int .u32 p2.2.2.1))),(.d (.v (.int .u32 p2.2.2.2.1))),(.d (.v (.int .u32 p2.2.2.2.2.1))),(.d (.v (.int .u32 p2.2.2.2.2.2.1))),(.d (.v (.int .u32 p2.2.2.2.2.2.2.1))),(.d (.v (.int .u32 p2.2.2.2.2.2.2.2.1))),(.d (.v (.int .u32 p2.2.2.2.2.2.2.2.2.1))),(.d (.v (.int .u32 p2.2.2.2.2.2.2.2.2.2.1))),(.d (.v (.int .u32 p2.2.2.2.2.2.2.2.2.2.2.1))),(.d (.v (.int .u32 p2.2.2.2.2.2.2.2.2.2.2.2)))]),(.box 3 [(di p3)])] (.d (bo r)) [some (.box 101 [(.d (.v (.int .u32 p2.1))),(.d (.v (.int .u32 p2.2.1))),(.d (.v (.int .u32 p2.2.2.1))),(.d (.v (.int .u32 p2.2.2.2.1))),(.d (.v (.int .u32 p2.2.2.2.2.1))),(.d (.v (.int .u32 p2.2.2.2.2.2.1))),(.d (.v (.int .u32 p2.2.2.2.2.2.2.1))),(.d (.v (.int .u32 p2.2.2.2.2.2.2.2.1))),(.d (.v (.int .u32 p2.2.2.2.2.2.2.2.2.1))),(.d (.v (.int .u32 p2.2.2.2.2.2.2.2.2.2.1))),(.d (.v (.int .u32 p2.2.2.2.2.2.2.2.2.2.2.1))),(.d (.v (.int .u32 p2.2.2.2.2.2.2.2.2.2.2.2)))]),some (.box 3 [(di p3)])] []:=by
 refine A9a (fk Try.func117 Try.ntmps117 (fun r=>if r==1 then [1001002]else []) (by with_unfolding_all rfl)) rfl (nl rfl) ?_
 unfold D5 at h
 refine A7 (s0:=⟨T [(0,(.d _)),(1,(.fn _ _ _))],G [((900000,0),some (.box 101 _)),((900001,0),some (.box 3 _))]⟩) (sbr rfl rfl) ?_
 refine lr (fun u1 hu1=>sv rfl (A1 (lr (fun u2 hu2=>sv rfl (D3 (.fn _ _ _) rfl rfl (bs h fun v1 hv1 h=>C3c (v:= .d (i64 v1)) (us:= [(900000,0),(900001,0)]) (C5o (Y4 _ _ _ _ hv1) [(900000,0),(900001,0)] [(900000,0),(900001,0)] _ (((900001,0),some (.box 3 [(di p3)]))::(((900000,0),some (.box 101 [(.d (.v (.int .u32 p2.1))),(.d (.v (.int .u32 p2.2.1))),(.d (.v (.int .u32 p2.2.2.1))),(.d (.v (.int .u32 p2.2.2.2.1))),(.d (.v (.int .u32 p2.2.2.2.2.1))),(.d (.v (.int .u32 p2.2.2.2.2.2.1))),(.d (.v (.int .u32 p2.2.2.2.2.2.2.1))),(.d (.v (.int .u32 p2.2.2.2.2.2.2.2.1))),(.d (.v (.int .u32 p2.2.2.2.2.2.2.2.2.1))),(.d (.v (.int .u32 p2.2.2.2.2.2.2.2.2.2.1))),(.d (.v (.int .u32 p2.2.2.2.2.2.2.2.2.2.2.1))),(.d (.v (.int .u32 p2.2.2.2.2.2.2.2.2.2.2.2)))]))::_)) rfl A7h (U0 C3b (U0 (C71 rfl (U0 (B2w G_hit rfl) (U0 (B2w (H6 rfl G_hit) rfl) A7g))) A7g)) (A0d G_hit (A0d (H6 rfl G_hit) A5b)) ⟨⟨_,G_hit, .of rfl⟩,⟨_,(H6 rfl G_hit), .of rfl⟩,trivial⟩ (fun _ h=>h) (nd2 (C2g rfl)) rfl rfl rfl) (sv rfl (sv rfl (A1 (C1 ?_))))))))))
 cases h
 exact B1h (.inr rfl) [] (B6q (C2 rfl) M3) (.refl _) ⟨⟨_,_,_,(gq rfl),O3,rfl,A9z,rfl⟩,⟨_,_,_,G_hit,O3,rfl,A9z,rfl⟩,trivial⟩
noncomputable def A1w (p1:Map)(p2:Zone)(p3:Int):Option Bool:=
  (A4q p1).bind fun v1=>(D5 p2.Parts v1 p3).bind fun v2=>some (!v2)
theorem A5k (p1:Map)(p2:Zone)(p3:Int)(r:Bool)(h:A1w p1 p2 p3=some r):PCall Try.prog 86 [(.agg (A12 p1)),(.agg [(.list (List.map M9 p2.Parts)),(i64 p2.Signal_)]),(i64 p3)] (bo r):=by
 refine E1 (fk Try.func86 Try.ntmps86 (fun r=>if r==2 then [1002003]else []) (by with_unfolding_all rfl)) (nl rfl) ?_
 unfold A1w at h
 refine A7 (s0:=⟨T [(0,(.d _)),(1,(.d _)),(2,(.d _))],G []⟩) (sbr rfl rfl) ?_
 refine lr (fun u1 hu1=>sn rfl rfl (sn rfl rfl (sn rfl rfl (sv rfl (A1 (lr (fun u2 hu2=>sd rfl (B9 rfl (gq rfl) rfl rfl) (bs h fun v1 hv1 h=>B7 rfl rfl A3 (B3w _ _ hv1) (.inl rfl) (sn rfl rfl (sst rfl G_hit [(.d (.v (.int .u32 v1.1))),(.d (.v (.int .u32 v1.2.1))),(.d (.v (.int .u32 v1.2.2.1))),(.d (.v (.int .u32 v1.2.2.2.1))),(.d (.v (.int .u32 v1.2.2.2.2.1))),(.d (.v (.int .u32 v1.2.2.2.2.2.1))),(.d (.v (.int .u32 v1.2.2.2.2.2.2.1))),(.d (.v (.int .u32 v1.2.2.2.2.2.2.2.1))),(.d (.v (.int .u32 v1.2.2.2.2.2.2.2.2.1))),(.d (.v (.int .u32 v1.2.2.2.2.2.2.2.2.2.1))),(.d (.v (.int .u32 v1.2.2.2.2.2.2.2.2.2.2.1))),(.d (.v (.int .u32 v1.2.2.2.2.2.2.2.2.2.2.2)))] rfl (A1 (lr (fun u3 hu3=>sp rfl rfl (sl rfl (gq rfl) rfl (D3 (.fn _ _ _) rfl rfl (bs h fun v2 hv2 h=>C3c (v:= .d (bo v2)) (us:= [(7,u2),(5,u1)]) (C5o (X0 _ _ _ _ hv2) [(7,u2),(5,u1)] [(7,u2),(5,u1)] _ (((5,u1),some (.box 3 [(di p3)]))::(((7,u2),some (.box 101 [(.d (.v (.int .u32 v1.1))),(.d (.v (.int .u32 v1.2.1))),(.d (.v (.int .u32 v1.2.2.1))),(.d (.v (.int .u32 v1.2.2.2.1))),(.d (.v (.int .u32 v1.2.2.2.2.1))),(.d (.v (.int .u32 v1.2.2.2.2.2.1))),(.d (.v (.int .u32 v1.2.2.2.2.2.2.1))),(.d (.v (.int .u32 v1.2.2.2.2.2.2.2.1))),(.d (.v (.int .u32 v1.2.2.2.2.2.2.2.2.1))),(.d (.v (.int .u32 v1.2.2.2.2.2.2.2.2.2.1))),(.d (.v (.int .u32 v1.2.2.2.2.2.2.2.2.2.2.1))),(.d (.v (.int .u32 v1.2.2.2.2.2.2.2.2.2.2.2)))]))::_)) rfl A7h (U0 C3b (U0 (C71 rfl (U0 (B2w G_hit rfl) (U0 (B2w (H6 rfl (H6 rfl G_hit)) rfl) A7g))) A7g)) (A0d G_hit (A0d (H6 rfl (H6 rfl G_hit)) A5b)) ⟨⟨_,G_hit, .of rfl⟩,⟨_,(H6 rfl (H6 rfl G_hit)), .of rfl⟩,trivial⟩ (fun _ h=>h) (nd2 (C2g rfl)) rfl rfl rfl) (D3 (.d (bo (!v2))) rfl rfl (sv rfl (A1 (C1 ?_))))))))))))))))))))
 cases h
 exact A8 (.inr rfl) (D0 (C2 rfl) M3) (.refl _)
noncomputable def T6 (p1:Int)(p2:Map)(p3:Zone):Option Bool:=
  (A1w p2 p3 p1).bind fun v1=>some (!v1)
theorem A6g (p1:Int)(p2:Map)(p3:Zone)(r:Bool)(h:T6 p1 p2 p3=some r):PCall Try.prog 112 [(i64 p1),(.bp (A12 p2) 0),(.bp [(.list (List.map M9 p3.Parts)),(i64 p3.Signal_)] 0)] (bo r):=by
 refine E1 (fk Try.func112 Try.ntmps112 m0 (by with_unfolding_all rfl)) (nl rfl) ?_
 unfold T6 at h
 refine A7 (s0:=⟨T [(0,(.d _)),(1,(.d _)),(2,(.d _))],G []⟩) (sbr rfl rfl) ?_
 refine lr (fun u1 hu1=>sv rfl (A1 (lr (fun u2 hu2=>sv rfl (sv rfl (sv rfl (bs h fun v1 hv1 h=>B7 rfl rfl A3 (A5k _ _ _ _ hv1) (.inl rfl) (D3 (.d (bo (!v1))) rfl rfl (sv rfl (A1 (C1 ?_)))))))))))
 cases h
 exact A8 (.inr rfl) (D0 (C2 rfl) M3) (.refl _)
noncomputable def D1 (p1:(List Int))(p2:Map)(p3:Zone)(x1:Int):Option (Stp Int (Sum Unit Int)):=
  cond (decide (x1< (p1.length:Int))) ((F1 p1 x1).bind fun v1=>(T6 v1 p2 p3).bind fun v2=>cond v2 (some (.out (.inr x1))) (some (.go (w64 (x1+1))))) (some (.out (.inl ())))
noncomputable def E0 (p1:(List Int))(p2:Map)(p3:Zone):Option Int:=
  thenS (loop (D1 p1 p2 p3) 0) (fun _=>some (-1)) (fun r=>some r)
theorem X7 (p1:(List Int))(p2:Map)(p3:Zone)(r:Int)(h:E0 p1 p2 p3=some r):PCall Try.prog 53 [(.list (List.map A2 p1)),(.fn (.func 112) [] [(.bp (A12 p2) 0),(.bp [(.list (List.map M9 p3.Parts)),(i64 p3.Signal_)] 0)])] (i64 r):=by
 refine E1 (fk Try.func53 Try.ntmps53 m0 (by with_unfolding_all rfl)) (nl rfl) ?_
 unfold E0 at h
 refine A7 (s0:=⟨T [(0,(.d _)),(1,(.d _))],G []⟩) (sbr rfl rfl) ?_
 refine lr (fun u1 hu1=>sv rfl (A1 (A5 (lr (fun u2 hu2=>sv rfl (sd rfl (I8 rfl) (sv rfl (A1 (js h fun z1 hz1 h=>F8 (fun s=> ∃(y1:Unit) (g1:Unit),z1= .inl y1∧Sb ⟨T [],G []⟩ s) ?_ ?_)))))))))
 refine A4 (G5 (D1 p1 p2 p3) (fun (x1:Int) (g2:Unit)=>⟨T [(0,(dl A2 p1)),(1,(.d (.fn (.func 112) [] [(.bp (A12 p2) 0),(.bp [(.list (List.map M9 p3.Parts)),(i64 p3.Signal_)] 0)]))),(7,(di (p1.length:Int))),(8,(di x1))],G []⟩) 0 () _ hz1 (sbr rfl rfl) ?_)
 intro x1 g2 z2 hz2 ez2
 unfold D1 at hz2
 refine lr (fun u3 hu3=>sv rfl (A1 (A5 (cc rfl hz2 (fun c1 hz2=> ?_) (fun c1 hz2=> ?_)))))
 refine B4 (A5 (A4 (lr (fun u4 hu4=>sv rfl (sv rfl (A1 (lr (fun u5 hu5=>sv rfl (sv rfl (sv rfl (bs hz2 fun v1 hv1 hz2=>sd rfl (K6 rfl rfl hv1 rfl) (sd rfl (I4 rfl hv1 rfl) (bs hz2 fun v2 hv2 hz2=>B7 rfl rfl A3 (A6g _ _ _ _ hv2) (.inl rfl) (A1 (cc rfl hz2 (fun c2 hz2=> ?_) (fun c2 hz2=> ?_))))))))))))))))
 refine lr (fun u6 hu6=>sv rfl (sv rfl (A1 (C1 ?_))))
 cases hz2
 obtain rfl:=ez2 _ rfl
 refine ⟨nofun,F2 ?_⟩
 rw [Sum.elim_inr]at h
 cases h
 exact A8 (.inr rfl) (D0 (C2 rfl) M3) (.refl _)
 refine B4 (I3 (C3 fun u7 hu7=>sv rfl (sv rfl (A1 (L6 ?_)))))
 cases hz2
 exact ⟨rfl,(),(sbr rfl rfl)⟩
 refine E3 rfl ?_
 cases hz2
 obtain rfl:=ez2 _ rfl
 refine ⟨nofun,D7 rfl (l_j ?_)⟩
 exact ⟨_,(),rfl,(sbr rfl rfl)⟩
 rintro _ ⟨y1,g1,rfl,q1⟩
 rw [Sum.elim_inl]at h
 refine A7 q1 (lr (fun u8 hu8=>sv rfl (A1 (C1 ?_))))
 cases h
 exact A8 (.inr rfl) (D0 (C2 rfl) M3) (.refl _)
noncomputable def D2 (p1:(List Int))(p2:Map)(p3:Zone):Option Bool:=
  (E0 p1 p2 p3).bind fun v1=>some (decide (v1≥0))
theorem W1 (p1:(List Int))(p2:Map)(p3:Zone)(r:Bool)(h:D2 p1 p2 p3=some r):PCall Try.prog 111 [(.list (List.map A2 p1)),(.fn (.func 112) [] [(.bp (A12 p2) 0),(.bp [(.list (List.map M9 p3.Parts)),(i64 p3.Signal_)] 0)])] (bo r):=by
 refine E1 (fk Try.func111 Try.ntmps111 m0 (by with_unfolding_all rfl)) (nl rfl) ?_
 unfold D2 at h
 refine A7 (s0:=⟨T [(0,(.d _)),(1,(.d _))],G []⟩) (sbr rfl rfl) ?_
 refine lr (fun u1 hu1=>sv rfl (A1 (lr (fun u2 hu2=>sv rfl (sv rfl (bs h fun v1 hv1 h=>B7 rfl rfl A3 (X7 _ _ _ _ hv1) (.inl rfl) (sv rfl (sv rfl (A1 (C1 ?_))))))))))
 cases h
 exact A8 (.inr rfl) (D0 (C2 rfl) M3) (.refl _)
noncomputable def T7 (p1:Zone)(p2:Map)(p3:Int)(p4:(List Int)):Option Bool:=
  (A24 p2 p1 p3).bind fun v1=>((cond v1 (D2 p4 p2 p1) (some default))).bind fun v2=>some (v1&& (!v2))
theorem A6h (p1:Zone)(p2:Map)(p3:Int)(p4:(List Int))(r:Bool)(h:T7 p1 p2 p3 p4=some r):PCall Try.prog 109 [(.agg [(.list (List.map M9 p1.Parts)),(i64 p1.Signal_)]),(.bp (A12 p2) 0),(.bp [(i64 p3)] 0),(.bp [(.list (List.map A2 p4))] 0)] (bo r):=by
 refine E1 (fk Try.func109 Try.ntmps109 m0 (by with_unfolding_all rfl)) (nl rfl) ?_
 unfold T7 at h
 refine A7 (s0:=⟨T [(0,(.d _)),(1,(.d _)),(2,(.d _)),(3,(.d _))],G []⟩) (sbr rfl rfl) ?_
 refine lr (fun u1 hu1=>sn rfl rfl (sv rfl (A1 (lr (fun u2 hu2=>sv rfl (sd rfl (B9 rfl G_hit rfl rfl) (sv rfl (bs h fun v1 hv1 h=>B7 rfl rfl A3 (A7p _ _ _ _ hv1) (.inl rfl) (sv rfl (gt rfl (fun _=>rfl) (A1i _ (.fn _ _ _) rfl (A38 rfl) (fun _=>rfl) (bs h fun v2 hv2 h=> ?_))))))))))))
 refine V3 v1 (bo v2) (A38 rfl) (fun w3=>⟨_,[(dl A2 p4),(.fn (.func 112) [] [(.d (.bp (A12 p2) 0)),(.ptr (4,u1) 0)])],_,_,(by simp only [A6 w3];rfl),(rD (M5 (C0i M4 (rD (M5 (A8r G_hit (rD (rD M4))) M4))) M4)),A3,W1 _ _ _ _ (G9 w3 hv2),(.inr rfl)⟩) ?_
 refine A1i _ (.d (bo (!v2))) rfl (A38 rfl) (fun w4=>(by simp only [A6 w4];rfl)) ?_
 refine sa rfl rfl rfl (sv rfl (A1 (C1 ?_)))
 cases h
 exact A8 (.inr rfl) (D0 (C2 rfl) M3) (.refl _)
noncomputable def C7 (p1:(List Zone))(p2:Map)(p3:Int)(p4:(List Int))(x1:Int):Option (Stp Int (Sum Unit Int)):=
  cond (decide (x1< (p1.length:Int))) ((F1 p1 x1).bind fun v1=>(T7 v1 p2 p3 p4).bind fun v2=>cond v2 (some (.out (.inr x1))) (some (.go (w64 (x1+1))))) (some (.out (.inl ())))
noncomputable def D6 (p1:(List Zone))(p2:Map)(p3:Int)(p4:(List Int)):Option Int:=
  thenS (loop (C7 p1 p2 p3 p4) 0) (fun _=>some (-1)) (fun r=>some r)
theorem X4 (p1:(List Zone))(p2:Map)(p3:Int)(p4:(List Int))(r:Int)(h:D6 p1 p2 p3 p4=some r):PCall Try.prog 128 [(.list (List.map Q8 p1)),(.fn (.func 109) [] [(.bp (A12 p2) 0),(.bp [(i64 p3)] 0),(.bp [(.list (List.map A2 p4))] 0)])] (i64 r):=by
 refine E1 (fk Try.func128 Try.ntmps128 m0 (by with_unfolding_all rfl)) (nl rfl) ?_
 unfold D6 at h
 refine A7 (s0:=⟨T [(0,(.d _)),(1,(.d _))],G []⟩) (sbr rfl rfl) ?_
 refine lr (fun u1 hu1=>sv rfl (A1 (A5 (lr (fun u2 hu2=>sv rfl (sd rfl (I8 rfl) (sv rfl (A1 (js h fun z1 hz1 h=>F8 (fun s=> ∃(y1:Unit) (g1:Unit),z1= .inl y1∧Sb ⟨T [],G []⟩ s) ?_ ?_)))))))))
 refine A4 (G5 (C7 p1 p2 p3 p4) (fun (x1:Int) (g2:Unit)=>⟨T [(0,(dl Q8 p1)),(1,(.d (.fn (.func 109) [] [(.bp (A12 p2) 0),(.bp [(i64 p3)] 0),(.bp [(.list (List.map A2 p4))] 0)]))),(7,(di (p1.length:Int))),(8,(di x1))],G []⟩) 0 () _ hz1 (sbr rfl rfl) ?_)
 intro x1 g2 z2 hz2 ez2
 unfold C7 at hz2
 refine lr (fun u3 hu3=>sv rfl (A1 (A5 (cc rfl hz2 (fun c1 hz2=> ?_) (fun c1 hz2=> ?_)))))
 refine B4 (A5 (A4 (lr (fun u4 hu4=>sv rfl (sv rfl (A1 (lr (fun u5 hu5=>sv rfl (sv rfl (sv rfl (bs hz2 fun v1 hv1 hz2=>sd rfl (K6 rfl rfl hv1 rfl) (sd rfl (G1 rfl hv1 rfl rfl) (bs hz2 fun v2 hv2 hz2=>B7 rfl rfl A3 (A6h _ _ _ _ _ hv2) (.inl rfl) (A1 (cc rfl hz2 (fun c2 hz2=> ?_) (fun c2 hz2=> ?_))))))))))))))))
 refine lr (fun u6 hu6=>sv rfl (sv rfl (A1 (C1 ?_))))
 cases hz2
 obtain rfl:=ez2 _ rfl
 refine ⟨nofun,F2 ?_⟩
 rw [Sum.elim_inr]at h
 cases h
 exact A8 (.inr rfl) (D0 (C2 rfl) M3) (.refl _)
 refine B4 (I3 (C3 fun u7 hu7=>sv rfl (sv rfl (A1 (L6 ?_)))))
 cases hz2
 exact ⟨rfl,(),(sbr rfl rfl)⟩
 refine E3 rfl ?_
 cases hz2
 obtain rfl:=ez2 _ rfl
 refine ⟨nofun,D7 rfl (l_j ?_)⟩
 exact ⟨_,(),rfl,(sbr rfl rfl)⟩
 rintro _ ⟨y1,g1,rfl,q1⟩
 rw [Sum.elim_inl]at h
 refine A7 q1 (lr (fun u8 hu8=>sv rfl (A1 (C1 ?_))))
 cases h
 exact A8 (.inr rfl) (D0 (C2 rfl) M3) (.refl _)
noncomputable def C8 (p1:(List Zone))(p2:Map)(p3:Int)(p4:(List Int)):Option Bool:=
  (D6 p1 p2 p3 p4).bind fun v1=>some (decide (v1≥0))
theorem V6 (p1:(List Zone))(p2:Map)(p3:Int)(p4:(List Int))(r:Bool)(h:C8 p1 p2 p3 p4=some r):PCall Try.prog 108 [(.list (List.map Q8 p1)),(.fn (.func 109) [] [(.bp (A12 p2) 0),(.bp [(i64 p3)] 0),(.bp [(.list (List.map A2 p4))] 0)])] (bo r):=by
 refine E1 (fk Try.func108 Try.ntmps108 m0 (by with_unfolding_all rfl)) (nl rfl) ?_
 unfold C8 at h
 refine A7 (s0:=⟨T [(0,(.d _)),(1,(.d _))],G []⟩) (sbr rfl rfl) ?_
 refine lr (fun u1 hu1=>sv rfl (A1 (lr (fun u2 hu2=>sv rfl (sv rfl (bs h fun v1 hv1 h=>B7 rfl rfl A3 (X4 _ _ _ _ _ hv1) (.inl rfl) (sv rfl (sv rfl (A1 (C1 ?_))))))))))
 cases h
 exact A8 (.inr rfl) (D0 (C2 rfl) M3) (.refl _)
noncomputable def A0l (p1:Map)(x1:((List Clash)×Int)):Option (Stp ((List Clash)×Int) (List Clash)):=
  cond (decide (x1.2< (p1.Lanes.length:Int))) ((A0i p1 x1.2).bind fun v1=>(C8 p1.Zones p1 x1.2 v1).bind fun v2=>cond ((decide ((v1.length:Int)>1))&& (!v2)) ((A9u x1.1 [(Clash.mk 1 (-1) x1.2 (-1))]).bind fun v3=>some (.go (v3,(w64 (x1.2+1))))) (some (.go (x1.1,(w64 (x1.2+1)))))) (some (.out x1.1))
noncomputable def A3k (p1:Map):Option (List Clash):=
  (loop (A0l p1) ([],0)).bind fun y1=>some y1
theorem B38 (p1:Map)(r:(List Clash))(h:A3k p1=some r):PCall Try.prog 79 [(.agg (A12 p1))] (.list (List.map H7 r)):=by
 refine E1 (fk Try.func79 Try.ntmps79 (fun r=>if r==7 then [1003]else []) (by with_unfolding_all rfl)) (nl rfl) ?_
 unfold A3k at h
 refine A7 (s0:=⟨T [(0,(.d _))],G []⟩) (sbr rfl rfl) ?_
 refine lr (fun u1 hu1=>sn rfl rfl (sv rfl (A1 (A5 (lr (fun u2 hu2=>sp rfl rfl (sl rfl G_hit rfl (sd rfl (I8 rfl) (sv rfl (A1 (bs h fun y1 hy1 h=>F8 (fun s=> ∃g1:Nat,Sb ⟨T [(2,(oS y1 (30,g1)))],G [((30,g1),oB 145 4 H7 y1)]⟩ s) ?_ ?_)))))))))))
 refine A4 (G5 (A0l p1) (fun (x1:((List Clash)×Int)) (g2:Nat)=>⟨T [(1,(.ptr (1,u1) 0)),(2,(oS x1.1 (30,g2))),(8,(di (p1.Lanes.length:Int))),(9,(di x1.2))],G [((1,u1),some (.box 28 (A05 p1))),((30,g2),oB 145 4 H7 x1.1)]⟩) ([],0) 0 _ hy1 (F7 ⟨.of rfl, .of rfl, .of rfl, .of rfl,trivial⟩ (B3 G_hit (.of rfl) (V2 trivial))) ?_)
 intro x1 g2 z1 hz1 ez1
 unfold A0l at hz1
 refine lr (fun u3 hu3=>sv rfl (A1 (A5 (cc rfl hz1 (fun c1 hz1=> ?_) (fun c1 hz1=> ?_)))))
 refine B4 (A5 (A4 (lr (fun u4 hu4=>sv rfl (sn rfl rfl (sst rfl G_hit [(di x1.2)] rfl (A1 (lr (fun u5 hu5=>sd rfl (B9 rfl (gq rfl) rfl rfl) (sl rfl G_hit rfl (bs hz1 fun v1 hv1 hz1=>B7 rfl rfl A3 (A4o _ _ _ hv1) (.inl rfl) (sn rfl rfl (sst rfl G_hit [(dl A2 v1)] rfl (A1 (lr (fun u6 hu6=>sp rfl rfl (sl rfl (gq rfl) rfl (D3 (.fn _ _ _) rfl rfl (bs hz1 fun v2 hv2 hz1=>B7 rfl (rD (M5 (C0i M4 (M5 (A8r (gq rfl) (rD (rD (rD (rD (rD M4)))))) (M5 (A8r (gq rfl) (rD M4)) (M5 (A8r G_hit (rD M4)) M4)))) M4)) A3 (V6 _ _ _ _ _ hv2) (.inr rfl) (sv rfl (A1 (lr (fun u7 hu7=>sl rfl G_hit rfl (sd rfl (I8 rfl) (sv rfl (sv rfl (gt rfl (fun _=>rfl) ?_)))))))))))))))))))))))))))
 refine A1i _ (.d (bo (!v2))) rfl (A38 rfl) (fun w2=>(by simp only [A6 w2];rfl)) ?_
 refine sa rfl rfl rfl (A1 (cc rfl hz1 (fun c2 hz1=> ?_) (fun c2 hz1=> ?_)))
 refine A7 (s0:=⟨T [(1,(.ptr (1,u1) 0)),(2,(oS x1.1 (30,g2))),(3,(.ptr (3,u4) 0)),(8,(di (p1.Lanes.length:Int))),(9,(di x1.2))],G [((1,u1),some (.box 28 (A05 p1))),((30,g2),oB 145 4 H7 x1.1),((3,u4),some (.box 3 [(di x1.2)]))]⟩) (F7 ⟨.of rfl, .of rfl, .of rfl, .of rfl, .of rfl,trivial⟩ (sg rfl (F9 (gq rfl) (sg rfl trivial)))) ?_
 refine C3 fun u8 hu8=>D3 (oS x1.1 (30,g2)) rfl rfl (sl rfl (gq rfl) rfl (sv rfl (D3 (dl H7 [(Clash.mk 1 (-1) x1.2 (-1))]) rfl rfl (bs hz1 fun v3 hv3 hz1=>A00 H7 (30,g2) x1.1 (Clash.mk 1 (-1) x1.2 (-1)) [] _ (W6 (fun _=>rfl)) rfl (gq rfl) hv3 (ss rfl (A1 (I3 (C3 fun u9 hu9=>sv rfl (sv rfl (A1 (L6 ?_)))))))))))
 cases hz1
 exact ⟨rfl,u8,(F7 ⟨.of rfl,(.of (A2a (A3u hv3)).symm), .of rfl, .of rfl,trivial⟩ (sg rfl (Q6 G_hit trivial)))⟩
 refine B4 (I3 (A7 (s0:=⟨T [(1,(.ptr (1,u1) 0)),(2,(oS x1.1 (30,g2))),(8,(di (p1.Lanes.length:Int))),(9,(di x1.2))],G [((1,u1),some (.box 28 (A05 p1))),((30,g2),oB 145 4 H7 x1.1)]⟩) (F7 ⟨.of rfl, .of rfl, .of rfl, .of rfl,trivial⟩ (sg rfl (F9 (gq rfl) trivial))) ?_))
 refine C3 fun u10 hu10=>sv rfl (sv rfl (A1 (L6 ?_)))
 cases hz1
 exact ⟨rfl,g2,(F7 ⟨.of rfl, .of rfl, .of rfl, .of rfl,trivial⟩ (B3 G_hit (.of rfl) (F9 (gq rfl) trivial)))⟩
 refine E3 rfl ?_
 cases hz1
 obtain rfl:=ez1 _ rfl
 refine ⟨nofun,D7 rfl (l_j ?_)⟩
 exact ⟨g2,(F7 ⟨.of rfl,trivial⟩ (F9 (gq rfl) trivial))⟩
 rintro _ ⟨g1,q1⟩
 refine A7 q1 (lr (fun u11 hu11=>D3 (oS y1 (30,g1)) rfl rfl (D3 (oS y1 (30,g1)) rfl rfl (A1 (C1 ?_)))))
 cases h
 exact A8 (.inr rfl) (D0 (C2 rfl) (A76 G_hit)) A75
noncomputable def A0m (p1:Map)(x1:((List Clash)×Int))(v1:Zone)(x2:((List Clash)×Int)):Option (Stp ((List Clash)×Int) (List Clash)):=
  cond (decide (x2.2< (v1.Parts.length:Int))) ((F1 v1.Parts x2.2).bind fun v2=>(A1w p1 v1 v2.Lane_).bind fun v3=>((cond (!v3) (A24 p1 v1 v2.Lane_) (some default))).bind fun v4=>cond ((!v3)&& (!v4)) ((A9u x2.1 [(Clash.mk 2 x1.2 v2.Lane_ (-1))]).bind fun v5=>some (.go (v5,(w64 (x2.2+1))))) (some (.go (x2.1,(w64 (x2.2+1)))))) (some (.out x2.1))
noncomputable def A0n (p1:Map)(x1:((List Clash)×Int)):Option (Stp ((List Clash)×Int) (List Clash)):=
  cond (decide (x1.2< (p1.Zones.length:Int))) ((F1 p1.Zones x1.2).bind fun v1=>(loop (A0m p1 x1 v1) (x1.1,0)).bind fun y2=>some (.go (y2,(w64 (x1.2+1))))) (some (.out x1.1))
noncomputable def A3l (p1:Map):Option (List Clash):=
  (loop (A0n p1) ([],0)).bind fun y1=>some y1
theorem B39 (p1:Map)(r:(List Clash))(h:A3l p1=some r):PCall Try.prog 80 [(.agg (A12 p1))] (.list (List.map H7 r)):=by
 refine E1 (fk Try.func80 Try.ntmps80 (fun r=>if r==8 then [1005]else []) (by with_unfolding_all rfl)) (nl rfl) ?_
 unfold A3l at h
 refine A7 (s0:=⟨T [(0,(.d _))],G []⟩) (sbr rfl rfl) ?_
 refine lr (fun u1 hu1=>sn rfl rfl (sv rfl (A1 (A5 (lr (fun u2 hu2=>sp rfl rfl (sl rfl G_hit rfl (sd rfl (I8 rfl) (sv rfl (A1 (bs h fun y1 hy1 h=>F8 (fun s=> ∃g1:Nat,Sb ⟨T [(2,(oS y1 (42,g1)))],G [((42,g1),oB 145 4 H7 y1)]⟩ s) ?_ ?_)))))))))))
 refine A4 (G5 (A0n p1) (fun (x1:((List Clash)×Int)) (g2:Nat)=>⟨T [(1,(.ptr (1,u1) 0)),(2,(oS x1.1 (42,g2))),(8,(dl Q8 p1.Zones)),(9,(di (p1.Zones.length:Int))),(10,(di x1.2))],G [((1,u1),some (.box 28 (A05 p1))),((42,g2),oB 145 4 H7 x1.1)]⟩) ([],0) 0 _ hy1 (F7 ⟨.of rfl, .of rfl, .of rfl, .of rfl, .of rfl,trivial⟩ (B3 G_hit (.of rfl) (V2 trivial))) ?_)
 intro x1 g2 z1 hz1 ez1
 unfold A0n at hz1
 refine lr (fun u3 hu3=>sv rfl (A1 (A5 (cc rfl hz1 (fun c1 hz1=> ?_) (fun c1 hz1=> ?_)))))
 refine B4 (A5 (A4 (lr (fun u4 hu4=>sv rfl (bs hz1 fun v1 hv1 hz1=>sd rfl (K6 rfl rfl hv1 rfl) (sd rfl (G1 rfl hv1 rfl rfl) (sn rfl rfl (sv rfl (sst rfl G_hit [(dl M9 v1.Parts),(di v1.Signal_)] rfl (A1 (lr (fun u5 hu5=>sp rfl rfl (sl rfl G_hit rfl (sd rfl (I8 rfl) (sv rfl (A1 (bs hz1 fun y2 hy2 hz1=>F8 (fun s=> ∃g3:Nat,Sb ⟨T [(1,(.ptr (1,u1) 0)),(2,(oS y2 (42,g3))),(8,(dl Q8 p1.Zones)),(9,(di (p1.Zones.length:Int))),(10,(di x1.2))],G [((1,u1),some (.box 28 (A05 p1))),((42,g3),oB 145 4 H7 y2)]⟩ s) ?_ ?_)))))))))))))))))
 refine A4 (G5 (A0m p1 x1 v1) (fun (x2:((List Clash)×Int)) (g4:Nat)=>⟨T [(1,(.ptr (1,u1) 0)),(2,(oS x2.1 (42,g4))),(3,(di x1.2)),(4,(.ptr (4,u4) 0)),(8,(dl Q8 p1.Zones)),(9,(di (p1.Zones.length:Int))),(10,(di x1.2)),(16,(dl M9 v1.Parts)),(17,(di (v1.Parts.length:Int))),(18,(di x2.2))],G [((1,u1),some (.box 28 (A05 p1))),((4,u4),some (.box 69 [(dl M9 v1.Parts),(di v1.Signal_)])),((42,g4),oB 145 4 H7 x2.1)]⟩) (x1.1,0) g2 _ hy2 (F7 ⟨.of rfl, .of rfl, .of rfl, .of rfl, .of rfl, .of rfl, .of rfl, .of rfl, .of rfl, .of rfl,trivial⟩ (sg rfl (B3 G_hit (.of rfl) (F9 (gq rfl) trivial)))) ?_)
 intro x2 g4 z2 hz2 ez2
 unfold A0m at hz2
 refine lr (fun u6 hu6=>sv rfl (A1 (A5 (cc rfl hz2 (fun c2 hz2=> ?_) (fun c2 hz2=> ?_)))))
 refine B4 (A5 (A4 (lr (fun u7 hu7=>bs hz2 fun v2 hv2 hz2=>sd rfl (K6 rfl rfl hv2 rfl) (sd rfl (G1 rfl hv2 rfl rfl) (sn rfl rfl (sst rfl G_hit (A8c v2) rfl (A1 (lr (fun u8 hu8=>sd rfl (B9 rfl (gq rfl) rfl rfl) (sd rfl (B9 rfl (gq rfl) rfl rfl) (sp rfl rfl (sl rfl G_hit rfl (bs hz2 fun v3 hv3 hz2=>B7 rfl rfl A3 (A5k _ _ _ _ hv3) (.inl rfl) (D3 (.d (bo (!v3))) rfl rfl (sv rfl (gt rfl (fun w1=>(B9 rfl (gq rfl) rfl rfl)) (gt rfl (fun w2=>(B9 rfl (gq rfl) rfl rfl)) (gp rfl (A38 rfl) (fun _=>rfl) (gt rfl (vl rfl G_hit rfl) (bs hz2 fun v4 hv4 hz2=> ?_)))))))))))))))))))))
 refine V3 _ (bo v4) (A38 rfl) (fun w5=>⟨_,[(.d (.agg (A12 p1))),(.d (.agg [(.list (List.map M9 v1.Parts)),(i64 v1.Signal_)])),(di v2.Lane_)],_,_,(by simp only [A6 w5];rfl),rfl,A3,A7p _ _ _ _ (G9 w5 hv4),(.inl rfl)⟩) ?_
 refine A1i _ (.d (bo (!v4))) rfl (A38 rfl) (fun w6=>(by simp only [A6 w6];rfl)) ?_
 refine sa rfl rfl rfl (A1 (cc rfl hz2 (fun c3 hz2=> ?_) (fun c3 hz2=> ?_)))
 refine A7 (s0:=⟨T [(1,(.ptr (1,u1) 0)),(2,(oS x2.1 (42,g4))),(3,(di x1.2)),(4,(.ptr (4,u4) 0)),(6,(.ptr (6,u7) 0)),(8,(dl Q8 p1.Zones)),(9,(di (p1.Zones.length:Int))),(10,(di x1.2)),(16,(dl M9 v1.Parts)),(17,(di (v1.Parts.length:Int))),(18,(di x2.2))],G [((1,u1),some (.box 28 (A05 p1))),((42,g4),oB 145 4 H7 x2.1),((4,u4),some (.box 69 [(dl M9 v1.Parts),(di v1.Signal_)])),((6,u7),some (.box 71 (A8c v2)))]⟩) (F7 ⟨.of rfl, .of rfl, .of rfl, .of rfl, .of rfl, .of rfl, .of rfl, .of rfl, .of rfl, .of rfl, .of rfl,trivial⟩ (sg rfl (F9 (gq rfl) (sg rfl (B3 G_hit (.of rfl) trivial))))) ?_
 refine C3 fun u9 hu9=>D3 (oS x2.1 (42,g4)) rfl rfl (sv rfl (sp rfl rfl (sl rfl (gq rfl) rfl (sv rfl (D3 (dl H7 [(Clash.mk 2 x1.2 v2.Lane_ (-1))]) rfl rfl (bs hz2 fun v5 hv5 hz2=>A00 H7 (42,g4) x2.1 (Clash.mk 2 x1.2 v2.Lane_ (-1)) [] _ (W6 (fun _=>rfl)) rfl (gq rfl) hv5 (ss rfl (A1 (I3 (A7 (s0:=⟨T [(1,(.ptr _ _)),(2,(.sl _)),(3,(.d _)),(4,(.ptr _ _)),(8,(.d _)),(9,(.d _)),(10,(.d _)),(16,(.d _)),(17,(.d _)),(18,(.d _))],G [((1,u1),some (.box 28 _)),((42,u9),some _),((4,u4),some (.box 69 _))]⟩) (sbr rfl rfl) ?_))))))))))
 refine C3 fun u10 hu10=>sv rfl (sv rfl (A1 (L6 ?_)))
 cases hz2
 exact ⟨rfl,u9,(F7 ⟨.of rfl,(.of (A2a (A3u hv5)).symm), .of rfl, .of rfl, .of rfl, .of rfl, .of rfl, .of rfl, .of rfl, .of rfl,trivial⟩ (B3 G_hit (.of rfl) (sg rfl (Q6 (gq rfl) trivial))))⟩
 refine B4 (I3 (A7 (s0:=⟨T [(1,(.ptr (1,u1) 0)),(2,(oS x2.1 (42,g4))),(3,(di x1.2)),(4,(.ptr (4,u4) 0)),(8,(dl Q8 p1.Zones)),(9,(di (p1.Zones.length:Int))),(10,(di x1.2)),(16,(dl M9 v1.Parts)),(17,(di (v1.Parts.length:Int))),(18,(di x2.2))],G [((1,u1),some (.box 28 (A05 p1))),((42,g4),oB 145 4 H7 x2.1),((4,u4),some (.box 69 [(dl M9 v1.Parts),(di v1.Signal_)]))]⟩) (F7 ⟨.of rfl, .of rfl, .of rfl, .of rfl, .of rfl, .of rfl, .of rfl, .of rfl, .of rfl, .of rfl,trivial⟩ (sg rfl (F9 (gq rfl) (sg rfl trivial)))) ?_))
 refine C3 fun u11 hu11=>sv rfl (sv rfl (A1 (L6 ?_)))
 cases hz2
 exact ⟨rfl,g4,(F7 ⟨.of rfl, .of rfl, .of rfl, .of rfl, .of rfl, .of rfl, .of rfl, .of rfl, .of rfl, .of rfl,trivial⟩ (B3 G_hit (.of rfl) (sg rfl (F9 (gq rfl) trivial))))⟩
 refine E3 rfl ?_
 cases hz2
 obtain rfl:=ez2 _ rfl
 refine ⟨nofun,D7 rfl (l_j ?_)⟩
 exact ⟨g4,(F7 ⟨.of rfl, .of rfl, .of rfl, .of rfl, .of rfl,trivial⟩ (B3 G_hit (.of rfl) (F9 (gq rfl) trivial)))⟩
 rintro _ ⟨g3,q1⟩
 refine I3 (A7 q1 (C3 fun u12 hu12=>sv rfl (sv rfl (A1 (L6 ?_)))))
 cases hz1
 exact ⟨rfl,g3,(F7 ⟨.of rfl, .of rfl, .of rfl, .of rfl, .of rfl,trivial⟩ (B3 G_hit (.of rfl) (F9 (gq rfl) trivial)))⟩
 refine E3 rfl ?_
 cases hz1
 obtain rfl:=ez1 _ rfl
 refine ⟨nofun,D7 rfl (l_j ?_)⟩
 exact ⟨g2,(F7 ⟨.of rfl,trivial⟩ (F9 (gq rfl) trivial))⟩
 rintro _ ⟨g1,q2⟩
 refine A7 q2 (lr (fun u13 hu13=>D3 (oS y1 (42,g1)) rfl rfl (D3 (oS y1 (42,g1)) rfl rfl (A1 (C1 ?_)))))
 cases h
 exact A8 (.inr rfl) (D0 (C2 rfl) (A76 G_hit)) A75
noncomputable def A02 (p1:Map)(p2:Zone)(x1:((List Int)×Int)):Option (Stp ((List Int)×Int) (List Int)):=
  cond (decide (x1.2< (p2.Parts.length:Int))) ((F1 p2.Parts x1.2).bind fun v1=>(A1w p1 p2 v1.Lane_).bind fun v2=>cond v2 ((A9u x1.1 [v1.Lane_]).bind fun v3=>some (.go (v3,(w64 (x1.2+1))))) (some (.go (x1.1,(w64 (x1.2+1)))))) (some (.out x1.1))
noncomputable def Z5 (p1:Map)(p2:Zone):Option (List Int):=
  (loop (A02 p1 p2) ([],0)).bind fun y1=>some y1
theorem A3x (p1:Map)(p2:Zone)(r:(List Int))(h:Z5 p1 p2=some r):PCall Try.prog 56 [(.agg (A12 p1)),(.agg [(.list (List.map M9 p2.Parts)),(i64 p2.Signal_)])] (.list (List.map A2 r)):=by
 refine E1 (fk Try.func56 Try.ntmps56 (fun r=>if r==6 then [1003]else []) (by with_unfolding_all rfl)) (nl rfl) ?_
 unfold Z5 at h
 refine A7 (s0:=⟨T [(0,(.d _)),(1,(.d _))],G []⟩) (sbr rfl rfl) ?_
 refine lr (fun u1 hu1=>sn rfl rfl (sn rfl rfl (sv rfl (A1 (lr (fun u2 hu2=>sv rfl (A1 (A5 (lr (fun u3 hu3=>sp rfl rfl (sl rfl G_hit rfl (sd rfl (I8 rfl) (sv rfl (A1 (bs h fun y1 hy1 h=>F8 (fun s=> ∃g1:Nat,Sb ⟨T [(5,(oS y1 (24,g1)))],G [((24,g1),oB 3 1 A2 y1)]⟩ s) ?_ ?_)))))))))))))))
 refine A4 (G5 (A02 p1 p2) (fun (x1:((List Int)×Int)) (g2:Nat)=>⟨T [(2,(.ptr (2,u1) 0)),(3,(.ptr (3,u1) 0)),(5,(oS x1.1 (24,g2))),(9,(dl M9 p2.Parts)),(10,(di (p2.Parts.length:Int))),(11,(di x1.2))],G [((2,u1),some (.box 28 (A05 p1))),((3,u1),some (.box 69 [(dl M9 p2.Parts),(di p2.Signal_)])),((24,g2),oB 3 1 A2 x1.1)]⟩) ([],0) 0 _ hy1 (F7 ⟨.of rfl, .of rfl, .of rfl, .of rfl, .of rfl, .of rfl,trivial⟩ (sg rfl (B3 G_hit (.of rfl) (V2 trivial)))) ?_)
 intro x1 g2 z1 hz1 ez1
 unfold A02 at hz1
 refine lr (fun u4 hu4=>sv rfl (A1 (A5 (cc rfl hz1 (fun c1 hz1=> ?_) (fun c1 hz1=> ?_)))))
 refine B4 (A5 (A4 (lr (fun u5 hu5=>bs hz1 fun v1 hv1 hz1=>sd rfl (K6 rfl rfl hv1 rfl) (sd rfl (G1 rfl hv1 rfl rfl) (sn rfl rfl (sst rfl G_hit (A8c v1) rfl (A1 (lr (fun u6 hu6=>sd rfl (B9 rfl (gq rfl) rfl rfl) (sd rfl (B9 rfl (gq rfl) rfl rfl) (sp rfl rfl (sl rfl G_hit rfl (bs hz1 fun v2 hv2 hz1=>B7 rfl rfl A3 (A5k _ _ _ _ hv2) (.inl rfl) (A1 (cc rfl hz1 (fun c2 hz1=> ?_) (fun c2 hz1=> ?_)))))))))))))))))
 refine C3 fun u7 hu7=>D3 (oS x1.1 (24,g2)) rfl rfl (sp rfl rfl (sl rfl G_hit rfl (D3 (dl A2 [v1.Lane_]) rfl rfl (bs hz1 fun v3 hv3 hz1=>A00 A2 (24,g2) x1.1 v1.Lane_ [] _ (W6 (fun _=>rfl)) rfl (gq rfl) hv3 (ss rfl (A1 (I3 (A7 (s0:=⟨T [(2,(.ptr _ _)),(3,(.ptr _ _)),(5,(.sl _)),(9,(.d _)),(10,(.d _)),(11,(.d _))],G [((2,u1),some (.box 28 _)),((3,u1),some (.box 69 _)),((24,u7),some _)]⟩) (sbr rfl rfl) ?_))))))))
 refine C3 fun u8 hu8=>sv rfl (sv rfl (A1 (L6 ?_)))
 cases hz1
 exact ⟨rfl,u7,(F7 ⟨.of rfl, .of rfl,(.of (A2a (A3u hv3)).symm), .of rfl, .of rfl, .of rfl,trivial⟩ (B3 G_hit (.of rfl) (sg rfl (Q6 (gq rfl) trivial))))⟩
 refine B4 (I3 (C3 fun u9 hu9=>sv rfl (sv rfl (A1 (L6 ?_)))))
 cases hz1
 exact ⟨rfl,g2,(F7 ⟨.of rfl, .of rfl, .of rfl, .of rfl, .of rfl, .of rfl,trivial⟩ (sg rfl (sg rfl (F9 (gq rfl) trivial))))⟩
 refine E3 rfl ?_
 cases hz1
 obtain rfl:=ez1 _ rfl
 refine ⟨nofun,D7 rfl (l_j ?_)⟩
 exact ⟨g2,(F7 ⟨.of rfl,trivial⟩ (F9 (gq rfl) trivial))⟩
 rintro _ ⟨g1,q1⟩
 refine A7 q1 (lr (fun u10 hu10=>D3 (oS y1 (24,g1)) rfl rfl (D3 (oS y1 (24,g1)) rfl rfl (A1 (C1 ?_)))))
 cases h
 exact A8 (.inr rfl) (D0 (C2 rfl) (A76 G_hit)) A75
noncomputable def A2e (p1:Zone)(p2:Int)(p3:Int):Option Bool:=
  (A23 p1 p2).bind fun v1=>(A23 p1 p3).bind fun v2=>some ((p1.Signal_==0)&& (v1.1.Rank==v2.1.Rank))
theorem B1q (p1:Zone)(p2:Int)(p3:Int)(r:Bool)(h:A2e p1 p2 p3=some r):PCall Try.prog 114 [(.agg [(.list (List.map M9 p1.Parts)),(i64 p1.Signal_)]),(i64 p2),(i64 p3)] (bo r):=by
 refine E1 (fk Try.func114 Try.ntmps114 m0 (by with_unfolding_all rfl)) (nl rfl) ?_
 unfold A2e at h
 refine A7 (s0:=⟨T [(0,(.d _)),(1,(.d _)),(2,(.d _))],G []⟩) (sbr rfl rfl) ?_
 refine lr (fun u1 hu1=>sn rfl rfl (sv rfl (A1 (lr (fun u2 hu2=>sd rfl (B9 rfl G_hit rfl rfl) (sv rfl (bs h fun v1 hv1 h=>B7 rfl rfl A3 (A4b _ _ _ hv1) (.inl rfl) (sv rfl (sv rfl (sv rfl (sn rfl rfl (sst rfl G_hit (A8c v1.1) rfl (sv rfl (A1 (lr (fun u3 hu3=>sd rfl (B9 rfl (gq rfl) rfl rfl) (sv rfl (bs h fun v2 hv2 h=>B7 rfl rfl A3 (A4b _ _ _ hv2) (.inl rfl) (sv rfl (sv rfl (sv rfl (sn rfl rfl (sst rfl G_hit (A8c v2.1) rfl (sv rfl (A1 (A5 (A7 (s0:=⟨T [(3,(.ptr _ _)),(7,(.ptr _ _)),(9,(.ptr _ _))],G [((3,u1),some (.box 69 _)),((7,u2),some (.box 71 _)),((9,u3),some (.box 71 _))]⟩) (sbr rfl rfl) ?_)))))))))))))))))))))))))))
 refine C3 fun u4 hu4=>sp rfl rfl (sl rfl G_hit rfl (sv rfl (sv rfl (gp rfl (A38 rfl) (fun _=>rfl) (gt rfl (vl rfl (gq rfl) rfl) (gp rfl (A38 rfl) (fun _=>rfl) (gt rfl (vl rfl (gq rfl) rfl) (gt rfl (fun w5=>(A5i (A6 w5) (A6 w5) rfl)) (sa rfl rfl rfl (sv rfl (A1 (C1 ?_))))))))))))
 cases h
 exact A8 (.inr rfl) (D0 (C2 rfl) M3) (.refl _)
noncomputable def K9 (p2:Int)(x1:((List Clash)×Int))(v1:Zone)(v3:Int)(v4:List Int)(x3:((List Clash)×Int)):Option (Stp ((List Clash)×Int) (List Clash)):=
  cond (decide (x3.2< (v4.length:Int))) ((F1 v4 x3.2).bind fun v5=>(A2e v1 v3 v5).bind fun v6=>cond v6 ((A9u x3.1 [(Clash.mk p2 x1.2 v3 v5)]).bind fun v7=>some (.go (v7,(w64 (x3.2+1))))) (some (.go (x3.1,(w64 (x3.2+1)))))) (some (.out x3.1))
noncomputable def L0 (p2:Int)(x1:((List Clash)×Int))(v1:Zone)(v2:(List Int))(x2:((List Clash)×Int)):Option (Stp ((List Clash)×Int) (List Clash)):=
  cond (decide (x2.2< (v2.length:Int))) ((F1 v2 x2.2).bind fun v3=>(C39 v2 (w64 (x2.2+1)) (v2.length:Int)).bind fun v4=>(loop (K9 p2 x1 v1 v3 v4) (x2.1,0)).bind fun y3=>some (.go (y3,(w64 (x2.2+1))))) (some (.out x2.1))
noncomputable def L3 (p1:Map)(p2:Int)(x1:((List Clash)×Int)):Option (Stp ((List Clash)×Int) (List Clash)):=
  cond (decide (x1.2< (p1.Zones.length:Int))) ((F1 p1.Zones x1.2).bind fun v1=>(Z5 p1 v1).bind fun v2=>(loop (L0 p2 x1 v1 v2) (x1.1,0)).bind fun y2=>some (.go (y2,(w64 (x1.2+1))))) (some (.out x1.1))
noncomputable def O2 (p1:Map)(p2:Int):Option (List Clash):=
  (loop (L3 p1 p2) ([],0)).bind fun y1=>some y1
theorem A4c (p1:Map)(p2:Int)(r:(List Clash))(h:O2 p1 p2=some r):PCall Try.prog 113 [(.agg (A12 p1)),(i64 p2),(.fn (.func 114) [] [])] (.list (List.map H7 r)):=by
 refine E1 (fk Try.func113 Try.ntmps113 (fun r=>if r==12 then [1006]else []) (by with_unfolding_all rfl)) (nl rfl) ?_
 unfold O2 at h
 refine A7 (s0:=⟨T [(0,(.d _)),(1,(.d _)),(2,(.d _))],G []⟩) (sbr rfl rfl) ?_
 refine lr (fun u1 hu1=>sn rfl rfl (sv rfl (A1 (A5 (lr (fun u2 hu2=>sp rfl rfl (sl rfl G_hit rfl (sd rfl (I8 rfl) (sv rfl (A1 (bs h fun y1 hy1 h=>F8 (fun s=> ∃g1:Nat,Sb ⟨T [(6,(oS y1 (53,g1)))],G [((53,g1),oB 145 4 H7 y1)]⟩ s) ?_ ?_)))))))))))
 refine A4 (G5 (L3 p1 p2) (fun (x1:((List Clash)×Int)) (g2:Nat)=>⟨T [(1,(di p2)),(2,(.d (.fn (.func 114) [] []))),(3,(.ptr (3,u1) 0)),(6,(oS x1.1 (53,g2))),(15,(dl Q8 p1.Zones)),(16,(di (p1.Zones.length:Int))),(17,(di x1.2))],G [((3,u1),some (.box 28 (A05 p1))),((53,g2),oB 145 4 H7 x1.1)]⟩) ([],0) 0 _ hy1 (F7 ⟨.of rfl, .of rfl, .of rfl, .of rfl, .of rfl, .of rfl, .of rfl,trivial⟩ (B3 G_hit (.of rfl) (V2 trivial))) ?_)
 intro x1 g2 z1 hz1 ez1
 unfold L3 at hz1
 refine lr (fun u3 hu3=>sv rfl (A1 (A5 (cc rfl hz1 (fun c1 hz1=> ?_) (fun c1 hz1=> ?_)))))
 refine B4 (A5 (A4 (lr (fun u4 hu4=>sv rfl (bs hz1 fun v1 hv1 hz1=>sd rfl (K6 rfl rfl hv1 rfl) (sd rfl (G1 rfl hv1 rfl rfl) (sn rfl rfl (sv rfl (sst rfl G_hit [(dl M9 v1.Parts),(di v1.Signal_)] rfl (A1 (lr (fun u5 hu5=>sd rfl (B9 rfl (gq rfl) rfl rfl) (sd rfl (B9 rfl G_hit rfl rfl) (bs hz1 fun v2 hv2 hz1=>B7 rfl rfl A3 (A3x _ _ _ hv2) (.inl rfl) (sv rfl (A1 (lr (fun u6 hu6=>sv rfl (sd rfl (I8 rfl) (sv rfl (A1 (bs hz1 fun y2 hy2 hz1=>F8 (fun s=> ∃g3:Nat,Sb ⟨T [(1,(di p2)),(2,(.d (.fn (.func 114) [] []))),(3,(.ptr (3,u1) 0)),(6,(oS y2 (53,g3))),(15,(dl Q8 p1.Zones)),(16,(di (p1.Zones.length:Int))),(17,(di x1.2))],G [((3,u1),some (.box 28 (A05 p1))),((53,g3),oB 145 4 H7 y2)]⟩ s) ?_ ?_))))))))))))))))))))))
 refine A4 (G5 (L0 p2 x1 v1 v2) (fun (x2:((List Clash)×Int)) (g4:Nat)=>⟨T [(1,(di p2)),(2,(.d (.fn (.func 114) [] []))),(3,(.ptr (3,u1) 0)),(6,(oS x2.1 (53,g4))),(7,(di x1.2)),(8,(.ptr (8,u4) 0)),(9,(dl A2 v2)),(15,(dl Q8 p1.Zones)),(16,(di (p1.Zones.length:Int))),(17,(di x1.2)),(25,(dl A2 v2)),(26,(di (v2.length:Int))),(27,(di x2.2))],G [((3,u1),some (.box 28 (A05 p1))),((8,u4),some (.box 69 [(dl M9 v1.Parts),(di v1.Signal_)])),((53,g4),oB 145 4 H7 x2.1)]⟩) (x1.1,0) g2 _ hy2 (F7 ⟨.of rfl, .of rfl, .of rfl, .of rfl, .of rfl, .of rfl, .of rfl, .of rfl, .of rfl, .of rfl, .of rfl, .of rfl, .of rfl,trivial⟩ (sg rfl (B3 G_hit (.of rfl) (F9 (gq rfl) trivial)))) ?_)
 intro x2 g4 z2 hz2 ez2
 unfold L0 at hz2
 refine lr (fun u7 hu7=>sv rfl (A1 (A5 (cc rfl hz2 (fun c2 hz2=> ?_) (fun c2 hz2=> ?_)))))
 refine B4 (A5 (A4 (lr (fun u8 hu8=>sv rfl (bs hz2 fun v3 hv3 hz2=>sd rfl (K6 rfl rfl hv3 rfl) (sd rfl (I4 rfl hv3 rfl) (sv rfl (sv rfl (A1 (lr (fun u9 hu9=>sv rfl (sv rfl (sv rfl (bs hz2 fun v4 hv4 hz2=>sd rfl (C4n rfl (fun _=>rfl) (C97 rfl) B93 hv4) (sd rfl (I8 rfl) (sv rfl (A1 (bs hz2 fun y3 hy3 hz2=>F8 (fun s=> ∃g5:Nat,Sb ⟨T [(1,(di p2)),(2,(.d (.fn (.func 114) [] []))),(3,(.ptr (3,u1) 0)),(6,(oS y3 (53,g5))),(7,(di x1.2)),(8,(.ptr (8,u4) 0)),(9,(dl A2 v2)),(15,(dl Q8 p1.Zones)),(16,(di (p1.Zones.length:Int))),(17,(di x1.2)),(25,(dl A2 v2)),(26,(di (v2.length:Int))),(27,(di x2.2))],G [((3,u1),some (.box 28 (A05 p1))),((8,u4),some (.box 69 [(dl M9 v1.Parts),(di v1.Signal_)])),((53,g5),oB 145 4 H7 y3)]⟩ s) ?_ ?_))))))))))))))))))
 refine A4 (G5 (K9 p2 x1 v1 v3 v4) (fun (x3:((List Clash)×Int)) (g6:Nat)=>⟨T [(1,(di p2)),(2,(.d (.fn (.func 114) [] []))),(3,(.ptr (3,u1) 0)),(6,(oS x3.1 (53,g6))),(7,(di x1.2)),(8,(.ptr (8,u4) 0)),(9,(dl A2 v2)),(11,(di v3)),(15,(dl Q8 p1.Zones)),(16,(di (p1.Zones.length:Int))),(17,(di x1.2)),(25,(dl A2 v2)),(26,(di (v2.length:Int))),(27,(di x2.2)),(35,(dl A2 v4)),(36,(di (v4.length:Int))),(37,(di x3.2))],G [((3,u1),some (.box 28 (A05 p1))),((8,u4),some (.box 69 [(dl M9 v1.Parts),(di v1.Signal_)])),((53,g6),oB 145 4 H7 x3.1)]⟩) (x2.1,0) g4 _ hy3 (F7 ⟨.of rfl, .of rfl, .of rfl, .of rfl, .of rfl, .of rfl, .of rfl, .of rfl, .of rfl, .of rfl, .of rfl, .of rfl, .of rfl, .of rfl, .of rfl, .of rfl, .of rfl,trivial⟩ (B3 G_hit (.of rfl) (sg rfl (F9 (gq rfl) trivial)))) ?_)
 intro x3 g6 z3 hz3 ez3
 unfold K9 at hz3
 refine lr (fun u10 hu10=>sv rfl (A1 (A5 (cc rfl hz3 (fun c3 hz3=> ?_) (fun c3 hz3=> ?_)))))
 refine B4 (A5 (A4 (lr (fun u11 hu11=>bs hz3 fun v5 hv5 hz3=>sd rfl (K6 rfl rfl hv5 rfl) (sd rfl (I4 rfl hv5 rfl) (sv rfl (A1 (lr (fun u12 hu12=>sv rfl (sd rfl (B9 rfl (gq rfl) rfl rfl) (sv rfl (sv rfl (bs hz3 fun v6 hv6 hz3=>B7 rfl rfl A3 (B1q _ _ _ _ hv6) (.inl rfl) (A1 (cc rfl hz3 (fun c4 hz3=> ?_) (fun c4 hz3=> ?_))))))))))))))))
 refine A7 (s0:=⟨T [(1,(di p2)),(2,(.d (.fn (.func 114) [] []))),(3,(.ptr (3,u1) 0)),(6,(oS x3.1 (53,g6))),(7,(di x1.2)),(8,(.ptr (8,u4) 0)),(9,(dl A2 v2)),(11,(di v3)),(13,(di v5)),(15,(dl Q8 p1.Zones)),(16,(di (p1.Zones.length:Int))),(17,(di x1.2)),(25,(dl A2 v2)),(26,(di (v2.length:Int))),(27,(di x2.2)),(35,(dl A2 v4)),(36,(di (v4.length:Int))),(37,(di x3.2))],G [((3,u1),some (.box 28 (A05 p1))),((53,g6),oB 145 4 H7 x3.1),((8,u4),some (.box 69 [(dl M9 v1.Parts),(di v1.Signal_)]))]⟩) (F7 ⟨.of rfl, .of rfl, .of rfl, .of rfl, .of rfl, .of rfl, .of rfl, .of rfl, .of rfl, .of rfl, .of rfl, .of rfl, .of rfl, .of rfl, .of rfl, .of rfl, .of rfl, .of rfl,trivial⟩ (B3 G_hit (.of rfl) (F9 (gq rfl) (sg rfl trivial)))) ?_
 refine C3 fun u13 hu13=>D3 (oS x3.1 (53,g6)) rfl rfl (sv rfl (sv rfl (sv rfl (sv rfl (sv rfl (D3 (dl H7 [(Clash.mk p2 x1.2 v3 v5)]) rfl rfl (bs hz3 fun v7 hv7 hz3=>A00 H7 (53,g6) x3.1 (Clash.mk p2 x1.2 v3 v5) [] _ (W6 (fun _=>rfl)) rfl (gq rfl) hv7 (ss rfl (A1 (I3 (A7 (s0:=⟨T [(1,(.d _)),(2,(.d _)),(3,(.ptr _ _)),(6,(.sl _)),(7,(.d _)),(8,(.ptr _ _)),(9,(.d _)),(11,(.d _)),(15,(.d _)),(16,(.d _)),(17,(.d _)),(25,(.d _)),(26,(.d _)),(27,(.d _)),(35,(.d _)),(36,(.d _)),(37,(.d _))],G [((3,u1),some (.box 28 _)),((53,u13),some _),((8,u4),some (.box 69 _))]⟩) (sbr rfl rfl) ?_)))))))))))
 refine C3 fun u14 hu14=>sv rfl (sv rfl (A1 (L6 ?_)))
 cases hz3
 exact ⟨rfl,u13,(F7 ⟨.of rfl, .of rfl, .of rfl,(.of (A2a (A3u hv7)).symm), .of rfl, .of rfl, .of rfl, .of rfl, .of rfl, .of rfl, .of rfl, .of rfl, .of rfl, .of rfl, .of rfl, .of rfl, .of rfl,trivial⟩ (B3 G_hit (.of rfl) (sg rfl (Q6 (gq rfl) trivial))))⟩
 refine B4 (I3 (A7 (s0:=⟨T [(1,(di p2)),(2,(.d (.fn (.func 114) [] []))),(3,(.ptr (3,u1) 0)),(6,(oS x3.1 (53,g6))),(7,(di x1.2)),(8,(.ptr (8,u4) 0)),(9,(dl A2 v2)),(11,(di v3)),(15,(dl Q8 p1.Zones)),(16,(di (p1.Zones.length:Int))),(17,(di x1.2)),(25,(dl A2 v2)),(26,(di (v2.length:Int))),(27,(di x2.2)),(35,(dl A2 v4)),(36,(di (v4.length:Int))),(37,(di x3.2))],G [((3,u1),some (.box 28 (A05 p1))),((53,g6),oB 145 4 H7 x3.1),((8,u4),some (.box 69 [(dl M9 v1.Parts),(di v1.Signal_)]))]⟩) (F7 ⟨.of rfl, .of rfl, .of rfl, .of rfl, .of rfl, .of rfl, .of rfl, .of rfl, .of rfl, .of rfl, .of rfl, .of rfl, .of rfl, .of rfl, .of rfl, .of rfl, .of rfl,trivial⟩ (B3 G_hit (.of rfl) (F9 (gq rfl) (sg rfl trivial)))) ?_))
 refine C3 fun u15 hu15=>sv rfl (sv rfl (A1 (L6 ?_)))
 cases hz3
 exact ⟨rfl,g6,(F7 ⟨.of rfl, .of rfl, .of rfl, .of rfl, .of rfl, .of rfl, .of rfl, .of rfl, .of rfl, .of rfl, .of rfl, .of rfl, .of rfl, .of rfl, .of rfl, .of rfl, .of rfl,trivial⟩ (B3 G_hit (.of rfl) (sg rfl (F9 (gq rfl) trivial))))⟩
 refine E3 rfl ?_
 cases hz3
 obtain rfl:=ez3 _ rfl
 refine ⟨nofun,D7 rfl (l_j ?_)⟩
 exact ⟨g6,(F7 ⟨.of rfl, .of rfl, .of rfl, .of rfl, .of rfl, .of rfl, .of rfl, .of rfl, .of rfl, .of rfl, .of rfl, .of rfl, .of rfl,trivial⟩ (B3 G_hit (.of rfl) (sg rfl (F9 (gq rfl) trivial))))⟩
 rintro _ ⟨g5,q1⟩
 refine I3 (A7 q1 (C3 fun u16 hu16=>sv rfl (sv rfl (A1 (L6 ?_)))))
 cases hz2
 exact ⟨rfl,g5,(F7 ⟨.of rfl, .of rfl, .of rfl, .of rfl, .of rfl, .of rfl, .of rfl, .of rfl, .of rfl, .of rfl, .of rfl, .of rfl, .of rfl,trivial⟩ (B3 G_hit (.of rfl) (sg rfl (F9 (gq rfl) trivial))))⟩
 refine E3 rfl ?_
 cases hz2
 obtain rfl:=ez2 _ rfl
 refine ⟨nofun,D7 rfl (l_j ?_)⟩
 exact ⟨g4,(F7 ⟨.of rfl, .of rfl, .of rfl, .of rfl, .of rfl, .of rfl, .of rfl,trivial⟩ (B3 G_hit (.of rfl) (F9 (gq rfl) trivial)))⟩
 rintro _ ⟨g3,q2⟩
 refine I3 (A7 q2 (C3 fun u17 hu17=>sv rfl (sv rfl (A1 (L6 ?_)))))
 cases hz1
 exact ⟨rfl,g3,(F7 ⟨.of rfl, .of rfl, .of rfl, .of rfl, .of rfl, .of rfl, .of rfl,trivial⟩ (B3 G_hit (.of rfl) (F9 (gq rfl) trivial)))⟩
 refine E3 rfl ?_
 cases hz1
 obtain rfl:=ez1 _ rfl
 refine ⟨nofun,D7 rfl (l_j ?_)⟩
 exact ⟨g2,(F7 ⟨.of rfl,trivial⟩ (F9 (gq rfl) trivial))⟩
 rintro _ ⟨g1,q3⟩
 refine A7 q3 (lr (fun u18 hu18=>D3 (oS y1 (53,g1)) rfl rfl (D3 (oS y1 (53,g1)) rfl rfl (A1 (C1 ?_)))))
 cases h
 exact A8 (.inr rfl) (D0 (C2 rfl) (A76 G_hit)) A75
noncomputable def A4r (p1:Map):Option (List Clash):=
  (O2 p1 3).bind fun v1=>some v1
theorem B3x (p1:Map)(r:(List Clash))(h:A4r p1=some r):PCall Try.prog 81 [(.agg (A12 p1))] (.list (List.map H7 r)):=by
 refine E1 (fk Try.func81 Try.ntmps81 m0 (by with_unfolding_all rfl)) (nl rfl) ?_
 unfold A4r at h
 refine A7 (s0:=⟨T [(0,(.d _))],G []⟩) (sbr rfl rfl) ?_
 refine lr (fun u1 hu1=>sn rfl rfl (sv rfl (A1 (lr (fun u2 hu2=>sd rfl (B9 rfl G_hit rfl rfl) (bs h fun v1 hv1 h=>B7 rfl rfl A3 (A4c _ _ _ hv1) (.inl rfl) (sv rfl (A1 (C1 ?_)))))))))
 cases h
 exact A8 (.inr rfl) (D0 (C2 rfl) M3) (.refl _)
noncomputable def T8 (p1:Phase)(p2:Int)(p3:Int):Option Bool:=
  (D8 p1.Green p2).bind fun v1=>((cond v1 (D8 p1.Green p3) (some default))).bind fun v2=>some (v1&&v2)
theorem A6i (p1:Phase)(p2:Int)(p3:Int)(r:Bool)(h:T8 p1 p2 p3=some r):PCall Try.prog 116 [(.agg [(i64 p1.Ticks),(.list (List.map A2 p1.Green))]),(.bp [(i64 p2)] 0),(.bp [(i64 p3)] 0)] (bo r):=by
 refine E1 (fk Try.func116 Try.ntmps116 m0 (by with_unfolding_all rfl)) (nl rfl) ?_
 unfold T8 at h
 refine A7 (s0:=⟨T [(0,(.d _)),(1,(.d _)),(2,(.d _))],G []⟩) (sbr rfl rfl) ?_
 refine lr (fun u1 hu1=>sn rfl rfl (sv rfl (A1 (lr (fun u2 hu2=>sp rfl rfl (sl rfl G_hit rfl (sv rfl (bs h fun v1 hv1 h=>B7 rfl rfl A3 (N1 _ _ _ hv1) (.inl rfl) (sv rfl (gp rfl (A38 rfl) (fun _=>rfl) (gt rfl (vl rfl G_hit rfl) (gt rfl (fun _=>rfl) (bs h fun v2 hv2 h=> ?_)))))))))))))
 refine V3 v1 (bo v2) (A38 rfl) (fun w4=>⟨_,[(dl A2 p1.Green),(di p3)],_,_,(by simp only [A6 w4];rfl),rfl,A3,N1 _ _ _ (G9 w4 hv2),(.inl rfl)⟩) ?_
 refine sa rfl rfl rfl (sv rfl (A1 (C1 ?_)))
 cases h
 exact A8 (.inr rfl) (D0 (C2 rfl) M3) (.refl _)
noncomputable def C4 (p1:(List Phase))(p2:Int)(p3:Int)(x1:Int):Option (Stp Int (Sum Unit Int)):=
  cond (decide (x1< (p1.length:Int))) ((F1 p1 x1).bind fun v1=>(T8 v1 p2 p3).bind fun v2=>cond v2 (some (.out (.inr x1))) (some (.go (w64 (x1+1))))) (some (.out (.inl ())))
noncomputable def C9 (p1:(List Phase))(p2:Int)(p3:Int):Option Int:=
  thenS (loop (C4 p1 p2 p3) 0) (fun _=>some (-1)) (fun r=>some r)
theorem V7 (p1:(List Phase))(p2:Int)(p3:Int)(r:Int)(h:C9 p1 p2 p3=some r):PCall Try.prog 107 [(.list (List.map A1c p1)),(.fn (.func 116) [] [(.bp [(i64 p2)] 0),(.bp [(i64 p3)] 0)])] (i64 r):=by
 refine E1 (fk Try.func107 Try.ntmps107 m0 (by with_unfolding_all rfl)) (nl rfl) ?_
 unfold C9 at h
 refine A7 (s0:=⟨T [(0,(.d _)),(1,(.d _))],G []⟩) (sbr rfl rfl) ?_
 refine lr (fun u1 hu1=>sv rfl (A1 (A5 (lr (fun u2 hu2=>sv rfl (sd rfl (I8 rfl) (sv rfl (A1 (js h fun z1 hz1 h=>F8 (fun s=> ∃(y1:Unit) (g1:Unit),z1= .inl y1∧Sb ⟨T [],G []⟩ s) ?_ ?_)))))))))
 refine A4 (G5 (C4 p1 p2 p3) (fun (x1:Int) (g2:Unit)=>⟨T [(0,(dl A1c p1)),(1,(.d (.fn (.func 116) [] [(.bp [(i64 p2)] 0),(.bp [(i64 p3)] 0)]))),(7,(di (p1.length:Int))),(8,(di x1))],G []⟩) 0 () _ hz1 (sbr rfl rfl) ?_)
 intro x1 g2 z2 hz2 ez2
 unfold C4 at hz2
 refine lr (fun u3 hu3=>sv rfl (A1 (A5 (cc rfl hz2 (fun c1 hz2=> ?_) (fun c1 hz2=> ?_)))))
 refine B4 (A5 (A4 (lr (fun u4 hu4=>sv rfl (sv rfl (A1 (lr (fun u5 hu5=>sv rfl (sv rfl (sv rfl (bs hz2 fun v1 hv1 hz2=>sd rfl (K6 rfl rfl hv1 rfl) (sd rfl (G1 rfl hv1 rfl rfl) (bs hz2 fun v2 hv2 hz2=>B7 rfl rfl A3 (A6i _ _ _ _ hv2) (.inl rfl) (A1 (cc rfl hz2 (fun c2 hz2=> ?_) (fun c2 hz2=> ?_))))))))))))))))
 refine lr (fun u6 hu6=>sv rfl (sv rfl (A1 (C1 ?_))))
 cases hz2
 obtain rfl:=ez2 _ rfl
 refine ⟨nofun,F2 ?_⟩
 rw [Sum.elim_inr]at h
 cases h
 exact A8 (.inr rfl) (D0 (C2 rfl) M3) (.refl _)
 refine B4 (I3 (C3 fun u7 hu7=>sv rfl (sv rfl (A1 (L6 ?_)))))
 cases hz2
 exact ⟨rfl,(),(sbr rfl rfl)⟩
 refine E3 rfl ?_
 cases hz2
 obtain rfl:=ez2 _ rfl
 refine ⟨nofun,D7 rfl (l_j ?_)⟩
 exact ⟨_,(),rfl,(sbr rfl rfl)⟩
 rintro _ ⟨y1,g1,rfl,q1⟩
 rw [Sum.elim_inl]at h
 refine A7 q1 (lr (fun u8 hu8=>sv rfl (A1 (C1 ?_))))
 cases h
 exact A8 (.inr rfl) (D0 (C2 rfl) M3) (.refl _)
noncomputable def C5 (p1:(List Phase))(p2:Int)(p3:Int):Option Bool:=
  (C9 p1 p2 p3).bind fun v1=>some (decide (v1≥0))
theorem U3 (p1:(List Phase))(p2:Int)(p3:Int)(r:Bool)(h:C5 p1 p2 p3=some r):PCall Try.prog 76 [(.list (List.map A1c p1)),(.fn (.func 116) [] [(.bp [(i64 p2)] 0),(.bp [(i64 p3)] 0)])] (bo r):=by
 refine E1 (fk Try.func76 Try.ntmps76 m0 (by with_unfolding_all rfl)) (nl rfl) ?_
 unfold C5 at h
 refine A7 (s0:=⟨T [(0,(.d _)),(1,(.d _))],G []⟩) (sbr rfl rfl) ?_
 refine lr (fun u1 hu1=>sv rfl (A1 (lr (fun u2 hu2=>sv rfl (sv rfl (bs h fun v1 hv1 h=>B7 rfl rfl A3 (V7 _ _ _ _ hv1) (.inl rfl) (sv rfl (sv rfl (A1 (C1 ?_))))))))))
 cases h
 exact A8 (.inr rfl) (D0 (C2 rfl) M3) (.refl _)
noncomputable def W7 (p1:Zone)(p2:Int)(p3:Int)(p4:Map):Option Bool:=
  ((cond (decide (p1.Signal_>0)) (F1 p4.Signals (w64 (p1.Signal_ - 1))) (some default))).bind fun v1=>((cond (decide (p1.Signal_>0)) (C5 v1.Phases p2 p3) (some default))).bind fun v2=>some ((decide (p1.Signal_>0))&&v2)
theorem A4s (p1:Zone)(p2:Int)(p3:Int)(p4:Map)(r:Bool)(h:W7 p1 p2 p3 p4=some r):PCall Try.prog 115 [(.agg [(.list (List.map M9 p1.Parts)),(i64 p1.Signal_)]),(i64 p2),(i64 p3),(.bp (A12 p4) 0)] (bo r):=by
 refine E1 (fk Try.func115 Try.ntmps115 m0 (by with_unfolding_all rfl)) (nl rfl) ?_
 unfold W7 at h
 refine A7 (s0:=⟨T [(0,(.d _)),(1,(.d _)),(2,(.d _)),(3,(.d _))],G []⟩) (sbr rfl rfl) ?_
 refine lr (fun u1 hu1=>sn rfl rfl (sn rfl rfl (sn rfl rfl (sv rfl (A1 (lr (fun u2 hu2=>sp rfl rfl (sl rfl (gq rfl) rfl (sv rfl (sv rfl (gt rfl (fun _=>rfl) ?_)))))))))))
 refine gt rfl (fun w2=>(by simp only [A6 w2];rfl)) ?_
 refine gp rfl (A38 rfl) (fun _=>rfl) (gt rfl (vl rfl (gq rfl) rfl) (gt rfl (vb rfl rfl rfl) (bs h fun v1 hv1 h=>gt rfl (fun w6=>(K6 (A6 w6) (A6 w6) (G9 w6 hv1) rfl)) ?_)))
 refine gt rfl (fun w7=>(by simp only [A6 w7];rfl)) ?_
 refine gt rfl (fun w8=>(I4 (A6 w8) (G9 w8 hv1) rfl)) (A1i _ (.fn _ _ _) rfl (A38 rfl) (fun _=>rfl) (bs h fun v2 hv2 h=> ?_))
 refine V3 _ (bo v2) (A38 rfl) (fun w10=>⟨_,[(dl A1c v1.Phases),(.fn (.func 116) [] [(.ptr (5,u1) 0),(.ptr (6,u1) 0)])],_,_,(by simp only [A6 w10];rfl),(rD (M5 (C0i M4 (M5 (A8r (gq rfl) (rD M4)) (M5 (A8r G_hit (rD M4)) M4))) M4)),A3,U3 _ _ _ _ (G9 w10 hv2),(.inr rfl)⟩) ?_
 refine sa rfl rfl rfl (sv rfl (A1 (C1 ?_)))
 cases h
 exact A8 (.inr rfl) (D0 (C2 rfl) M3) (.refl _)
noncomputable def R7 (p2:Int)(p3:Map)(x1:((List Clash)×Int))(v1:Zone)(v3:Int)(v4:List Int)(x3:((List Clash)×Int)):Option (Stp ((List Clash)×Int) (List Clash)):=
  cond (decide (x3.2< (v4.length:Int))) ((F1 v4 x3.2).bind fun v5=>(W7 v1 v3 v5 p3).bind fun v6=>cond v6 ((A9u x3.1 [(Clash.mk p2 x1.2 v3 v5)]).bind fun v7=>some (.go (v7,(w64 (x3.2+1))))) (some (.go (x3.1,(w64 (x3.2+1)))))) (some (.out x3.1))
noncomputable def R8 (p2:Int)(p3:Map)(x1:((List Clash)×Int))(v1:Zone)(v2:(List Int))(x2:((List Clash)×Int)):Option (Stp ((List Clash)×Int) (List Clash)):=
  cond (decide (x2.2< (v2.length:Int))) ((F1 v2 x2.2).bind fun v3=>(C39 v2 (w64 (x2.2+1)) (v2.length:Int)).bind fun v4=>(loop (R7 p2 p3 x1 v1 v3 v4) (x2.1,0)).bind fun y3=>some (.go (y3,(w64 (x2.2+1))))) (some (.out x2.1))
noncomputable def R9 (p1:Map)(p2:Int)(p3:Map)(x1:((List Clash)×Int)):Option (Stp ((List Clash)×Int) (List Clash)):=
  cond (decide (x1.2< (p1.Zones.length:Int))) ((F1 p1.Zones x1.2).bind fun v1=>(Z5 p1 v1).bind fun v2=>(loop (R8 p2 p3 x1 v1 v2) (x1.1,0)).bind fun y2=>some (.go (y2,(w64 (x1.2+1))))) (some (.out x1.1))
noncomputable def A0o (p1:Map)(p2:Int)(p3:Map):Option (List Clash):=
  (loop (R9 p1 p2 p3) ([],0)).bind fun y1=>some y1
theorem B1i (p1:Map)(p2:Int)(p3:Map)(r:(List Clash))(h:A0o p1 p2 p3=some r):PCall Try.prog 113 [(.agg (A12 p1)),(i64 p2),(.fn (.func 115) [] [(.bp (A12 p3) 0)])] (.list (List.map H7 r)):=by
 refine E1 (fk Try.func113 Try.ntmps113 (fun r=>if r==12 then [1006]else []) (by with_unfolding_all rfl)) (nl rfl) ?_
 unfold A0o at h
 refine A7 (s0:=⟨T [(0,(.d _)),(1,(.d _)),(2,(.d _))],G []⟩) (sbr rfl rfl) ?_
 refine lr (fun u1 hu1=>sn rfl rfl (sv rfl (A1 (A5 (lr (fun u2 hu2=>sp rfl rfl (sl rfl G_hit rfl (sd rfl (I8 rfl) (sv rfl (A1 (bs h fun y1 hy1 h=>F8 (fun s=> ∃g1:Nat,Sb ⟨T [(6,(oS y1 (53,g1)))],G [((53,g1),oB 145 4 H7 y1)]⟩ s) ?_ ?_)))))))))))
 refine A4 (G5 (R9 p1 p2 p3) (fun (x1:((List Clash)×Int)) (g2:Nat)=>⟨T [(1,(di p2)),(2,(.d (.fn (.func 115) [] [(.bp (A12 p3) 0)]))),(3,(.ptr (3,u1) 0)),(6,(oS x1.1 (53,g2))),(15,(dl Q8 p1.Zones)),(16,(di (p1.Zones.length:Int))),(17,(di x1.2))],G [((3,u1),some (.box 28 (A05 p1))),((53,g2),oB 145 4 H7 x1.1)]⟩) ([],0) 0 _ hy1 (F7 ⟨.of rfl, .of rfl, .of rfl, .of rfl, .of rfl, .of rfl, .of rfl,trivial⟩ (B3 G_hit (.of rfl) (V2 trivial))) ?_)
 intro x1 g2 z1 hz1 ez1
 unfold R9 at hz1
 refine lr (fun u3 hu3=>sv rfl (A1 (A5 (cc rfl hz1 (fun c1 hz1=> ?_) (fun c1 hz1=> ?_)))))
 refine B4 (A5 (A4 (lr (fun u4 hu4=>sv rfl (bs hz1 fun v1 hv1 hz1=>sd rfl (K6 rfl rfl hv1 rfl) (sd rfl (G1 rfl hv1 rfl rfl) (sn rfl rfl (sv rfl (sst rfl G_hit [(dl M9 v1.Parts),(di v1.Signal_)] rfl (A1 (lr (fun u5 hu5=>sd rfl (B9 rfl (gq rfl) rfl rfl) (sd rfl (B9 rfl G_hit rfl rfl) (bs hz1 fun v2 hv2 hz1=>B7 rfl rfl A3 (A3x _ _ _ hv2) (.inl rfl) (sv rfl (A1 (lr (fun u6 hu6=>sv rfl (sd rfl (I8 rfl) (sv rfl (A1 (bs hz1 fun y2 hy2 hz1=>F8 (fun s=> ∃g3:Nat,Sb ⟨T [(1,(di p2)),(2,(.d (.fn (.func 115) [] [(.bp (A12 p3) 0)]))),(3,(.ptr (3,u1) 0)),(6,(oS y2 (53,g3))),(15,(dl Q8 p1.Zones)),(16,(di (p1.Zones.length:Int))),(17,(di x1.2))],G [((3,u1),some (.box 28 (A05 p1))),((53,g3),oB 145 4 H7 y2)]⟩ s) ?_ ?_))))))))))))))))))))))
 refine A4 (G5 (R8 p2 p3 x1 v1 v2) (fun (x2:((List Clash)×Int)) (g4:Nat)=>⟨T [(1,(di p2)),(2,(.d (.fn (.func 115) [] [(.bp (A12 p3) 0)]))),(3,(.ptr (3,u1) 0)),(6,(oS x2.1 (53,g4))),(7,(di x1.2)),(8,(.ptr (8,u4) 0)),(9,(dl A2 v2)),(15,(dl Q8 p1.Zones)),(16,(di (p1.Zones.length:Int))),(17,(di x1.2)),(25,(dl A2 v2)),(26,(di (v2.length:Int))),(27,(di x2.2))],G [((3,u1),some (.box 28 (A05 p1))),((8,u4),some (.box 69 [(dl M9 v1.Parts),(di v1.Signal_)])),((53,g4),oB 145 4 H7 x2.1)]⟩) (x1.1,0) g2 _ hy2 (F7 ⟨.of rfl, .of rfl, .of rfl, .of rfl, .of rfl, .of rfl, .of rfl, .of rfl, .of rfl, .of rfl, .of rfl, .of rfl, .of rfl,trivial⟩ (sg rfl (B3 G_hit (.of rfl) (F9 (gq rfl) trivial)))) ?_)
 intro x2 g4 z2 hz2 ez2
 unfold R8 at hz2
 refine lr (fun u7 hu7=>sv rfl (A1 (A5 (cc rfl hz2 (fun c2 hz2=> ?_) (fun c2 hz2=> ?_)))))
 refine B4 (A5 (A4 (lr (fun u8 hu8=>sv rfl (bs hz2 fun v3 hv3 hz2=>sd rfl (K6 rfl rfl hv3 rfl) (sd rfl (I4 rfl hv3 rfl) (sv rfl (sv rfl (A1 (lr (fun u9 hu9=>sv rfl (sv rfl (sv rfl (bs hz2 fun v4 hv4 hz2=>sd rfl (C4n rfl (fun _=>rfl) (C97 rfl) B93 hv4) (sd rfl (I8 rfl) (sv rfl (A1 (bs hz2 fun y3 hy3 hz2=>F8 (fun s=> ∃g5:Nat,Sb ⟨T [(1,(di p2)),(2,(.d (.fn (.func 115) [] [(.bp (A12 p3) 0)]))),(3,(.ptr (3,u1) 0)),(6,(oS y3 (53,g5))),(7,(di x1.2)),(8,(.ptr (8,u4) 0)),(9,(dl A2 v2)),(15,(dl Q8 p1.Zones)),(16,(di (p1.Zones.length:Int))),(17,(di x1.2)),(25,(dl A2 v2)),(26,(di (v2.length:Int))),(27,(di x2.2))],G [((3,u1),some (.box 28 (A05 p1))),((8,u4),some (.box 69 [(dl M9 v1.Parts),(di v1.Signal_)])),((53,g5),oB 145 4 H7 y3)]⟩ s) ?_ ?_))))))))))))))))))
 refine A4 (G5 (R7 p2 p3 x1 v1 v3 v4) (fun (x3:((List Clash)×Int)) (g6:Nat)=>⟨T [(1,(di p2)),(2,(.d (.fn (.func 115) [] [(.bp (A12 p3) 0)]))),(3,(.ptr (3,u1) 0)),(6,(oS x3.1 (53,g6))),(7,(di x1.2)),(8,(.ptr (8,u4) 0)),(9,(dl A2 v2)),(11,(di v3)),(15,(dl Q8 p1.Zones)),(16,(di (p1.Zones.length:Int))),(17,(di x1.2)),(25,(dl A2 v2)),(26,(di (v2.length:Int))),(27,(di x2.2)),(35,(dl A2 v4)),(36,(di (v4.length:Int))),(37,(di x3.2))],G [((3,u1),some (.box 28 (A05 p1))),((8,u4),some (.box 69 [(dl M9 v1.Parts),(di v1.Signal_)])),((53,g6),oB 145 4 H7 x3.1)]⟩) (x2.1,0) g4 _ hy3 (F7 ⟨.of rfl, .of rfl, .of rfl, .of rfl, .of rfl, .of rfl, .of rfl, .of rfl, .of rfl, .of rfl, .of rfl, .of rfl, .of rfl, .of rfl, .of rfl, .of rfl, .of rfl,trivial⟩ (B3 G_hit (.of rfl) (sg rfl (F9 (gq rfl) trivial)))) ?_)
 intro x3 g6 z3 hz3 ez3
 unfold R7 at hz3
 refine lr (fun u10 hu10=>sv rfl (A1 (A5 (cc rfl hz3 (fun c3 hz3=> ?_) (fun c3 hz3=> ?_)))))
 refine B4 (A5 (A4 (lr (fun u11 hu11=>bs hz3 fun v5 hv5 hz3=>sd rfl (K6 rfl rfl hv5 rfl) (sd rfl (I4 rfl hv5 rfl) (sv rfl (A1 (lr (fun u12 hu12=>sv rfl (sd rfl (B9 rfl (gq rfl) rfl rfl) (sv rfl (sv rfl (bs hz3 fun v6 hv6 hz3=>B7 rfl rfl A3 (A4s _ _ _ _ _ hv6) (.inl rfl) (A1 (cc rfl hz3 (fun c4 hz3=> ?_) (fun c4 hz3=> ?_))))))))))))))))
 refine A7 (s0:=⟨T [(1,(di p2)),(2,(.d (.fn (.func 115) [] [(.bp (A12 p3) 0)]))),(3,(.ptr (3,u1) 0)),(6,(oS x3.1 (53,g6))),(7,(di x1.2)),(8,(.ptr (8,u4) 0)),(9,(dl A2 v2)),(11,(di v3)),(13,(di v5)),(15,(dl Q8 p1.Zones)),(16,(di (p1.Zones.length:Int))),(17,(di x1.2)),(25,(dl A2 v2)),(26,(di (v2.length:Int))),(27,(di x2.2)),(35,(dl A2 v4)),(36,(di (v4.length:Int))),(37,(di x3.2))],G [((3,u1),some (.box 28 (A05 p1))),((53,g6),oB 145 4 H7 x3.1),((8,u4),some (.box 69 [(dl M9 v1.Parts),(di v1.Signal_)]))]⟩) (F7 ⟨.of rfl, .of rfl, .of rfl, .of rfl, .of rfl, .of rfl, .of rfl, .of rfl, .of rfl, .of rfl, .of rfl, .of rfl, .of rfl, .of rfl, .of rfl, .of rfl, .of rfl, .of rfl,trivial⟩ (B3 G_hit (.of rfl) (F9 (gq rfl) (sg rfl trivial)))) ?_
 refine C3 fun u13 hu13=>D3 (oS x3.1 (53,g6)) rfl rfl (sv rfl (sv rfl (sv rfl (sv rfl (sv rfl (D3 (dl H7 [(Clash.mk p2 x1.2 v3 v5)]) rfl rfl (bs hz3 fun v7 hv7 hz3=>A00 H7 (53,g6) x3.1 (Clash.mk p2 x1.2 v3 v5) [] _ (W6 (fun _=>rfl)) rfl (gq rfl) hv7 (ss rfl (A1 (I3 (A7 (s0:=⟨T [(1,(.d _)),(2,(.d _)),(3,(.ptr _ _)),(6,(.sl _)),(7,(.d _)),(8,(.ptr _ _)),(9,(.d _)),(11,(.d _)),(15,(.d _)),(16,(.d _)),(17,(.d _)),(25,(.d _)),(26,(.d _)),(27,(.d _)),(35,(.d _)),(36,(.d _)),(37,(.d _))],G [((3,u1),some (.box 28 _)),((53,u13),some _),((8,u4),some (.box 69 _))]⟩) (sbr rfl rfl) ?_)))))))))))
 refine C3 fun u14 hu14=>sv rfl (sv rfl (A1 (L6 ?_)))
 cases hz3
 exact ⟨rfl,u13,(F7 ⟨.of rfl, .of rfl, .of rfl,(.of (A2a (A3u hv7)).symm), .of rfl, .of rfl, .of rfl, .of rfl, .of rfl, .of rfl, .of rfl, .of rfl, .of rfl, .of rfl, .of rfl, .of rfl, .of rfl,trivial⟩ (B3 G_hit (.of rfl) (sg rfl (Q6 (gq rfl) trivial))))⟩
 refine B4 (I3 (A7 (s0:=⟨T [(1,(di p2)),(2,(.d (.fn (.func 115) [] [(.bp (A12 p3) 0)]))),(3,(.ptr (3,u1) 0)),(6,(oS x3.1 (53,g6))),(7,(di x1.2)),(8,(.ptr (8,u4) 0)),(9,(dl A2 v2)),(11,(di v3)),(15,(dl Q8 p1.Zones)),(16,(di (p1.Zones.length:Int))),(17,(di x1.2)),(25,(dl A2 v2)),(26,(di (v2.length:Int))),(27,(di x2.2)),(35,(dl A2 v4)),(36,(di (v4.length:Int))),(37,(di x3.2))],G [((3,u1),some (.box 28 (A05 p1))),((53,g6),oB 145 4 H7 x3.1),((8,u4),some (.box 69 [(dl M9 v1.Parts),(di v1.Signal_)]))]⟩) (F7 ⟨.of rfl, .of rfl, .of rfl, .of rfl, .of rfl, .of rfl, .of rfl, .of rfl, .of rfl, .of rfl, .of rfl, .of rfl, .of rfl, .of rfl, .of rfl, .of rfl, .of rfl,trivial⟩ (B3 G_hit (.of rfl) (F9 (gq rfl) (sg rfl trivial)))) ?_))
 refine C3 fun u15 hu15=>sv rfl (sv rfl (A1 (L6 ?_)))
 cases hz3
 exact ⟨rfl,g6,(F7 ⟨.of rfl, .of rfl, .of rfl, .of rfl, .of rfl, .of rfl, .of rfl, .of rfl, .of rfl, .of rfl, .of rfl, .of rfl, .of rfl, .of rfl, .of rfl, .of rfl, .of rfl,trivial⟩ (B3 G_hit (.of rfl) (sg rfl (F9 (gq rfl) trivial))))⟩
 refine E3 rfl ?_
 cases hz3
 obtain rfl:=ez3 _ rfl
 refine ⟨nofun,D7 rfl (l_j ?_)⟩
 exact ⟨g6,(F7 ⟨.of rfl, .of rfl, .of rfl, .of rfl, .of rfl, .of rfl, .of rfl, .of rfl, .of rfl, .of rfl, .of rfl, .of rfl, .of rfl,trivial⟩ (B3 G_hit (.of rfl) (sg rfl (F9 (gq rfl) trivial))))⟩
 rintro _ ⟨g5,q1⟩
 refine I3 (A7 q1 (C3 fun u16 hu16=>sv rfl (sv rfl (A1 (L6 ?_)))))
 cases hz2
 exact ⟨rfl,g5,(F7 ⟨.of rfl, .of rfl, .of rfl, .of rfl, .of rfl, .of rfl, .of rfl, .of rfl, .of rfl, .of rfl, .of rfl, .of rfl, .of rfl,trivial⟩ (B3 G_hit (.of rfl) (sg rfl (F9 (gq rfl) trivial))))⟩
 refine E3 rfl ?_
 cases hz2
 obtain rfl:=ez2 _ rfl
 refine ⟨nofun,D7 rfl (l_j ?_)⟩
 exact ⟨g4,(F7 ⟨.of rfl, .of rfl, .of rfl, .of rfl, .of rfl, .of rfl, .of rfl,trivial⟩ (B3 G_hit (.of rfl) (F9 (gq rfl) trivial)))⟩
 rintro _ ⟨g3,q2⟩
 refine I3 (A7 q2 (C3 fun u17 hu17=>sv rfl (sv rfl (A1 (L6 ?_)))))
 cases hz1
 exact ⟨rfl,g3,(F7 ⟨.of rfl, .of rfl, .of rfl, .of rfl, .of rfl, .of rfl, .of rfl,trivial⟩ (B3 G_hit (.of rfl) (F9 (gq rfl) trivial)))⟩
 refine E3 rfl ?_
 cases hz1
 obtain rfl:=ez1 _ rfl
 refine ⟨nofun,D7 rfl (l_j ?_)⟩
 exact ⟨g2,(F7 ⟨.of rfl,trivial⟩ (F9 (gq rfl) trivial))⟩
 rintro _ ⟨g1,q3⟩
 refine A7 q3 (lr (fun u18 hu18=>D3 (oS y1 (53,g1)) rfl rfl (D3 (oS y1 (53,g1)) rfl rfl (A1 (C1 ?_)))))
 cases h
 exact A8 (.inr rfl) (D0 (C2 rfl) (A76 G_hit)) A75
noncomputable def J1 (p2:Int)(p3:Map)(x1:((List Clash)×Int))(v1:Zone)(v3:Int)(v4:List Int)(x3:((List Clash)×Int)):Option (Stp ((List Clash)×Int) (List Clash)):=
  cond (decide (x3.2< (v4.length:Int))) ((F1 v4 x3.2).bind fun v5=>(W7 v1 v3 v5 p3).bind fun v6=>cond v6 ((A9u x3.1 [(Clash.mk p2 x1.2 v3 v5)]).bind fun v7=>some (.go (v7,(w64 (x3.2+1))))) (some (.go (x3.1,(w64 (x3.2+1)))))) (some (.out x3.1))
noncomputable def J2 (p2:Int)(p3:Map)(x1:((List Clash)×Int))(v1:Zone)(v2:(List Int))(x2:((List Clash)×Int)):Option (Stp ((List Clash)×Int) (List Clash)):=
  cond (decide (x2.2< (v2.length:Int))) ((F1 v2 x2.2).bind fun v3=>(C39 v2 (w64 (x2.2+1)) (v2.length:Int)).bind fun v4=>(loop (J1 p2 p3 x1 v1 v3 v4) (x2.1,0)).bind fun y3=>some (.go (y3,(w64 (x2.2+1))))) (some (.out x2.1))
noncomputable def J3 (p1:Map)(p2:Int)(p3:Map)(x1:((List Clash)×Int)):Option (Stp ((List Clash)×Int) (List Clash)):=
  cond (decide (x1.2< (p1.Zones.length:Int))) ((F1 p1.Zones x1.2).bind fun v1=>(Z5 p1 v1).bind fun v2=>(loop (J2 p2 p3 x1 v1 v2) (x1.1,0)).bind fun y2=>some (.go (y2,(w64 (x1.2+1))))) (some (.out x1.1))
noncomputable def M2 (p1:Map)(p2:Int)(p3:Map):Option (List Clash):=
  (loop (J3 p1 p2 p3) ([],0)).bind fun y1=>some y1
theorem A3m (p1:Map)(p2:Int)(p3:Map)(r:(List Clash))(h:M2 p1 p2 p3=some r):MCall Try.prog 113 [(.d (.agg (A12 p1))),(di p2),(.fn (.func 115) [] [(.ptr (900000,0) 0)])] [(.box 28 (A05 p3))] (dl H7 r) [some (.box 28 (A05 p3))] []:=by
 refine A9a (fk Try.func113 Try.ntmps113 (fun r=>if r==12 then [1006]else []) (by with_unfolding_all rfl)) rfl (nl rfl) ?_
 unfold M2 at h
 refine A7 (s0:=⟨T [(0,(.d _)),(1,(.d _)),(2,(.fn _ _ _))],G [((900000,0),some (.box 28 _))]⟩) (sbr rfl rfl) ?_
 refine lr (fun u1 hu1=>sn rfl rfl (sv rfl (A1 (A5 (lr (fun u2 hu2=>sp rfl rfl (sl rfl G_hit rfl (sd rfl (I8 rfl) (sv rfl (A1 (bs h fun y1 hy1 h=>F8 (fun s=> ∃g1:Nat,Sb ⟨T [(2,(.fn (.func 115) [] [(.ptr (900000,0) 0)])),(6,(oS y1 (53,g1)))],G [((900000,0),some (.box 28 (A05 p3))),((53,g1),oB 145 4 H7 y1)]⟩ s) ?_ ?_)))))))))))
 refine A4 (G5 (J3 p1 p2 p3) (fun (x1:((List Clash)×Int)) (g2:Nat)=>⟨T [(1,(di p2)),(2,(.fn (.func 115) [] [(.ptr (900000,0) 0)])),(3,(.ptr (3,u1) 0)),(6,(oS x1.1 (53,g2))),(15,(dl Q8 p1.Zones)),(16,(di (p1.Zones.length:Int))),(17,(di x1.2))],G [((900000,0),some (.box 28 (A05 p3))),((3,u1),some (.box 28 (A05 p1))),((53,g2),oB 145 4 H7 x1.1)]⟩) ([],0) 0 _ hy1 (F7 ⟨.of rfl, .of rfl, .of rfl, .of rfl, .of rfl, .of rfl, .of rfl,trivial⟩ (sg rfl (B3 G_hit (.of rfl) (V2 trivial)))) ?_)
 intro x1 g2 z1 hz1 ez1
 unfold J3 at hz1
 refine lr (fun u3 hu3=>sv rfl (A1 (A5 (cc rfl hz1 (fun c1 hz1=> ?_) (fun c1 hz1=> ?_)))))
 refine B4 (A5 (A4 (lr (fun u4 hu4=>sv rfl (bs hz1 fun v1 hv1 hz1=>sd rfl (K6 rfl rfl hv1 rfl) (sd rfl (G1 rfl hv1 rfl rfl) (sn rfl rfl (sv rfl (sst rfl G_hit [(dl M9 v1.Parts),(di v1.Signal_)] rfl (A1 (lr (fun u5 hu5=>sd rfl (B9 rfl (gq rfl) rfl rfl) (sd rfl (B9 rfl G_hit rfl rfl) (bs hz1 fun v2 hv2 hz1=>B7 rfl rfl A3 (A3x _ _ _ hv2) (.inl rfl) (sv rfl (A1 (lr (fun u6 hu6=>sv rfl (sd rfl (I8 rfl) (sv rfl (A1 (bs hz1 fun y2 hy2 hz1=>F8 (fun s=> ∃g3:Nat,Sb ⟨T [(1,(di p2)),(2,(.fn (.func 115) [] [(.ptr (900000,0) 0)])),(3,(.ptr (3,u1) 0)),(6,(oS y2 (53,g3))),(15,(dl Q8 p1.Zones)),(16,(di (p1.Zones.length:Int))),(17,(di x1.2))],G [((900000,0),some (.box 28 (A05 p3))),((3,u1),some (.box 28 (A05 p1))),((53,g3),oB 145 4 H7 y2)]⟩ s) ?_ ?_))))))))))))))))))))))
 refine A4 (G5 (J2 p2 p3 x1 v1 v2) (fun (x2:((List Clash)×Int)) (g4:Nat)=>⟨T [(1,(di p2)),(2,(.fn (.func 115) [] [(.ptr (900000,0) 0)])),(3,(.ptr (3,u1) 0)),(6,(oS x2.1 (53,g4))),(7,(di x1.2)),(8,(.ptr (8,u4) 0)),(9,(dl A2 v2)),(15,(dl Q8 p1.Zones)),(16,(di (p1.Zones.length:Int))),(17,(di x1.2)),(25,(dl A2 v2)),(26,(di (v2.length:Int))),(27,(di x2.2))],G [((900000,0),some (.box 28 (A05 p3))),((3,u1),some (.box 28 (A05 p1))),((8,u4),some (.box 69 [(dl M9 v1.Parts),(di v1.Signal_)])),((53,g4),oB 145 4 H7 x2.1)]⟩) (x1.1,0) g2 _ hy2 (F7 ⟨.of rfl, .of rfl, .of rfl, .of rfl, .of rfl, .of rfl, .of rfl, .of rfl, .of rfl, .of rfl, .of rfl, .of rfl, .of rfl,trivial⟩ (sg rfl (sg rfl (B3 G_hit (.of rfl) (F9 (gq rfl) trivial))))) ?_)
 intro x2 g4 z2 hz2 ez2
 unfold J2 at hz2
 refine lr (fun u7 hu7=>sv rfl (A1 (A5 (cc rfl hz2 (fun c2 hz2=> ?_) (fun c2 hz2=> ?_)))))
 refine B4 (A5 (A4 (lr (fun u8 hu8=>sv rfl (bs hz2 fun v3 hv3 hz2=>sd rfl (K6 rfl rfl hv3 rfl) (sd rfl (I4 rfl hv3 rfl) (sv rfl (sv rfl (A1 (lr (fun u9 hu9=>sv rfl (sv rfl (sv rfl (bs hz2 fun v4 hv4 hz2=>sd rfl (C4n rfl (fun _=>rfl) (C97 rfl) B93 hv4) (sd rfl (I8 rfl) (sv rfl (A1 (bs hz2 fun y3 hy3 hz2=>F8 (fun s=> ∃g5:Nat,Sb ⟨T [(1,(di p2)),(2,(.fn (.func 115) [] [(.ptr (900000,0) 0)])),(3,(.ptr (3,u1) 0)),(6,(oS y3 (53,g5))),(7,(di x1.2)),(8,(.ptr (8,u4) 0)),(9,(dl A2 v2)),(15,(dl Q8 p1.Zones)),(16,(di (p1.Zones.length:Int))),(17,(di x1.2)),(25,(dl A2 v2)),(26,(di (v2.length:Int))),(27,(di x2.2))],G [((900000,0),some (.box 28 (A05 p3))),((3,u1),some (.box 28 (A05 p1))),((8,u4),some (.box 69 [(dl M9 v1.Parts),(di v1.Signal_)])),((53,g5),oB 145 4 H7 y3)]⟩ s) ?_ ?_))))))))))))))))))
 refine A4 (G5 (J1 p2 p3 x1 v1 v3 v4) (fun (x3:((List Clash)×Int)) (g6:Nat)=>⟨T [(1,(di p2)),(2,(.fn (.func 115) [] [(.ptr (900000,0) 0)])),(3,(.ptr (3,u1) 0)),(6,(oS x3.1 (53,g6))),(7,(di x1.2)),(8,(.ptr (8,u4) 0)),(9,(dl A2 v2)),(11,(di v3)),(15,(dl Q8 p1.Zones)),(16,(di (p1.Zones.length:Int))),(17,(di x1.2)),(25,(dl A2 v2)),(26,(di (v2.length:Int))),(27,(di x2.2)),(35,(dl A2 v4)),(36,(di (v4.length:Int))),(37,(di x3.2))],G [((900000,0),some (.box 28 (A05 p3))),((3,u1),some (.box 28 (A05 p1))),((8,u4),some (.box 69 [(dl M9 v1.Parts),(di v1.Signal_)])),((53,g6),oB 145 4 H7 x3.1)]⟩) (x2.1,0) g4 _ hy3 (F7 ⟨.of rfl, .of rfl, .of rfl, .of rfl, .of rfl, .of rfl, .of rfl, .of rfl, .of rfl, .of rfl, .of rfl, .of rfl, .of rfl, .of rfl, .of rfl, .of rfl, .of rfl,trivial⟩ (B3 G_hit (.of rfl) (sg rfl (sg rfl (F9 (gq rfl) trivial))))) ?_)
 intro x3 g6 z3 hz3 ez3
 unfold J1 at hz3
 refine lr (fun u10 hu10=>sv rfl (A1 (A5 (cc rfl hz3 (fun c3 hz3=> ?_) (fun c3 hz3=> ?_)))))
 refine B4 (A5 (A4 (lr (fun u11 hu11=>bs hz3 fun v5 hv5 hz3=>sd rfl (K6 rfl rfl hv5 rfl) (sd rfl (I4 rfl hv5 rfl) (sv rfl (A1 (lr (fun u12 hu12=>D3 (.fn _ _ _) rfl rfl (sd rfl (B9 rfl (gq rfl) rfl rfl) (sv rfl (sv rfl (bs hz3 fun v6 hv6 hz3=>B7 rfl (rD (rD (rD (M5 (A8r G_hit (rD (rD (rD (rD (rD M4)))))) M4)))) A3 (A4s _ _ _ _ _ hv6) (.inr rfl) (A1 (cc rfl hz3 (fun c4 hz3=> ?_) (fun c4 hz3=> ?_))))))))))))))))
 refine A7 (s0:=⟨T [(1,(di p2)),(2,(.fn (.func 115) [] [(.ptr (900000,0) 0)])),(3,(.ptr (3,u1) 0)),(6,(oS x3.1 (53,g6))),(7,(di x1.2)),(8,(.ptr (8,u4) 0)),(9,(dl A2 v2)),(11,(di v3)),(13,(di v5)),(15,(dl Q8 p1.Zones)),(16,(di (p1.Zones.length:Int))),(17,(di x1.2)),(25,(dl A2 v2)),(26,(di (v2.length:Int))),(27,(di x2.2)),(35,(dl A2 v4)),(36,(di (v4.length:Int))),(37,(di x3.2))],G [((900000,0),some (.box 28 (A05 p3))),((3,u1),some (.box 28 (A05 p1))),((53,g6),oB 145 4 H7 x3.1),((8,u4),some (.box 69 [(dl M9 v1.Parts),(di v1.Signal_)]))]⟩) (F7 ⟨.of rfl, .of rfl, .of rfl, .of rfl, .of rfl, .of rfl, .of rfl, .of rfl, .of rfl, .of rfl, .of rfl, .of rfl, .of rfl, .of rfl, .of rfl, .of rfl, .of rfl, .of rfl,trivial⟩ (B3 G_hit (.of rfl) (sg rfl (F9 (gq rfl) (sg rfl trivial))))) ?_
 refine C3 fun u13 hu13=>D3 (oS x3.1 (53,g6)) rfl rfl (sv rfl (sv rfl (sv rfl (sv rfl (sv rfl (D3 (dl H7 [(Clash.mk p2 x1.2 v3 v5)]) rfl rfl (bs hz3 fun v7 hv7 hz3=>A00 H7 (53,g6) x3.1 (Clash.mk p2 x1.2 v3 v5) [] _ (W6 (fun _=>rfl)) rfl (gq rfl) hv7 (ss rfl (A1 (I3 (A7 (s0:=⟨T [(1,(.d _)),(2,(.fn _ _ _)),(3,(.ptr _ _)),(6,(.sl _)),(7,(.d _)),(8,(.ptr _ _)),(9,(.d _)),(11,(.d _)),(15,(.d _)),(16,(.d _)),(17,(.d _)),(25,(.d _)),(26,(.d _)),(27,(.d _)),(35,(.d _)),(36,(.d _)),(37,(.d _))],G [((900000,0),some (.box 28 _)),((3,u1),some (.box 28 _)),((53,u13),some _),((8,u4),some (.box 69 _))]⟩) (sbr rfl rfl) ?_)))))))))))
 refine C3 fun u14 hu14=>sv rfl (sv rfl (A1 (L6 ?_)))
 cases hz3
 exact ⟨rfl,u13,(F7 ⟨.of rfl, .of rfl, .of rfl,(.of (A2a (A3u hv7)).symm), .of rfl, .of rfl, .of rfl, .of rfl, .of rfl, .of rfl, .of rfl, .of rfl, .of rfl, .of rfl, .of rfl, .of rfl, .of rfl,trivial⟩ (B3 G_hit (.of rfl) (sg rfl (sg rfl (Q6 (gq rfl) trivial)))))⟩
 refine B4 (I3 (A7 (s0:=⟨T [(1,(di p2)),(2,(.fn (.func 115) [] [(.ptr (900000,0) 0)])),(3,(.ptr (3,u1) 0)),(6,(oS x3.1 (53,g6))),(7,(di x1.2)),(8,(.ptr (8,u4) 0)),(9,(dl A2 v2)),(11,(di v3)),(15,(dl Q8 p1.Zones)),(16,(di (p1.Zones.length:Int))),(17,(di x1.2)),(25,(dl A2 v2)),(26,(di (v2.length:Int))),(27,(di x2.2)),(35,(dl A2 v4)),(36,(di (v4.length:Int))),(37,(di x3.2))],G [((900000,0),some (.box 28 (A05 p3))),((3,u1),some (.box 28 (A05 p1))),((53,g6),oB 145 4 H7 x3.1),((8,u4),some (.box 69 [(dl M9 v1.Parts),(di v1.Signal_)]))]⟩) (F7 ⟨.of rfl, .of rfl, .of rfl, .of rfl, .of rfl, .of rfl, .of rfl, .of rfl, .of rfl, .of rfl, .of rfl, .of rfl, .of rfl, .of rfl, .of rfl, .of rfl, .of rfl,trivial⟩ (B3 G_hit (.of rfl) (sg rfl (F9 (gq rfl) (sg rfl trivial))))) ?_))
 refine C3 fun u15 hu15=>sv rfl (sv rfl (A1 (L6 ?_)))
 cases hz3
 exact ⟨rfl,g6,(F7 ⟨.of rfl, .of rfl, .of rfl, .of rfl, .of rfl, .of rfl, .of rfl, .of rfl, .of rfl, .of rfl, .of rfl, .of rfl, .of rfl, .of rfl, .of rfl, .of rfl, .of rfl,trivial⟩ (B3 G_hit (.of rfl) (sg rfl (sg rfl (F9 (gq rfl) trivial)))))⟩
 refine E3 rfl ?_
 cases hz3
 obtain rfl:=ez3 _ rfl
 refine ⟨nofun,D7 rfl (l_j ?_)⟩
 exact ⟨g6,(F7 ⟨.of rfl, .of rfl, .of rfl, .of rfl, .of rfl, .of rfl, .of rfl, .of rfl, .of rfl, .of rfl, .of rfl, .of rfl, .of rfl,trivial⟩ (B3 G_hit (.of rfl) (sg rfl (sg rfl (F9 (gq rfl) trivial)))))⟩
 rintro _ ⟨g5,q1⟩
 refine I3 (A7 q1 (C3 fun u16 hu16=>sv rfl (sv rfl (A1 (L6 ?_)))))
 cases hz2
 exact ⟨rfl,g5,(F7 ⟨.of rfl, .of rfl, .of rfl, .of rfl, .of rfl, .of rfl, .of rfl, .of rfl, .of rfl, .of rfl, .of rfl, .of rfl, .of rfl,trivial⟩ (B3 G_hit (.of rfl) (sg rfl (sg rfl (F9 (gq rfl) trivial)))))⟩
 refine E3 rfl ?_
 cases hz2
 obtain rfl:=ez2 _ rfl
 refine ⟨nofun,D7 rfl (l_j ?_)⟩
 exact ⟨g4,(F7 ⟨.of rfl, .of rfl, .of rfl, .of rfl, .of rfl, .of rfl, .of rfl,trivial⟩ (B3 G_hit (.of rfl) (sg rfl (F9 (gq rfl) trivial))))⟩
 rintro _ ⟨g3,q2⟩
 refine I3 (A7 q2 (C3 fun u17 hu17=>sv rfl (sv rfl (A1 (L6 ?_)))))
 cases hz1
 exact ⟨rfl,g3,(F7 ⟨.of rfl, .of rfl, .of rfl, .of rfl, .of rfl, .of rfl, .of rfl,trivial⟩ (B3 G_hit (.of rfl) (sg rfl (F9 (gq rfl) trivial))))⟩
 refine E3 rfl ?_
 cases hz1
 obtain rfl:=ez1 _ rfl
 refine ⟨nofun,D7 rfl (l_j ?_)⟩
 exact ⟨g2,(F7 ⟨.of rfl, .of rfl,trivial⟩ (B3 G_hit (.of rfl) (F9 (gq rfl) trivial)))⟩
 rintro _ ⟨g1,q3⟩
 refine A7 q3 (lr (fun u18 hu18=>D3 (oS y1 (53,g1)) rfl rfl (D3 (oS y1 (53,g1)) rfl rfl (A1 (C1 ?_)))))
 cases h
 exact B1h (.inr rfl) [(53,g1)] (B6q (C2 rfl) (A76 (C9n (.head _) (gq rfl)))) A75 ⟨⟨_,_,_,G_hit,(C2h rfl O3),rfl,A9z,rfl⟩,trivial⟩
noncomputable def A3n (p1:Map):Option (List Clash):=
  (M2 p1 4 p1).bind fun v1=>some v1
theorem B3a (p1:Map)(r:(List Clash))(h:A3n p1=some r):PCall Try.prog 82 [(.agg (A12 p1))] (.list (List.map H7 r)):=by
 refine E1 (fk Try.func82 Try.ntmps82 (fun r=>if r==1 then [1001002]else []) (by with_unfolding_all rfl)) (nl rfl) ?_
 unfold A3n at h
 refine A7 (s0:=⟨T [(0,(.d _))],G []⟩) (sbr rfl rfl) ?_
 refine lr (fun u1 hu1=>sn rfl rfl (sv rfl (A1 (lr (fun u2 hu2=>sd rfl (B9 rfl G_hit rfl rfl) (D3 (.fn _ _ _) rfl rfl (bs h fun v1 hv1 h=>C3c (v:= .d (.list (List.map H7 v1))) (us:= [(1,u1)]) (C5o (A3m _ _ _ _ hv1) [(1,u1)] [(1,u1)] _ (((1,u1),some (.box 28 (A05 p1)))::_) rfl A7h (U0 C3b (U0 C3b (U0 (C71 rfl (U0 (B2w G_hit rfl) A7g)) A7g))) (A0d G_hit A5b) ⟨⟨_,G_hit, .of rfl⟩,trivial⟩ (fun _ h=>h) nd1 rfl rfl rfl) (sv rfl (A1 (C1 ?_))))))))))
 cases h
 exact A8 (.inr rfl) (D0 (C2 rfl) M3) (.refl _)
noncomputable def A7q (p1:Map):Option Bool:=
  (X3 p1).bind fun v1=>((cond (v1==0) (A3k p1) (some default))).bind fun v2=>((cond (v1==0) (A3l p1) (some default))).bind fun v3=>((cond (v1==0) (A4r p1) (some default))).bind fun v4=>((cond (v1==0) (A3n p1) (some default))).bind fun v5=>some ((v1==0)&& ((w64 ((w64 ((w64 ((v2.length:Int)+ (v3.length:Int)))+ (v4.length:Int)))+ (v5.length:Int)))==0))
theorem B6z (p1:Map)(r:Bool)(h:A7q p1=some r):PCall Try.prog 50 [(.agg (A12 p1))] (bo r):=by
 refine E1 (fk Try.func50 Try.ntmps50 m0 (by with_unfolding_all rfl)) (nl rfl) ?_
 unfold A7q at h
 refine A7 (s0:=⟨T [(0,(.d _))],G []⟩) (sbr rfl rfl) ?_
 refine lr (fun u1 hu1=>sn rfl rfl (sv rfl (A1 (A5 (A21 rfl fun u2 hu2=>sd rfl (B9 rfl G_hit rfl rfl) (bs h fun v1 hv1 h=>B7 rfl rfl A3 (A3a _ _ hv1) (.inl rfl) (sv rfl (sv rfl (gt rfl (fun w1=>(B9 rfl G_hit rfl rfl)) (bs h fun v2 hv2 h=> ?_))))))))))
 refine V3 _ (.list (List.map H7 v2)) (A38 rfl) (fun w2=>⟨_,[(.d (.agg (A12 p1)))],_,_,(by simp only [A6 w2];rfl),rfl,A3,B38 _ _ (G9 w2 hv2),(.inl rfl)⟩) ?_
 refine gt rfl (fun w3=>(I8 (A6 w3))) (gt rfl (fun w4=>(B9 rfl G_hit rfl rfl)) (bs h fun v3 hv3 h=> ?_))
 refine V3 _ (.list (List.map H7 v3)) (A38 rfl) (fun w5=>⟨_,[(.d (.agg (A12 p1)))],_,_,(by simp only [A6 w5];rfl),rfl,A3,B39 _ _ (G9 w5 hv3),(.inl rfl)⟩) ?_
 refine gt rfl (fun w6=>(I8 (A6 w6))) (gt rfl (fun w7=>(A5i (A6 w7) (A6 w7) rfl)) (gt rfl (fun w8=>(B9 rfl G_hit rfl rfl)) (bs h fun v4 hv4 h=> ?_)))
 refine V3 _ (.list (List.map H7 v4)) (A38 rfl) (fun w9=>⟨_,[(.d (.agg (A12 p1)))],_,_,(by simp only [A6 w9];rfl),rfl,A3,B3x _ _ (G9 w9 hv4),(.inl rfl)⟩) ?_
 refine gt rfl (fun w10=>(I8 (A6 w10))) (gt rfl (fun w11=>(A5i (A6 w11) (A6 w11) rfl)) (gt rfl (fun w12=>(B9 rfl G_hit rfl rfl)) (bs h fun v5 hv5 h=> ?_)))
 refine V3 _ (.list (List.map H7 v5)) (A38 rfl) (fun w13=>⟨_,[(.d (.agg (A12 p1)))],_,_,(by simp only [A6 w13];rfl),rfl,A3,B3a _ _ (G9 w13 hv5),(.inl rfl)⟩) ?_
 refine gt rfl (fun w14=>(I8 (A6 w14))) (gt rfl (fun w15=>(A5i (A6 w15) (A6 w15) rfl)) (gt rfl (vb rfl rfl rfl) (sa rfl rfl rfl (sv rfl (A1 (C1 ?_))))))
 cases h
 exact A8 (.inr rfl) (D0 (C2 rfl) M3) (.refl _)
noncomputable def A3o (p1:Map)(p2:Int):Option Int:=
  (A3b p1 p2).bind fun v1=>cond (!v1) (some 0) ((U9 p1 p2).bind fun v2=>some v2)
theorem B3b (p1:Map)(p2:Int)(r:Int)(h:A3o p1 p2=some r):PCall Try.prog 10 [(.agg (A12 p1)),(i64 p2)] (i64 r):=by
 refine E1 (fk Try.func10 Try.ntmps10 m0 (by with_unfolding_all rfl)) (nl rfl) ?_
 unfold A3o at h
 refine A7 (s0:=⟨T [(0,(.d _)),(1,(.d _))],G []⟩) (sbr rfl rfl) ?_
 refine lr (fun u1 hu1=>sn rfl rfl (sv rfl (A1 (A5 (lr (fun u2 hu2=>sd rfl (B9 rfl G_hit rfl rfl) (sv rfl (bs h fun v1 hv1 h=>B7 rfl rfl A3 (A6e _ _ _ hv1) (.inl rfl) (D3 (.d (bo (!v1))) rfl rfl (A1 (cc rfl h (fun c1 h=> ?_) (fun c1 h=> ?_))))))))))))
 refine lr (fun u3 hu3=>sv rfl (A1 (C1 ?_)))
 cases h
 exact A8 (.inr rfl) (D0 (C2 rfl) M3) (.refl _)
 refine B4 (lr (fun u4 hu4=>sd rfl (B9 rfl G_hit rfl rfl) (sv rfl (bs h fun v2 hv2 h=>B7 rfl rfl A3 (A15 _ _ _ hv2) (.inl rfl) (sv rfl (A1 (C1 ?_)))))))
 cases h
 exact A8 (.inr rfl) (D0 (C2 rfl) M3) (.refl _)
noncomputable def A1o (p1:Map)(p2:Int)(p3:Int)(p4:Int)(x1:(Int×Int)):Option (Stp (Int×Int) Int):=
  cond (decide (x1.2< (p1.Works.length:Int))) ((F1 p1.Works x1.2).bind fun v5=>((cond (v5.Lane_==p2) (L9 p3 v5.From v5.To) (some default))).bind fun v6=>((cond ((v5.Lane_==p2)&&v6) (L9 p4 v5.Begin (w64 (v5.End - 1))) (some default))).bind fun v7=>cond (((v5.Lane_==p2)&&v6)&&v7) (some (.go ((mm2 false x1.1 v5.Limit),(w64 (x1.2+1))))) (some (.go (x1.1,(w64 (x1.2+1)))))) (some (.out x1.1))
noncomputable def A4t (p1:Map)(p2:Int)(p3:Int)(p4:Int):Option Int:=
  (A3b p1 p2).bind fun v1=>((cond (!(!v1)) (U9 p1 p2) (some default))).bind fun v2=>((cond (!(!v1)) (L9 p3 0 v2) (some default))).bind fun v3=>cond ((!v1)||(!v3)) (some 0) ((F1 p1.Lanes p2).bind fun v4=>(loop (A1o p1 p2 p3 p4) (v4.Limit,0)).bind fun y1=>some y1)
theorem B3y (p1:Map)(p2:Int)(p3:Int)(p4:Int)(r:Int)(h:A4t p1 p2 p3 p4=some r):PCall Try.prog 12 [(.agg (A12 p1)),(i64 p2),(i64 p3),(i64 p4)] (i64 r):=by
 refine E1 (fk Try.func12 Try.ntmps12 m0 (by with_unfolding_all rfl)) (nl rfl) ?_
 unfold A4t at h
 refine A7 (s0:=⟨T [(0,(.d _)),(1,(.d _)),(2,(.d _)),(3,(.d _))],G []⟩) (sbr rfl rfl) ?_
 refine lr (fun u1 hu1=>sn rfl rfl (sv rfl (A1 (A5 (lr (fun u2 hu2=>sd rfl (B9 rfl G_hit rfl rfl) (sv rfl (bs h fun v1 hv1 h=>B7 rfl rfl A3 (A6e _ _ _ hv1) (.inl rfl) (D3 (.d (bo (!v1))) rfl rfl (sv rfl (gf rfl (fun _=>rfl) (gf rfl (fun w2=>(B9 rfl G_hit rfl rfl)) (gf rfl (fun _=>rfl) (bs h fun v2 hv2 h=> ?_))))))))))))))
 refine V3 _ (i64 v2) (A39 rfl) (fun w4=>⟨_,[(.d (.agg (A12 p1))),(di p2)],_,_,(by simp only [A6 w4];rfl),rfl,A3,A15 _ _ _ (G9 w4 hv2),(.inl rfl)⟩) ?_
 refine bs h fun v3 hv3 h=> ?_
 refine V3 _ (bo v3) (A39 rfl) (fun w5=>⟨_,[(di p3),(di 0),(di v2)],_,_,(by simp only [A6 w5];rfl),rfl,A3,N8 _ _ _ _ (G9 w5 hv3),(.inl rfl)⟩) ?_
 refine A1i _ (.d (bo (!v3))) rfl (A39 rfl) (fun w6=>(by simp only [A6 w6];rfl)) ?_
 refine sd rfl (A8s rfl rfl (fun hc=>A6 (A1h hc))) (A1 (cc rfl h (fun c1 h=> ?_) (fun c1 h=> ?_)))
 refine lr (fun u3 hu3=>sv rfl (A1 (C1 ?_)))
 cases h
 exact A8 (.inr rfl) (D0 (C2 rfl) M3) (.refl _)
 refine B4 (lr (fun u4 hu4=>sp rfl rfl (sl rfl G_hit rfl (sv rfl (bs h fun v4 hv4 h=>sd rfl (K6 rfl rfl hv4 rfl) (sv rfl (sd rfl (I4 rfl hv4 rfl) (sv rfl (A1 (A5 (A5 (A7 (s0:=⟨T [(1,(.d _)),(2,(.d _)),(3,(.d _)),(4,(.ptr _ _)),(9,(.d _))],G [((4,u1),some (.box 28 _))]⟩) (sbr rfl rfl) ?_))))))))))))
 refine C3 fun u5 hu5=>sp rfl rfl (sl rfl G_hit rfl (sd rfl (I8 rfl) (sv rfl (A1 (bs h fun y1 hy1 h=>F8 (fun s=> ∃g1:Unit,Sb ⟨T [(9,(di y1))],G []⟩ s) ?_ ?_)))))
 refine A4 (G5 (A1o p1 p2 p3 p4) (fun (x1:(Int×Int)) (g2:Unit)=>⟨T [(1,(di p2)),(2,(di p3)),(3,(di p4)),(9,(di x1.1)),(31,(dl B1n p1.Works)),(32,(di (p1.Works.length:Int))),(33,(di x1.2))],G []⟩) (v4.Limit,0) () _ hy1 (sbr rfl rfl) ?_)
 intro x1 g2 z1 hz1 ez1
 unfold A1o at hz1
 refine lr (fun u6 hu6=>sv rfl (A1 (A5 (cc rfl hz1 (fun c2 hz1=> ?_) (fun c2 hz1=> ?_)))))
 refine B4 (A5 (A4 (lr (fun u7 hu7=>bs hz1 fun v5 hv5 hz1=>sd rfl (K6 rfl rfl hv5 rfl) (sd rfl (G1 rfl hv5 rfl rfl) (sn rfl rfl (sst rfl G_hit (C8r v5) rfl (A1 (lr (fun u8 hu8=>sp rfl rfl (sl rfl G_hit rfl (sv rfl (sv rfl (sv rfl (gt rfl (fun _=>rfl) (gp rfl (A38 rfl) (fun _=>rfl) (gt rfl (vl rfl G_hit rfl) (gp rfl (A38 rfl) (fun _=>rfl) (gt rfl (vl rfl G_hit rfl) (bs hz1 fun v6 hv6 hz1=> ?_))))))))))))))))))))
 refine V3 _ (bo v6) (A38 rfl) (fun w12=>⟨_,[(di p3),(di v5.From),(di v5.To)],_,_,(by simp only [A6 w12];rfl),rfl,A3,N8 _ _ _ _ (G9 w12 hv6),(.inl rfl)⟩) ?_
 refine sa rfl rfl rfl (sv rfl (gt rfl (fun _=>rfl) (gp rfl (A38 rfl) (fun _=>rfl) (gt rfl (vl rfl G_hit rfl) (gp rfl (A38 rfl) (fun _=>rfl) (gt rfl (vl rfl G_hit rfl) (gt rfl (vb rfl rfl rfl) (bs hz1 fun v7 hv7 hz1=> ?_))))))))
 refine V3 _ (bo v7) (A38 rfl) (fun w19=>⟨_,[(di p4),(di v5.Begin),(di (w64 (v5.End - 1)))],_,_,(by simp only [A6 w19];rfl),rfl,A3,N8 _ _ _ _ (G9 w19 hv7),(.inl rfl)⟩) ?_
 refine sa rfl rfl rfl (A1 (cc rfl hz1 (fun c3 hz1=> ?_) (fun c3 hz1=> ?_)))
 refine A7 (s0:=⟨T [(1,(.d _)),(2,(.d _)),(3,(.d _)),(9,(.d _)),(11,(.ptr _ _)),(31,(.d _)),(32,(.d _)),(33,(.d _))],G [((11,u7),some (.box 33 _))]⟩) (sbr rfl rfl) ?_
 refine C3 fun u9 hu9=>sv rfl (sp rfl rfl (sl rfl G_hit rfl (sv rfl (sv rfl (A1 (I3 (C3 fun u10 hu10=>sv rfl (sv rfl (A1 (L6 ?_))))))))))
 cases hz1
 exact ⟨rfl,(),(sbr rfl rfl)⟩
 refine B4 (I3 (A7 (s0:=⟨T [(1,(.d _)),(2,(.d _)),(3,(.d _)),(9,(.d _)),(31,(.d _)),(32,(.d _)),(33,(.d _))],G []⟩) (sbr rfl rfl) ?_))
 refine C3 fun u11 hu11=>sv rfl (sv rfl (A1 (L6 ?_)))
 cases hz1
 exact ⟨rfl,(),(sbr rfl rfl)⟩
 refine E3 rfl ?_
 cases hz1
 obtain rfl:=ez1 _ rfl
 refine ⟨nofun,D7 rfl (l_j ?_)⟩
 exact ⟨(),(sbr rfl rfl)⟩
 rintro _ ⟨g1,q1⟩
 refine A7 q1 (lr (fun u12 hu12=>sv rfl (sv rfl (A1 (C1 ?_)))))
 cases h
 exact A8 (.inr rfl) (D0 (C2 rfl) M3) (.refl _)
noncomputable def A1x:Option Bool:=
  (A7o).bind fun v1=>(A4p v1 [0] 60000).bind fun v2=>(X3 v1).bind fun v3=>((cond (v3==0) (A7q v1) (some default))).bind fun v4=>((cond (((((v3==0)&&v4)&& (v2.1==0))&& (v2.2.1==60000))&&v2.2.2) (A3o v1 1) (some default))).bind fun v5=>((cond ((((((v3==0)&&v4)&& (v2.1==0))&& (v2.2.1==60000))&&v2.2.2)&& (v5==100000)) (A4t v1 0 10 5) (some default))).bind fun v6=>some (((((((v3==0)&&v4)&& (v2.1==0))&& (v2.2.1==60000))&&v2.2.2)&& (v5==100000))&& (v6==1500))
theorem B3z (r:Bool)(h:A1x=some r):PCall Try.prog 14 [] (bo r):=by
 refine E1 (fk Try.func14 Try.ntmps14 (fun r=>if r==2 then [1001]else []) (by with_unfolding_all rfl)) (nl rfl) ?_
 unfold A1x at h
 refine A7 (s0:=⟨T [],G []⟩) (sbr rfl rfl) ?_
 refine lr (fun u1 hu1=>sv rfl (A1 (lr (fun u2 hu2=>bs h fun v1 hv1 h=>B7 rfl rfl A3 (B6y _ hv1) (.inl rfl) (sn rfl rfl (sst rfl G_hit (A05 v1) rfl (A1 (lr (fun u3 hu3=>sd rfl (B9 rfl G_hit rfl rfl) (D3 (dl A2 [0]) rfl rfl (bs h fun v2 hv2 h=>B7 rfl rfl A3 (B3v _ _ _ _ hv2) (.inl rfl) (sv rfl (sv rfl (sv rfl (sv rfl (sv rfl (sv rfl (sv rfl (A1 (lr (fun u4 hu4=>sd rfl (B9 rfl G_hit rfl rfl) (bs h fun v3 hv3 h=>B7 rfl rfl A3 (A3a _ _ hv3) (.inl rfl) (sv rfl (sv rfl (gt rfl (fun w1=>(B9 rfl G_hit rfl rfl)) (bs h fun v4 hv4 h=> ?_))))))))))))))))))))))))))
 refine V3 _ (bo v4) (A38 rfl) (fun w2=>⟨_,[(.d (.agg (A12 v1)))],_,_,(by simp only [A6 w2];rfl),rfl,A3,B6z _ _ (G9 w2 hv4),(.inl rfl)⟩) ?_
 refine sa rfl rfl rfl (sv rfl (gt rfl (fun _=>rfl) (gt rfl (vb rfl rfl rfl) (sa rfl rfl rfl (sv rfl (gt rfl (fun _=>rfl) (gt rfl (vb rfl rfl rfl) (sa rfl rfl rfl (sv rfl (gt rfl (fun _=>rfl) (sa rfl rfl rfl (sv rfl (gt rfl (fun w8=>(B9 rfl G_hit rfl rfl)) (bs h fun v5 hv5 h=> ?_))))))))))))))
 refine V3 _ (i64 v5) (A38 rfl) (fun w9=>⟨_,[(.d (.agg (A12 v1))),(di 1)],_,_,(by simp only [A6 w9];rfl),rfl,A3,B3b _ _ _ (G9 w9 hv5),(.inl rfl)⟩) ?_
 refine gt rfl (vb rfl rfl rfl) (sa rfl rfl rfl (sv rfl (gt rfl (fun w11=>(B9 rfl G_hit rfl rfl)) (bs h fun v6 hv6 h=> ?_))))
 refine V3 _ (i64 v6) (A38 rfl) (fun w12=>⟨_,[(.d (.agg (A12 v1))),(di 0),(di 10),(di 5)],_,_,(by simp only [A6 w12];rfl),rfl,A3,B3y _ _ _ _ _ (G9 w12 hv6),(.inl rfl)⟩) ?_
 refine gt rfl (vb rfl rfl rfl) (sa rfl rfl rfl (sv rfl (A1 (C1 ?_))))
 cases h
 exact A8 (.inr rfl) (D0 (C2 rfl) M3) (.refl _)
noncomputable def K3 (v10:Part)(v12:(List Int))(x4:(Bool×Int)):Option (Stp (Bool×Int) Bool):=
  cond (decide (x4.2< (v12.length:Int))) (((cond (!x4.1) (F1 v12 x4.2) (some default))).bind fun v13=>some (.go ((x4.1||(v13==v10.From)),(w64 (x4.2+1))))) (some (.out x4.1))
noncomputable def K4 (v1:Map)(v2:Int)(x1:Int)(v3:Zone)(y2:Int)(v7:Int)(x3:(Int×Int)):Option (Stp (Int×Int) (Sum Int Bool)):=
  (F1 v1.Zones x1).bind fun v8=>cond (decide (x3.2< (v8.Parts.length:Int))) ((F1 v1.Zones x1).bind fun v9=>(F1 v9.Parts x3.2).bind fun v10=>(A2y v1 (w64 (v3.Signal_ - 1)) v10.Lane_ v2).bind fun v11=>(cond v11 (some (w64 (x3.1+1))) (some x3.1)).bind fun y4=>(A7n v1 v10.Lane_ v2).bind fun v12=>(loop (K3 v10 v12) (false,0)).bind fun y5=>(A2y v1 (w64 (v3.Signal_ - 1)) v10.Lane_ (w64 (v2+ (w64 (y2*v7))))).bind fun v14=>cond ((!(v14==v11))||(y5==v11)) (some (.out (.inr false))) (some (.go (y4,(w64 (x3.2+1)))))) (some (.out (.inl x3.1)))
noncomputable def K5 (v1:Map)(v3:Zone)(x2:(Int×Int)):Option (Stp (Int×Int) Int):=
  (F1 v1.Signals (w64 (v3.Signal_ - 1))).bind fun v4=>cond (decide (x2.2< (v4.Phases.length:Int))) ((F1 v1.Signals (w64 (v3.Signal_ - 1))).bind fun v5=>(F1 v5.Phases x2.2).bind fun v6=>some (.go ((w64 (x2.1+v6.Ticks)),(w64 (x2.2+1))))) (some (.out x2.1))
noncomputable def Q5 (p3:Int)(v1:Map)(v2:Int)(x1:Int):Option (Stp Int (Sum Unit Bool)):=
  cond (decide (x1< (v1.Zones.length:Int))) ((F1 v1.Zones x1).bind fun v3=>cond (decide ((w64 (v3.Signal_ - 1))<0)) (some (.go (w64 (x1+1)))) ((loop (K5 v1 v3) (0,0)).bind fun y2=>(B0x p3 101).bind fun v7=>thenS (loop (K4 v1 v2 x1 v3 y2 v7) (0,0)) (fun y3=>cond (decide (y3>1)) (some (.out (.inr false))) (some (.go (w64 (x1+1))))) (fun r=>some (.out (.inr r))))) (some (.out (.inl ())))
noncomputable def A19 (p1:Int)(p2:Int)(p3:Int):Option Bool:=
  (B32 p1).bind fun v1=>(A7i p2 1000001).bind fun v2=>thenS (loop (Q5 p3 v1 v2) 0) (fun _=>(A1x).bind fun v15=>some v15) (fun r=>some r)
theorem A8h (p1:Int)(p2:Int)(p3:Int)(r:Bool)(h:A19 p1 p2 p3=some r):PCall Try.prog 8 [(i64 p1),(i64 p2),(i64 p3)] (bo r):=by
 refine E1 (fk Try.func8 Try.ntmps8 m0 (by with_unfolding_all rfl)) (nl rfl) ?_
 unfold A19 at h
 refine A7 (s0:=⟨T [(0,(.d _)),(1,(.d _)),(2,(.d _))],G []⟩) (sbr rfl rfl) ?_
 refine lr (fun u1 hu1=>sv rfl (A1 (lr (fun u2 hu2=>sv rfl (bs h fun v1 hv1 h=>B7 rfl rfl A3 (C0n _ _ hv1) (.inl rfl) (sn rfl rfl (sst rfl G_hit (A05 v1) rfl (A1 (lr (fun u3 hu3=>sv rfl (bs h fun v2 hv2 h=>B7 rfl rfl A3 (B6u _ _ _ hv2) (.inl rfl) (sv rfl (A1 (A5 (lr (fun u4 hu4=>sv rfl (A1 (js h fun z1 hz1 h=>F8 (fun s=> ∃(y1:Unit) (g1:Unit),z1= .inl y1∧Sb ⟨T [],G []⟩ s) ?_ ?_))))))))))))))))))
 refine A4 (G5 (Q5 p3 v1 v2) (fun (x1:Int) (g2:Unit)=>⟨T [(1,(di v2)),(2,(di p3)),(7,(.ptr (7,u2) 0)),(8,(di x1))],G [((7,u2),some (.box 28 (A05 v1)))]⟩) 0 () _ hz1 (sbr rfl rfl) ?_)
 intro x1 g2 z2 hz2 ez2
 unfold Q5 at hz2
 refine A5 (lr (fun u5 hu5=>sv rfl (sp rfl rfl (sl rfl G_hit rfl (sd rfl (I8 rfl) (sv rfl (A1 (cc rfl hz2 (fun c1 hz2=> ?_) (fun c1 hz2=> ?_)))))))))
 refine B4 (A5 (A4 (lr (fun u6 hu6=>sp rfl rfl (sl rfl G_hit rfl (sv rfl (bs hz2 fun v3 hv3 hz2=>sd rfl (K6 rfl rfl hv3 rfl) (sv rfl (sd rfl (I4 rfl hv3 rfl) (sv rfl (sv rfl (A1 (A5 (lr (fun u7 hu7=>sv rfl (sv rfl (A1 (cc rfl hz2 (fun c2 hz2=> ?_) (fun c2 hz2=> ?_)))))))))))))))))))
 refine C25 rfl (C3 fun u8 hu8=>sv rfl (sv rfl (sv rfl (A1 (L6 ?_)))))
 cases hz2
 exact ⟨rfl,(),(sbr rfl rfl)⟩
 refine B4 (lr (fun u9 hu9=>sv rfl (sv rfl (A1 (A5 (lr (fun u10 hu10=>sv rfl (A1 (bs hz2 fun y2 hy2 hz2=>F8 (fun s=> ∃g3:Unit,Sb ⟨T [(1,(di v2)),(2,(di p3)),(7,(.ptr (7,u2) 0)),(8,(di x1)),(9,(di (w64 (v3.Signal_ - 1)))),(10,(di y2)),(11,(di 0))],G [((7,u2),some (.box 28 (A05 v1)))]⟩ s) ?_ ?_)))))))))
 refine A4 (G5 (K5 v1 v3) (fun (x2:(Int×Int)) (g4:Unit)=>⟨T [(1,(di v2)),(2,(di p3)),(7,(.ptr (7,u2) 0)),(8,(di x1)),(9,(di (w64 (v3.Signal_ - 1)))),(10,(di x2.1)),(11,(di 0)),(12,(di x2.2))],G [((7,u2),some (.box 28 (A05 v1)))]⟩) (0,0) () _ hy2 (sbr rfl rfl) ?_)
 intro x2 g4 z3 hz3 ez3
 unfold K5 at hz3
 refine A5 (lr (fun u11 hu11=>sv rfl (sp rfl rfl (sl rfl G_hit rfl (sv rfl (bs hz3 fun v4 hv4 hz3=>sd rfl (K6 rfl rfl hv4 rfl) (sv rfl (sd rfl (I4 rfl hv4 rfl) (sd rfl (I8 rfl) (sv rfl (A1 (cc rfl hz3 (fun c3 hz3=> ?_) (fun c3 hz3=> ?_)))))))))))))
 refine B4 (A5 (A4 (C3 fun u12 hu12=>sv rfl (sp rfl rfl (sl rfl G_hit rfl (sv rfl (bs hz3 fun v5 hv5 hz3=>sd rfl (K6 rfl rfl hv5 rfl) (sv rfl (sd rfl (I4 rfl hv5 rfl) (sv rfl (bs hz3 fun v6 hv6 hz3=>sd rfl (K6 rfl rfl hv6 rfl) (sv rfl (sd rfl (I4 rfl hv6 rfl) (sv rfl (sv rfl (A1 (I3 (A7 (s0:=⟨T [(1,(.d _)),(2,(.d _)),(7,(.ptr _ _)),(8,(.d _)),(9,(.d _)),(10,(.d _)),(11,(.d _)),(12,(.d _))],G [((7,u2),some (.box 28 _))]⟩) (sbr rfl rfl) ?_))))))))))))))))))
 refine C3 fun u13 hu13=>sv rfl (sv rfl (sv rfl (A1 (L6 ?_))))
 cases hz3
 exact ⟨rfl,(),(sbr rfl rfl)⟩
 refine E3 rfl ?_
 cases hz3
 obtain rfl:=ez3 _ rfl
 refine ⟨nofun,D7 rfl (l_j ?_)⟩
 exact ⟨(),(sbr rfl rfl)⟩
 rintro _ ⟨g3,q1⟩
 refine A7 q1 (lr (fun u14 hu14=>sv rfl (sv rfl (sv rfl (bs hz2 fun v7 hv7 hz2=>B7 rfl rfl A3 (B4l _ _ _ hv7) (.inl rfl) (sv rfl (sv rfl (sv rfl (A1 (A5 (lr (fun u15 hu15=>sv rfl (A1 (js hz2 fun z4 hz4 hz2=>F8 (fun s=> ∃(y3:Int) (g5:Unit),z4= .inl y3∧Sb ⟨T [(1,(di v2)),(2,(di p3)),(7,(.ptr (7,u2) 0)),(8,(di x1)),(11,(di y3))],G [((7,u2),some (.box 28 (A05 v1)))]⟩ s) ?_ ?_))))))))))))))
 refine A4 (G5 (K4 v1 v2 x1 v3 y2 v7) (fun (x3:(Int×Int)) (g6:Unit)=>⟨T [(1,(di v2)),(2,(di p3)),(7,(.ptr (7,u2) 0)),(8,(di x1)),(9,(di (w64 (v3.Signal_ - 1)))),(11,(di x3.1)),(13,(di (w64 (v2+ (w64 (y2*v7)))))),(14,(di x3.2))],G [((7,u2),some (.box 28 (A05 v1)))]⟩) (0,0) () _ hz4 (sbr rfl rfl) ?_)
 intro x3 g6 z5 hz5 ez5
 unfold K4 at hz5
 refine A5 (lr (fun u16 hu16=>sv rfl (sp rfl rfl (sl rfl G_hit rfl (sv rfl (bs hz5 fun v8 hv8 hz5=>sd rfl (K6 rfl rfl hv8 rfl) (sv rfl (sd rfl (I4 rfl hv8 rfl) (sd rfl (I8 rfl) (sv rfl (A1 (cc rfl hz5 (fun c4 hz5=> ?_) (fun c4 hz5=> ?_)))))))))))))
 refine B4 (A5 (A4 (lr (fun u17 hu17=>sp rfl rfl (sl rfl G_hit rfl (sv rfl (bs hz5 fun v9 hv9 hz5=>sd rfl (K6 rfl rfl hv9 rfl) (sv rfl (sd rfl (I4 rfl hv9 rfl) (sv rfl (bs hz5 fun v10 hv10 hz5=>sd rfl (K6 rfl rfl hv10 rfl) (sd rfl (G1 rfl hv10 rfl rfl) (sn rfl rfl (sst rfl G_hit (A8c v10) rfl (A1 (A5 (A7 (s0:=⟨T [(1,(.d _)),(2,(.d _)),(7,(.ptr _ _)),(8,(.d _)),(9,(.d _)),(11,(.d _)),(13,(.d _)),(14,(.d _)),(15,(.ptr _ _))],G [((7,u2),some (.box 28 _)),((15,u17),some (.box 71 _))]⟩) (sbr rfl rfl) ?_)))))))))))))))))
 refine C3 fun u18 hu18=>sd rfl (B9 rfl G_hit rfl rfl) (sv rfl (sp rfl rfl (sl rfl (gq rfl) rfl (sv rfl (bs hz5 fun v11 hv11 hz5=>B7 rfl rfl A3 (A8v _ _ _ _ _ hv11) (.inl rfl) (sv rfl (A1 (A5 (lr (fun u19 hu19=>sv rfl (A1 (bs hz5 fun y4 hy4 hz5=>F8 (fun s=> ∃g7:Unit,Sb ⟨T [(1,(di v2)),(2,(di p3)),(7,(.ptr (7,u2) 0)),(8,(di x1)),(9,(di (w64 (v3.Signal_ - 1)))),(11,(di y4)),(13,(di (w64 (v2+ (w64 (y2*v7)))))),(14,(di x3.2)),(15,(.ptr (15,u17) 0)),(16,(.d (bo v11)))],G [((7,u2),some (.box 28 (A05 v1))),((15,u17),some (.box 71 (A8c v10)))]⟩ s) ?_ ?_))))))))))))
 refine cc rfl hy4 (fun c5 hy4=> ?_) (fun c5 hy4=> ?_)
 refine C3 fun u20 hu20=>sv rfl (sv rfl (sv rfl (A1 ?_)))
 cases hy4
 exact l_j ⟨(),(sbr rfl rfl)⟩
 refine B4 ?_
 cases hy4
 exact l_j ⟨(),(sbr rfl rfl)⟩
 rintro _ ⟨g7,q2⟩
 refine A7 q2 (lr (fun u21 hu21=>sv rfl (A1 (lr (fun u22 hu22=>sd rfl (B9 rfl G_hit rfl rfl) (sp rfl rfl (sl rfl (gq rfl) rfl (sv rfl (bs hz5 fun v12 hv12 hz5=>B7 rfl rfl A3 (B6x _ _ _ _ hv12) (.inl rfl) (sv rfl (A1 (A5 (lr (fun u23 hu23=>sv rfl (A1 (bs hz5 fun y5 hy5 hz5=>F8 (fun s=> ∃g8:Unit,Sb ⟨T [(1,(di v2)),(2,(di p3)),(7,(.ptr (7,u2) 0)),(8,(di x1)),(9,(di (w64 (v3.Signal_ - 1)))),(11,(di y4)),(13,(di (w64 (v2+ (w64 (y2*v7)))))),(14,(di x3.2)),(15,(.ptr (15,u17) 0)),(16,(.d (bo v11))),(17,(.d (bo y5)))],G [((7,u2),some (.box 28 (A05 v1))),((15,u17),some (.box 71 (A8c v10)))]⟩ s) ?_ ?_))))))))))))))))
 refine A4 (G5 (K3 v10 v12) (fun (x4:(Bool×Int)) (g9:Unit)=>⟨T [(1,(di v2)),(2,(di p3)),(7,(.ptr (7,u2) 0)),(8,(di x1)),(9,(di (w64 (v3.Signal_ - 1)))),(11,(di y4)),(13,(di (w64 (v2+ (w64 (y2*v7)))))),(14,(di x3.2)),(15,(.ptr (15,u17) 0)),(16,(.d (bo v11))),(17,(.d (bo x4.1))),(18,(dl A2 v12)),(19,(di x4.2))],G [((7,u2),some (.box 28 (A05 v1))),((15,u17),some (.box 71 (A8c v10)))]⟩) (false,0) () _ hy5 (sbr rfl rfl) ?_)
 intro x4 g9 z6 hz6 ez6
 unfold K3 at hz6
 refine A5 (lr (fun u24 hu24=>sv rfl (sv rfl (sd rfl (I8 rfl) (sv rfl (A1 (cc rfl hz6 (fun c6 hz6=> ?_) (fun c6 hz6=> ?_))))))))
 refine B4 (A5 (A4 (A21 rfl fun u25 hu25=>sv rfl (sv rfl (gf rfl (fun _=>rfl) (gf rfl (fun _=>rfl) (bs hz6 fun v13 hv13 hz6=>gf rfl (fun w3=>(K6 (A6 w3) (A6 w3) (G9 w3 hv13) rfl)) (gf rfl (fun w4=>(I4 (A6 w4) (G9 w4 hv13) rfl)) (gp rfl (A39 rfl) (fun _=>rfl) (gf rfl (vl rfl (gq rfl) rfl) (gf rfl (fun w7=>(A5i (A6 w7) (A6 w7) rfl)) (sd rfl (A8s rfl rfl (fun hc=>A6 (A1h hc))) (sv rfl (A1 (I3 (A7 (s0:=⟨T [(1,(.d _)),(2,(.d _)),(7,(.ptr _ _)),(8,(.d _)),(9,(.d _)),(11,(.d _)),(13,(.d _)),(14,(.d _)),(15,(.ptr _ _)),(16,(.d _)),(17,(.d _)),(18,(.d _)),(19,(.d _))],G [((7,u2),some (.box 28 _)),((15,u17),some (.box 71 _))]⟩) (sbr rfl rfl) ?_))))))))))))))))
 refine C3 fun u26 hu26=>sv rfl (sv rfl (sv rfl (A1 (L6 ?_))))
 cases hz6
 exact ⟨rfl,(),(sbr rfl rfl)⟩
 refine E3 rfl ?_
 cases hz6
 obtain rfl:=ez6 _ rfl
 refine ⟨nofun,D7 rfl (l_j ?_)⟩
 exact ⟨(),(sbr rfl rfl)⟩
 rintro _ ⟨g8,q3⟩
 refine A7 q3 (lr (fun u27 hu27=>sd rfl (B9 rfl G_hit rfl rfl) (sv rfl (sp rfl rfl (sl rfl (gq rfl) rfl (sv rfl (bs hz5 fun v14 hv14 hz5=>B7 rfl rfl A3 (A8v _ _ _ _ _ hv14) (.inl rfl) (sv rfl (D3 (.d (bo (!(v14==v11)))) rfl rfl (sv rfl (gf rfl (fun _=>rfl) (gf rfl (fun _=>rfl) ?_))))))))))))
 refine A1i _ (.d (bo (y5==v11))) rfl (A39 rfl) (fun w10=>(by simp only [A6 w10];rfl)) ?_
 refine sd rfl (A8s rfl rfl (fun hc=>A6 (A1h hc))) (A1 (cc rfl hz5 (fun c7 hz5=> ?_) (fun c7 hz5=> ?_)))
 refine A5 (A7 (s0:=⟨T [],G []⟩) (sbr rfl rfl) ?_)
 refine C3 fun u28 hu28=>sv rfl (A1 (C1 ?_))
 cases hz5
 obtain rfl:=ez5 _ rfl
 refine ⟨nofun,F2 ?_⟩
 rw [Sum.elim_inr]at hz2
 cases hz2
 obtain rfl:=ez2 _ rfl
 refine ⟨nofun,F2 ?_⟩
 rw [Sum.elim_inr]at h
 cases h
 exact A8 (.inr rfl) (D0 (C2 rfl) M3) (.refl _)
 refine B4 (I3 (A7 (s0:=⟨T [(1,(.d _)),(2,(.d _)),(7,(.ptr _ _)),(8,(.d _)),(9,(.d _)),(11,(.d _)),(13,(.d _)),(14,(.d _))],G [((7,u2),some (.box 28 _))]⟩) (sbr rfl rfl) ?_))
 refine C3 fun u29 hu29=>sv rfl (sv rfl (sv rfl (A1 (L6 ?_))))
 cases hz5
 exact ⟨rfl,(),(sbr rfl rfl)⟩
 refine E3 rfl ?_
 cases hz5
 obtain rfl:=ez5 _ rfl
 refine ⟨nofun,D7 rfl (l_j ?_)⟩
 exact ⟨_,(),rfl,(sbr rfl rfl)⟩
 rintro _ ⟨y3,g5,rfl,q4⟩
 rw [Sum.elim_inl]at hz2
 refine A7 q4 (lr (fun u30 hu30=>sv rfl (sv rfl (A1 (cc rfl hz2 (fun c8 hz2=> ?_) (fun c8 hz2=> ?_))))))
 refine lr (fun u31 hu31=>sv rfl (A1 (C1 ?_)))
 cases hz2
 obtain rfl:=ez2 _ rfl
 refine ⟨nofun,F2 ?_⟩
 rw [Sum.elim_inr]at h
 cases h
 exact A8 (.inr rfl) (D0 (C2 rfl) M3) (.refl _)
 refine B4 (I3 (C3 fun u32 hu32=>sv rfl (sv rfl (sv rfl (A1 (L6 ?_))))))
 cases hz2
 exact ⟨rfl,(),(sbr rfl rfl)⟩
 refine E3 rfl ?_
 cases hz2
 obtain rfl:=ez2 _ rfl
 refine ⟨nofun,D7 rfl (l_j ?_)⟩
 exact ⟨_,(),rfl,(sbr rfl rfl)⟩
 rintro _ ⟨y1,g1,rfl,q5⟩
 rw [Sum.elim_inl]at h
 refine A7 q5 (lr (fun u33 hu33=>bs h fun v15 hv15 h=>B7 rfl rfl A3 (B3z _ hv15) (.inl rfl) (sv rfl (A1 (C1 ?_)))))
 cases h
 exact A8 (.inr rfl) (D0 (C2 rfl) M3) (.refl _)
end Go.Abs.Roads
