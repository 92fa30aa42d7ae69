/-
  The functions, part 3.
-/
import Derived.Test.YtgjdiioennhoeaaGreatFns2
set_option maxRecDepth 20000
set_option maxHeartbeats 4000000
set_option linter.unusedVariables false
namespace Go.Abs.World
open Go Go.Abs Go.Proofs
attribute [local irreducible] T9 B5q AWL
noncomputable def N7 (x1:(Int×Int×Int×Bool×Bool)):Option (Stp (Int×Int×Int×Bool×Bool) Unit):=
  cond (decide ((w64 (x1.2.1 - x1.1))≤12)) ((L9 x1.1 x1.2.1).bind fun v1=>some (.out (()))) (cond (x1.2.2.1==0) (none) ((cond (!x1.2.2.2.1) (none) (some ())).bind fun _=>none))
noncomputable def Q2 (p1:Int)(p2:Int)(p3:Int):Option Unit:=
  loop (N7) (p1,p2,p3,true,true)
theorem A6w (p1:Int)(p2:Int)(p3:Int)(r:Unit)(h:Q2 p1 p2 p3=some r):PCall Tryz.prog 266 [.nilS,(i64 p1),(i64 p2),(i64 p3)] (.tup []):=by
 refine B8 (fk Tryz.func266 Tryz.ntmps266 m0 (by with_unfolding_all rfl)) (nl rfl) ?_
 unfold Q2 at h
 refine B5 (s0:=⟨T [(0,(.d _)),(1,(.d _)),(2,(.d _)),(3,(.d _))],G []⟩) (sbr rfl rfl) ?_
 refine lr (fun u1 hu1=>sv rfl (A1 (lr (fun u2 hu2=>sv rfl (A1 (A9 (G5 (N7) (fun (x1:(Int×Int×Int×Bool×Bool)) (g1:Unit)=>⟨T [(0,(.d .nilS)),(1,(di x1.1)),(2,(di x1.2.1)),(3,(di x1.2.2.1)),(8,(.d (bo x1.2.2.2.1))),(9,(.d (bo x1.2.2.2.2)))],G []⟩) (p1,p2,p3,true,true) () _ h (sbr rfl rfl) ?_)))))))
 intro x1 g1 z1 hz1 ez1
 unfold N7 at hz1
 refine A9 (lr (fun u3 hu3=>sv rfl (sv rfl (sv rfl (sv rfl (A1 (A7 (lr (fun u4 hu4=>sv rfl (sv rfl (A1 (cc rfl hz1 (fun c1 hz1=> ?_) (fun c1 hz1=> ?_)))))))))))))
 refine lr (fun u5 hu5=>sv rfl (sv rfl (sv rfl (bs hz1 fun v1 hv1 hz1=>B2 rfl rfl A2 (A43 _ _ _ hv1) (.inl rfl) (A1 (B4 ?_))))))
 cases hz1
 obtain rfl:=ez1 _ rfl
 refine ⟨nofun,G0 ?_⟩
 exact A8 (.inr rfl) rfl (.refl _)
 refine B1 (A7 (lr (fun u6 hu6=>sv rfl (sv rfl (A1 (cc rfl hz1 (fun c2 hz1=> ?_) (fun c2 hz1=> ?_)))))))
 refine lr (fun u7 hu7=>sv rfl (sv rfl (sv rfl ?_)))
 cases hz1
 refine B1 (A7 (lr (fun u8 hu8=>sv rfl (C0 (.d (bo (!x1.2.2.2.1))) rfl rfl (A1 (bs hz1 fun y1 hy1 hz1=>E7 (fun s=> ∃g2:Unit,Sb ⟨T [(0,(.d .nilS)),(1,(di x1.1)),(2,(di x1.2.1)),(3,(di x1.2.2.1)),(8,(.d (bo x1.2.2.2.1))),(9,(.d (bo x1.2.2.2.2))),(10,(di (w64 (x1.2.1 - x1.1))))],G []⟩ s) ?_ ?_))))))
 refine cc rfl hy1 (fun c3 hy1=> ?_) (fun c3 hy1=> ?_)
 refine lr (fun u9 hu9=>sv rfl (sv rfl (sv rfl ?_)))
 cases hy1
 refine B1 ?_
 cases hy1
 exact l_j ⟨(),(sbr rfl rfl)⟩
 rintro _ ⟨g2,q1⟩
 refine B5 q1 (lr (fun u10 hu10=>sv rfl (sv rfl (sv rfl ?_))))
 cases hz1
noncomputable def T4:Option Unit:=
  (A41 (IntKind.wrap .u64 0)).bind fun v1=>(Q2 0 0 v1).bind fun v2=>some ()
theorem A8m (r:Unit)(h:T4=some r):PCall Tryz.prog 252 [.nilS] (.tup []):=by
 refine B8 (fk Tryz.func252 Tryz.ntmps252 m0 (by with_unfolding_all rfl)) (nl rfl) ?_
 unfold T4 at h
 refine B5 (s0:=⟨T [(0,(.d _))],G []⟩) (sbr rfl rfl) ?_
 refine lr (fun u1 hu1=>sv rfl (sv rfl (sv rfl (A1 (C7 fun u2 hu2=>sv rfl (sv rfl (sv rfl (sv rfl (bs h fun v1 hv1 h=>B2 rfl rfl A2 (B37 _ _ hv1) (.inl rfl) (bs h fun v2 hv2 h=>B2 rfl rfl A2 (A6w _ _ _ _ hv2) (.inl rfl) (A1 (I3 ?_))))))))))))
 cases h
 exact A8 (.inl rfl) rfl (.refl _)
noncomputable def A7v (p1:Map)(p2:Int)(p3:Int)(v1:Zone)(x2:((List Int)×Int)):Option (Stp ((List Int)×Int) (List Int)):=
  cond (decide (x2.2< (v1.Parts.length:Int))) ((D0 v1.Parts x2.2).bind fun v2=>((cond (v2.Lane_==p2) (D0 p1.Signals (w64 (v1.Signal_ - 1))) (some default))).bind fun v3=>((cond (v2.Lane_==p2) (A75 v3 p2 p3) (some default))).bind fun v4=>cond ((v2.Lane_==p2)&& (!v4)) ((A83 x2.1 [v2.From]).bind fun v5=>some (.go (v5,(w64 (x2.2+1))))) (some (.go (x2.1,(w64 (x2.2+1)))))) (some (.out x2.1))
noncomputable def A7w (p1:Map)(p2:Int)(p3:Int)(x1:((List Int)×Int)):Option (Stp ((List Int)×Int) (List Int)):=
  cond (decide (x1.2< (p1.Zones.length:Int))) ((D0 p1.Zones x1.2).bind fun v1=>cond (v1.Signal_==0) (some (.go (x1.1,(w64 (x1.2+1))))) ((loop (A7v p1 p2 p3 v1) (x1.1,0)).bind fun y2=>some (.go (y2,(w64 (x1.2+1)))))) (some (.out x1.1))
noncomputable def B3p (p1:Map)(p2:Int)(p3:Int):Option (List Int):=
  (loop (A7w p1 p2 p3) ([],0)).bind fun y1=>cond (List.isEmpty y1) ((T4).bind fun v8=>some []) ((T3 y1).bind fun v6=>(B7r v6).bind fun v7=>some v7)
theorem C20 (p1:Map)(p2:Int)(p3:Int)(r:(List Int))(h:B3p p1 p2 p3=some r):PCall Tryz.prog 223 [(.agg (A5o p1)),(i64 p2),(i64 p3)] (.list (List.map A5 r)):=by
 refine B8 (fk Tryz.func223 Tryz.ntmps223 (fun r=>if r==10 then [1003]else if r==13 then [1013001]else if r==14 then [1014001]else []) (by with_unfolding_all rfl)) (nl rfl) ?_
 unfold B3p at h
 refine B5 (s0:=⟨T [(0,(.d _)),(1,(.d _)),(2,(.d _))],G []⟩) (sbr rfl rfl) ?_
 refine lr (fun u1 hu1=>sn rfl rfl (sv rfl (A1 (lr (fun u2 hu2=>sv rfl (A1 (A7 (lr (fun u3 hu3=>sp rfl rfl (sl rfl G_hit rfl (sd rfl (J6 rfl) (sv rfl (A1 (bs h fun y1 hy1 h=>E7 (fun s=> ∃g1:Nat,Sb ⟨T [(7,(oS y1 (50,g1)))],G [((50,g1),oB 2 1 A5 y1)]⟩ s) ?_ ?_))))))))))))))
 refine A9 (G5 (A7w p1 p2 p3) (fun (x1:((List Int)×Int)) (g2:Nat)=>⟨T [(1,(di p2)),(2,(di p3)),(3,(.ptr (3,u1) 0)),(7,(oS x1.1 (50,g2))),(13,(dl B0c p1.Zones)),(14,(di (p1.Zones.length:Int))),(15,(di x1.2))],G [((3,u1),some (.box 33 (A02 p1))),((50,g2),oB 2 1 A5 x1.1)]⟩) ([],0) 0 _ hy1 (G2 ⟨.of rfl, .of rfl, .of rfl, .of rfl, .of rfl, .of rfl, .of rfl,trivial⟩ (B0 G_hit (.of rfl) (A2n trivial))) ?_)
 intro x1 g2 z1 hz1 ez1
 unfold A7w at hz1
 refine lr (fun u4 hu4=>sv rfl (A1 (A7 (cc rfl hz1 (fun c1 hz1=> ?_) (fun c1 hz1=> ?_)))))
 refine B1 (A7 (A9 (lr (fun u5 hu5=>bs hz1 fun v1 hv1 hz1=>sd rfl (F9 rfl rfl hv1 rfl) (sd rfl (C6 rfl hv1 rfl rfl) (sn rfl rfl (sst rfl G_hit [(dl B0n v1.Parts),(di v1.Signal_)] rfl (A1 (A7 (lr (fun u6 hu6=>sp rfl rfl (sl rfl G_hit rfl (sv rfl (A1 (cc rfl hz1 (fun c2 hz1=> ?_) (fun c2 hz1=> ?_))))))))))))))))
 refine B4w rfl (C7 fun u7 hu7=>sv rfl (sv rfl (A1 (I3 ?_))))
 cases hz1
 exact ⟨rfl,g2,(G2 ⟨.of rfl, .of rfl, .of rfl, .of rfl, .of rfl, .of rfl, .of rfl,trivial⟩ (sg rfl (B3 (gq rfl) trivial)))⟩
 refine B1 (lr (fun u8 hu8=>sp rfl rfl (sl rfl G_hit rfl (sd rfl (J6 rfl) (sv rfl (A1 (bs hz1 fun y2 hy2 hz1=>E7 (fun s=> ∃g3:Nat,Sb ⟨T [(1,(di p2)),(2,(di p3)),(3,(.ptr (3,u1) 0)),(7,(oS y2 (50,g3))),(13,(dl B0c p1.Zones)),(14,(di (p1.Zones.length:Int))),(15,(di x1.2))],G [((3,u1),some (.box 33 (A02 p1))),((50,g3),oB 2 1 A5 y2)]⟩ s) ?_ ?_)))))))
 refine A9 (G5 (A7v p1 p2 p3 v1) (fun (x2:((List Int)×Int)) (g4:Nat)=>⟨T [(1,(di p2)),(2,(di p3)),(3,(.ptr (3,u1) 0)),(7,(oS x2.1 (50,g4))),(9,(.ptr (9,u5) 0)),(13,(dl B0c p1.Zones)),(14,(di (p1.Zones.length:Int))),(15,(di x1.2)),(23,(dl B0n v1.Parts)),(24,(di (v1.Parts.length:Int))),(25,(di x2.2))],G [((3,u1),some (.box 33 (A02 p1))),((9,u5),some (.box 117 [(dl B0n v1.Parts),(di v1.Signal_)])),((50,g4),oB 2 1 A5 x2.1)]⟩) (x1.1,0) g2 _ hy2 (G2 ⟨.of rfl, .of rfl, .of rfl, .of rfl, .of rfl, .of rfl, .of rfl, .of rfl, .of rfl, .of rfl, .of rfl,trivial⟩ (sg rfl (B0 G_hit (.of rfl) (B3 (gq rfl) trivial)))) ?_)
 intro x2 g4 z2 hz2 ez2
 unfold A7v at hz2
 refine lr (fun u9 hu9=>sv rfl (A1 (A7 (cc rfl hz2 (fun c3 hz2=> ?_) (fun c3 hz2=> ?_)))))
 refine B1 (A7 (A9 (lr (fun u10 hu10=>bs hz2 fun v2 hv2 hz2=>sd rfl (F9 rfl rfl hv2 rfl) (sd rfl (C6 rfl hv2 rfl rfl) (sn rfl rfl (sst rfl G_hit (C4y v2) rfl (A1 (lr (fun u11 hu11=>sp rfl rfl (sl rfl G_hit rfl (sv rfl (sv rfl (sv rfl (gp rfl (V5 rfl) (fun _=>rfl) (gt rfl (vl rfl (gq rfl) rfl) (gp rfl (V5 rfl) (fun _=>rfl) (gt rfl (vl rfl (gq rfl) rfl) (gt rfl (vb rfl rfl rfl) (bs hz2 fun v3 hv3 hz2=>gt rfl (fun w6=>(F9 (A4 w6) (A4 w6) (B9 w6 hv3) rfl)) (gt rfl (fun w7=>(C6 (A4 w7) (B9 w7 hv3) rfl rfl)) (gt rfl (fun _=>rfl) (gt rfl (fun _=>rfl) (bs hz2 fun v4 hv4 hz2=> ?_))))))))))))))))))))))))
 refine O5 _ (bo v4) (V5 rfl) (fun w10=>⟨_,[(.d (.agg [(i64 v3.Offset),(.list (List.map A99 v3.Phases))])),(di p2),(di p3)],_,_,(by simp only [A4 w10];rfl),rfl,A2,B50 _ _ _ _ (B9 w10 hv4),(.inl rfl)⟩) ?_
 refine U0 _ (.d (bo (!v4))) rfl (V5 rfl) (fun w11=>(by simp only [A4 w11];rfl)) ?_
 refine sa rfl rfl rfl (A1 (cc rfl hz2 (fun c4 hz2=> ?_) (fun c4 hz2=> ?_)))
 refine C7 fun u12 hu12=>C0 (oS x2.1 (50,g4)) rfl rfl (sp rfl rfl (sl rfl G_hit rfl (C0 (dl A5 [v2.From]) rfl rfl (bs hz2 fun v5 hv5 hz2=>U6 A5 (50,g4) x2.1 v2.From [] _ (Q5 (fun _=>rfl)) rfl (gq rfl) hv5 (ss rfl (A1 (J3 (C7 fun u13 hu13=>sv rfl (sv rfl (A1 (I3 ?_)))))))))))
 cases hz2
 exact ⟨rfl,u12,(G2 ⟨.of rfl, .of rfl, .of rfl,(.of (A6z (A00 hv5)).symm), .of rfl, .of rfl, .of rfl, .of rfl, .of rfl, .of rfl, .of rfl,trivial⟩ (sg rfl (sg rfl (A16 G_hit trivial))))⟩
 refine B1 (J3 (C7 fun u14 hu14=>sv rfl (sv rfl (A1 (I3 ?_)))))
 cases hz2
 exact ⟨rfl,g4,(G2 ⟨.of rfl, .of rfl, .of rfl, .of rfl, .of rfl, .of rfl, .of rfl, .of rfl, .of rfl, .of rfl, .of rfl,trivial⟩ (sg rfl (sg rfl (B3 (gq rfl) trivial))))⟩
 refine C5 rfl ?_
 cases hz2
 obtain rfl:=ez2 _ rfl
 refine ⟨nofun,C2 rfl (l_j ?_)⟩
 exact ⟨g4,(G2 ⟨.of rfl, .of rfl, .of rfl, .of rfl, .of rfl, .of rfl, .of rfl,trivial⟩ (B0 G_hit (.of rfl) (B3 (gq rfl) trivial)))⟩
 rintro _ ⟨g3,q1⟩
 refine J3 (B5 q1 (C7 fun u15 hu15=>sv rfl (sv rfl (A1 (I3 ?_)))))
 cases hz1
 exact ⟨rfl,g3,(G2 ⟨.of rfl, .of rfl, .of rfl, .of rfl, .of rfl, .of rfl, .of rfl,trivial⟩ (B0 G_hit (.of rfl) (B3 (gq rfl) trivial)))⟩
 refine C5 rfl ?_
 cases hz1
 obtain rfl:=ez1 _ rfl
 refine ⟨nofun,C2 rfl (l_j ?_)⟩
 exact ⟨g2,(G2 ⟨.of rfl,trivial⟩ (B3 (gq rfl) trivial))⟩
 rintro _ ⟨g1,q2⟩
 refine B5 q2 (A7 ?_)
 rcases C1v h with ⟨e1,h⟩|⟨e1,h⟩
 refine B5 (s0:=⟨T [(7,(.d .nilS))],G []⟩) (G2 ⟨.of (C8n e1),trivial⟩ trivial) ?_
 refine C7 fun u19 hu19=>sv rfl (bs h fun v8 hv8 h=>C51 (v:= .d (.tup [])) (us:= []) (D1k [] _ rfl rfl A2 (A8m _ hv8) rfl rfl) (A1 (lr (fun u20 hu20=>sv rfl (C51 (v:= .d .nilS) (us:= []) (D1k [] _ rfl rfl A2 D01 rfl rfl) (sv rfl (A1 (B4 ?_))))))))
 cases h
 exact A8 (.inr rfl) (B7 (B6 rfl) E5) DLe.nil
 refine B5 (s0:=⟨T [(7,(.sl (50,g1)))],G [((50,g1),some (.arr 2 1 (List.map A5 y1)))]⟩) (G2 ⟨.of (A6z e1),trivial⟩ (B0 (B3j G_hit e1) (.of rfl) trivial)) ?_
 refine C7 fun u17 hu17=>ss rfl (bs h fun v6 hv6 h=>C51 (v:= .d (.tup [])) (us:= [(50,g1)]) (C4w (A8l _ _ hv6) [(50,g1)] [(50,g1)] _ (((50,g1),some (.arr 2 1 (List.map A5 v6)))::_) rfl A5x (T1 C1o B34) (A01 G_hit A2w) ⟨⟨_,G_hit, .of rfl⟩,trivial⟩ (fun _ h=>h) nd1 rfl rfl rfl) (A1 (lr (fun u18 hu18=>ss rfl (bs h fun v7 hv7 h=>C51 (v:= .sl (10140010,u18)) (us:= [(50,g1),(10140010,u18)]) (C4w (D1v _ _ hv7) [(50,g1)] [(50,g1)] _ (((10140010,u18),some (.arr 2 1 (List.map A5 v7)))::((50,g1),none)::_) rfl A5x (T1 C1o B34) (A01 G_hit A2w) ⟨⟨_,G_hit, .of rfl⟩,trivial⟩ (fun _ h=>h) nd1 rfl rfl rfl) (ss rfl (A1 (B4 ?_))))))))
 cases h
 exact A8 (.inr rfl) (B7 (B6 rfl) (C5w G_hit)) (.refl _)
noncomputable def B3q (p1:Map)(p2:Int)(p3:Int):Option (List Int):=
  ((cond (!(decide (p3<0))) (B2f p1 p2) (some default))).bind fun v1=>cond ((decide (p3<0))||(!v1)) (some []) ((B3p p1 p2 p3).bind fun v2=>some v2)
theorem C21 (p1:Map)(p2:Int)(p3:Int)(r:(List Int))(h:B3q p1 p2 p3=some r):PCall Tryz.prog 180 [(.agg (A5o p1)),(i64 p2),(i64 p3)] (.list (List.map A5 r)):=by
 refine B8 (fk Tryz.func180 Tryz.ntmps180 m0 (by with_unfolding_all rfl)) (nl rfl) ?_
 unfold B3q at h
 refine B5 (s0:=⟨T [(0,(.d _)),(1,(.d _)),(2,(.d _))],G []⟩) (sbr rfl rfl) ?_
 refine lr (fun u1 hu1=>sn rfl rfl (sv rfl (A1 (A7 (lr (fun u2 hu2=>sv rfl (sv rfl (sv rfl (gf rfl (fun w1=>(A6 rfl G_hit rfl rfl)) (gf rfl (fun _=>rfl) (bs h fun v1 hv1 h=> ?_)))))))))))
 refine O5 _ (bo v1) (A0h rfl) (fun w3=>⟨_,[(.d (.agg (A5o p1))),(di p2)],_,_,(by simp only [A4 w3];rfl),rfl,A2,B5d _ _ _ (B9 w3 hv1),(.inl rfl)⟩) ?_
 refine U0 _ (.d (bo (!v1))) rfl (A0h rfl) (fun w4=>(by simp only [A4 w4];rfl)) ?_
 refine sd rfl (A49 rfl rfl (fun hc=>A4 (S3 hc))) (A1 (cc rfl h (fun c1 h=> ?_) (fun c1 h=> ?_)))
 refine lr (fun u3 hu3=>sv rfl (A1 (B4 ?_)))
 cases h
 exact A8 (.inr rfl) (B7 (B6 rfl) E5) DLe.nil
 refine B1 (lr (fun u4 hu4=>sd rfl (A6 rfl G_hit rfl rfl) (sv rfl (sv rfl (bs h fun v2 hv2 h=>B2 rfl rfl A2 (C20 _ _ _ _ hv2) (.inl rfl) (sv rfl (A1 (B4 ?_))))))))
 cases h
 exact A8 (.inr rfl) (B7 (B6 rfl) E5) (.refl _)
noncomputable def A0o (p1:Int)(p2:Agent)(p3:Int):Option Int:=
  some (mm2 true 0 (mm2 false (w64 (p2.V+p1)) p3))
theorem A9k (p1:Int)(p2:Agent)(p3:Int)(r:Int)(h:A0o p1 p2 p3=some r):PCall Tryz.prog 179 [(i64 p1),(.bp (C4 p2) 0),(.bp [(i64 p3)] 0)] (i64 r):=by
 refine B8 (fk Tryz.func179 Tryz.ntmps179 m0 (by with_unfolding_all rfl)) (nl rfl) ?_
 unfold A0o at h
 refine B5 (s0:=⟨T [(0,(.d _)),(1,(.d _)),(2,(.d _))],G []⟩) (sbr rfl rfl) ?_
 refine lr (fun u1 hu1=>sv rfl (A1 (lr (fun u2 hu2=>sv rfl (sv rfl (sv rfl (sv rfl (sv rfl (sv rfl (sv rfl (sv rfl (A1 (B4 ?_)))))))))))))
 cases h
 exact A8 (.inr rfl) (B7 (B6 rfl) E5) (.refl _)
noncomputable def X2 (p1:Int)(p2:Int)(p3:Int)(p4:Int)(p5:Int):Option Bool:=
  ((cond (decide (p1>p2)) (A3v p3 p4) (some default))).bind fun v1=>((cond ((decide (p1>p2))&& (decide ((w64 (p2+v1))<p1))) (A3v p5 p4) (some default))).bind fun v2=>some (((decide (p1>p2))&& (decide ((w64 (p2+v1))<p1)))&& (decide ((w64 ((w64 (p2+p5))+v2))≥p1)))
theorem B1u (p1:Int)(p2:Int)(p3:Int)(p4:Int)(p5:Int)(r:Bool)(h:X2 p1 p2 p3 p4 p5=some r):PCall Tryz.prog 225 [(i64 p1),(.bp [(i64 p2)] 0),(.bp [(i64 p3)] 0),(.bp [(i64 p4)] 0),(.bp [(i64 p5)] 0)] (bo r):=by
 refine B8 (fk Tryz.func225 Tryz.ntmps225 m0 (by with_unfolding_all rfl)) (nl rfl) ?_
 unfold X2 at h
 refine B5 (s0:=⟨T [(0,(.d _)),(1,(.d _)),(2,(.d _)),(3,(.d _)),(4,(.d _))],G []⟩) (sbr rfl rfl) ?_
 refine lr (fun u1 hu1=>sv rfl (A1 (A7 (I0 rfl fun u2 hu2=>sv rfl (sv rfl (sv rfl (sv rfl (gt rfl (fun _=>rfl) (gt rfl (fun _=>rfl) (gt rfl (fun _=>rfl) (bs h fun v1 hv1 h=> ?_)))))))))))
 refine O5 _ (i64 v1) (V5 rfl) (fun w4=>⟨_,[(di p3),(di p4)],_,_,(by simp only [A4 w4];rfl),rfl,A2,A5y _ _ _ (B9 w4 hv1),(.inl rfl)⟩) ?_
 refine gt rfl (fun w5=>(X7 (A4 w5) (A4 w5) rfl)) (gt rfl (fun _=>rfl) (gt rfl (fun w7=>(X7 (A4 w7) (A4 w7) rfl)) (sa rfl rfl rfl (sv rfl (gt rfl (fun _=>rfl) (gt rfl (fun _=>rfl) (gt rfl (fun w10=>(X7 (A4 w10) (A4 w10) rfl)) (gt rfl (fun _=>rfl) (gt rfl (fun _=>rfl) (bs h fun v2 hv2 h=> ?_))))))))))
 refine O5 _ (i64 v2) (V5 rfl) (fun w13=>⟨_,[(di p5),(di p4)],_,_,(by simp only [A4 w13];rfl),rfl,A2,A5y _ _ _ (B9 w13 hv2),(.inl rfl)⟩) ?_
 refine gt rfl (fun w14=>(X7 (A4 w14) (A4 w14) rfl)) (gt rfl (fun _=>rfl) (gt rfl (fun w16=>(X7 (A4 w16) (A4 w16) rfl)) (sa rfl rfl rfl (sv rfl (A1 (B4 ?_))))))
 cases h
 exact A8 (.inr rfl) (B7 (B6 rfl) E5) (.refl _)
noncomputable def F0 (p1:(List Int))(p2:Int)(p3:Int)(p4:Int)(p5:Int)(x1:Int):Option (Stp Int (Sum Unit Int)):=
  cond (decide (x1< (p1.length:Int))) ((D0 p1 x1).bind fun v1=>(X2 v1 p2 p3 p4 p5).bind fun v2=>cond v2 (some (.out (.inr x1))) (some (.go (w64 (x1+1))))) (some (.out (.inl ())))
noncomputable def G4 (p1:(List Int))(p2:Int)(p3:Int)(p4:Int)(p5:Int):Option Int:=
  thenS (loop (F0 p1 p2 p3 p4 p5) 0) (fun _=>some (-1)) (fun r=>some r)
theorem A0k (p1:(List Int))(p2:Int)(p3:Int)(p4:Int)(p5:Int)(r:Int)(h:G4 p1 p2 p3 p4 p5=some r):PCall Tryz.prog 254 [(.list (List.map A5 p1)),(.fn (.func 225) [] [(.bp [(i64 p2)] 0),(.bp [(i64 p3)] 0),(.bp [(i64 p4)] 0),(.bp [(i64 p5)] 0)])] (i64 r):=by
 refine B8 (fk Tryz.func254 Tryz.ntmps254 m0 (by with_unfolding_all rfl)) (nl rfl) ?_
 unfold G4 at h
 refine B5 (s0:=⟨T [(0,(.d _)),(1,(.d _))],G []⟩) (sbr rfl rfl) ?_
 refine lr (fun u1 hu1=>sv rfl (A1 (A7 (lr (fun u2 hu2=>sv rfl (sd rfl (J6 rfl) (sv rfl (A1 (js h fun z1 hz1 h=>E7 (fun s=> ∃(y1:Unit) (g1:Unit),z1= .inl y1∧Sb ⟨T [],G []⟩ s) ?_ ?_)))))))))
 refine A9 (G5 (F0 p1 p2 p3 p4 p5) (fun (x1:Int) (g2:Unit)=>⟨T [(0,(dl A5 p1)),(1,(.d (.fn (.func 225) [] [(.bp [(i64 p2)] 0),(.bp [(i64 p3)] 0),(.bp [(i64 p4)] 0),(.bp [(i64 p5)] 0)]))),(7,(di (p1.length:Int))),(8,(di x1))],G []⟩) 0 () _ hz1 (sbr rfl rfl) ?_)
 intro x1 g2 z2 hz2 ez2
 unfold F0 at hz2
 refine lr (fun u3 hu3=>sv rfl (A1 (A7 (cc rfl hz2 (fun c1 hz2=> ?_) (fun c1 hz2=> ?_)))))
 refine B1 (A7 (A9 (lr (fun u4 hu4=>sv rfl (sv rfl (A1 (lr (fun u5 hu5=>sv rfl (sv rfl (sv rfl (bs hz2 fun v1 hv1 hz2=>sd rfl (F9 rfl rfl hv1 rfl) (sd rfl (F4 rfl hv1 rfl) (bs hz2 fun v2 hv2 hz2=>B2 rfl rfl A2 (B1u _ _ _ _ _ _ hv2) (.inl rfl) (A1 (cc rfl hz2 (fun c2 hz2=> ?_) (fun c2 hz2=> ?_))))))))))))))))
 refine lr (fun u6 hu6=>sv rfl (sv rfl (A1 (B4 ?_))))
 cases hz2
 obtain rfl:=ez2 _ rfl
 refine ⟨nofun,G0 ?_⟩
 rw [Sum.elim_inr]at h
 cases h
 exact A8 (.inr rfl) (B7 (B6 rfl) E5) (.refl _)
 refine B1 (J3 (C7 fun u7 hu7=>sv rfl (sv rfl (A1 (I3 ?_)))))
 cases hz2
 exact ⟨rfl,(),(sbr rfl rfl)⟩
 refine C5 rfl ?_
 cases hz2
 obtain rfl:=ez2 _ rfl
 refine ⟨nofun,C2 rfl (l_j ?_)⟩
 exact ⟨_,(),rfl,(sbr rfl rfl)⟩
 rintro _ ⟨y1,g1,rfl,q1⟩
 rw [Sum.elim_inl]at h
 refine B5 q1 (lr (fun u8 hu8=>sv rfl (A1 (B4 ?_))))
 cases h
 exact A8 (.inr rfl) (B7 (B6 rfl) E5) (.refl _)
noncomputable def F1 (p1:(List Int))(p2:Int)(p3:Int)(p4:Int)(p5:Int):Option Bool:=
  (G4 p1 p2 p3 p4 p5).bind fun v1=>some (decide (v1≥0))
theorem Z6 (p1:(List Int))(p2:Int)(p3:Int)(p4:Int)(p5:Int)(r:Bool)(h:F1 p1 p2 p3 p4 p5=some r):PCall Tryz.prog 224 [(.list (List.map A5 p1)),(.fn (.func 225) [] [(.bp [(i64 p2)] 0),(.bp [(i64 p3)] 0),(.bp [(i64 p4)] 0),(.bp [(i64 p5)] 0)])] (bo r):=by
 refine B8 (fk Tryz.func224 Tryz.ntmps224 m0 (by with_unfolding_all rfl)) (nl rfl) ?_
 unfold F1 at h
 refine B5 (s0:=⟨T [(0,(.d _)),(1,(.d _))],G []⟩) (sbr rfl rfl) ?_
 refine lr (fun u1 hu1=>sv rfl (A1 (lr (fun u2 hu2=>sv rfl (sv rfl (bs h fun v1 hv1 h=>B2 rfl rfl A2 (A0k _ _ _ _ _ _ hv1) (.inl rfl) (sv rfl (sv rfl (A1 (B4 ?_))))))))))
 cases h
 exact A8 (.inr rfl) (B7 (B6 rfl) E5) (.refl _)
noncomputable def A9l (p1:(List Int))(p2:Int)(p3:Int)(p4:Int)(p5:Int):Option Bool:=
  (F1 p1 p2 p3 p5 p4).bind fun v1=>some (!v1)
theorem B9a (p1:(List Int))(p2:Int)(p3:Int)(p4:Int)(p5:Int)(r:Bool)(h:A9l p1 p2 p3 p4 p5=some r):PCall Tryz.prog 181 [(.list (List.map A5 p1)),(i64 p2),(i64 p3),(i64 p4),(i64 p5)] (bo r):=by
 refine B8 (fk Tryz.func181 Tryz.ntmps181 m0 (by with_unfolding_all rfl)) (nl rfl) ?_
 unfold A9l at h
 refine B5 (s0:=⟨T [(0,(.d _)),(1,(.d _)),(2,(.d _)),(3,(.d _)),(4,(.d _))],G []⟩) (sbr rfl rfl) ?_
 refine lr (fun u1 hu1=>sn rfl rfl (sn rfl rfl (sn rfl rfl (sn rfl rfl (sv rfl (A1 (lr (fun u2 hu2=>sv rfl (C0 (.fn _ _ _) rfl rfl (bs h fun v1 hv1 h=>B2 rfl (rD (C3 (B91 D2 (C3 (A1e (gq rfl) (rD D2)) (C3 (A1e (gq rfl) (rD D2)) (C3 (A1e G_hit (rD D2)) (C3 (A1e (gq rfl) (rD D2)) D2))))) D2)) A2 (Z6 _ _ _ _ _ _ hv1) (.inr rfl) (C0 (.d (bo (!v1))) rfl rfl (sv rfl (A1 (B4 ?_))))))))))))))
 cases h
 exact A8 (.inr rfl) (B7 (B6 rfl) E5) (.refl _)
noncomputable def A6d (p2:Agent)(v1:(Int×Int))(v3:(Int×Int×Int))(v5:(List Int))(x1:Int):Option (Stp Int Int):=
  ((cond (decide (x1>(w64 (0 - v3.2.2)))) (A0o x1 p2 v3.1) (some default))).bind fun v6=>((cond (decide (x1>(w64 (0 - v3.2.2)))) (A9l v5 v1.2 p2.V v6 v3.2.2) (some default))).bind fun v7=>cond ((decide (x1>(w64 (0 - v3.2.2))))&& (!v7)) (some (.go (w64 (x1 - 1)))) (some (.out x1))
noncomputable def B1v (p1:Map)(p2:Agent)(p3:Int)(p4:Int):Option Agent:=
  (A8y p1 p2).bind fun v1=>(D0 p1.Lanes v1.1).bind fun v2=>(A20 v2.Kind).bind fun v3=>((cond p2.Obey (A21 p1 v1.1) (some default))).bind fun v4=>(cond (p2.Obey&& (decide (v1.2≤v4))) ((B3q p1 v1.1 p3).bind fun v5=>(loop (A6d p2 v1 v3 v5) (mm2 true (w64 (0 - v3.2.2)) (mm2 false p4 v3.2.1))).bind fun y2=>some y2) (some (mm2 true (w64 (0 - v3.2.2)) (mm2 false p4 v3.2.1)))).bind fun y1=>(A0o y1 p2 v3.1).bind fun v8=>(A8z p1 (Agent.mk p2.Route (w64 (p2.S+v8)) v8 p2.Len p2.Begin p2.Obey p2.Gone)).bind fun v9=>some (Agent.mk p2.Route (w64 (p2.S+v8)) v8 p2.Len p2.Begin p2.Obey v9)
theorem C0k (p1:Map)(p2:Agent)(p3:Int)(p4:Int)(r:Agent)(h:B1v p1 p2 p3 p4=some r):PCall Tryz.prog 88 [(.agg (A5o p1)),(.agg (C4 p2)),(i64 p3),(i64 p4)] (.agg (C4 r)):=by
 refine B8 (fk Tryz.func88 Tryz.ntmps88 m0 (by with_unfolding_all rfl)) (nl rfl) ?_
 unfold B1v at h
 refine B5 (s0:=⟨T [(0,(.d _)),(1,(.d _)),(2,(.d _)),(3,(.d _))],G []⟩) (sbr rfl rfl) ?_
 refine lr (fun u1 hu1=>sn rfl rfl (sn rfl rfl (sn rfl rfl (A1 (lr (fun u2 hu2=>sd rfl (A6 rfl (gq rfl) rfl rfl) (sd rfl (A6 rfl (gq rfl) rfl rfl) (bs h fun v1 hv1 h=>B2 rfl rfl A2 (B6c _ _ _ hv1) (.inl rfl) (sv rfl (sv rfl (sv rfl (sv rfl (sv rfl (A1 (lr (fun u3 hu3=>sp rfl rfl (sl rfl (gq rfl) rfl (sv rfl (bs h fun v2 hv2 h=>sd rfl (F9 rfl rfl hv2 rfl) (sv rfl (sd rfl (F4 rfl hv2 rfl) (bs h fun v3 hv3 h=>B2 rfl rfl A2 (A5z _ _ hv3) (.inl rfl) (sv rfl (sv rfl (sv rfl (sv rfl (sn rfl rfl (sst rfl G_hit [(di v3.1)] rfl (sv rfl (sv rfl (A1 (lr (fun u4 hu4=>C0 (.fn _ _ _) rfl rfl (C0 (.fn _ _ _) rfl rfl (A1 (lr (fun u5 hu5=>sv rfl (C0 (di (w64 (0 - v3.2.2))) rfl rfl (sv rfl (sv rfl (sv rfl (sv rfl (sv rfl (A1 (A7 (lr (fun u6 hu6=>sp rfl rfl (sl rfl (gq rfl) rfl (sv rfl (gt rfl (fun _=>rfl) ?_))))))))))))))))))))))))))))))))))))))))))))))))))
 refine gt rfl (fun w2=>(A6 rfl (gq rfl) rfl rfl)) (gt rfl (fun _=>rfl) (bs h fun v4 hv4 h=> ?_))
 refine O5 p2.Obey (i64 v4) (V5 rfl) (fun w4=>⟨_,[(.d (.agg (A5o p1))),(di v1.1)],_,_,(by simp only [A4 w4];rfl),rfl,A2,A65 _ _ _ (B9 w4 hv4),(.inl rfl)⟩) ?_
 refine gt rfl (fun w5=>(X7 (A4 w5) (A4 w5) rfl)) (sa rfl rfl rfl (A1 (bs h fun y1 hy1 h=>E7 (fun s=> ∃g1:Unit,Sb ⟨T [(3,(di y1)),(4,(.ptr (4,u1) 0)),(5,(.ptr (5,u1) 0)),(8,(.ptr (8,u1) 0)),(14,(.fn (.func 179) [] [(.ptr (5,u1) 0),(.ptr (11,u3) 0)]))],G [((4,u1),some (.box 33 (A02 p1))),((5,u1),some (.box 45 (Y0 p2))),((8,u1),some (.box 45 ([(.d .nilS)]++ (zs 4)++ [(.d (bo false)),(.d (bo false))]))),((11,u3),some (.box 2 [(di v3.1)]))]⟩ s) ?_ ?_)))
 refine cc rfl hy1 (fun c1 hy1=> ?_) (fun c1 hy1=> ?_)
 refine lr (fun u7 hu7=>sd rfl (A6 rfl (gq rfl) rfl rfl) (sv rfl (sv rfl (bs hy1 fun v5 hv5 hy1=>B2 rfl rfl A2 (C21 _ _ _ _ hv5) (.inl rfl) (sv rfl (A1 (bs hy1 fun y2 hy2 hy1=>E7 (fun s=> ∃g2:Unit,Sb ⟨T [(3,(di y2)),(4,(.ptr (4,u1) 0)),(5,(.ptr (5,u1) 0)),(8,(.ptr (8,u1) 0)),(14,(.fn (.func 179) [] [(.ptr (5,u1) 0),(.ptr (11,u3) 0)]))],G [((4,u1),some (.box 33 (A02 p1))),((5,u1),some (.box 45 (Y0 p2))),((8,u1),some (.box 45 ([(.d .nilS)]++ (zs 4)++ [(.d (bo false)),(.d (bo false))]))),((11,u3),some (.box 2 [(di v3.1)]))]⟩ s) ?_ ?_)))))))
 refine A9 (G5 (A6d p2 v1 v3 v5) (fun (x1:Int) (g3:Unit)=>⟨T [(3,(di x1)),(4,(.ptr (4,u1) 0)),(5,(.ptr (5,u1) 0)),(8,(.ptr (8,u1) 0)),(10,(di v1.2)),(13,(di v3.2.2)),(14,(.fn (.func 179) [] [(.ptr (5,u1) 0),(.ptr (11,u3) 0)])),(15,(dl A5 v5))],G [((4,u1),some (.box 33 (A02 p1))),((5,u1),some (.box 45 (Y0 p2))),((8,u1),some (.box 45 ([(.d .nilS)]++ (zs 4)++ [(.d (bo false)),(.d (bo false))]))),((11,u3),some (.box 2 [(di v3.1)]))]⟩) (mm2 true (w64 (0 - v3.2.2)) (mm2 false p4 v3.2.1)) () _ hy2 (sbr rfl rfl) ?_)
 intro x1 g3 z1 hz1 ez1
 unfold A6d at hz1
 refine A7 (A7 (I0 rfl fun u8 hu8=>sv rfl (sv rfl (C0 (di (w64 (0 - v3.2.2))) rfl rfl (sv rfl (sv rfl (gt rfl (fun _=>rfl) (gt rfl (fun _=>rfl) (gp rfl (V5 rfl) (fun _=>rfl) (gt rfl (vl rfl (gq rfl) rfl) (U0 _ (.fn _ _ _) rfl (V5 rfl) (fun _=>rfl) (gt rfl (fun _=>rfl) (bs hz1 fun v6 hv6 hz1=> ?_)))))))))))))
 refine O5 _ (i64 v6) (V5 rfl) (fun w12=>⟨_,[(di x1),(.ptr (5,u1) 0),(.ptr (11,u3) 0)],_,_,(by simp only [A4 w12];rfl),(rD (C3 (A1e (gq rfl) (rD (rD (rD (rD (rD (rD (rD D2)))))))) (C3 (A1e (gq rfl) (rD D2)) D2))),A2,A9k _ _ _ _ (B9 w12 hv6),(.inr rfl)⟩) ?_
 refine gt rfl (fun _=>rfl) (bs hz1 fun v7 hv7 hz1=> ?_)
 refine O5 _ (bo v7) (V5 rfl) (fun w14=>⟨_,[(dl A5 v5),(di v1.2),(di p2.V),(di v6),(di v3.2.2)],_,_,(by simp only [A4 w14];rfl),rfl,A2,B9a _ _ _ _ _ _ (B9 w14 hv7),(.inl rfl)⟩) ?_
 refine U0 _ (.d (bo (!v7))) rfl (V5 rfl) (fun w15=>(by simp only [A4 w15];rfl)) ?_
 refine sa rfl rfl rfl (A1 (cc rfl hz1 (fun c2 hz1=> ?_) (fun c2 hz1=> ?_)))
 refine B1 (A9 (C7 fun u9 hu9=>sv rfl (sv rfl (sv rfl (A1 (J3 (I3 ?_)))))))
 cases hz1
 exact ⟨rfl,(),(sbr rfl rfl)⟩
 refine C5 rfl ?_
 cases hz1
 obtain rfl:=ez1 _ rfl
 refine ⟨nofun,C2 rfl (l_j ?_)⟩
 exact ⟨(),(sbr rfl rfl)⟩
 rintro _ ⟨g2,q1⟩
 obtain rfl:=(Option.some.inj hy1)
 exact l_j ⟨(),(Sb.after q1 (sbr rfl rfl))⟩
 refine B1 ?_
 cases hy1
 exact l_j ⟨(),(sbr rfl rfl)⟩
 rintro _ ⟨g1,q2⟩
 refine B5 q2 (lr (fun u10 hu10=>C0 (.fn _ _ _) rfl rfl (sv rfl (bs h fun v8 hv8 h=>B2 rfl (rD (C3 (A1e (gq rfl) (rD (rD (rD (rD (rD (rD (rD D2)))))))) (C3 (A1e (gq rfl) (rD D2)) D2))) A2 (A9k _ _ _ _ hv8) (.inr rfl) (sp rfl rfl (sst rfl (gq rfl) ((Y0 p2).set 2 (di v8)) rfl (A1 (lr (fun u11 hu11=>sp rfl rfl (sl rfl G_hit rfl (sp rfl rfl (sl rfl G_hit rfl (sv rfl (sp rfl rfl (sst rfl G_hit (((Y0 p2).set 1 (di (w64 (p2.S+v8)))).set 2 (di v8)) rfl (A1 (lr (fun u12 hu12=>sd rfl (A6 rfl (gq rfl) rfl rfl) (sd rfl (A6 rfl G_hit rfl rfl) (bs h fun v9 hv9 h=>B2 rfl rfl A2 (B6d _ _ _ hv9) (.inl rfl) (sp rfl rfl (sst rfl G_hit ((((Y0 p2).set 1 (di (w64 (p2.S+v8)))).set 2 (di v8)).set 6 (.d (bo v9))) rfl (A1 (lr (fun u13 hu13=>sd rfl (A6 rfl G_hit rfl rfl) (sst rfl (gq rfl) ((((Y0 p2).set 1 (di (w64 (p2.S+v8)))).set 2 (di v8)).set 6 (.d (bo v9))) rfl (A1 (B4 ?_))))))))))))))))))))))))))))
 cases h
 exact A8 (.inr rfl) (B7 (G1 rfl G_hit (nl rfl) rfl) E5) (.refl _)
noncomputable def B1w (p1:Map)(p2:State)(p3:Int)(p4:Int):Option Agent:=
  cond ((decide (p3<0))||(decide (p3≥(p2.Agents.length:Int)))) (some (Agent.mk [] 0 0 0 0 false false)) ((D0 p2.Agents p3).bind fun v1=>(A1a v1).bind fun v2=>(A1c p2 p3).bind fun v3=>((cond (!(!v3)) (A3d p1 p2) (some default))).bind fun v4=>cond ((!v3)||(v4 !=0)) (some v2) ((B1v p1 v2 p2.Tick p4).bind fun v5=>some v5))
theorem C0l (p1:Map)(p2:State)(p3:Int)(p4:Int)(r:Agent)(h:B1w p1 p2 p3 p4=some r):PCall Tryz.prog 29 [(.agg (A5o p1)),(.agg (A1z p2)),(i64 p3),(i64 p4)] (.agg (C4 r)):=by
 refine B8 (fk Tryz.func29 Tryz.ntmps29 m0 (by with_unfolding_all rfl)) (nl rfl) ?_
 unfold B1w at h
 refine B5 (s0:=⟨T [(0,(.d _)),(1,(.d _)),(2,(.d _)),(3,(.d _))],G []⟩) (sbr rfl rfl) ?_
 refine lr (fun u1 hu1=>sn rfl rfl (sn rfl rfl (sn rfl rfl (A1 (A7 (lr (fun u2 hu2=>sv rfl (sv rfl (sv rfl (gf rfl (fun _=>rfl) (gp rfl (A0h rfl) (fun _=>rfl) (gf rfl (vl rfl (gq rfl) rfl) (gf rfl (fun w4=>(J6 (A4 w4))) (gf rfl (fun w5=>(X7 (A4 w5) (A4 w5) rfl)) (sd rfl (A49 rfl rfl (fun hc=>A4 (S3 hc))) (A1 (cc rfl h (fun c1 h=> ?_) (fun c1 h=> ?_))))))))))))))))))
 refine lr (fun u3 hu3=>sv rfl (sst rfl G_hit ([(.d .nilS)]++ (zs 4)++ [(.d (bo false)),(.d (bo false))]) rfl (A1 (B4 ?_))))
 cases h
 exact A8 (.inr rfl) (B7 (G1 rfl G_hit (nl rfl) rfl) E5) (.agg (.cons ⟨DLe.nil,rfl⟩ (cz rfl)))
 refine B1 (lr (fun u4 hu4=>sp rfl rfl (sl rfl (gq rfl) rfl (sv rfl (bs h fun v1 hv1 h=>sd rfl (F9 rfl rfl hv1 rfl) (sd rfl (C6 rfl hv1 rfl rfl) (bs h fun v2 hv2 h=>B2 rfl rfl A2 (A73 _ _ hv2) (.inl rfl) (sn rfl rfl (sst rfl G_hit (Y0 v2) rfl (A1 (A7 (lr (fun u5 hu5=>sd rfl (A6 rfl (gq rfl) rfl rfl) (sv rfl (bs h fun v3 hv3 h=>B2 rfl rfl A2 (A2l _ _ _ hv3) (.inl rfl) (C0 (.d (bo (!v3))) rfl rfl (sv rfl (gf rfl (fun w6=>(A6 rfl (gq rfl) rfl rfl)) (gf rfl (fun w7=>(A6 rfl (gq rfl) rfl rfl)) (bs h fun v4 hv4 h=> ?_))))))))))))))))))))
 refine O5 _ (i64 v4) (A0h rfl) (fun w8=>⟨_,[(.d (.agg (A5o p1))),(.d (.agg (A1z p2)))],_,_,(by simp only [A4 w8];rfl),rfl,A2,A7f _ _ _ (B9 w8 hv4),(.inl rfl)⟩) ?_
 refine gf rfl (vb rfl rfl rfl) (sd rfl (A49 rfl rfl (fun hc=>A4 (S3 hc))) (A1 (cc rfl h (fun c2 h=> ?_) (fun c2 h=> ?_))))
 refine lr (fun u6 hu6=>sd rfl (A6 rfl G_hit rfl rfl) (sst rfl (gq rfl) (Y0 v2) rfl (A1 (B4 ?_))))
 cases h
 exact A8 (.inr rfl) (B7 (G1 rfl G_hit (nl rfl) rfl) E5) (.refl _)
 refine B1 (lr (fun u7 hu7=>sd rfl (A6 rfl (gq rfl) rfl rfl) (sd rfl (A6 rfl G_hit rfl rfl) (sp rfl rfl (sl rfl (gq rfl) rfl (sv rfl (bs h fun v5 hv5 h=>B2 rfl rfl A2 (C0k _ _ _ _ _ hv5) (.inl rfl) (sst rfl (gq rfl) (Y0 v5) rfl (A1 (B4 ?_))))))))))
 cases h
 exact A8 (.inr rfl) (B7 (G1 rfl G_hit (nl rfl) rfl) E5) (.refl _)
theorem B0e (p1:List Stay)(r:List Stay)(h:S9 p1=some r):MCall Tryz.prog 121 [.d (.list (List.map M2 p1))] [] (oE r (800000,0)) [] [oB 127 4 M2 r]:=by
  cases p1 with
  |nil=>
   have hr:r= []:=by obtain ⟨_,rfl⟩:=A7m h;rfl
   subst hr
   exact MCall.ofP (A4n [] [] h)
  |cons x xs=>
  have hr:A83 ([]:List Stay) (x::xs)=some r:=h
  have e:=(A7m hr).2
  rw [List.nil_append]at e
  rw [D1m (A00 hr),C9n (A00 hr)]
  refine C69 (fk Tryz.func121 Tryz.ntmps121 m0 (by with_unfolding_all rfl)) rfl (Nat.le_of_ble_eq_true rfl) ?_
  refine (B5 (s0:=⟨T [(0, .d (.list (List.map M2 (x::xs))))],G []⟩) (G2 ⟨.of rfl,trivial⟩ trivial) ?_)
  refine A7 ?_
  refine C7 fun u1 hu1=> ?_
  refine C0 (.d .nilS) rfl rfl ?_
  refine A1 ?_
  refine A7 ?_
  refine A7 ?_
  refine C7 fun u2 hu2=> ?_
  refine C0 (.d (.list (List.map M2 (x::xs)))) rfl rfl ?_
  refine C0 (.d (bo false)) rfl rfl ?_
  refine A1 ?_
  refine B27 rfl ?_
  refine B1 ?_
  refine A7 ?_
  refine C7 fun u3 hu3=> ?_
  refine C7w (.sl _) (.arr 127 4 (List.map M2 ([]:List Stay))) rfl rfl ?_
  refine C0 (.d (.list (List.map M2 (x::xs)))) rfl rfl ?_
  refine B64 M2 _ [] (x::xs) _ (Q5 (fun _=>rfl)) rfl G_hit hr ?_
  refine C0 (.sl _) rfl rfl ?_
  refine A1 ?_
  refine B4 ?_
  exact D11 (v1:= .sl (7,u3)) (.inr rfl) (C4v (B6 rfl)) (.of rfl) [((7,u3),some (.arr 127 4 (List.map M2 r)))] (B0 G_hit (.of rfl) trivial) (C82 [(7,u3)] rfl trivial ⟨G_hit,trivial⟩ rfl (by simp only [List.mem_cons,List.not_mem_nil,or_false,forall_eq];exact fun i=>C8k rfl i) nd1)
noncomputable def A2g (p1:State)(x1:(Int×State)):Option (Stp (Int×State) State):=
  cond (decide (x1.1< (p1.Agents.length:Int))) ((D0 p1.Agents x1.1).bind fun v2=>(A1a v2).bind fun v3=>(A83 x1.2.Agents [v3]).bind fun v4=>some (.go ((w64 (x1.1+1)),(State.mk x1.2.Tick v4 x1.2.In)))) (some (.out x1.2))
noncomputable def A6e (p1:State):Option State:=
  (S9 p1.In).bind fun v1=>(loop (A2g p1) (0,(State.mk p1.Tick [] v1))).bind fun y1=>some y1
theorem B7d (p1:State)(r:State)(h:A6e p1=some r):MCall Tryz.prog 56 [(.d (.agg (A1z p1)))] [] (A31 [(di r.Tick),(oS r.Agents (800000,0)),(oE r.In (800001,0))]) [] [oB 45 7 C4 r.Agents,oB 127 4 M2 r.In]:=by
 refine C69 (fk Tryz.func56 Tryz.ntmps56 (fun r=>if r==1 then [1001004]else if r==5 then [1004]else []) (by with_unfolding_all rfl)) (by generalize r.Agents=x1;generalize r.In=x2;cases x1<;>cases x2<;>rfl) (nl rfl) ?_
 unfold A6e at h
 refine B5 (s0:=⟨T [(0,(.d _))],G []⟩) (sbr rfl rfl) ?_
 refine lr (fun u1 hu1=>sn rfl rfl (sn rfl rfl (A1 (A7 (B2b fun u2 hu2=>U2 (.ptr _ _) rfl rfl (U2 (.d _) rfl (R7 rfl (gq rfl) rfl) (U2 (.ptr _ _) rfl rfl (U2 (.d _) rfl (R7 rfl (gq rfl) rfl) (bs h fun v1 hv1 h=> ?_)))))))))
 refine D13 (v:=oE v1 (10010040,u2)) (us:= [(10010040,u2)]) (D14 (B0e _ _ hv1) [] [] _ (((10010040,u2),oB 127 4 M2 v1)::_) rfl A5x rfl A2w trivial (fun _ h=>h) List.nodup_nil (by generalize v1=x1;cases x1<;>rfl) rfl (C6c (rfl)) rfl) ?_
 refine U2 (A31 [(di p1.Tick),(.d .nilS),(oE v1 (10010040,u2))]) rfl (by generalize v1=x1;cases x1<;>rfl) ?_
 refine C9r (.ptr _ _) (.box _ _) rfl rfl (B2c _ _ _ _ _ (A0s _) rfl rfl G_hit (nl rfl) [(di p1.Tick),(.d .nilS),(oE v1 (10010040,u2))] rfl (C0c ⟨rfl,?_⟩))
 refine A7 (lr (fun u3 hu3=>sp rfl rfl (sl rfl (gq rfl) rfl (sd rfl (J6 rfl) (sv rfl (A1 (bs h fun y1 hy1 h=>E7 (fun s=> ∃g1:(Nat×Nat),Sb ⟨T [(2,(.ptr (2,u1) 0)),(3,(.ptr (3,u2) 0))],G [((2,u1),some (.box 25 [(di 0),(.d .nilS),(.d .nilS)])),((3,u2),some (.box 25 [(di y1.Tick),(oS y1.Agents (24,g1.1)),(oE y1.In (10010040,g1.2))])),((24,g1.1),oB 45 7 C4 y1.Agents),((10010040,g1.2),oB 127 4 M2 y1.In)]⟩ s) ?_ ?_)))))))
 refine A9 (G5 (A2g p1) (fun (x1:(Int×State)) (g2:(Nat×Nat))=>⟨T [(2,(.ptr (2,u1) 0)),(3,(.ptr (3,u2) 0)),(13,(dl C4 p1.Agents)),(14,(di (p1.Agents.length:Int))),(15,(di x1.1))],G [((2,u1),some (.box 25 [(di 0),(.d .nilS),(.d .nilS)])),((3,u2),some (.box 25 [(di x1.2.Tick),(oS x1.2.Agents (24,g2.1)),(oE x1.2.In (10010040,g2.2))])),((24,g2.1),oB 45 7 C4 x1.2.Agents),((10010040,g2.2),oB 127 4 M2 x1.2.In)]⟩) (0,(State.mk p1.Tick [] v1)) (0,u2) _ hy1 (G2 ⟨.of rfl, .of rfl, .of rfl, .of rfl, .of rfl,trivial⟩ (sg rfl (B0 G_hit (.of rfl) (A2n (B3 (gq rfl) trivial))))) ?_)
 intro x1 g2 z1 hz1 ez1
 unfold A2g at hz1
 refine lr (fun u4 hu4=>sv rfl (A1 (A7 (cc rfl hz1 (fun c1 hz1=> ?_) (fun c1 hz1=> ?_)))))
 refine B1 (A7 (A9 (lr (fun u5 hu5=>bs hz1 fun v2 hv2 hz1=>sd rfl (F9 rfl rfl hv2 rfl) (sd rfl (C6 rfl hv2 rfl rfl) (sn rfl rfl (sst rfl G_hit (Y0 v2) rfl (A1 (I0 rfl fun u6 hu6=>sp rfl rfl (C0 (oS x1.2.Agents (24,g2.1)) rfl (R7 rfl (gq rfl) rfl) (sd rfl (A6 rfl G_hit rfl rfl) (bs hz1 fun v3 hv3 hz1=>B2 rfl rfl A2 (A73 _ _ hv3) (.inl rfl) (C0 (dl C4 [v3]) rfl rfl (bs hz1 fun v4 hv4 hz1=>U6 C4 (24,g2.1) x1.2.Agents v3 [] _ (Q5 (fun _=>rfl)) rfl (gq rfl) hv4 (sp rfl rfl (sst rfl (gq rfl) [(di x1.2.Tick),(.sl (24,u6)),(oE x1.2.In (10010040,g2.2))] rfl (A1 (J3 (C7 fun u7 hu7=>sv rfl (sv rfl (A1 (I3 ?_))))))))))))))))))))))
 cases hz1
 exact ⟨rfl,(u6,g2.2),(G2 ⟨.of rfl, .of rfl, .of rfl, .of rfl, .of rfl,trivial⟩ (sg rfl (B0 G_hit (.box (cv (.cons (.of (A6z (A00 hv4)).symm) cw))) (A16 (gq rfl) (B3 (gq rfl) trivial)))))⟩
 refine C5 rfl ?_
 cases hz1
 obtain rfl:=ez1 _ rfl
 refine ⟨nofun,C2 rfl (l_j ?_)⟩
 exact ⟨(g2.1,g2.2),(G2 ⟨.of rfl, .of rfl,trivial⟩ (B0 G_hit (.of rfl) (sg rfl (B3 (gq rfl) (B3 (gq rfl) trivial)))))⟩
 rintro _ ⟨g1,q1⟩
 refine B5 q1 (lr (fun u8 hu8=>C0 (A31 [(di y1.Tick),(oS y1.Agents (24,g1.1)),(oE y1.In (10010040,g1.2))]) rfl (A6 rfl (gq rfl) rfl rfl) (B2a _ _ _ _ _ (A0s _) rfl rfl G_hit (nl rfl) [(di y1.Tick),(oS y1.Agents (24,g1.1)),(oE y1.In (10010040,g1.2))] rfl (A1 (B4 ?_)))))
 obtain rfl:=(Option.some.inj h)
 exact D11 (v1:=(A31 [(di y1.Tick),(oS y1.Agents (24,g1.1)),(oE y1.In (10010040,g1.2))])) (.inr rfl) (C4v (G1 rfl G_hit (Nat.le_of_ble_eq_true rfl) rfl)) (.of rfl) [((24,g1.1),oB 45 7 C4 y1.Agents),((10010040,g1.2),oB 127 4 M2 y1.In)] (B3 (gq rfl) (B3 (gq rfl) trivial)) (C9w [(24,g1.1),(10010040,g1.2)] (by generalize y1.Agents=x1;generalize y1.In=x2;cases x1<;>cases x2<;>rfl) trivial ⟨(G_hit).trans oB_ren.symm,((gq rfl)).trans oB_ren.symm,trivial⟩ rfl (List.forall_mem_cons.2 ⟨fun i hi=>C6d rfl hi,(List.forall_mem_cons.2 ⟨fun i hi=>C6d rfl hi,(fun _ h=>nomatch h)⟩)⟩) (nd2 (C3s rfl)))
noncomputable def W1 (p1:WorldScene)(p2:Int)(p3:Int):Option (Int×Bool):=
  (D0 p1.before.Agents p2).bind fun v1=>(V2 v1.Route p3).bind fun v2=>cond (decide (v2<0)) (some (0,false)) ((A3a p1.m v1.Route).bind fun v3=>(D0 v3 v2).bind fun v4=>some (v4,true))
theorem A6y (p1:WorldScene)(p2:Int)(p3:Int)(r:(Int×Bool))(h:W1 p1 p2 p3=some r):PCall Tryz.prog 227 [(.bp (A9a p1) 0),(i64 p2),(i64 p3)] (.tup [(i64 r.1),(bo r.2)]):=by
 refine B8 (fk Tryz.func227 Tryz.ntmps227 m0 (by with_unfolding_all rfl)) (nl rfl) ?_
 unfold W1 at h
 refine B5 (s0:=⟨T [(0,(.d _)),(1,(.d _)),(2,(.d _))],G []⟩) (sbr rfl rfl) ?_
 refine lr (fun u1 hu1=>sv rfl (sv rfl (A1 (lr (fun u2 hu2=>sv rfl (sv rfl (sv rfl (sv rfl (sv rfl (sv rfl (bs h fun v1 hv1 h=>sd rfl (F9 rfl rfl hv1 rfl) (sv rfl (sd rfl (F4 rfl hv1 rfl) (sv rfl (A1 (lr (fun u3 hu3=>sv rfl (sv rfl (bs h fun v2 hv2 h=>B2 rfl rfl A2 (A64 _ _ _ hv2) (.inl rfl) (sv rfl (A1 (A7 (lr (fun u4 hu4=>sv rfl (sv rfl (A1 (cc rfl h (fun c1 h=> ?_) (fun c1 h=> ?_))))))))))))))))))))))))))))
 refine lr (fun u5 hu5=>sv rfl (sv rfl (A1 (B4 ?_))))
 cases h
 exact A8 (.inr rfl) (B4m (B6 rfl) (B6 rfl) E5 E5) (.refl _)
 refine B1 (lr (fun u6 hu6=>sv rfl (sv rfl (sv rfl (sv rfl (sv rfl (bs h fun v3 hv3 h=>B2 rfl rfl A2 (A9f _ _ _ hv3) (.inl rfl) (sv rfl (bs h fun v4 hv4 h=>sd rfl (F9 rfl rfl hv4 rfl) (sd rfl (F4 rfl hv4 rfl) (sv rfl (sv rfl (A1 (B4 ?_))))))))))))))
 cases h
 exact A8 (.inr rfl) (B4m (B6 rfl) (B6 rfl) E5 E5) (.refl _)
noncomputable def Y2 (p1:WorldScene)(p2:Int)(p3:Int):Option Stay:=
  (C1 p1.after.In (Stay.mk p2 p3 0 0)).bind fun v1=>(D0 p1.after.In v1.1).bind fun v2=>some v2
theorem A7x (p1:WorldScene)(p2:Int)(p3:Int)(r:Stay)(h:Y2 p1 p2 p3=some r):PCall Tryz.prog 228 [(.bp (A9a p1) 0),(i64 p2),(i64 p3)] (.agg (M2 r)):=by
 refine B8 (fk Tryz.func228 Tryz.ntmps228 m0 (by with_unfolding_all rfl)) (nl rfl) ?_
 unfold Y2 at h
 refine B5 (s0:=⟨T [(0,(.d _)),(1,(.d _)),(2,(.d _))],G []⟩) (sbr rfl rfl) ?_
 refine lr (fun u1 hu1=>sn rfl rfl (A1 (lr (fun u2 hu2=>sv rfl (sv rfl (sv rfl (sv rfl (sv rfl (sv rfl (sv rfl (sv rfl (bs h fun v1 hv1 h=>B2 rfl rfl A2 (L0 _ _ _ hv1) (.inl rfl) (sv rfl (sv rfl (sv rfl (sv rfl (sv rfl (A1 (lr (fun u3 hu3=>sv rfl (sv rfl (sv rfl (sv rfl (sv rfl (sv rfl (bs h fun v2 hv2 h=>sd rfl (F9 rfl rfl hv2 rfl) (sd rfl (C6 rfl hv2 rfl rfl) (sst rfl G_hit (B95 v2) rfl (A1 (B4 ?_))))))))))))))))))))))))))))))
 cases h
 exact A8 (.inr rfl) (B7 (G1 rfl G_hit (nl rfl) rfl) E5) (.refl _)
noncomputable def A4x (p1:Map)(p2:State)(p3:(List Int))(v2:State)(y2:(List Agent))(y5:(List Stay))(a1:(Int×Int))(x6:(Int× (List Crash))):Option (Stp (Int× (List Crash)) (List Crash)):=
  cond (decide (x6.1< (p1.Zones.length:Int))) ((W0 (WorldScene.mk p1 p2 (State.mk v2.Tick y2 y5) p3 x6.2) a1.1 a1.2 x6.1).bind fun v28=>cond (!v28) (some (.go ((w64 (x6.1+1)),x6.2))) ((Y2 (WorldScene.mk p1 p2 (State.mk v2.Tick y2 y5) p3 x6.2) a1.1 x6.1).bind fun v29=>(Y2 (WorldScene.mk p1 p2 (State.mk v2.Tick y2 y5) p3 x6.2) a1.2 x6.1).bind fun v30=>(X0 v29.Rank v30.Rank).bind fun v31=>(Z5 v30.Since v29.Since).bind fun v32=>(A74 [v31,v32]).bind fun v33=>(cond (v33==(-1)) (some [a1.1]) (cond (v33==1) (some [a1.2]) (some [a1.1,a1.2]))).bind fun y17=>(A83 x6.2 [(Crash.mk p2.Tick a1.1 a1.2 (-1) x6.1 y17)]).bind fun v34=>some (.go ((w64 (x6.1+1)),v34)))) (some (.out x6.2))
noncomputable def A7g (p1:Map)(p2:State)(p3:(List Int))(v2:State)(y2:(List Agent))(y5:(List Stay))(a1:(Int×Int))(y12:(List Crash)):Option (List Crash):=
  (loop (A4x p1 p2 p3 v2 y2 y5 a1) (0,y12)).bind fun y16=>some y16
noncomputable def A4y (p1:Map)(p2:State)(p3:(List Int))(v2:State)(y2:(List Agent))(y5:(List Stay))(x4:(List Crash))(a1:(Int×Int))(x5:Int):Option (Stp Int (Sum Unit (List Crash))):=
  cond (decide (x5< (p1.Lanes.length:Int))) ((W1 (WorldScene.mk p1 p2 (State.mk v2.Tick y2 y5) p3 x4) a1.1 x5).bind fun v13=>(W1 (WorldScene.mk p1 p2 (State.mk v2.Tick y2 y5) p3 x4) a1.2 x5).bind fun v14=>cond ((!v13.2)||(!v14.2)) (some (.go (w64 (x5+1)))) ((D0 p2.Agents a1.1).bind fun v15=>(D0 p2.Agents a1.2).bind fun v16=>(cond (decide ((w64 (v15.S - v13.1))< (w64 (v16.S - v14.1)))) (some (v14.1,v13.1,a1.2,a1.1)) (some (v13.1,v14.1,a1.1,a1.2))).bind fun y14=>(D0 y2 y14.2.2.1).bind fun v17=>(A2j v17).bind fun v18=>(W9 v18 y14.1).bind fun v19=>(D0 y2 y14.2.2.2).bind fun v20=>(A2j v20).bind fun v21=>(W9 v21 y14.2.1).bind fun v22=>(D0 p2.Agents y14.2.2.2).bind fun v23=>(A2j v23).bind fun v24=>(W9 v24 y14.2.1).bind fun v25=>(A21 p1 x5).bind fun v26=>cond (((((decide (v19.to≥0))&& (decide (v22.to≥0)))&& (decide (v25.from_≤v26)))&& (decide (v19.from_≤v26)))&& (decide (v22.to≥v19.from_))) ((A83 x4 [(Crash.mk p2.Tick a1.1 a1.2 x5 (-1) [y14.2.2.2])]).bind fun v27=>some (.out (.inr v27))) (some (.go (w64 (x5+1)))))) (some (.out (.inl ())))
noncomputable def A8n (p1:Map)(p2:State)(p3:(List Int))(v2:State)(y2:(List Agent))(y5:(List Stay))(x4:(List Crash))(a1:(Int×Int)):Option (List Crash):=
  thenS (loop (A4y p1 p2 p3 v2 y2 y5 x4 a1) 0) (fun _=>some x4) (fun r=>some r)
noncomputable def A6f (p1:Map)(p2:State)(p3:(List Int))(v2:State)(y2:(List Agent))(y5:(List Stay))(x4:(List Crash))(a1:(Int×Int)):Option (Stp (List Crash) (List Crash)):=
  (A8n p1 p2 p3 v2 y2 y5 x4 a1).bind fun y12=>(A7g p1 p2 p3 v2 y2 y5 a1 y12).bind fun y15=>some (.go y15)
noncomputable def A8o:Option Unit:=
  some ()
noncomputable def A8p (p1:Map)(p2:State)(p3:(List Int))(v2:State)(y2:(List Agent))(y5:(List Stay)):Option (List Crash):=
  (A8o).bind fun y10=>((B9t p2).bind fun v12=>loopL (A6f p1 p2 p3 v2 y2 y5) (fun (x4:(List Crash))=>x4) v12 []).bind fun y11=>some y11
noncomputable def A6g (p1:Map)(p2:State)(p3:(List Int))(v2:State)(y2:(List Agent))(x2:(Int× (List Stay)))(v6:Agent)(x3:(Int× (List Stay))):Option (Stp (Int× (List Stay)) (List Stay)):=
  cond (decide (x3.1< (p1.Zones.length:Int))) ((P6 (WorldScene.mk p1 p2 (State.mk v2.Tick y2 x3.2) p3 []) x2.1 x3.1).bind fun v7=>cond (!v7) (some (.go ((w64 (x3.1+1)),x3.2))) ((C1 p2.In (Stay.mk x2.1 x3.1 p2.Tick 0)).bind fun v8=>(cond v8.2 ((D0 p2.In v8.1).bind fun v9=>some v9) ((A90 p1 v6 x3.1 p2.Tick).bind fun v10=>some (Stay.mk x2.1 x3.1 p2.Tick v10))).bind fun y8=>(A83 x3.2 [y8]).bind fun v11=>some (.go ((w64 (x3.1+1)),v11)))) (some (.out x3.2))
noncomputable def A6h (p1:Map)(p2:State)(p3:(List Int))(v2:State)(y2:(List Agent))(x2:(Int× (List Stay))):Option (Stp (Int× (List Stay)) (List Stay)):=
  cond (decide (x2.1< (p2.Agents.length:Int))) ((D0 p2.Agents x2.1).bind fun v6=>(loop (A6g p1 p2 p3 v2 y2 x2 v6) (0,x2.2)).bind fun y7=>some (.go ((w64 (x2.1+1)),y7))) (some (.out x2.2))
noncomputable def A8q (p1:Map)(p2:State)(p3:(List Int))(v2:State)(y2:(List Agent)):Option (List Stay):=
  (loop (A6h p1 p2 p3 v2 y2) (0,[])).bind fun y6=>some y6
noncomputable def A6i (p1:Map)(p2:State)(p3:(List Int))(x1:(Int× (List Agent))):Option (Stp (Int× (List Agent)) (List Agent)):=
  cond (decide (x1.1< (p2.Agents.length:Int))) ((cond (decide (x1.1< (p3.length:Int))) ((D0 p3 x1.1).bind fun v3=>some v3) (some 0)).bind fun y4=>(B1w p1 p2 x1.1 y4).bind fun v4=>(D0 x1.2 x1.1).bind fun v5=>some (.go ((w64 (x1.1+1)),(B92 x1.2 x1.1 v4)))) (some (.out x1.2))
noncomputable def A8r (p1:Map)(p2:State)(p3:(List Int))(v2:State):Option (List Agent):=
  (loop (A6i p1 p2 p3) (0,v2.Agents)).bind fun y3=>some y3
noncomputable def A76 (p1:Map)(p2:State)(p3:(List Int)):Option (State× (List Crash)×Int):=
  (A3d p1 p2).bind fun v1=>cond (v1 !=0) (some ((State.mk 0 [] []),[],v1)) (cond (decide (p2.Tick≥1099511627776)) (some ((State.mk 0 [] []),[],2)) ((A6e p2).bind fun v2=>((A8r p1 p2 p3 v2).bind fun y2=>(A8q p1 p2 p3 v2 y2).bind fun y5=>(A8p p1 p2 p3 v2 y2 y5).bind fun y9=>some (y2,y5,y9)).bind fun y1=>some ((State.mk (w64 (v2.Tick+1)) y1.1 y1.2.1),y1.2.2,0)))
theorem B2j (p1:Map)(p2:State)(p3:(List Int))(r:(State× (List Crash)×Int))(h:A76 p1 p2 p3=some r):PCall Tryz.prog 31 [(.agg (A5o p1)),(.agg (A1z p2)),(.list (List.map A5 p3))] (.tup [(.agg (A1z r.1)),(.list (List.map X9 r.2.1)),(i64 r.2.2)]):=by
 refine B8 (fk Tryz.func31 Tryz.ntmps31 (fun r=>if r==6 then [1006003]else if r==10 then [2]else []) (by with_unfolding_all rfl)) (nl rfl) ?_
 unfold A76 at h
 refine B5 (s0:=⟨T [(0,(.d _)),(1,(.d _)),(2,(.d _))],G []⟩) (sbr rfl rfl) ?_
 refine lr (fun u1 hu1=>sn rfl rfl (sn rfl rfl (sn rfl rfl (sv rfl (sv rfl (A1 (A7 (lr (fun u2 hu2=>sd rfl (A6 rfl (gq rfl) rfl rfl) (sd rfl (A6 rfl (gq rfl) rfl rfl) (bs h fun v1 hv1 h=>B2 rfl rfl A2 (A7f _ _ _ hv1) (.inl rfl) (sv rfl (A1 (lr (fun u3 hu3=>sv rfl (sv rfl (A1 (cc rfl h (fun c1 h=> ?_) (fun c1 h=> ?_)))))))))))))))))))
 refine lr (fun u4 hu4=>sv rfl (sv rfl (sst rfl G_hit [(di 0),(.d .nilS),(.d .nilS)] rfl (sv rfl (sv rfl (A1 (B4 ?_)))))))
 cases h
 exact A8 (.inr rfl) (C1j (G1 rfl G_hit (nl rfl) rfl) (B6 rfl) (B6 rfl) E5 E5 E5) (.tup (.cons (.agg (ca rfl (.cons ⟨DLe.nil,rfl⟩ (.cons ⟨DLe.nil,rfl⟩ .nil)))) (.cons DLe.nil A2)))
 refine B1 (A7 (lr (fun u5 hu5=>sp rfl rfl (sl rfl (gq rfl) rfl (sv rfl (A1 (cc rfl h (fun c2 h=> ?_) (fun c2 h=> ?_))))))))
 refine lr (fun u6 hu6=>sv rfl (sst rfl G_hit [(di 0),(.d .nilS),(.d .nilS)] rfl (sv rfl (sv rfl (A1 (B4 ?_))))))
 cases h
 exact A8 (.inr rfl) (C1j (G1 rfl G_hit (nl rfl) rfl) (B6 rfl) (B6 rfl) E5 E5 E5) (.tup (.cons (.agg (ca rfl (.cons ⟨DLe.nil,rfl⟩ (.cons ⟨DLe.nil,rfl⟩ .nil)))) (.cons DLe.nil A2)))
 refine B1 (A7 (B2b fun u7 hu7=>U2 (.d _) rfl (A6 rfl (gq rfl) rfl rfl) (U2 (.d _) rfl (A6 rfl (gq rfl) rfl rfl) (U2 (.d _) rfl (A6 rfl (gq rfl) rfl rfl) (bs h fun v2 hv2 h=> ?_)))))
 refine D13 (v:=A31 [(di v2.Tick),(oS v2.Agents (10060030,u7)),(oE v2.In (10060031,u7))]) (us:= [(10060030,u7),(10060031,u7)]) (D14 (B7d _ _ hv2) [] [] _ (((10060031,u7),oB 127 4 M2 v2.In)::(((10060030,u7),oB 45 7 C4 v2.Agents)::_)) rfl A5x rfl A2w trivial (fun _ h=>h) List.nodup_nil (by generalize v2.Agents=x1;generalize v2.In=x2;cases x1<;>cases x2<;>rfl) rfl (C6c (C6c (rfl))) rfl) ?_
 refine U2 (.d _) rfl rfl ?_
 refine U2 (A31 ((A02 p1)++ (N3 p2)++ [(di v2.Tick),(oS v2.Agents (10060030,u7)),(oE v2.In (10060031,u7)),(dl A5 p3),(.d .nilS)])) rfl (by generalize v2.Agents=x1;generalize v2.In=x2;cases x1<;>cases x2<;>rfl) ?_
 refine C9r (.ptr _ _) (.box _ _) rfl (C4x rfl) (U2 (.ptr _ _) rfl rfl (C0c ⟨rfl,?_⟩))
 refine A7 (lr (fun u8 hu8=>sv rfl (sv rfl (A1 (bs h fun y1 hy1 h=>E7 (fun s=> ∃g1:(Nat×Nat× ({d:Nat // d∈ [72,158]}×Nat)),Sb ⟨T [(6,(.ptr (6,u1) 0)),(10,(.ptr (30,u7) 0))],G [((6,u1),some (.box 25 [(di 0),(.d .nilS),(.d .nilS)])),((30,u7),some (.box 135 ((A02 p1)++ (N3 p2)++ [(di v2.Tick),(oS y1.1 (10060030,g1.1)),(oS y1.2.1 (85,g1.2.1)),(dl A5 p3),(oS y1.2.2 (g1.2.2.1.val,g1.2.2.2))]))),((10060030,g1.1),oB 45 7 C4 y1.1),((85,g1.2.1),oB 127 4 M2 y1.2.1),((g1.2.2.1.val,g1.2.2.2),oB 77 6 X9 y1.2.2)]⟩ s) ?_ ?_)))))
 refine A9 (B28 (lr (fun u9 hu9=>sv rfl (A1 (A7 (B3i rfl (B1 (A7 (A9 (lr (fun u10 hu10=>sv rfl (sv rfl (A1 (C7 fun u11 hu11=>sv rfl (sp rfl rfl (bs hy1 fun y2 hy2 hy1=>B68 (fk Tryz.func90 Tryz.ntmps90 m0 (by with_unfolding_all rfl)) (fun (g2:Nat)=> [(6,(.ptr (6,u1) 0)),(10,(.ptr (30,u7) 0)),(31,(.d (.agg [(.fn (.func 90) [] []),(.fn (.func 80) [] []),(.fn (.func 91) [] [])]))),(32,(di 0))]) (fun (g2:Nat)=> [((6,u1),some (.box 25 [(di 0),(.d .nilS),(.d .nilS)])),((30,u7),some (.box 135 ((A02 p1)++ (N3 p2)++ [(di v2.Tick),(oS y2 (10060030,g2)),(oE v2.In (10060031,u7)),(dl A5 p3),(.d .nilS)]))),((10060031,u7),oB 127 4 M2 v2.In),((10060030,g2),oB 45 7 C4 y2)]) rfl (nl rfl) ?_ ?_))))))))))))))))
 unfold A8r at hy2
 refine B5 (s0:=⟨T [(0,(.ptr (30,u7) 0))],G [((30,u7),some (.box 135 ((A02 p1)++ (N3 p2)++ [(di v2.Tick),(oS v2.Agents (10060030,u7)),(oE v2.In (10060031,u7)),(dl A5 p3),(.d .nilS)]))),((10060030,u7),oB 45 7 C4 v2.Agents),((10060031,u7),oB 127 4 M2 v2.In),((6,u1),some (.box 25 [(di 0),(.d .nilS),(.d .nilS)]))]⟩) (G2 ⟨.of rfl,trivial⟩ (B0 G_hit (.of rfl) (B3 (gq rfl) (B3 (gq rfl) (sg rfl trivial))))) ?_
 refine lr (fun u12 hu12=>sp rfl rfl (sp rfl rfl (sp rfl rfl (sp rfl rfl (sl rfl G_hit rfl (sd rfl (J6 rfl) (sv rfl (A1 (bs hy2 fun y3 hy3 hy2=>E7 (fun s=> ∃g3:Nat,Sb ⟨T [],G [((6,u1),some (.box 25 [(di 0),(.d .nilS),(.d .nilS)])),((30,u7),some (.box 135 ((A02 p1)++ (N3 p2)++ [(di v2.Tick),(oS y3 (10060030,g3)),(oE v2.In (10060031,u7)),(dl A5 p3),(.d .nilS)]))),((10060031,u7),oB 127 4 M2 v2.In),((10060030,g3),oB 45 7 C4 y3)]⟩ s) ?_ ?_)))))))))
 refine A9 (G5 (A6i p1 p2 p3) (fun (x1:(Int× (List Agent))) (g4:Nat)=>⟨T [(0,(.ptr (30,u7) 0)),(9,(di (p2.Agents.length:Int))),(10,(di x1.1))],G [((30,u7),some (.box 135 ((A02 p1)++ (N3 p2)++ [(di v2.Tick),(oS x1.2 (10060030,g4)),(oE v2.In (10060031,u7)),(dl A5 p3),(.d .nilS)]))),((6,u1),some (.box 25 [(di 0),(.d .nilS),(.d .nilS)])),((10060031,u7),oB 127 4 M2 v2.In),((10060030,g4),oB 45 7 C4 x1.2)]⟩) (0,v2.Agents) u7 _ hy3 (G2 ⟨.of rfl, .of rfl, .of rfl,trivial⟩ (B0 G_hit (.of rfl) (sg rfl (B3 (gq rfl) (B3 (gq rfl) trivial))))) ?_)
 intro x1 g4 z1 hz1 ez1
 unfold A6i at hz1
 refine lr (fun u13 hu13=>sv rfl (A1 (A7 (cc rfl hz1 (fun c3 hz1=> ?_) (fun c3 hz1=> ?_)))))
 refine B1 (A7 (A9 (lr (fun u14 hu14=>sv rfl (sv rfl (A1 (lr (fun u15 hu15=>sv rfl (A1 (A7 (lr (fun u16 hu16=>sv rfl (sp rfl rfl (sp rfl rfl (sp rfl rfl (sl rfl G_hit rfl (sd rfl (J6 rfl) (sv rfl (A1 (bs hz1 fun y4 hy4 hz1=>E7 (fun s=> ∃g5:Unit,Sb ⟨T [(0,(.ptr (30,u7) 0)),(2,(di x1.1)),(3,(di y4)),(9,(di (p2.Agents.length:Int))),(10,(di x1.1))],G [((30,u7),some (.box 135 ((A02 p1)++ (N3 p2)++ [(di v2.Tick),(oS x1.2 (10060030,g4)),(oE v2.In (10060031,u7)),(dl A5 p3),(.d .nilS)]))),((6,u1),some (.box 25 [(di 0),(.d .nilS),(.d .nilS)])),((10060030,g4),oB 45 7 C4 x1.2),((10060031,u7),oB 127 4 M2 v2.In)]⟩ s) ?_ ?_))))))))))))))))))))
 refine cc rfl hy4 (fun c4 hy4=> ?_) (fun c4 hy4=> ?_)
 refine C7 fun u17 hu17=>sp rfl rfl (sp rfl rfl (sp rfl rfl (sl rfl G_hit rfl (sv rfl (bs hy4 fun v3 hv3 hy4=>sd rfl (F9 rfl rfl hv3 rfl) (sd rfl (F4 rfl hv3 rfl) (sv rfl (A1 ?_))))))))
 obtain rfl:=(Option.some.inj hy4)
 exact l_j ⟨(),(G2 ⟨.of rfl, .of rfl, .of rfl, .of rfl, .of rfl,trivial⟩ (B0 G_hit (.of rfl) (sg rfl (B3 (gq rfl) (B3 (gq rfl) trivial)))))⟩
 refine B1 ?_
 cases hy4
 exact l_j ⟨(),(G2 ⟨.of rfl, .of rfl, .of rfl, .of rfl, .of rfl,trivial⟩ (B0 G_hit (.of rfl) (sg rfl (B3 (gq rfl) (B3 (gq rfl) trivial)))))⟩
 rintro _ ⟨g5,q1⟩
 refine B5 q1 (I0 rfl fun u18 hu18=>sp rfl rfl (sp rfl rfl (sp rfl rfl (sp rfl rfl (C0 (oS x1.2 (10060030,g4)) rfl (R7 rfl G_hit rfl) (sv rfl (sp rfl rfl (sp rfl rfl (sp rfl rfl (sd rfl (A6 rfl G_hit rfl rfl) (sp rfl rfl (sp rfl rfl (sp rfl rfl (sd rfl (A6 rfl G_hit rfl rfl) (sv rfl (sv rfl (bs hz1 fun v4 hv4 hz1=>B2 rfl rfl A2 (C0l _ _ _ _ _ hv4) (.inl rfl) (bs hz1 fun v5 hv5 hz1=>C0 (.aptr _ _ _ _) rfl (C1k rfl rfl (gq rfl) hv5) ?_))))))))))))))))))
 rw [A6z (A98 hv5)]
 refine B4f C4 _ _ _ (x1.1) _ v4 (C4 v4) rfl rfl rfl (B3j (gq rfl) (A98 hv5)) hv5 (nl rfl) rfl (A1 (J3 (C7 fun u19 hu19=>sv rfl (sv rfl (A1 (I3 ?_))))))
 cases hz1
 exact ⟨rfl,g4,(G2 ⟨.of rfl, .of rfl, .of rfl,trivial⟩ (B0 (gq rfl) (.box (cv (cv (cv (cv (cv (cv (cv (cv (cv (.cons (.of (A6z (C63 (A98 hv5))).symm) cw))))))))))) (sg rfl (B3 (gq rfl) (A16 G_hit trivial)))))⟩
 refine C5 rfl ?_
 cases hz1
 obtain rfl:=ez1 _ rfl
 refine ⟨nofun,C2 rfl (l_j ?_)⟩
 exact ⟨g4,(G2 trivial (sg rfl (B0 G_hit (.of rfl) (B3 (gq rfl) (B3 (gq rfl) trivial)))))⟩
 rintro _ ⟨g3,q2⟩
 refine I3 ?_
 obtain rfl:=(Option.some.inj hy2)
 exact B69 q2 (.inl rfl) g3 ⟨.of rfl, .of rfl, .of rfl, .of rfl,trivial⟩ (B0 G_hit (.of rfl) (sg rfl (B3 (gq rfl) (B3 (gq rfl) trivial))))
 intro g2
 intro u20 hu20
 refine A1 (J3 (C7 fun u21 hu21=>sv rfl (sv rfl (A1 (B28 (lr (fun u22 hu22=>sv rfl (A1 (A7 (B3i rfl (B1 (A7 (A9 (lr (fun u23 hu23=>sv rfl (sv rfl (A1 (C7 fun u24 hu24=>sv rfl (sp rfl rfl (bs hy1 fun y5 hy5 hy1=>B68 (fk Tryz.func80 Tryz.ntmps80 (fun r=>if r==13 then [1007]else []) (by with_unfolding_all rfl)) (fun (g6:Nat)=> [(6,(.ptr (6,u1) 0)),(10,(.ptr (30,u7) 0)),(31,(.d (.agg [(.fn (.func 90) [] []),(.fn (.func 80) [] []),(.fn (.func 91) [] [])]))),(32,(di 1))]) (fun (g6:Nat)=> [((6,u1),some (.box 25 [(di 0),(.d .nilS),(.d .nilS)])),((30,u7),some (.box 135 ((A02 p1)++ (N3 p2)++ [(di v2.Tick),(oS y2 (10060030,g2)),(oS y5 (85,g6)),(dl A5 p3),(.d .nilS)]))),((10060030,g2),oB 45 7 C4 y2),((85,g6),oB 127 4 M2 y5)]) rfl (nl rfl) ?_ ?_))))))))))))))))))))
 unfold A8q at hy5
 refine B5 (s0:=⟨T [(0,(.ptr (30,u7) 0))],G [((30,u7),some (.box 135 ((A02 p1)++ (N3 p2)++ [(di v2.Tick),(oS y2 (10060030,g2)),(oE v2.In (10060031,u7)),(dl A5 p3),(.d .nilS)]))),((10060030,g2),oB 45 7 C4 y2),((10060031,u7),oB 127 4 M2 v2.In),((6,u1),some (.box 25 [(di 0),(.d .nilS),(.d .nilS)]))]⟩) (G2 ⟨.of rfl,trivial⟩ (sg rfl (B3 (gq rfl) (B3 (gq rfl) (B0 G_hit (.of rfl) trivial))))) ?_
 refine lr (fun u25 hu25=>sp rfl rfl (sp rfl rfl (sp rfl rfl (sp rfl rfl (sst rfl G_hit ((A02 p1)++ (N3 p2)++ [(di v2.Tick),(oS y2 (10060030,g2)),(.d .nilS),(dl A5 p3),(.d .nilS)]) rfl (A1 (lr (fun u26 hu26=>sp rfl rfl (sp rfl rfl (sp rfl rfl (sp rfl rfl (sl rfl G_hit rfl (sd rfl (J6 rfl) (sv rfl (A1 (bs hy5 fun y6 hy6 hy5=>E7 (fun s=> ∃g7:Nat,Sb ⟨T [],G [((6,u1),some (.box 25 [(di 0),(.d .nilS),(.d .nilS)])),((30,u7),some (.box 135 ((A02 p1)++ (N3 p2)++ [(di v2.Tick),(oS y2 (10060030,g2)),(oS y6 (85,g7)),(dl A5 p3),(.d .nilS)]))),((10060030,g2),oB 45 7 C4 y2),((85,g7),oB 127 4 M2 y6)]⟩ s) ?_ ?_))))))))))))))))
 refine A9 (G5 (A6h p1 p2 p3 v2 y2) (fun (x2:(Int× (List Stay))) (g8:Nat)=>⟨T [(0,(.ptr (30,u7) 0)),(16,(dl C4 p2.Agents)),(17,(di (p2.Agents.length:Int))),(18,(di x2.1))],G [((30,u7),some (.box 135 ((A02 p1)++ (N3 p2)++ [(di v2.Tick),(oS y2 (10060030,g2)),(oS x2.2 (85,g8)),(dl A5 p3),(.d .nilS)]))),((6,u1),some (.box 25 [(di 0),(.d .nilS),(.d .nilS)])),((10060030,g2),oB 45 7 C4 y2),((85,g8),oB 127 4 M2 x2.2)]⟩) (0,[]) 0 _ hy6 (G2 ⟨.of rfl, .of rfl, .of rfl, .of rfl,trivial⟩ (B0 G_hit (.of rfl) (sg rfl (B3 (gq rfl) (A2n trivial))))) ?_)
 intro x2 g8 z2 hz2 ez2
 unfold A6h at hz2
 refine lr (fun u27 hu27=>sv rfl (A1 (A7 (cc rfl hz2 (fun c5 hz2=> ?_) (fun c5 hz2=> ?_)))))
 refine B1 (A7 (A9 (lr (fun u28 hu28=>sv rfl (bs hz2 fun v6 hv6 hz2=>sd rfl (F9 rfl rfl hv6 rfl) (sd rfl (C6 rfl hv6 rfl rfl) (sn rfl rfl (sv rfl (sst rfl G_hit (Y0 v6) rfl (A1 (lr (fun u29 hu29=>sp rfl rfl (sp rfl rfl (sp rfl rfl (sp rfl rfl (sl rfl (gq rfl) rfl (sd rfl (J6 rfl) (sv rfl (A1 (bs hz2 fun y7 hy7 hz2=>E7 (fun s=> ∃g9:Nat,Sb ⟨T [(0,(.ptr (30,u7) 0)),(16,(dl C4 p2.Agents)),(17,(di (p2.Agents.length:Int))),(18,(di x2.1))],G [((30,u7),some (.box 135 ((A02 p1)++ (N3 p2)++ [(di v2.Tick),(oS y2 (10060030,g2)),(oS y7 (85,g9)),(dl A5 p3),(.d .nilS)]))),((6,u1),some (.box 25 [(di 0),(.d .nilS),(.d .nilS)])),((10060030,g2),oB 45 7 C4 y2),((85,g9),oB 127 4 M2 y7)]⟩ s) ?_ ?_))))))))))))))))))))
 refine A9 (G5 (A6g p1 p2 p3 v2 y2 x2 v6) (fun (x3:(Int× (List Stay))) (g10:Nat)=>⟨T [(0,(.ptr (30,u7) 0)),(2,(di x2.1)),(3,(.ptr (3,u28) 0)),(16,(dl C4 p2.Agents)),(17,(di (p2.Agents.length:Int))),(18,(di x2.1)),(28,(di (p1.Zones.length:Int))),(29,(di x3.1))],G [((30,u7),some (.box 135 ((A02 p1)++ (N3 p2)++ [(di v2.Tick),(oS y2 (10060030,g2)),(oS x3.2 (85,g10)),(dl A5 p3),(.d .nilS)]))),((3,u28),some (.box 45 (Y0 v6))),((6,u1),some (.box 25 [(di 0),(.d .nilS),(.d .nilS)])),((10060030,g2),oB 45 7 C4 y2),((85,g10),oB 127 4 M2 x3.2)]⟩) (0,x2.2) g8 _ hy7 (G2 ⟨.of rfl, .of rfl, .of rfl, .of rfl, .of rfl, .of rfl, .of rfl, .of rfl,trivial⟩ (sg rfl (B0 G_hit (.of rfl) (sg rfl (B3 (gq rfl) (B3 (gq rfl) trivial)))))) ?_)
 intro x3 g10 z3 hz3 ez3
 unfold A6g at hz3
 refine lr (fun u30 hu30=>sv rfl (A1 (A7 (cc rfl hz3 (fun c6 hz3=> ?_) (fun c6 hz3=> ?_)))))
 refine B1 (A7 (A9 (lr (fun u31 hu31=>sv rfl (sv rfl (A1 (A7 (lr (fun u32 hu32=>sp rfl rfl (sv rfl (sv rfl (bs hz3 fun v7 hv7 hz3=>B2 rfl (C3 (A1e G_hit (rD (rD (rD (rD (rD (rD (rD (rD (rD (C3 (A3u (gq rfl)) (C3 (A3u (gq rfl)) (rD (rD D2)))))))))))))) (rD (rD D2))) (.cons (DLe.bp (ca rfl (ca rfl (ca rfl (ca rfl (ca rfl (ca rfl (ca rfl (ca rfl (ca rfl (.cons ⟨A3t,rfl⟩ (.cons ⟨A3t,rfl⟩ (ca rfl (.cons ⟨DLe.nil,rfl⟩ .nil)))))))))))))) (.cons (.refl _) A2)) (Y1 _ _ _ _ hv7) (.inr rfl) (C0 (.d (bo (!v7))) rfl rfl (A1 (cc rfl hz3 (fun c7 hz3=> ?_) (fun c7 hz3=> ?_))))))))))))))))
 refine B4w rfl (C7 fun u33 hu33=>sv rfl (sv rfl (A1 (I3 ?_))))
 cases hz3
 exact ⟨rfl,g10,(G2 ⟨.of rfl, .of rfl, .of rfl, .of rfl, .of rfl, .of rfl, .of rfl, .of rfl,trivial⟩ (B0 G_hit (.of rfl) (sg rfl (sg rfl (B3 (gq rfl) (B3 (gq rfl) trivial))))))⟩
 refine B1 (lr (fun u34 hu34=>sv rfl (sv rfl (sp rfl rfl (sp rfl rfl (sp rfl rfl (sp rfl rfl (sl rfl G_hit rfl (sv rfl (sn rfl rfl (sst rfl G_hit [(di x2.1),(di x3.1),(di p2.Tick),(di 0)] rfl (A1 (A7 (A7 (I0 rfl fun u35 hu35=>sp rfl rfl (sp rfl rfl (sp rfl rfl (sp rfl rfl (sl rfl (gq rfl) rfl (sd rfl (A6 rfl G_hit rfl rfl) (bs hz3 fun v8 hv8 hz3=>B2 rfl rfl A2 (L0 _ _ _ hv8) (.inl rfl) (sv rfl (sv rfl (sv rfl (sv rfl (sv rfl (A1 (lr (fun u36 hu36=>sv rfl (A1 (bs hz3 fun y8 hy8 hz3=>E7 (fun s=> ∃g11:Unit,Sb ⟨T [(0,(.ptr (30,u7) 0)),(2,(di x2.1)),(3,(.ptr (3,u28) 0)),(5,(.ptr (5,u34) 0)),(16,(dl C4 p2.Agents)),(17,(di (p2.Agents.length:Int))),(18,(di x2.1)),(28,(di (p1.Zones.length:Int))),(29,(di x3.1))],G [((30,u7),some (.box 135 ((A02 p1)++ (N3 p2)++ [(di v2.Tick),(oS y2 (10060030,g2)),(oS x3.2 (85,g10)),(dl A5 p3),(.d .nilS)]))),((3,u28),some (.box 45 (Y0 v6))),((5,u34),some (.box 127 (B95 y8))),((6,u1),some (.box 25 [(di 0),(.d .nilS),(.d .nilS)])),((10060030,g2),oB 45 7 C4 y2),((85,g10),oB 127 4 M2 x3.2)]⟩ s) ?_ ?_)))))))))))))))))))))))))))))))
 refine cc rfl hy8 (fun c8 hy8=> ?_) (fun c8 hy8=> ?_)
 refine C7 fun u37 hu37=>sp rfl rfl (sp rfl rfl (sp rfl rfl (sp rfl rfl (sl rfl (gq rfl) rfl (sv rfl (bs hy8 fun v9 hv9 hy8=>sd rfl (F9 rfl rfl hv9 rfl) (sd rfl (C6 rfl hv9 rfl rfl) (sst rfl G_hit (B95 v9) rfl (A1 ?_)))))))))
 obtain rfl:=(Option.some.inj hy8)
 exact l_j ⟨(),(G2 ⟨.of rfl, .of rfl, .of rfl, .of rfl, .of rfl, .of rfl, .of rfl, .of rfl, .of rfl,trivial⟩ (sg rfl (sg rfl (B0 G_hit (.of rfl) (sg rfl (B3 (gq rfl) (B3 (gq rfl) trivial)))))))⟩
 refine I0 rfl fun u38 hu38=>sp rfl rfl (sp rfl rfl (sp rfl rfl (sd rfl (A6 rfl (gq rfl) rfl rfl) (sd rfl (A6 rfl (gq rfl) rfl rfl) (sv rfl (sp rfl rfl (sp rfl rfl (sp rfl rfl (sp rfl rfl (sl rfl (gq rfl) rfl (bs hy8 fun v10 hv10 hy8=>B2 rfl rfl A2 (B6f _ _ _ _ _ hv10) (.inl rfl) (sp rfl rfl (sst rfl G_hit [(di x2.1),(di x3.1),(di p2.Tick),(di v10)] rfl (A1 ?_))))))))))))))
 cases hy8
 exact l_j ⟨(),(G2 ⟨.of rfl, .of rfl, .of rfl, .of rfl, .of rfl, .of rfl, .of rfl, .of rfl, .of rfl,trivial⟩ (sg rfl (sg rfl (B0 G_hit (.of rfl) (sg rfl (B3 (gq rfl) (B3 (gq rfl) trivial)))))))⟩
 rintro _ ⟨g11,q3⟩
 refine B5 q3 (I0 rfl fun u39 hu39=>sp rfl rfl (sp rfl rfl (sp rfl rfl (sp rfl rfl (sp rfl rfl (C0 (oS x3.2 (85,g10)) rfl (R7 rfl G_hit rfl) (sd rfl (A6 rfl (gq rfl) rfl rfl) (C0 (dl M2 [y8]) rfl rfl (bs hz3 fun v11 hv11 hz3=>U6 M2 (85,g10) x3.2 y8 [] _ (Q5 (fun _=>rfl)) rfl (gq rfl) hv11 (sp rfl rfl (sp rfl rfl (sp rfl rfl (sst rfl (gq rfl) ((A02 p1)++ (N3 p2)++ [(di v2.Tick),(oS y2 (10060030,g2)),(.sl (85,u39)),(dl A5 p3),(.d .nilS)]) rfl (A1 (J3 (C7 fun u40 hu40=>sv rfl (sv rfl (A1 (I3 ?_)))))))))))))))))))
 cases hz3
 exact ⟨rfl,u39,(G2 ⟨.of rfl, .of rfl, .of rfl, .of rfl, .of rfl, .of rfl, .of rfl, .of rfl,trivial⟩ (B0 G_hit (.box (cv (cv (cv (cv (cv (cv (cv (cv (cv (cv (.cons (.of (A6z (A00 hv11)).symm) cw)))))))))))) (sg rfl (sg rfl (B3 (gq rfl) (A16 (gq rfl) trivial))))))⟩
 refine C5 rfl ?_
 cases hz3
 obtain rfl:=ez3 _ rfl
 refine ⟨nofun,C2 rfl (l_j ?_)⟩
 exact ⟨g10,(G2 ⟨.of rfl, .of rfl, .of rfl, .of rfl,trivial⟩ (B0 G_hit (.of rfl) (sg rfl (B3 (gq rfl) (B3 (gq rfl) trivial)))))⟩
 rintro _ ⟨g9,q4⟩
 refine J3 (B5 q4 (C7 fun u41 hu41=>sv rfl (sv rfl (A1 (I3 ?_)))))
 cases hz2
 exact ⟨rfl,g9,(G2 ⟨.of rfl, .of rfl, .of rfl, .of rfl,trivial⟩ (B0 G_hit (.of rfl) (sg rfl (B3 (gq rfl) (B3 (gq rfl) trivial)))))⟩
 refine C5 rfl ?_
 cases hz2
 obtain rfl:=ez2 _ rfl
 refine ⟨nofun,C2 rfl (l_j ?_)⟩
 exact ⟨g8,(G2 trivial (sg rfl (B0 G_hit (.of rfl) (B3 (gq rfl) (B3 (gq rfl) trivial)))))⟩
 rintro _ ⟨g7,q5⟩
 refine I3 ?_
 obtain rfl:=(Option.some.inj hy5)
 exact B69 q5 (.inl rfl) g7 ⟨.of rfl, .of rfl, .of rfl, .of rfl,trivial⟩ (B0 G_hit (.of rfl) (sg rfl (B3 (gq rfl) (B3 (gq rfl) trivial))))
 intro g6
 intro u42 hu42
 refine A1 (J3 (C7 fun u43 hu43=>sv rfl (sv rfl (A1 (B28 (lr (fun u44 hu44=>sv rfl (A1 (A7 (B3i rfl (B1 (A7 (A9 (lr (fun u45 hu45=>sv rfl (sv rfl (A1 (C7 fun u46 hu46=>sv rfl (sp rfl rfl (bs hy1 fun y9 hy9 hy1=>B68 (fk Tryz.func91 Tryz.ntmps91 (fun r=>if r==1 then [1]else if r==4 then [3]else if r==5 then [3]else []) (by with_unfolding_all rfl)) (fun (g12:({d:Nat // d∈ [72,158]}×Nat))=> [(6,(.ptr (6,u1) 0)),(10,(.ptr (30,u7) 0)),(31,(.d (.agg [(.fn (.func 90) [] []),(.fn (.func 80) [] []),(.fn (.func 91) [] [])]))),(32,(di 2))]) (fun (g12:({d:Nat // d∈ [72,158]}×Nat))=> [((6,u1),some (.box 25 [(di 0),(.d .nilS),(.d .nilS)])),((30,u7),some (.box 135 ((A02 p1)++ (N3 p2)++ [(di v2.Tick),(oS y2 (10060030,g2)),(oS y5 (85,g6)),(dl A5 p3),(oS y9 (g12.1.val,g12.2))]))),((10060030,g2),oB 45 7 C4 y2),((85,g6),oB 127 4 M2 y5),((g12.1.val,g12.2),oB 77 6 X9 y9)]) rfl (nl rfl) ?_ ?_))))))))))))))))))))
 unfold A8p at hy9
 refine B5 (s0:=⟨T [(0,(.ptr (30,u7) 0))],G [((30,u7),some (.box 135 ((A02 p1)++ (N3 p2)++ [(di v2.Tick),(oS y2 (10060030,g2)),(oS y5 (85,g6)),(dl A5 p3),(.d .nilS)]))),((10060030,g2),oB 45 7 C4 y2),((85,g6),oB 127 4 M2 y5),((6,u1),some (.box 25 [(di 0),(.d .nilS),(.d .nilS)]))]⟩) (G2 ⟨.of rfl,trivial⟩ (sg rfl (B3 (gq rfl) (B3 (gq rfl) (B0 G_hit (.of rfl) trivial))))) ?_
 refine lr (fun u47 hu47=>sn rfl rfl (A1 (lr (fun u48 hu48=>sp rfl (R7 rfl G_hit rfl) (bs hy9 fun y10 hy10 hy9=>B68 (fk Tryz.func81 Tryz.ntmps81 m0 (by with_unfolding_all rfl)) (fun (g13:{g:Nat // g≠u47})=> [(1,(.ptr (1,u47) 0)),(5,(.fn (.func 174) [] [(.ptr (1,g13.1) 0)]))]) (fun (g13:{g:Nat // g≠u47})=> [((1,u47),some (.box 133 [(.ptr (30,u7) 0)])),((30,u7),some (.box 135 ((A02 p1)++ (N3 p2)++ [(di v2.Tick),(oS y2 (10060030,g2)),(oS y5 (85,g6)),(dl A5 p3),(.d .nilS)]))),((6,u1),some (.box 25 [(di 0),(.d .nilS),(.d .nilS)])),((10060030,g2),oB 45 7 C4 y2),((85,g6),oB 127 4 M2 y5),((1,g13.1),some (.box 133 [(.ptr (30,u7) 0)]))]) rfl (nl rfl) ?_ ?_)))))
 unfold A8o at hy10
 refine B5 (s0:=⟨T [(0,(.ptr (30,u7) 0))],G [((30,u7),some (.box 135 ((A02 p1)++ (N3 p2)++ [(di v2.Tick),(oS y2 (10060030,g2)),(oS y5 (85,g6)),(dl A5 p3),(.d .nilS)]))),((10060030,g2),oB 45 7 C4 y2),((85,g6),oB 127 4 M2 y5),((6,u1),some (.box 25 [(di 0),(.d .nilS),(.d .nilS)])),((1,u47),some (.box 133 [(.ptr (30,u7) 0)]))]⟩) (G2 ⟨.of rfl,trivial⟩ (sg rfl (B3 (gq rfl) (B3 (gq rfl) (sg rfl (B0 G_hit (.of rfl) trivial)))))) ?_
 refine lr (fun u49 hu49=>sn rfl rfl (sv rfl (A1 (lr (fun u50 hu50=>C0 (.fn _ _ _) rfl rfl (C0 (.fn _ _ _) rfl rfl (A1 (B4 ?_))))))))
 cases hy10
 exact B8k (.inr rfl) (C4v (B6 rfl)) ⟨u49,(Ne.symm (B4e (k:=(1,u47)) hu49 (gq rfl)))⟩ ⟨.of rfl, .of rfl,trivial⟩ (B0 (U5 (B4e hu49 (gq rfl)) (gq rfl)) (.of rfl) (sg rfl (sg rfl (B3 (gq rfl) (B3 (gq rfl) (B0 G_hit (.of rfl) trivial))))))
 intro g13
 intro u51 hu51
 refine A1 (bs hy9 fun y11 hy11 hy9=>E7 (fun s=> ∃g14:({d:Nat // d∈ [72,158]}×Nat),Sb ⟨T [],G [((6,u1),some (.box 25 [(di 0),(.d .nilS),(.d .nilS)])),((30,u7),some (.box 135 ((A02 p1)++ (N3 p2)++ [(di v2.Tick),(oS y2 (10060030,g2)),(oS y5 (85,g6)),(dl A5 p3),(oS y11 (g14.1.val,g14.2))]))),((10060030,g2),oB 45 7 C4 y2),((85,g6),oB 127 4 M2 y5),((g14.1.val,g14.2),oB 77 6 X9 y11)]⟩ s) ?_ ?_)
 refine A9 (bs hy11 fun v12 hv12 hy11=>B5 (s0:=⟨T [(1,(.ptr (1,u47) 0)),(5,(.fn (.func 174) [] [(.ptr (1,g13.1) 0)]))],G [((1,u47),some (.box 133 [(.ptr (30,u7) 0)])),((30,u7),some (.box 135 ((A02 p1)++ (N3 p2)++ [(di v2.Tick),(oS y2 (10060030,g2)),(oS y5 (85,g6)),(dl A5 p3),(.d .nilS)]))),((10060030,g2),oB 45 7 C4 y2),((85,g6),oB 127 4 M2 y5),((1,g13.1),some (.box 133 [(.ptr (30,u7) 0)])),((6,u1),some (.box 25 [(di 0),(.d .nilS),(.d .nilS)]))]⟩) (G2 ⟨.of rfl, .of rfl,trivial⟩ (B0 G_hit (.of rfl) (sg rfl (B3 (gq rfl) (B3 (gq rfl) (B0 (U5 g13.2 (gq rfl)) (.of rfl) (sg rfl trivial))))))) ?_)
 refine C3x (.fn (.func 174) [] [(.ptr (1,g13.1) 0)]) (B5f (1,g13.1) (30,u7) p2) C2w v12 (A6f p1 p2 p3 v2 y2 y5) (fun (x4:(List Crash))=>x4) (fun (x4:(List Crash)) (g15:({d:Nat // d∈ [72,158]}×Nat))=> [((1,u47),some (.box 133 [(.ptr (30,u7) 0)])),((1,g13.1),some (.box 133 [(.ptr (30,u7) 0)])),((6,u1),some (.box 25 [(di 0),(.d .nilS),(.d .nilS)])),((30,u7),some (.box 135 ((A02 p1)++ (N3 p2)++ [(di v2.Tick),(oS y2 (10060030,g2)),(oS y5 (85,g6)),(dl A5 p3),(oS x4 (g15.1.val,g15.2))]))),((10060030,g2),oB 45 7 C4 y2),((85,g6),oB 127 4 M2 y5),((g15.1.val,g15.2),oB 77 6 X9 x4)]) [] (⟨72, .head _⟩,0) _ rfl (B9u hv12 _ _) (fun x4 g15 _ _=>⟨A3 rfl (U5 g13.2 G_hit),_,_,_,_,_,_,_,_,_,_,A3 rfl (gq rfl)⟩) (fun _=>rfl) hy11 (G2 trivial (B0 G_hit (.of rfl) (B0 (U5 g13.2 (gq rfl)) (.of rfl) (sg rfl (sg rfl (B3 (gq rfl) (B3 (gq rfl) (A2n trivial)))))))) nofun ?_ ?_
 intro u53 hu53 hku53
 refine ⟨fun x4 g15=>(A3 rfl (A3 rfl (A3 rfl (A3 rfl (A3 rfl (A3 rfl (A3 (neR g15.1.property rfl) rfl))))))),?_⟩
 intro r1 x4 g15 a1 z4 hrr1 hz4 ez4
 unfold A6f at hz4
 show AWL _ _ _ _ _ _ ⟨T [(7,(di a1.2)),(6,(di a1.1)),(1,(.ptr (1,u47) 0)),(5,(.fn (.func 174) [] [(.ptr (1,g13.1) 0)]))],G [((1000000,u53),some (.obj (T [(1,(.ptr (1,u47) 0)),(5,(.fn (.func 174) [] [(.ptr (1,g13.1) 0)]))]) r1)),((1,u47),some (.box 133 [(.ptr (30,u7) 0)])),((1,g13.1),some (.box 133 [(.ptr (30,u7) 0)])),((6,u1),some (.box 25 [(di 0),(.d .nilS),(.d .nilS)])),((30,u7),some (.box 135 ((A02 p1)++ (N3 p2)++ [(di v2.Tick),(oS y2 (10060030,g2)),(oS y5 (85,g6)),(dl A5 p3),(oS x4 (g15.1.val,g15.2))]))),((10060030,g2),oB 45 7 C4 y2),((85,g6),oB 127 4 M2 y5),((g15.1.val,g15.2),oB 77 6 X9 x4)]⟩
 refine lr (fun u54 hu54=>sv rfl (A1 (C7 fun u55 hu55=>sv rfl (A1 (l_j (C3k G_hit ?_))))))
 refine A9 (lr (fun u56 hu56=>sp rfl (R7 rfl (gq rfl) rfl) (sv rfl (sv rfl (bs hz4 fun y12 hy12 hz4=>B68 (fk Tryz.func183 Tryz.ntmps183 (fun r=>if r==13 then [1014,1016]else []) (by with_unfolding_all rfl)) (fun (g16:({d:Nat // d∈ [72,158]}×Nat))=> [(1,(.ptr (1,u47) 0)),(2,(di a1.1)),(3,(di a1.2))]) (fun (g16:({d:Nat // d∈ [72,158]}×Nat))=> [((1,u47),some (.box 133 [(.ptr (30,u7) 0)])),((6,u1),some (.box 25 [(di 0),(.d .nilS),(.d .nilS)])),((30,u7),some (.box 135 ((A02 p1)++ (N3 p2)++ [(di v2.Tick),(oS y2 (10060030,g2)),(oS y5 (85,g6)),(dl A5 p3),(oS y12 (g16.1.val,g16.2))]))),((1,g13.1),some (.box 133 [(.ptr (30,u7) 0)])),((1000000,u53),some (.obj (T [(1,(.ptr (1,u47) 0)),(5,(.fn (.func 174) [] [(.ptr (1,g13.1) 0)]))]) {r1 with state:= .busy})),((10060030,g2),oB 45 7 C4 y2),((85,g6),oB 127 4 M2 y5),((g16.1.val,g16.2),oB 77 6 X9 y12)]) rfl (nl rfl) ?_ ?_)))))
 unfold A8n at hy12
 refine B5 (s0:=⟨T [(0,(.ptr (30,u7) 0)),(1,(di a1.1)),(2,(di a1.2))],G [((30,u7),some (.box 135 ((A02 p1)++ (N3 p2)++ [(di v2.Tick),(oS y2 (10060030,g2)),(oS y5 (85,g6)),(dl A5 p3),(oS x4 (g15.1.val,g15.2))]))),((10060030,g2),oB 45 7 C4 y2),((85,g6),oB 127 4 M2 y5),((g15.1.val,g15.2),oB 77 6 X9 x4),((6,u1),some (.box 25 [(di 0),(.d .nilS),(.d .nilS)])),((1,u47),some (.box 133 [(.ptr (30,u7) 0)])),((1,g13.1),some (.box 133 [(.ptr (30,u7) 0)])),((1000000,u53),some (.obj (T [(1,(.ptr (1,u47) 0)),(5,(.fn (.func 174) [] [(.ptr (1,g13.1) 0)]))]) {r1 with state:= .busy}))]⟩) (G2 ⟨.of rfl, .of rfl, .of rfl,trivial⟩ (sg rfl (B3 (gq rfl) (B3 (gq rfl) (B3 (A3 (neL g15.1.property rfl) (A3 (neL g15.1.property rfl) (A3 (neL g15.1.property rfl) (A3 (neL g15.1.property rfl) (A3 (neL g15.1.property rfl) (A3 (neL g15.1.property rfl) (A3 (neL g15.1.property rfl) (A3 (neL g15.1.property rfl) G_hit)))))))) (sg rfl (sg rfl (B0 (A3 rfl (A3 rfl (U5 g13.2 G_hit))) (.of rfl) (B0 G_hit (.of rfl) trivial))))))))) ?_
 refine lr (fun u57 hu57=>sp rfl rfl (sp rfl rfl (sp rfl rfl (sp rfl rfl (sl rfl G_hit rfl (sd rfl (J6 rfl) (sv rfl (A1 (js hy12 fun z5 hz5 hy12=>E7 (fun s=> ∃(y13:Unit) (g17:Unit),z5= .inl y13∧Sb ⟨T [],G [((6,u1),some (.box 25 [(di 0),(.d .nilS),(.d .nilS)])),((30,u7),some (.box 135 ((A02 p1)++ (N3 p2)++ [(di v2.Tick),(oS y2 (10060030,g2)),(oS y5 (85,g6)),(dl A5 p3),(oS x4 (g15.1.val,g15.2))]))),((1,u47),some (.box 133 [(.ptr (30,u7) 0)])),((1,g13.1),some (.box 133 [(.ptr (30,u7) 0)])),((1000000,u53),some (.obj (T [(1,(.ptr (1,u47) 0)),(5,(.fn (.func 174) [] [(.ptr (1,g13.1) 0)]))]) {r1 with state:= .busy})),((10060030,g2),oB 45 7 C4 y2),((85,g6),oB 127 4 M2 y5),((g15.1.val,g15.2),oB 77 6 X9 x4)]⟩ s) ?_ ?_)))))))))
 refine A9 (G5 (A4y p1 p2 p3 v2 y2 y5 x4 a1) (fun (x5:Int) (g18:Unit)=>⟨T [(0,(.ptr (30,u7) 0)),(1,(di a1.1)),(2,(di a1.2)),(22,(di (p1.Lanes.length:Int))),(23,(di x5))],G [((30,u7),some (.box 135 ((A02 p1)++ (N3 p2)++ [(di v2.Tick),(oS y2 (10060030,g2)),(oS y5 (85,g6)),(dl A5 p3),(oS x4 (g15.1.val,g15.2))]))),((6,u1),some (.box 25 [(di 0),(.d .nilS),(.d .nilS)])),((1,u47),some (.box 133 [(.ptr (30,u7) 0)])),((1,g13.1),some (.box 133 [(.ptr (30,u7) 0)])),((1000000,u53),some (.obj (T [(1,(.ptr (1,u47) 0)),(5,(.fn (.func 174) [] [(.ptr (1,g13.1) 0)]))]) {r1 with state:= .busy})),((10060030,g2),oB 45 7 C4 y2),((85,g6),oB 127 4 M2 y5),((g15.1.val,g15.2),oB 77 6 X9 x4)]⟩) 0 () _ hz5 (G2 ⟨.of rfl, .of rfl, .of rfl, .of rfl, .of rfl,trivial⟩ (B0 G_hit (.of rfl) (B0 (A3 rfl (A3 rfl (A3 rfl (A3 (neR g15.1.property rfl) G_hit)))) (.of rfl) (B0 (A3 rfl (A3 rfl (A3 rfl (A3 (neR g15.1.property rfl) (gq rfl))))) (.of rfl) (B0 (A3 rfl (A3 rfl (A3 rfl (A3 (neR g15.1.property rfl) (A3 rfl (U5 g13.2 G_hit)))))) (.of rfl) (B0 (A3 rfl (A3 rfl (A3 rfl (A3 (neR g15.1.property rfl) (gq rfl))))) (.of rfl) (B3 (gq rfl) (B3 (gq rfl) (B3 (A3 (neL g15.1.property rfl) (A3 (neL g15.1.property rfl) (A3 (neL g15.1.property rfl) G_hit))) trivial))))))))) ?_)
 intro x5 g18 z6 hz6 ez6
 unfold A4y at hz6
 refine lr (fun u58 hu58=>sv rfl (A1 (A7 (cc rfl hz6 (fun c9 hz6=> ?_) (fun c9 hz6=> ?_)))))
 refine B1 (A7 (A9 (lr (fun u59 hu59=>sv rfl (sv rfl (A1 (lr (fun u60 hu60=>sp rfl rfl (sv rfl (sv rfl (bs hz6 fun v13 hv13 hz6=>B2 rfl (C3 (A1e G_hit (rD (rD (rD (rD (rD (rD (rD (rD (rD (C3 (A3u (gq rfl)) (C3 (A3u (gq rfl)) (rD (C3 (A3u (A3 (neL g15.1.property rfl) (A3 (neL g15.1.property rfl) (A3 (neL g15.1.property rfl) (A3 (neL g15.1.property rfl) (A3 (neL g15.1.property rfl) (A3 (neL g15.1.property rfl) (A3 (neL g15.1.property rfl) G_hit)))))))) D2)))))))))))))) (rD (rD D2))) (.cons (DLe.bp (ca rfl (ca rfl (ca rfl (ca rfl (ca rfl (ca rfl (ca rfl (ca rfl (ca rfl (.cons ⟨A3t,rfl⟩ (.cons ⟨A3t,rfl⟩ (ca rfl (.cons ⟨A3t,rfl⟩ .nil)))))))))))))) (.cons (.refl _) A2)) (A6y _ _ _ _ hv13) (.inr rfl) (sv rfl (sv rfl (sv rfl (sv rfl (sv rfl (A1 (lr (fun u61 hu61=>sp rfl rfl (sv rfl (sv rfl (bs hz6 fun v14 hv14 hz6=>B2 rfl (C3 (A1e G_hit (rD (rD (rD (rD (rD (rD (rD (rD (rD (C3 (A3u (gq rfl)) (C3 (A3u (gq rfl)) (rD (C3 (A3u (A3 (neL g15.1.property rfl) (A3 (neL g15.1.property rfl) (A3 (neL g15.1.property rfl) (A3 (neL g15.1.property rfl) (A3 (neL g15.1.property rfl) (A3 (neL g15.1.property rfl) (A3 (neL g15.1.property rfl) G_hit)))))))) D2)))))))))))))) (rD (rD D2))) (.cons (DLe.bp (ca rfl (ca rfl (ca rfl (ca rfl (ca rfl (ca rfl (ca rfl (ca rfl (ca rfl (.cons ⟨A3t,rfl⟩ (.cons ⟨A3t,rfl⟩ (ca rfl (.cons ⟨A3t,rfl⟩ .nil)))))))))))))) (.cons (.refl _) A2)) (A6y _ _ _ _ hv14) (.inr rfl) (sv rfl (sv rfl (sv rfl (sv rfl (sv rfl (A1 (A7 (lr (fun u62 hu62=>sv rfl (C0 (.d (bo (!v13.2))) rfl rfl (sv rfl (gf rfl (fun _=>rfl) ?_))))))))))))))))))))))))))))))))))
 refine U0 _ (.d (bo (!v14.2))) rfl (A0h rfl) (fun w2=>(by simp only [A4 w2];rfl)) ?_
 refine sd rfl (A49 rfl rfl (fun hc=>A4 (S3 hc))) (A1 (cc rfl hz6 (fun c10 hz6=> ?_) (fun c10 hz6=> ?_)))
 refine B4w rfl (C7 fun u63 hu63=>sv rfl (sv rfl (A1 (I3 ?_))))
 cases hz6
 exact ⟨rfl,(),(G2 ⟨.of rfl, .of rfl, .of rfl, .of rfl, .of rfl,trivial⟩ (B0 G_hit (.of rfl) (sg rfl (sg rfl (B0 (A3 rfl (A3 rfl (U5 g13.2 G_hit))) (.of rfl) (sg rfl (B3 (gq rfl) (B3 (gq rfl) (B3 (A3 (neL g15.1.property rfl) (A3 (neL g15.1.property rfl) (A3 (neL g15.1.property rfl) (A3 (neL g15.1.property rfl) (A3 (neL g15.1.property rfl) (A3 (neL g15.1.property rfl) (A3 (neL g15.1.property rfl) G_hit))))))) trivial)))))))))⟩
 refine B1 (lr (fun u64 hu64=>sv rfl (sv rfl (sv rfl (sv rfl (A1 (A7 (A7 (I0 rfl fun u65 hu65=>sp rfl rfl (sp rfl rfl (sp rfl rfl (sp rfl rfl (sl rfl G_hit rfl (sv rfl (bs hz6 fun v15 hv15 hz6=>sd rfl (F9 rfl rfl hv15 rfl) (sv rfl (sd rfl (F4 rfl hv15 rfl) (sv rfl (sv rfl (sp rfl rfl (sp rfl rfl (sp rfl rfl (sp rfl rfl (sl rfl G_hit rfl (sv rfl (bs hz6 fun v16 hv16 hz6=>sd rfl (F9 rfl rfl hv16 rfl) (sv rfl (sd rfl (F4 rfl hv16 rfl) (sv rfl (sv rfl (sv rfl (A1 (bs hz6 fun y14 hy14 hz6=>E7 (fun s=> ∃g19:Unit,Sb ⟨T [(0,(.ptr (30,u7) 0)),(1,(di a1.1)),(2,(di a1.2)),(6,(di x5)),(7,(di y14.1)),(9,(di y14.2.1)),(11,(di y14.2.2.1)),(12,(di y14.2.2.2)),(22,(di (p1.Lanes.length:Int))),(23,(di x5))],G [((30,u7),some (.box 135 ((A02 p1)++ (N3 p2)++ [(di v2.Tick),(oS y2 (10060030,g2)),(oS y5 (85,g6)),(dl A5 p3),(oS x4 (g15.1.val,g15.2))]))),((6,u1),some (.box 25 [(di 0),(.d .nilS),(.d .nilS)])),((1,u47),some (.box 133 [(.ptr (30,u7) 0)])),((1,g13.1),some (.box 133 [(.ptr (30,u7) 0)])),((1000000,u53),some (.obj (T [(1,(.ptr (1,u47) 0)),(5,(.fn (.func 174) [] [(.ptr (1,g13.1) 0)]))]) {r1 with state:= .busy})),((10060030,g2),oB 45 7 C4 y2),((85,g6),oB 127 4 M2 y5),((g15.1.val,g15.2),oB 77 6 X9 x4)]⟩ s) ?_ ?_)))))))))))))))))))))))))))))))))
 refine cc rfl hy14 (fun c11 hy14=> ?_) (fun c11 hy14=> ?_)
 refine C7 fun u66 hu66=>sv rfl (sv rfl (sv rfl (sv rfl (sv rfl (sv rfl (sv rfl (sv rfl (A1 ?_))))))))
 cases hy14
 exact l_j ⟨(),(G2 ⟨.of rfl, .of rfl, .of rfl, .of rfl, .of rfl, .of rfl, .of rfl, .of rfl, .of rfl, .of rfl,trivial⟩ (B0 G_hit (.of rfl) (sg rfl (sg rfl (B0 (A3 rfl (A3 rfl (U5 g13.2 G_hit))) (.of rfl) (sg rfl (B3 (gq rfl) (B3 (gq rfl) (B3 (A3 (neL g15.1.property rfl) (A3 (neL g15.1.property rfl) (A3 (neL g15.1.property rfl) (A3 (neL g15.1.property rfl) (A3 (neL g15.1.property rfl) (A3 (neL g15.1.property rfl) (A3 (neL g15.1.property rfl) G_hit))))))) trivial)))))))))⟩
 refine B1 ?_
 cases hy14
 exact l_j ⟨(),(G2 ⟨.of rfl, .of rfl, .of rfl, .of rfl, .of rfl, .of rfl, .of rfl, .of rfl, .of rfl, .of rfl,trivial⟩ (B0 G_hit (.of rfl) (sg rfl (sg rfl (B0 (A3 rfl (A3 rfl (U5 g13.2 G_hit))) (.of rfl) (sg rfl (B3 (gq rfl) (B3 (gq rfl) (B3 (A3 (neL g15.1.property rfl) (A3 (neL g15.1.property rfl) (A3 (neL g15.1.property rfl) (A3 (neL g15.1.property rfl) (A3 (neL g15.1.property rfl) (A3 (neL g15.1.property rfl) (A3 (neL g15.1.property rfl) G_hit))))))) trivial)))))))))⟩
 rintro _ ⟨g19,q6⟩
 refine B5 q6 (A7 (I0 rfl fun u67 hu67=>sp rfl rfl (sp rfl rfl (sp rfl rfl (sp rfl rfl (C0 (oS y2 (10060030,g2)) rfl (R7 rfl G_hit rfl) (sv rfl (bs hz6 fun v17 hv17 hz6=>C0 (.aptr _ _ _ _) rfl (C1k rfl rfl (gq rfl) hv17) (sd rfl (B4h rfl (B3j (gq rfl) (A98 hv17)) hv17 rfl rfl) (bs hz6 fun v18 hv18 hz6=>B2 rfl rfl A2 (A3y _ _ hv18) (.inl rfl) (sv rfl (bs hz6 fun v19 hv19 hz6=>B2 rfl rfl A2 (A2x _ _ _ hv19) (.inl rfl) (sp rfl rfl (sp rfl rfl (sp rfl rfl (sp rfl rfl (C0 (oS y2 (10060030,g2)) rfl (R7 rfl G_hit rfl) (sv rfl (bs hz6 fun v20 hv20 hz6=>C0 (.aptr _ _ _ _) rfl (C1k rfl rfl (gq rfl) hv20) (sd rfl (B4h rfl (B3j (gq rfl) (A98 hv20)) hv20 rfl rfl) (bs hz6 fun v21 hv21 hz6=>B2 rfl rfl A2 (A3y _ _ hv21) (.inl rfl) (sv rfl (bs hz6 fun v22 hv22 hz6=>B2 rfl rfl A2 (A2x _ _ _ hv22) (.inl rfl) (sn rfl rfl (sn rfl rfl (sst rfl (gq rfl) [(di v19.from_),(di v19.to)] rfl (sst rfl (gq rfl) [(di v22.from_),(di v22.to)] rfl (A1 (lr (fun u68 hu68=>sp rfl rfl (sp rfl rfl (sp rfl rfl (sp rfl rfl (sl rfl (gq rfl) rfl (sv rfl (bs hz6 fun v23 hv23 hz6=>sd rfl (F9 rfl rfl hv23 rfl) (sd rfl (C6 rfl hv23 rfl rfl) (bs hz6 fun v24 hv24 hz6=>B2 rfl rfl A2 (A3y _ _ hv24) (.inl rfl) (sv rfl (bs hz6 fun v25 hv25 hz6=>B2 rfl rfl A2 (A2x _ _ _ hv25) (.inl rfl) (sn rfl rfl (sst rfl G_hit [(di v25.from_),(di v25.to)] rfl (A1 (lr (fun u69 hu69=>sp rfl rfl (sp rfl rfl (sp rfl rfl ?_)))))))))))))))))))))))))))))))))))))))))))))))
 refine sd rfl (A6 rfl (gq rfl) rfl rfl) (sv rfl (bs hz6 fun v26 hv26 hz6=>B2 rfl rfl A2 (A65 _ _ _ hv26) (.inl rfl) (sv rfl (A1 (lr (fun u70 hu70=>sp rfl rfl (sl rfl (gq rfl) rfl (sv rfl (sv rfl (gp rfl (V5 rfl) (fun _=>rfl) (gt rfl (vl rfl (gq rfl) rfl) (gt rfl (vb rfl rfl rfl) (sa rfl rfl rfl (sv rfl (gp rfl (V5 rfl) (fun _=>rfl) (gt rfl (vl rfl G_hit rfl) (gt rfl (fun _=>rfl) (gt rfl (fun w9=>(X7 (A4 w9) (A4 w9) rfl)) (sa rfl rfl rfl (sv rfl (gp rfl (V5 rfl) (fun _=>rfl) (gt rfl (vl rfl (gq rfl) rfl) (gt rfl (fun _=>rfl) (gt rfl (fun w13=>(X7 (A4 w13) (A4 w13) rfl)) (sa rfl rfl rfl (sv rfl (gp rfl (V5 rfl) (fun _=>rfl) (gt rfl (vl rfl (gq rfl) rfl) (gp rfl (V5 rfl) (fun _=>rfl) (gt rfl (vl rfl (gq rfl) rfl) (gt rfl (fun w18=>(X7 (A4 w18) (A4 w18) rfl)) (sa rfl rfl rfl (A1 (cc rfl hz6 (fun c12 hz6=> ?_) (fun c12 hz6=> ?_)))))))))))))))))))))))))))))))))))
 refine A7 (B5 (s0:=⟨T [(0,(.ptr (30,u7) 0)),(1,(di a1.1)),(2,(di a1.2)),(6,(di x5)),(12,(di y14.2.2.2))],G [((30,u7),some (.box 135 ((A02 p1)++ (N3 p2)++ [(di v2.Tick),(oS y2 (10060030,g2)),(oS y5 (85,g6)),(dl A5 p3),(oS x4 (g15.1.val,g15.2))]))),((10060030,g2),oB 45 7 C4 y2),((85,g6),oB 127 4 M2 y5),((g15.1.val,g15.2),oB 77 6 X9 x4),((6,u1),some (.box 25 [(di 0),(.d .nilS),(.d .nilS)])),((1,u47),some (.box 133 [(.ptr (30,u7) 0)])),((1,g13.1),some (.box 133 [(.ptr (30,u7) 0)])),((1000000,u53),some (.obj (T [(1,(.ptr (1,u47) 0)),(5,(.fn (.func 174) [] [(.ptr (1,g13.1) 0)]))]) {r1 with state:= .busy}))]⟩) (G2 ⟨.of rfl, .of rfl, .of rfl, .of rfl, .of rfl,trivial⟩ (sg rfl (B3 (gq rfl) (B3 (gq rfl) (B3 (A3 (neL g15.1.property rfl) (A3 (neL g15.1.property rfl) (A3 (neL g15.1.property rfl) (A3 (neL g15.1.property rfl) (A3 (neL g15.1.property rfl) (A3 (neL g15.1.property rfl) (A3 (neL g15.1.property rfl) (A3 (neL g15.1.property rfl) (A3 (neL g15.1.property rfl) (A3 (neL g15.1.property rfl) (A3 (neL g15.1.property rfl) (A3 (neL g15.1.property rfl) (A3 (neL g15.1.property rfl) G_hit))))))))))))) (sg rfl (sg rfl (B0 (A3 rfl (A3 rfl (A3 rfl (A3 rfl (A3 rfl (A3 rfl (A3 rfl (A3 rfl (U5 g13.2 G_hit))))))))) (.of rfl) (sg rfl trivial))))))))) ?_)
 refine I0 rfl fun u71 hu71=>sp rfl rfl (sp rfl rfl (sp rfl rfl (sp rfl rfl (C0 (oS x4 (g15.1.val,g15.2)) rfl (R7 rfl G_hit rfl) (sp rfl rfl (sp rfl rfl (sp rfl rfl (sp rfl rfl (sl rfl G_hit rfl (sv rfl (sv rfl (sv rfl (sv rfl (C0 (dl A5 [y14.2.2.2]) rfl rfl (sv rfl (C0 (dl X9 [(Crash.mk p2.Tick a1.1 a1.2 x5 (-1) [y14.2.2.2])]) rfl rfl (bs hz6 fun v27 hv27 hz6=>U6 X9 (g15.1.val,g15.2) x4 (Crash.mk p2.Tick a1.1 a1.2 x5 (-1) [y14.2.2.2]) [] _ (Q5 (fun _=>rfl)) rfl (A3 (neL g15.1.property rfl) (A3 (neL g15.1.property rfl) (A3 (neL g15.1.property rfl) G_hit))) hv27 (sp rfl rfl (sp rfl rfl (B2a _ _ _ _ _ rfl rfl rfl (A3 rfl (A3 (neR g15.1.property rfl) G_hit)) (nl rfl) ((A02 p1)++ (N3 p2)++ [(di v2.Tick),(oS y2 (10060030,g2)),(oS y5 (85,g6)),(dl A5 p3),(.sl (158,u71))]) rfl (A1 (B4 ?_))))))))))))))))))))))
 cases hz6
 obtain rfl:=ez6 _ rfl
 refine ⟨nofun,G0 ?_⟩
 rw [Sum.elim_inr]at hy12
 cases hy12
 exact B8k (.inr rfl) (D1j) (⟨158, .tail _ (.head _)⟩,u71) ⟨.of rfl, .of rfl, .of rfl,trivial⟩ (B0 (A3 rfl (A3 rfl (A3 (neR g15.1.property rfl) (A3 rfl (A3 rfl (A3 rfl (A3 (neR g15.1.property rfl) (gq rfl)))))))) (.of rfl) (B0 (A3 rfl (A3 rfl (A3 (neR g15.1.property rfl) (A3 rfl (A3 rfl (A3 rfl (A3 (neR g15.1.property rfl) G_hit))))))) (.of rfl) (B0 G_hit (.box (cv (cv (cv (cv (cv (cv (cv (cv (cv (cv (cv (cv (.cons (.of (A6z (A00 hv27)).symm) .nil)))))))))))))) (B0 (A3 rfl (A3 rfl (A3 (neR g15.1.property rfl) (A3 rfl (A3 rfl (A3 rfl (A3 (neR g15.1.property rfl) (A3 rfl (U5 g13.2 G_hit))))))))) (.of rfl) (B0 (A3 rfl (A3 rfl (A3 (neR g15.1.property rfl) (A3 rfl (A3 rfl (A3 rfl (A3 (neR g15.1.property rfl) (gq rfl)))))))) (.of rfl) (B3 (A3 rfl (A3 rfl (A3 (neR g15.1.property rfl) (gq rfl)))) (B3 (A3 rfl (A3 rfl (A3 (neR g15.1.property rfl) (gq rfl)))) (A16 (gq rfl) trivial))))))))
 refine B1 (J3 (B5 (s0:=⟨T [(0,(.ptr (30,u7) 0)),(1,(di a1.1)),(2,(di a1.2)),(22,(di (p1.Lanes.length:Int))),(23,(di x5))],G [((30,u7),some (.box 135 ((A02 p1)++ (N3 p2)++ [(di v2.Tick),(oS y2 (10060030,g2)),(oS y5 (85,g6)),(dl A5 p3),(oS x4 (g15.1.val,g15.2))]))),((10060030,g2),oB 45 7 C4 y2),((85,g6),oB 127 4 M2 y5),((g15.1.val,g15.2),oB 77 6 X9 x4),((6,u1),some (.box 25 [(di 0),(.d .nilS),(.d .nilS)])),((1,u47),some (.box 133 [(.ptr (30,u7) 0)])),((1,g13.1),some (.box 133 [(.ptr (30,u7) 0)])),((1000000,u53),some (.obj (T [(1,(.ptr (1,u47) 0)),(5,(.fn (.func 174) [] [(.ptr (1,g13.1) 0)]))]) {r1 with state:= .busy}))]⟩) (G2 ⟨.of rfl, .of rfl, .of rfl, .of rfl, .of rfl,trivial⟩ (sg rfl (B3 (gq rfl) (B3 (gq rfl) (B3 (A3 (neL g15.1.property rfl) (A3 (neL g15.1.property rfl) (A3 (neL g15.1.property rfl) (A3 (neL g15.1.property rfl) (A3 (neL g15.1.property rfl) (A3 (neL g15.1.property rfl) (A3 (neL g15.1.property rfl) (A3 (neL g15.1.property rfl) (A3 (neL g15.1.property rfl) (A3 (neL g15.1.property rfl) (A3 (neL g15.1.property rfl) (A3 (neL g15.1.property rfl) (A3 (neL g15.1.property rfl) G_hit))))))))))))) (sg rfl (sg rfl (B0 (A3 rfl (A3 rfl (A3 rfl (A3 rfl (A3 rfl (A3 rfl (A3 rfl (A3 rfl (U5 g13.2 G_hit))))))))) (.of rfl) (sg rfl trivial))))))))) ?_))
 refine C7 fun u72 hu72=>sv rfl (sv rfl (A1 (I3 ?_)))
 cases hz6
 exact ⟨rfl,(),(G2 ⟨.of rfl, .of rfl, .of rfl, .of rfl, .of rfl,trivial⟩ (B0 G_hit (.of rfl) (B0 (A3 rfl (A3 rfl (A3 rfl (A3 (neR g15.1.property rfl) G_hit)))) (.of rfl) (B0 (A3 rfl (A3 rfl (A3 rfl (A3 (neR g15.1.property rfl) (gq rfl))))) (.of rfl) (B0 (A3 rfl (A3 rfl (A3 rfl (A3 (neR g15.1.property rfl) (A3 rfl (U5 g13.2 G_hit)))))) (.of rfl) (B0 (A3 rfl (A3 rfl (A3 rfl (A3 (neR g15.1.property rfl) (gq rfl))))) (.of rfl) (B3 (gq rfl) (B3 (gq rfl) (B3 (A3 (neL g15.1.property rfl) (A3 (neL g15.1.property rfl) (A3 (neL g15.1.property rfl) G_hit))) trivial)))))))))⟩
 refine C5 rfl ?_
 cases hz6
 obtain rfl:=ez6 _ rfl
 refine ⟨nofun,C2 rfl (l_j ?_)⟩
 exact ⟨_,(),rfl,(G2 trivial (sg rfl (B0 G_hit (.of rfl) (sg rfl (B0 (A3 rfl (A3 rfl (U5 g13.2 G_hit))) (.of rfl) (sg rfl (B3 (gq rfl) (B3 (gq rfl) (B3 (A3 (neL g15.1.property rfl) (A3 (neL g15.1.property rfl) (A3 (neL g15.1.property rfl) (A3 (neL g15.1.property rfl) (A3 (neL g15.1.property rfl) (A3 (neL g15.1.property rfl) (A3 (neL g15.1.property rfl) G_hit))))))) trivial)))))))))⟩
 rintro _ ⟨y13,g17,rfl,q7⟩
 rw [Sum.elim_inl]at hy12
 refine I3 ?_
 obtain rfl:=(Option.some.inj hy12)
 exact B69 q7 (.inl rfl) (g15.1,g15.2) ⟨.of rfl, .of rfl, .of rfl,trivial⟩ (sg rfl (B0 G_hit (.of rfl) (sg rfl (B0 (A3 rfl (A3 rfl (U5 g13.2 G_hit))) (.of rfl) (sg rfl (B3 (gq rfl) (B3 (gq rfl) (B3 (A3 (neL g15.1.property rfl) (A3 (neL g15.1.property rfl) (A3 (neL g15.1.property rfl) (A3 (neL g15.1.property rfl) (A3 (neL g15.1.property rfl) (A3 (neL g15.1.property rfl) (A3 (neL g15.1.property rfl) G_hit))))))) trivial))))))))
 intro g16
 intro u73 hu73
 refine A1 (C7 fun u74 hu74=>sp rfl (R7 rfl G_hit rfl) (sv rfl (sv rfl (bs hz4 fun y15 hy15 hz4=>B68 (fk Tryz.func184 Tryz.ntmps184 (fun r=>if r==5 then [1002]else if r==6 then [1010]else if r==8 then [1001]else if r==10 then [1001]else if r==11 then [1015]else []) (by with_unfolding_all rfl)) (fun (g20:({d:Nat // d∈ [72,158]}×Nat))=> []) (fun (g20:({d:Nat // d∈ [72,158]}×Nat))=> [((6,u1),some (.box 25 [(di 0),(.d .nilS),(.d .nilS)])),((30,u7),some (.box 135 ((A02 p1)++ (N3 p2)++ [(di v2.Tick),(oS y2 (10060030,g2)),(oS y5 (85,g6)),(dl A5 p3),(oS y15 (g20.1.val,g20.2))]))),((1,u47),some (.box 133 [(.ptr (30,u7) 0)])),((1,g13.1),some (.box 133 [(.ptr (30,u7) 0)])),((1000000,u53),some (.obj (T [(1,(.ptr (1,u47) 0)),(5,(.fn (.func 174) [] [(.ptr (1,g13.1) 0)]))]) {r1 with state:= .busy})),((10060030,g2),oB 45 7 C4 y2),((85,g6),oB 127 4 M2 y5),((g20.1.val,g20.2),oB 77 6 X9 y15)]) rfl (nl rfl) ?_ ?_))))
 unfold A7g at hy15
 refine B5 (s0:=⟨T [(0,(.ptr (30,u7) 0)),(1,(di a1.1)),(2,(di a1.2))],G [((30,u7),some (.box 135 ((A02 p1)++ (N3 p2)++ [(di v2.Tick),(oS y2 (10060030,g2)),(oS y5 (85,g6)),(dl A5 p3),(oS y12 (g16.1.val,g16.2))]))),((10060030,g2),oB 45 7 C4 y2),((85,g6),oB 127 4 M2 y5),((g16.1.val,g16.2),oB 77 6 X9 y12),((6,u1),some (.box 25 [(di 0),(.d .nilS),(.d .nilS)])),((1,u47),some (.box 133 [(.ptr (30,u7) 0)])),((1,g13.1),some (.box 133 [(.ptr (30,u7) 0)])),((1000000,u53),some (.obj (T [(1,(.ptr (1,u47) 0)),(5,(.fn (.func 174) [] [(.ptr (1,g13.1) 0)]))]) {r1 with state:= .busy}))]⟩) (G2 ⟨.of rfl, .of rfl, .of rfl,trivial⟩ (sg rfl (B3 (gq rfl) (B3 (gq rfl) (B3 (A3 (neL g16.1.property rfl) (A3 (neL g16.1.property rfl) (A3 (neL g16.1.property rfl) (A3 (neL g16.1.property rfl) (A3 (neL g16.1.property rfl) (A3 (neL g16.1.property rfl) (A3 (neL g16.1.property rfl) G_hit))))))) (sg rfl (B0 G_hit (.of rfl) (B0 (U5 g13.2 (gq rfl)) (.of rfl) (sg rfl trivial))))))))) ?_
 refine lr (fun u75 hu75=>sp rfl rfl (sp rfl rfl (sp rfl rfl (sp rfl rfl (sl rfl G_hit rfl (sd rfl (J6 rfl) (sv rfl (A1 (bs hy15 fun y16 hy16 hy15=>E7 (fun s=> ∃g21:({d:Nat // d∈ [72,158]}×Nat),Sb ⟨T [],G [((6,u1),some (.box 25 [(di 0),(.d .nilS),(.d .nilS)])),((30,u7),some (.box 135 ((A02 p1)++ (N3 p2)++ [(di v2.Tick),(oS y2 (10060030,g2)),(oS y5 (85,g6)),(dl A5 p3),(oS y16 (g21.1.val,g21.2))]))),((1,u47),some (.box 133 [(.ptr (30,u7) 0)])),((1,g13.1),some (.box 133 [(.ptr (30,u7) 0)])),((1000000,u53),some (.obj (T [(1,(.ptr (1,u47) 0)),(5,(.fn (.func 174) [] [(.ptr (1,g13.1) 0)]))]) {r1 with state:= .busy})),((10060030,g2),oB 45 7 C4 y2),((85,g6),oB 127 4 M2 y5),((g21.1.val,g21.2),oB 77 6 X9 y16)]⟩ s) ?_ ?_)))))))))
 refine A9 (G5 (A4x p1 p2 p3 v2 y2 y5 a1) (fun (x6:(Int× (List Crash))) (g22:({d:Nat // d∈ [72,158]}×Nat))=>⟨T [(0,(.ptr (30,u7) 0)),(1,(di a1.1)),(2,(di a1.2)),(15,(di (p1.Zones.length:Int))),(16,(di x6.1))],G [((30,u7),some (.box 135 ((A02 p1)++ (N3 p2)++ [(di v2.Tick),(oS y2 (10060030,g2)),(oS y5 (85,g6)),(dl A5 p3),(oS x6.2 (g22.1.val,g22.2))]))),((6,u1),some (.box 25 [(di 0),(.d .nilS),(.d .nilS)])),((1,u47),some (.box 133 [(.ptr (30,u7) 0)])),((1,g13.1),some (.box 133 [(.ptr (30,u7) 0)])),((1000000,u53),some (.obj (T [(1,(.ptr (1,u47) 0)),(5,(.fn (.func 174) [] [(.ptr (1,g13.1) 0)]))]) {r1 with state:= .busy})),((10060030,g2),oB 45 7 C4 y2),((85,g6),oB 127 4 M2 y5),((g22.1.val,g22.2),oB 77 6 X9 x6.2)]⟩) (0,y12) (g16.1,g16.2) _ hy16 (G2 ⟨.of rfl, .of rfl, .of rfl, .of rfl, .of rfl,trivial⟩ (B0 G_hit (.of rfl) (B0 (A3 rfl (A3 rfl (A3 rfl (A3 (neR g16.1.property rfl) G_hit)))) (.of rfl) (B0 (A3 rfl (A3 rfl (A3 rfl (A3 (neR g16.1.property rfl) (gq rfl))))) (.of rfl) (B0 (A3 rfl (A3 rfl (A3 rfl (A3 (neR g16.1.property rfl) (A3 rfl (U5 g13.2 G_hit)))))) (.of rfl) (B0 (A3 rfl (A3 rfl (A3 rfl (A3 (neR g16.1.property rfl) (gq rfl))))) (.of rfl) (B3 (gq rfl) (B3 (gq rfl) (B3 (A3 (neL g16.1.property rfl) (A3 (neL g16.1.property rfl) (A3 (neL g16.1.property rfl) G_hit))) trivial))))))))) ?_)
 intro x6 g22 z7 hz7 ez7
 unfold A4x at hz7
 refine lr (fun u76 hu76=>sv rfl (A1 (A7 (cc rfl hz7 (fun c13 hz7=> ?_) (fun c13 hz7=> ?_)))))
 refine B1 (A7 (A9 (lr (fun u77 hu77=>sv rfl (sv rfl (A1 (A7 (lr (fun u78 hu78=>sp rfl rfl (sv rfl (sv rfl (sv rfl (bs hz7 fun v28 hv28 hz7=>B2 rfl (C3 (A1e G_hit (rD (rD (rD (rD (rD (rD (rD (rD (rD (C3 (A3u (gq rfl)) (C3 (A3u (gq rfl)) (rD (C3 (A3u (A3 (neL g22.1.property rfl) (A3 (neL g22.1.property rfl) (A3 (neL g22.1.property rfl) (A3 (neL g22.1.property rfl) (A3 (neL g22.1.property rfl) (A3 (neL g22.1.property rfl) (A3 (neL g22.1.property rfl) G_hit)))))))) D2)))))))))))))) (rD (rD (rD D2)))) (.cons (DLe.bp (ca rfl (ca rfl (ca rfl (ca rfl (ca rfl (ca rfl (ca rfl (ca rfl (ca rfl (.cons ⟨A3t,rfl⟩ (.cons ⟨A3t,rfl⟩ (ca rfl (.cons ⟨A3t,rfl⟩ .nil)))))))))))))) (.cons (.refl _) (.cons (.refl _) A2))) (A6x _ _ _ _ _ hv28) (.inr rfl) (C0 (.d (bo (!v28))) rfl rfl (A1 (cc rfl hz7 (fun c14 hz7=> ?_) (fun c14 hz7=> ?_)))))))))))))))))
 refine B4w rfl (C7 fun u79 hu79=>sv rfl (sv rfl (A1 (I3 ?_))))
 cases hz7
 exact ⟨rfl,(g22.1,g22.2),(G2 ⟨.of rfl, .of rfl, .of rfl, .of rfl, .of rfl,trivial⟩ (B0 G_hit (.of rfl) (sg rfl (sg rfl (B0 (A3 rfl (A3 rfl (U5 g13.2 G_hit))) (.of rfl) (sg rfl (B3 (gq rfl) (B3 (gq rfl) (B3 (A3 (neL g22.1.property rfl) (A3 (neL g22.1.property rfl) (A3 (neL g22.1.property rfl) (A3 (neL g22.1.property rfl) (A3 (neL g22.1.property rfl) (A3 (neL g22.1.property rfl) (A3 (neL g22.1.property rfl) G_hit))))))) trivial)))))))))⟩
 refine B1 (lr (fun u80 hu80=>sp rfl rfl (sv rfl (sv rfl (bs hz7 fun v29 hv29 hz7=>B2 rfl (C3 (A1e G_hit (rD (rD (rD (rD (rD (rD (rD (rD (rD (C3 (A3u (gq rfl)) (C3 (A3u (gq rfl)) (rD (C3 (A3u (A3 (neL g22.1.property rfl) (A3 (neL g22.1.property rfl) (A3 (neL g22.1.property rfl) (A3 (neL g22.1.property rfl) (A3 (neL g22.1.property rfl) (A3 (neL g22.1.property rfl) (A3 (neL g22.1.property rfl) G_hit)))))))) D2)))))))))))))) (rD (rD D2))) (.cons (DLe.bp (ca rfl (ca rfl (ca rfl (ca rfl (ca rfl (ca rfl (ca rfl (ca rfl (ca rfl (.cons ⟨A3t,rfl⟩ (.cons ⟨A3t,rfl⟩ (ca rfl (.cons ⟨A3t,rfl⟩ .nil)))))))))))))) (.cons (.refl _) A2)) (A7x _ _ _ _ hv29) (.inr rfl) (sp rfl rfl (sv rfl (sv rfl (bs hz7 fun v30 hv30 hz7=>B2 rfl (C3 (A1e G_hit (rD (rD (rD (rD (rD (rD (rD (rD (rD (C3 (A3u (gq rfl)) (C3 (A3u (gq rfl)) (rD (C3 (A3u (A3 (neL g22.1.property rfl) (A3 (neL g22.1.property rfl) (A3 (neL g22.1.property rfl) (A3 (neL g22.1.property rfl) (A3 (neL g22.1.property rfl) (A3 (neL g22.1.property rfl) (A3 (neL g22.1.property rfl) G_hit)))))))) D2)))))))))))))) (rD (rD D2))) (.cons (DLe.bp (ca rfl (ca rfl (ca rfl (ca rfl (ca rfl (ca rfl (ca rfl (ca rfl (ca rfl (.cons ⟨A3t,rfl⟩ (.cons ⟨A3t,rfl⟩ (ca rfl (.cons ⟨A3t,rfl⟩ .nil)))))))))))))) (.cons (.refl _) A2)) (A7x _ _ _ _ hv30) (.inr rfl) (sn rfl rfl (sn rfl rfl (sst rfl (gq rfl) (B95 v29) rfl (sst rfl (gq rfl) (B95 v30) rfl (A1 (lr (fun u81 hu81=>sv rfl (sv rfl (C0 (dl A5 [a1.1,a1.2]) rfl rfl (C0 (dl A5 [a1.1,a1.2]) rfl rfl (A1 (A7 (A7 (I0 rfl fun u82 hu82=>sp rfl rfl (sl rfl (gq rfl) rfl (sp rfl rfl (sl rfl G_hit rfl (bs hz7 fun v31 hv31 hz7=>B2 rfl rfl A2 (A2y _ _ _ hv31) (.inl rfl) (sp rfl rfl (sl rfl G_hit rfl (sp rfl rfl (sl rfl (gq rfl) rfl (bs hz7 fun v32 hv32 hz7=>B2 rfl rfl A2 (A8h _ _ _ hv32) (.inl rfl) (C0 (dl A5 [v31,v32]) rfl rfl (bs hz7 fun v33 hv33 hz7=>B2 rfl rfl A2 (B2i _ _ hv33) (.inl rfl) (A1 (bs hz7 fun y17 hy17 hz7=>E7 (fun s=> ∃g23:Unit,Sb ⟨T [(0,(.ptr (30,u7) 0)),(1,(di a1.1)),(2,(di a1.2)),(6,(di x6.1)),(9,(dl A5 y17)),(15,(di (p1.Zones.length:Int))),(16,(di x6.1))],G [((30,u7),some (.box 135 ((A02 p1)++ (N3 p2)++ [(di v2.Tick),(oS y2 (10060030,g2)),(oS y5 (85,g6)),(dl A5 p3),(oS x6.2 (g22.1.val,g22.2))]))),((6,u1),some (.box 25 [(di 0),(.d .nilS),(.d .nilS)])),((1,u47),some (.box 133 [(.ptr (30,u7) 0)])),((1,g13.1),some (.box 133 [(.ptr (30,u7) 0)])),((1000000,u53),some (.obj (T [(1,(.ptr (1,u47) 0)),(5,(.fn (.func 174) [] [(.ptr (1,g13.1) 0)]))]) {r1 with state:= .busy})),((10060030,g2),oB 45 7 C4 y2),((85,g6),oB 127 4 M2 y5),((g22.1.val,g22.2),oB 77 6 X9 x6.2)]⟩ s) ?_ ?_))))))))))))))))))))))))))))))))))))
 refine A9 (lr (fun u83 hu83=>sv rfl (sv rfl (A1 (cc rfl hy17 (fun c15 hy17=> ?_) (fun c15 hy17=> ?_))))))
 refine C7 fun u84 hu84=>sv rfl (C0 (dl A5 [a1.1]) rfl rfl (C0 (dl A5 [a1.1]) rfl rfl (A1 (J3 ?_))))
 cases hy17
 exact l_j ⟨(),(G2 ⟨.of rfl, .of rfl, .of rfl, .of rfl, .of rfl, .of rfl, .of rfl,trivial⟩ (sg rfl (sg rfl (sg rfl (B0 (A3 rfl (A3 rfl (A3 rfl (A3 rfl (A3 rfl (A3 rfl (U5 g13.2 G_hit))))))) (.of rfl) (sg rfl (B3 (gq rfl) (B3 (gq rfl) (B3 (A3 (neL g22.1.property rfl) (A3 (neL g22.1.property rfl) (A3 (neL g22.1.property rfl) (A3 (neL g22.1.property rfl) (A3 (neL g22.1.property rfl) (A3 (neL g22.1.property rfl) (A3 (neL g22.1.property rfl) (A3 (neL g22.1.property rfl) (A3 (neL g22.1.property rfl) (A3 (neL g22.1.property rfl) (A3 (neL g22.1.property rfl) G_hit))))))))))) trivial)))))))))⟩
 refine lr (fun u85 hu85=>sv rfl (sv rfl (A1 (cc rfl hy17 (fun c16 hy17=> ?_) (fun c16 hy17=> ?_)))))
 refine C7 fun u86 hu86=>sv rfl (C0 (dl A5 [a1.2]) rfl rfl (C0 (dl A5 [a1.2]) rfl rfl (A1 (J3 ?_))))
 cases hy17
 exact l_j ⟨(),(G2 ⟨.of rfl, .of rfl, .of rfl, .of rfl, .of rfl, .of rfl, .of rfl,trivial⟩ (sg rfl (sg rfl (sg rfl (B0 (A3 rfl (A3 rfl (A3 rfl (A3 rfl (A3 rfl (A3 rfl (U5 g13.2 G_hit))))))) (.of rfl) (sg rfl (B3 (gq rfl) (B3 (gq rfl) (B3 (A3 (neL g22.1.property rfl) (A3 (neL g22.1.property rfl) (A3 (neL g22.1.property rfl) (A3 (neL g22.1.property rfl) (A3 (neL g22.1.property rfl) (A3 (neL g22.1.property rfl) (A3 (neL g22.1.property rfl) (A3 (neL g22.1.property rfl) (A3 (neL g22.1.property rfl) (A3 (neL g22.1.property rfl) (A3 (neL g22.1.property rfl) G_hit))))))))))) trivial)))))))))⟩
 refine B1 (J3 ?_)
 cases hy17
 exact l_j ⟨(),(G2 ⟨.of rfl, .of rfl, .of rfl, .of rfl, .of rfl, .of rfl, .of rfl,trivial⟩ (sg rfl (sg rfl (sg rfl (B0 (A3 rfl (A3 rfl (A3 rfl (A3 rfl (A3 rfl (A3 rfl (U5 g13.2 G_hit))))))) (.of rfl) (sg rfl (B3 (gq rfl) (B3 (gq rfl) (B3 (A3 (neL g22.1.property rfl) (A3 (neL g22.1.property rfl) (A3 (neL g22.1.property rfl) (A3 (neL g22.1.property rfl) (A3 (neL g22.1.property rfl) (A3 (neL g22.1.property rfl) (A3 (neL g22.1.property rfl) (A3 (neL g22.1.property rfl) (A3 (neL g22.1.property rfl) (A3 (neL g22.1.property rfl) (A3 (neL g22.1.property rfl) G_hit))))))))))) trivial)))))))))⟩
 rintro _ ⟨g23,q8⟩
 refine B5 q8 (I0 rfl fun u87 hu87=>sp rfl rfl (sp rfl rfl (sp rfl rfl (sp rfl rfl (C0 (oS x6.2 (g22.1.val,g22.2)) rfl (R7 rfl G_hit rfl) (sp rfl rfl (sp rfl rfl (sp rfl rfl (sp rfl rfl (sl rfl G_hit rfl (sv rfl (sv rfl (sv rfl (sv rfl (sv rfl (C0 (dl X9 [(Crash.mk p2.Tick a1.1 a1.2 (-1) x6.1 y17)]) rfl rfl (bs hz7 fun v34 hv34 hz7=>U6 X9 (g22.1.val,g22.2) x6.2 (Crash.mk p2.Tick a1.1 a1.2 (-1) x6.1 y17) [] _ (Q5 (fun _=>rfl)) rfl (A3 (neL g22.1.property rfl) (A3 (neL g22.1.property rfl) (A3 (neL g22.1.property rfl) (A3 (neL g22.1.property rfl) (A3 (neL g22.1.property rfl) (A3 (neL g22.1.property rfl) (A3 (neL g22.1.property rfl) G_hit))))))) hv34 (sp rfl rfl (sp rfl rfl (B2a _ _ _ _ _ rfl rfl rfl (A3 rfl (A3 (neR g22.1.property rfl) G_hit)) (nl rfl) ((A02 p1)++ (N3 p2)++ [(di v2.Tick),(oS y2 (10060030,g2)),(oS y5 (85,g6)),(dl A5 p3),(.sl (72,u87))]) rfl (A1 (J3 (C7 fun u88 hu88=>sv rfl (sv rfl (A1 (I3 ?_))))))))))))))))))))))))))
 cases hz7
 exact ⟨rfl,(⟨72, .head _⟩,u87),(G2 ⟨.of rfl, .of rfl, .of rfl, .of rfl, .of rfl,trivial⟩ (B0 G_hit (.box (cv (cv (cv (cv (cv (cv (cv (cv (cv (cv (cv (cv (.cons (.of (A6z (A00 hv34)).symm) .nil)))))))))))))) (B0 (A3 rfl (A3 rfl (A3 (neR g22.1.property rfl) (gq rfl)))) (.of rfl) (B0 (A3 rfl (A3 rfl (A3 (neR g22.1.property rfl) (gq rfl)))) (.of rfl) (B0 (A3 rfl (A3 rfl (A3 (neR g22.1.property rfl) (A3 rfl (A3 rfl (U5 g13.2 G_hit)))))) (.of rfl) (B0 (A3 rfl (A3 rfl (A3 (neR g22.1.property rfl) (gq rfl)))) (.of rfl) (B3 (A3 rfl (A3 rfl (A3 (neR g22.1.property rfl) (gq rfl)))) (B3 (A3 rfl (A3 rfl (A3 (neR g22.1.property rfl) (gq rfl)))) (A16 (gq rfl) trivial)))))))))⟩
 refine C5 rfl ?_
 cases hz7
 obtain rfl:=ez7 _ rfl
 refine ⟨nofun,C2 rfl (l_j ?_)⟩
 exact ⟨(g22.1,g22.2),(G2 trivial (sg rfl (B0 G_hit (.of rfl) (sg rfl (B0 (A3 rfl (A3 rfl (U5 g13.2 G_hit))) (.of rfl) (sg rfl (B3 (gq rfl) (B3 (gq rfl) (B3 (A3 (neL g22.1.property rfl) (A3 (neL g22.1.property rfl) (A3 (neL g22.1.property rfl) (A3 (neL g22.1.property rfl) (A3 (neL g22.1.property rfl) (A3 (neL g22.1.property rfl) (A3 (neL g22.1.property rfl) G_hit))))))) trivial)))))))))⟩
 rintro _ ⟨g21,q9⟩
 refine I3 ?_
 obtain rfl:=(Option.some.inj hy15)
 exact B69 q9 (.inl rfl) (g21.1,g21.2) trivial (B0 G_hit (.of rfl) (sg rfl (sg rfl (B0 (A3 rfl (A3 rfl (U5 g13.2 G_hit))) (.of rfl) (sg rfl (B3 (gq rfl) (B3 (gq rfl) (B3 (A3 (neL g21.1.property rfl) (A3 (neL g21.1.property rfl) (A3 (neL g21.1.property rfl) (A3 (neL g21.1.property rfl) (A3 (neL g21.1.property rfl) (A3 (neL g21.1.property rfl) (A3 (neL g21.1.property rfl) G_hit))))))) trivial))))))))
 intro g20
 intro u89 hu89
 refine A1 (J3 (I3 ?_))
 cases hz4
 exact C3l (gq rfl) (g20.1,g20.2) (sg rfl (B0 (A3 rfl (A3 rfl (U5 g13.2 G_hit))) (.of rfl) (B0 G_hit (.of rfl) (sg rfl (B3 (gq rfl) (B3 (gq rfl) (B3 (A3 (neL g20.1.property rfl) (A3 (neL g20.1.property rfl) (A3 (neL g20.1.property rfl) (A3 (neL g20.1.property rfl) (A3 (neL g20.1.property rfl) (A3 (neL g20.1.property rfl) (A3 (neL g20.1.property rfl) G_hit))))))) trivial)))))))
 rintro x4 g15 _ rfl qx4
 refine J3 (l_j ?_)
 exact ⟨(g15.1,g15.2),(Sb.after qx4 (G2 trivial (sg rfl (sg rfl (B3 (gq rfl) (B3 (gq rfl) (B3 (A3 (neL g15.1.property rfl) (A3 (neL g15.1.property rfl) (A3 (neL g15.1.property rfl) (A3 (neL g15.1.property rfl) (A3 (neL g15.1.property rfl) (A3 (neL g15.1.property rfl) G_hit)))))) trivial)))))))⟩
 rintro _ ⟨g14,q10⟩
 refine I3 ?_
 obtain rfl:=(Option.some.inj hy9)
 exact B69 q10 (.inl rfl) (g14.1,g14.2) ⟨.of rfl, .of rfl, .of rfl, .of rfl,trivial⟩ (B0 G_hit (.of rfl) (sg rfl (B3 (gq rfl) (B3 (gq rfl) (B3 (A3 (neL g14.1.property rfl) (A3 (neL g14.1.property rfl) (A3 (neL g14.1.property rfl) (A3 (neL g14.1.property rfl) G_hit)))) trivial)))))
 intro g12
 intro u90 hu90
 refine A1 (J3 (C7 fun u91 hu91=>sv rfl (sv rfl (A1 (B28 (lr (fun u92 hu92=>sv rfl (A1 (A7 (B27 rfl (B4w rfl ?_)))))))))))
 cases hy1
 exact l_j ⟨(g2,g6,(g12.1,g12.2)),(G2 ⟨.of rfl, .of rfl,trivial⟩ (B0 G_hit (.of rfl) (sg rfl (B3 (gq rfl) (B3 (gq rfl) (B3 (A3 (neL g12.1.property rfl) (A3 (neL g12.1.property rfl) (A3 (neL g12.1.property rfl) (A3 (neL g12.1.property rfl) G_hit)))) trivial))))))⟩
 rintro _ ⟨g1,q11⟩
 refine B5 q11 (lr (fun u93 hu93=>sp rfl rfl (sp rfl rfl (sp rfl rfl (sp rfl rfl (sl rfl (gq rfl) rfl (sv rfl (sp rfl rfl (sp rfl rfl (sp rfl rfl (sst rfl (gq rfl) ((A02 p1)++ (N3 p2)++ [(di (w64 (v2.Tick+1))),(oS y1.1 (10060030,g1.1)),(oS y1.2.1 (85,g1.2.1)),(dl A5 p3),(oS y1.2.2 (g1.2.2.1.val,g1.2.2.2))]) rfl (A1 (A7 (B2b fun u94 hu94=>U2 (.ptr _ _) rfl rfl (U2 (.ptr _ _) rfl rfl (U2 (.ptr _ _) rfl rfl (U2 (A31 [(di (w64 (v2.Tick+1))),(oS y1.1 (10060030,g1.1)),(oS y1.2.1 (85,g1.2.1))]) rfl (A6 rfl G_hit rfl rfl) (U2 (.ptr _ _) rfl rfl (U2 (.ptr _ _) rfl rfl (U2 (.ptr _ _) rfl rfl (U2 (oS y1.2.2 (g1.2.2.1.val,g1.2.2.2)) rfl (R7 rfl G_hit rfl) (B2c _ _ _ _ _ (A0s _) rfl rfl (gq rfl) (nl rfl) [(di (w64 (v2.Tick+1))),(oS y1.1 (10060030,g1.1)),(oS y1.2.1 (85,g1.2.1))] rfl (U2 (oS y1.2.2 (g1.2.2.1.val,g1.2.2.2)) rfl rfl (U2 (.d _) rfl rfl (C0c ⟨by first|rfl|((generalize g1.2.2.1=q0;rcases q0 with ⟨d0,_|⟨_,_|⟨_,h0⟩⟩⟩)<;>(generalize y1.2.2=z4;cases z4)<;>first|rfl|contradiction),?_⟩)))))))))))))))))))))))))
 refine B4 ?_
 cases h
 exact A8 (.inr rfl) (C1j (G1 rfl G_hit (nl rfl) rfl) (B6 rfl) (B6 rfl) (B4g (rD (C3 (A3u (gq rfl)) (C3 (A3u (gq rfl)) D2)))) (A3u (A3 (neL g1.2.2.1.property rfl) (A3 (neL g1.2.2.1.property rfl) (A3 (neL g1.2.2.1.property rfl) (A3 (neL g1.2.2.1.property rfl) (A3 (neL g1.2.2.1.property rfl) (A3 (neL g1.2.2.1.property rfl) G_hit))))))) E5) (.tup (.cons (.agg (ca rfl (.cons ⟨A3t,rfl⟩ (.cons ⟨A3t,rfl⟩ .nil)))) (.cons A3t A2)))
noncomputable def A3i (p1:(List Int))(p2:(List Int))(x1:Int):Option (Stp Int (Sum Unit Bool)):=
  cond ((decide (x1< (p1.length:Int)))&& (decide (x1< (p2.length:Int)))) ((D0 p1 x1).bind fun v1=>(D0 p2 x1).bind fun v2=>cond (v1 !=v2) (some (.out (.inr false))) (some (.go (w64 (x1+1))))) (some (.out (.inl ())))
noncomputable def A7y (p1:(List Int))(p2:(List Int)):Option Bool:=
  thenS (loop (A3i p1 p2) 0) (fun _=>some ((p1.length:Int)==(p2.length:Int))) (fun r=>some r)
theorem B8v (p1:(List Int))(p2:(List Int))(r:Bool)(h:A7y p1 p2=some r):PCall Tryz.prog 95 [(.list (List.map A5 p1)),(.list (List.map A5 p2))] (bo r):=by
 refine B8 (fk Tryz.func95 Tryz.ntmps95 m0 (by with_unfolding_all rfl)) (nl rfl) ?_
 unfold A7y at h
 refine B5 (s0:=⟨T [(0,(.d _)),(1,(.d _))],G []⟩) (sbr rfl rfl) ?_
 refine lr (fun u1 hu1=>sv rfl (A1 (A7 (lr (fun u2 hu2=>sv rfl (A1 (js h fun z1 hz1 h=>E7 (fun s=> ∃(y1:Unit) (g1:Unit),z1= .inl y1∧Sb ⟨T [(0,(dl A5 p1)),(1,(dl A5 p2))],G []⟩ s) ?_ ?_)))))))
 refine A9 (G5 (A3i p1 p2) (fun (x1:Int) (g2:Unit)=>⟨T [(0,(dl A5 p1)),(1,(dl A5 p2)),(5,(di x1))],G []⟩) 0 () _ hz1 (sbr rfl rfl) ?_)
 intro x1 g2 z2 hz2 ez2
 unfold A3i at hz2
 refine A7 (lr (fun u3 hu3=>sv rfl (sv rfl (sd rfl (J6 rfl) (sv rfl (sv rfl (gt rfl (fun _=>rfl) (gt rfl (fun _=>rfl) (gt rfl (fun w3=>(J6 (A4 w3))) (gt rfl (fun w4=>(X7 (A4 w4) (A4 w4) rfl)) (sa rfl rfl rfl (A1 (cc rfl hz2 (fun c1 hz2=> ?_) (fun c1 hz2=> ?_))))))))))))))
 refine B1 (A7 (A9 (A7 (I0 rfl fun u4 hu4=>sv rfl (sv rfl (bs hz2 fun v1 hv1 hz2=>sd rfl (F9 rfl rfl hv1 rfl) (sd rfl (F4 rfl hv1 rfl) (sv rfl (sv rfl (bs hz2 fun v2 hv2 hz2=>sd rfl (F9 rfl rfl hv2 rfl) (sd rfl (F4 rfl hv2 rfl) (sv rfl (A1 (cc rfl hz2 (fun c2 hz2=> ?_) (fun c2 hz2=> ?_)))))))))))))))
 refine lr (fun u5 hu5=>sv rfl (A1 (B4 ?_)))
 cases hz2
 obtain rfl:=ez2 _ rfl
 refine ⟨nofun,G0 ?_⟩
 rw [Sum.elim_inr]at h
 cases h
 exact A8 (.inr rfl) (B7 (B6 rfl) E5) (.refl _)
 refine B1 (J3 (C7 fun u6 hu6=>sv rfl (sv rfl (sv rfl (A1 (I3 ?_))))))
 cases hz2
 exact ⟨rfl,(),(sbr rfl rfl)⟩
 refine C5 rfl ?_
 cases hz2
 obtain rfl:=ez2 _ rfl
 refine ⟨nofun,C2 rfl (l_j ?_)⟩
 exact ⟨_,(),rfl,(sbr rfl rfl)⟩
 rintro _ ⟨y1,g1,rfl,q1⟩
 rw [Sum.elim_inl]at h
 refine B5 q1 (lr (fun u7 hu7=>sv rfl (sd rfl (J6 rfl) (sv rfl (sd rfl (J6 rfl) (sv rfl (sv rfl (A1 (B4 ?_)))))))))
 cases h
 exact A8 (.inr rfl) (B7 (B6 rfl) E5) (.refl _)
noncomputable def A0y (p1:(List Crash))(p2:(List Crash))(x1:Int):Option (Stp Int (Sum Unit Bool)):=
  cond (decide (x1< (p1.length:Int))) ((D0 p1 x1).bind fun v1=>(D0 p2 x1).bind fun v2=>((cond (!(v1.Tick !=v2.Tick)) (D0 p1 x1) (some default))).bind fun v3=>((cond (!(v1.Tick !=v2.Tick)) (D0 p2 x1) (some default))).bind fun v4=>((cond (!((v1.Tick !=v2.Tick)||(v3.A !=v4.A))) (D0 p1 x1) (some default))).bind fun v5=>((cond (!((v1.Tick !=v2.Tick)||(v3.A !=v4.A))) (D0 p2 x1) (some default))).bind fun v6=>((cond (!(((v1.Tick !=v2.Tick)||(v3.A !=v4.A))||(v5.B !=v6.B))) (D0 p1 x1) (some default))).bind fun v7=>((cond (!(((v1.Tick !=v2.Tick)||(v3.A !=v4.A))||(v5.B !=v6.B))) (D0 p2 x1) (some default))).bind fun v8=>((cond (!((((v1.Tick !=v2.Tick)||(v3.A !=v4.A))||(v5.B !=v6.B))||(v7.Lane_ !=v8.Lane_))) (D0 p1 x1) (some default))).bind fun v9=>((cond (!((((v1.Tick !=v2.Tick)||(v3.A !=v4.A))||(v5.B !=v6.B))||(v7.Lane_ !=v8.Lane_))) (D0 p2 x1) (some default))).bind fun v10=>((cond (!(((((v1.Tick !=v2.Tick)||(v3.A !=v4.A))||(v5.B !=v6.B))||(v7.Lane_ !=v8.Lane_))||(v9.Zone_ !=v10.Zone_))) (D0 p1 x1) (some default))).bind fun v11=>((cond (!(((((v1.Tick !=v2.Tick)||(v3.A !=v4.A))||(v5.B !=v6.B))||(v7.Lane_ !=v8.Lane_))||(v9.Zone_ !=v10.Zone_))) (D0 p2 x1) (some default))).bind fun v12=>((cond (!(((((v1.Tick !=v2.Tick)||(v3.A !=v4.A))||(v5.B !=v6.B))||(v7.Lane_ !=v8.Lane_))||(v9.Zone_ !=v10.Zone_))) (A7y v11.Who v12.Who) (some default))).bind fun v13=>cond ((((((v1.Tick !=v2.Tick)||(v3.A !=v4.A))||(v5.B !=v6.B))||(v7.Lane_ !=v8.Lane_))||(v9.Zone_ !=v10.Zone_))||(!v13)) (some (.out (.inr false))) (some (.go (w64 (x1+1))))) (some (.out (.inl ())))
noncomputable def A1t (p1:(List Crash))(p2:(List Crash)):Option Bool:=
  cond ((p1.length:Int) !=(p2.length:Int)) (some false) (thenS (loop (A0y p1 p2) 0) (fun _=>some true) (fun r=>some r))
theorem B0h (p1:(List Crash))(p2:(List Crash))(r:Bool)(h:A1t p1 p2=some r):PCall Tryz.prog 33 [(.list (List.map X9 p1)),(.list (List.map X9 p2))] (bo r):=by
 refine B8 (fk Tryz.func33 Tryz.ntmps33 m0 (by with_unfolding_all rfl)) (nl rfl) ?_
 unfold A1t at h
 refine B5 (s0:=⟨T [(0,(.d _)),(1,(.d _))],G []⟩) (sbr rfl rfl) ?_
 refine lr (fun u1 hu1=>sv rfl (A1 (A7 (lr (fun u2 hu2=>sv rfl (sd rfl (J6 rfl) (sv rfl (sd rfl (J6 rfl) (sv rfl (A1 (cc rfl h (fun c1 h=> ?_) (fun c1 h=> ?_))))))))))))
 refine lr (fun u3 hu3=>sv rfl (A1 (B4 ?_)))
 cases h
 exact A8 (.inr rfl) (B7 (B6 rfl) E5) (.refl _)
 refine B1 (A7 (lr (fun u4 hu4=>sv rfl (A1 (js h fun z1 hz1 h=>E7 (fun s=> ∃(y1:Unit) (g1:Unit),z1= .inl y1∧Sb ⟨T [],G []⟩ s) ?_ ?_)))))
 refine A9 (G5 (A0y p1 p2) (fun (x1:Int) (g2:Unit)=>⟨T [(0,(dl X9 p1)),(1,(dl X9 p2)),(5,(di x1))],G []⟩) 0 () _ hz1 (sbr rfl rfl) ?_)
 intro x1 g2 z2 hz2 ez2
 unfold A0y at hz2
 refine A7 (lr (fun u5 hu5=>sv rfl (sv rfl (sd rfl (J6 rfl) (sv rfl (A1 (cc rfl hz2 (fun c2 hz2=> ?_) (fun c2 hz2=> ?_))))))))
 refine B1 (A7 (A9 (A7 (I0 rfl fun u6 hu6=>sv rfl (sv rfl (bs hz2 fun v1 hv1 hz2=>sd rfl (F9 rfl rfl hv1 rfl) (sv rfl (sd rfl (F4 rfl hv1 rfl) (sv rfl (sv rfl (bs hz2 fun v2 hv2 hz2=>sd rfl (F9 rfl rfl hv2 rfl) (sv rfl (sd rfl (F4 rfl hv2 rfl) (sv rfl (sv rfl (gf rfl (fun _=>rfl) (gf rfl (fun _=>rfl) (bs hz2 fun v3 hv3 hz2=>gf rfl (fun w3=>(F9 (A4 w3) (A4 w3) (B9 w3 hv3) rfl)) ?_))))))))))))))))))
 refine gf rfl (fun w4=>(by simp only [A4 w4];rfl)) ?_
 refine gf rfl (fun w5=>(F4 (A4 w5) (B9 w5 hv3) rfl)) (gf rfl (fun _=>rfl) (gf rfl (fun _=>rfl) (bs hz2 fun v4 hv4 hz2=>gf rfl (fun w8=>(F9 (A4 w8) (A4 w8) (B9 w8 hv4) rfl)) ?_)))
 refine gf rfl (fun w9=>(by simp only [A4 w9];rfl)) ?_
 refine gf rfl (fun w10=>(F4 (A4 w10) (B9 w10 hv4) rfl)) (gf rfl (fun w11=>(X7 (A4 w11) (A4 w11) rfl)) (sd rfl (A49 rfl rfl (fun hc=>A4 (S3 hc))) (sv rfl (gf rfl (fun _=>rfl) (gf rfl (fun _=>rfl) (bs hz2 fun v5 hv5 hz2=>gf rfl (fun w14=>(F9 (A4 w14) (A4 w14) (B9 w14 hv5) rfl)) ?_))))))
 refine gf rfl (fun w15=>(by simp only [A4 w15];rfl)) ?_
 refine gf rfl (fun w16=>(F4 (A4 w16) (B9 w16 hv5) rfl)) (gf rfl (fun _=>rfl) (gf rfl (fun _=>rfl) (bs hz2 fun v6 hv6 hz2=>gf rfl (fun w19=>(F9 (A4 w19) (A4 w19) (B9 w19 hv6) rfl)) ?_)))
 refine gf rfl (fun w20=>(by simp only [A4 w20];rfl)) ?_
 refine gf rfl (fun w21=>(F4 (A4 w21) (B9 w21 hv6) rfl)) (gf rfl (fun w22=>(X7 (A4 w22) (A4 w22) rfl)) (sd rfl (A49 rfl rfl (fun hc=>A4 (S3 hc))) (sv rfl (gf rfl (fun _=>rfl) (gf rfl (fun _=>rfl) (bs hz2 fun v7 hv7 hz2=>gf rfl (fun w25=>(F9 (A4 w25) (A4 w25) (B9 w25 hv7) rfl)) ?_))))))
 refine gf rfl (fun w26=>(by simp only [A4 w26];rfl)) ?_
 refine gf rfl (fun w27=>(F4 (A4 w27) (B9 w27 hv7) rfl)) (gf rfl (fun _=>rfl) (gf rfl (fun _=>rfl) (bs hz2 fun v8 hv8 hz2=>gf rfl (fun w30=>(F9 (A4 w30) (A4 w30) (B9 w30 hv8) rfl)) ?_)))
 refine gf rfl (fun w31=>(by simp only [A4 w31];rfl)) ?_
 refine gf rfl (fun w32=>(F4 (A4 w32) (B9 w32 hv8) rfl)) (gf rfl (fun w33=>(X7 (A4 w33) (A4 w33) rfl)) (sd rfl (A49 rfl rfl (fun hc=>A4 (S3 hc))) (sv rfl (gf rfl (fun _=>rfl) (gf rfl (fun _=>rfl) (bs hz2 fun v9 hv9 hz2=>gf rfl (fun w36=>(F9 (A4 w36) (A4 w36) (B9 w36 hv9) rfl)) ?_))))))
 refine gf rfl (fun w37=>(by simp only [A4 w37];rfl)) ?_
 refine gf rfl (fun w38=>(F4 (A4 w38) (B9 w38 hv9) rfl)) (gf rfl (fun _=>rfl) (gf rfl (fun _=>rfl) (bs hz2 fun v10 hv10 hz2=>gf rfl (fun w41=>(F9 (A4 w41) (A4 w41) (B9 w41 hv10) rfl)) ?_)))
 refine gf rfl (fun w42=>(by simp only [A4 w42];rfl)) ?_
 refine gf rfl (fun w43=>(F4 (A4 w43) (B9 w43 hv10) rfl)) (gf rfl (fun w44=>(X7 (A4 w44) (A4 w44) rfl)) (sd rfl (A49 rfl rfl (fun hc=>A4 (S3 hc))) (sv rfl (gf rfl (fun _=>rfl) (gf rfl (fun _=>rfl) (bs hz2 fun v11 hv11 hz2=>gf rfl (fun w47=>(F9 (A4 w47) (A4 w47) (B9 w47 hv11) rfl)) ?_))))))
 refine gf rfl (fun w48=>(by simp only [A4 w48];rfl)) ?_
 refine gf rfl (fun w49=>(F4 (A4 w49) (B9 w49 hv11) rfl)) (gf rfl (fun _=>rfl) (gf rfl (fun _=>rfl) (bs hz2 fun v12 hv12 hz2=>gf rfl (fun w52=>(F9 (A4 w52) (A4 w52) (B9 w52 hv12) rfl)) ?_)))
 refine gf rfl (fun w53=>(by simp only [A4 w53];rfl)) ?_
 refine gf rfl (fun w54=>(F4 (A4 w54) (B9 w54 hv12) rfl)) (bs hz2 fun v13 hv13 hz2=> ?_)
 refine O5 _ (bo v13) (A0h rfl) (fun w55=>⟨_,[(dl A5 v11.Who),(dl A5 v12.Who)],_,_,(by simp only [A4 w55];rfl),rfl,A2,B8v _ _ _ (B9 w55 hv13),(.inl rfl)⟩) ?_
 refine U0 _ (.d (bo (!v13))) rfl (A0h rfl) (fun w56=>(by simp only [A4 w56];rfl)) ?_
 refine sd rfl (A49 rfl rfl (fun hc=>A4 (S3 hc))) (A1 (cc rfl hz2 (fun c3 hz2=> ?_) (fun c3 hz2=> ?_)))
 refine A7 (B5 (s0:=⟨T [],G []⟩) (sbr rfl rfl) ?_)
 refine C7 fun u7 hu7=>sv rfl (A1 (B4 ?_))
 cases hz2
 obtain rfl:=ez2 _ rfl
 refine ⟨nofun,G0 ?_⟩
 rw [Sum.elim_inr]at h
 cases h
 exact A8 (.inr rfl) (B7 (B6 rfl) E5) (.refl _)
 refine B1 (J3 (B5 (s0:=⟨T [(0,(.d _)),(1,(.d _)),(5,(.d _))],G []⟩) (sbr rfl rfl) ?_))
 refine C7 fun u8 hu8=>sv rfl (sv rfl (sv rfl (A1 (I3 ?_))))
 cases hz2
 exact ⟨rfl,(),(sbr rfl rfl)⟩
 refine C5 rfl ?_
 cases hz2
 obtain rfl:=ez2 _ rfl
 refine ⟨nofun,C2 rfl (l_j ?_)⟩
 exact ⟨_,(),rfl,(sbr rfl rfl)⟩
 rintro _ ⟨y1,g1,rfl,q1⟩
 rw [Sum.elim_inl]at h
 refine B5 q1 (lr (fun u9 hu9=>sv rfl (A1 (B4 ?_))))
 cases h
 exact A8 (.inr rfl) (B7 (B6 rfl) E5) (.refl _)
noncomputable def A91 (p1:Map)(p2:State)(p3:Int):Option Bool:=
  ((cond ((decide (p3≥0))&& (decide (p3≤16777216))) (A3d p1 p2) (some default))).bind fun v1=>some (((decide (p3≥0))&& (decide (p3≤16777216)))&& (v1==0))
theorem B6h (p1:Map)(p2:State)(p3:Int)(r:Bool)(h:A91 p1 p2 p3=some r):PCall Tryz.prog 122 [(.agg (A5o p1)),(.agg (A1z p2)),(i64 p3)] (bo r):=by
 refine B8 (fk Tryz.func122 Tryz.ntmps122 m0 (by with_unfolding_all rfl)) (nl rfl) ?_
 unfold A91 at h
 refine B5 (s0:=⟨T [(0,(.d _)),(1,(.d _)),(2,(.d _))],G []⟩) (sbr rfl rfl) ?_
 refine lr (fun u1 hu1=>sn rfl rfl (sn rfl rfl (sv rfl (A1 (lr (fun u2 hu2=>sv rfl (sv rfl (sv rfl (gt rfl (fun _=>rfl) (gt rfl (vb rfl rfl rfl) (sa rfl rfl rfl (sv rfl (gt rfl (fun w3=>(A6 rfl (gq rfl) rfl rfl)) (gt rfl (fun w4=>(A6 rfl G_hit rfl rfl)) (bs h fun v1 hv1 h=> ?_)))))))))))))))
 refine O5 _ (i64 v1) (V5 rfl) (fun w5=>⟨_,[(.d (.agg (A5o p1))),(.d (.agg (A1z p2)))],_,_,(by simp only [A4 w5];rfl),rfl,A2,A7f _ _ _ (B9 w5 hv1),(.inl rfl)⟩) ?_
 refine gt rfl (vb rfl rfl rfl) (sa rfl rfl rfl (sv rfl (A1 (B4 ?_))))
 cases h
 exact A8 (.inr rfl) (B7 (B6 rfl) E5) (.refl _)
noncomputable def A4z (p3:Int)(v1:RoadsWay)(x1:Int):Option (Stp Int Int):=
  (D0 v1.starts x1).bind fun v3=>cond (decide (v3>p3)) (some (.go (w64 (x1 - 1)))) (some (.out x1))
noncomputable def A9m (p1:Map)(p2:(List Int))(p3:Int):Option (Int×Int×Bool):=
  (A0w p1 p2).bind fun v1=>((cond (!((v1.lanes.length:Int)==0)) (W4 p3 0 v1.length) (some default))).bind fun v2=>cond (((v1.lanes.length:Int)==0)||(!v2)) (some (0,0,false)) ((loop (A4z p3 v1) (w64 ((v1.lanes.length:Int) - 1))).bind fun y1=>(D0 v1.lanes y1).bind fun v4=>(D0 v1.starts y1).bind fun v5=>some (v4,(w64 (p3 - v5)),true))
theorem B9b (p1:Map)(p2:(List Int))(p3:Int)(r:(Int×Int×Bool))(h:A9m p1 p2 p3=some r):PCall Tryz.prog 231 [(.agg (A5o p1)),(.list (List.map A5 p2)),(i64 p3)] (.tup [(i64 r.1),(i64 r.2.1),(bo r.2.2)]):=by
 refine B8 (fk Tryz.func231 Tryz.ntmps231 m0 (by with_unfolding_all rfl)) (nl rfl) ?_
 unfold A9m at h
 refine B5 (s0:=⟨T [(0,(.d _)),(1,(.d _)),(2,(.d _))],G []⟩) (sbr rfl rfl) ?_
 refine lr (fun u1 hu1=>sn rfl rfl (sv rfl (sv rfl (sv rfl (A1 (lr (fun u2 hu2=>sd rfl (A6 rfl G_hit rfl rfl) (sv rfl (bs h fun v1 hv1 h=>B2 rfl rfl A2 (A39 _ _ _ hv1) (.inl rfl) (sn rfl rfl (sst rfl G_hit (A4k v1) rfl (A1 (A7 (lr (fun u3 hu3=>sp rfl rfl (sl rfl G_hit rfl (sd rfl (J6 rfl) (sv rfl (sv rfl (gf rfl (fun _=>rfl) (gp rfl (A0h rfl) (fun _=>rfl) (gf rfl (vl rfl G_hit rfl) (bs h fun v2 hv2 h=> ?_)))))))))))))))))))))))
 refine O5 _ (bo v2) (A0h rfl) (fun w4=>⟨_,[(di p3),(di 0),(di v1.length)],_,_,(by simp only [A4 w4];rfl),rfl,A2,A04 _ _ _ _ (B9 w4 hv2),(.inl rfl)⟩) ?_
 refine U0 _ (.d (bo (!v2))) rfl (A0h rfl) (fun w5=>(by simp only [A4 w5];rfl)) ?_
 refine sd rfl (A49 rfl rfl (fun hc=>A4 (S3 hc))) (A1 (cc rfl h (fun c1 h=> ?_) (fun c1 h=> ?_)))
 refine lr (fun u4 hu4=>sv rfl (sv rfl (sv rfl (A1 (B4 ?_)))))
 cases h
 exact A8 (.inr rfl) (C1j (B6 rfl) (B6 rfl) (B6 rfl) E5 E5 E5) (.refl _)
 refine B1 (lr (fun u5 hu5=>sp rfl rfl (sl rfl G_hit rfl (sd rfl (J6 rfl) (sv rfl (sv rfl (A1 (A7 (bs h fun y1 hy1 h=>E7 (fun s=> ∃g1:Unit,Sb ⟨T [(2,(di p3)),(9,(.ptr (9,u2) 0)),(10,(di y1))],G [((9,u2),some (.box 260 (A4k v1)))]⟩ s) ?_ ?_)))))))))
 refine A9 (G5 (A4z p3 v1) (fun (x1:Int) (g2:Unit)=>⟨T [(2,(di p3)),(9,(.ptr (9,u2) 0)),(10,(di x1))],G [((9,u2),some (.box 260 (A4k v1)))]⟩) (w64 ((v1.lanes.length:Int) - 1)) () _ hy1 (sbr rfl rfl) ?_)
 intro x1 g2 z1 hz1 ez1
 unfold A4z at hz1
 refine A7 (lr (fun u6 hu6=>sp rfl rfl (sl rfl G_hit rfl (sv rfl (bs hz1 fun v3 hv3 hz1=>sd rfl (F9 rfl rfl hv3 rfl) (sd rfl (F4 rfl hv3 rfl) (sv rfl (sv rfl (A1 (cc rfl hz1 (fun c2 hz1=> ?_) (fun c2 hz1=> ?_)))))))))))
 refine B1 (A9 (C7 fun u7 hu7=>sv rfl (sv rfl (sv rfl (A1 (J3 (I3 ?_)))))))
 cases hz1
 exact ⟨rfl,(),(sbr rfl rfl)⟩
 refine C5 rfl ?_
 cases hz1
 obtain rfl:=ez1 _ rfl
 refine ⟨nofun,C2 rfl (l_j ?_)⟩
 exact ⟨(),(sbr rfl rfl)⟩
 rintro _ ⟨g1,q1⟩
 refine B5 q1 (A7 (I0 rfl fun u8 hu8=>sp rfl rfl (sl rfl G_hit rfl (sv rfl (bs h fun v4 hv4 h=>sd rfl (F9 rfl rfl hv4 rfl) (sd rfl (F4 rfl hv4 rfl) (sv rfl (sp rfl rfl (sl rfl G_hit rfl (sv rfl (bs h fun v5 hv5 h=>sd rfl (F9 rfl rfl hv5 rfl) (sd rfl (F4 rfl hv5 rfl) (sv rfl (sv rfl (sv rfl (sv rfl (A1 (B4 ?_))))))))))))))))))
 cases h
 exact A8 (.inr rfl) (C1j (B6 rfl) (B6 rfl) (B6 rfl) E5 E5 E5) (.refl _)
noncomputable def A6j (p2:Int)(x1:(Int×CurvePiece))(a1:(Int×CurvePiece)):Option (Stp (Int×CurvePiece) (Int×CurvePiece)):=
  cond ((a1.1==0)||(decide (a1.2.start≤p2))) (some (.go (a1.1,a1.2))) (some (.go (x1.1,x1.2)))
noncomputable def B1x (p1:Curve)(p2:Int):Option (Int×CurvePiece×Int):=
  ((B6s p1.Pts).bind fun v1=>loopL (A6j p2) (fun (x1:(Int×CurvePiece))=>(x1.1,x1.2)) v1 (0,(CurvePiece.mk (Spot.mk 0 0) (CurveVector.mk 0 0) 0 0))).bind fun y1=>some (y1.1,y1.2,(mm2 true 0 (mm2 false (w64 (p2 - y1.2.start)) y1.2.l)))
theorem C0m (p1:Curve)(p2:Int)(r:(Int×CurvePiece×Int))(h:B1x p1 p2=some r):PCall Tryz.prog 199 [(.agg [(.list (List.map A23 p1.Pts))]),(i64 p2)] (.tup [(i64 r.1),(.agg (B5c r.2.1)),(i64 r.2.2)]):=by
 refine B8 (fk Tryz.func199 Tryz.ntmps199 m0 (by with_unfolding_all rfl)) (nl rfl) ?_
 unfold B1x at h
 refine B5 (s0:=⟨T [(0,(.d _)),(1,(.d _))],G []⟩) (sbr rfl rfl) ?_
 refine lr (fun u1 hu1=>sn rfl rfl (sn rfl rfl (sv rfl (sn rfl rfl (sv rfl (A1 (lr (fun u2 hu2=>sn rfl rfl (A1 (lr (fun u3 hu3=>sn rfl rfl (A1 (A7 (lr (fun u4 hu4=>sd rfl (A6 rfl (gq rfl) rfl rfl) (B2 rfl rfl A2 (B8n p1) (.inl rfl) (A1 (bs h fun y1 hy1 h=>E7 (fun s=> ∃g1:Unit,Sb ⟨T [(3,(.ptr (3,u1) 0)),(5,(.ptr (5,u1) 0)),(7,(.ptr (7,u2) 0)),(8,(.ptr (8,u3) 0))],G [((3,u1),some (.box 2 [(di p2)])),((5,u1),some (.box 255 (zs 6))),((7,u2),some (.box 3 [(di y1.1)])),((8,u3),some (.box 255 (A32 y1.2)))]⟩ s) ?_ ?_))))))))))))))))))
 refine A9 (bs hy1 fun v1 hv1 hy1=>B5 (s0:=⟨T [(3,(.ptr _ _)),(5,(.ptr _ _)),(7,(.ptr _ _)),(8,(.ptr _ _)),(12,(.d _))],G [((3,u1),some (.box 2 _)),((5,u1),some (.box 255 _)),((7,u2),some (.box 3 _)),((8,u3),some (.box 255 _))]⟩) (sbr rfl rfl) ?_)
 refine C3j (.fn (.func 260) [] [(.bp [(.list (List.map A23 p1.Pts))] 0)]) C1y v1 (A6j p2) (fun (x1:(Int×CurvePiece))=>(x1.1,x1.2)) (fun (x1:(Int×CurvePiece)) (g2:Unit)=> [((3,u1),some (.box 2 [(di p2)])),((5,u1),some (.box 255 (zs 6))),((7,u2),some (.box 3 [(di x1.1)])),((8,u3),some (.box 255 (A32 x1.2)))]) (0,(CurvePiece.mk (Spot.mk 0 0) (CurveVector.mk 0 0) 0 0)) () _ rfl (B8p hv1) (fun _=>rfl) hy1 (sbr rfl rfl) nofun ?_ ?_
 intro u6 hu6 hku6
 refine ⟨fun x1 g2=>(A3 rfl (A3 rfl (A3 rfl (A3 rfl rfl)))),?_⟩
 intro r1 x1 g2 a1 z1 hrr1 hz1 ez1
 unfold A6j at hz1
 show AWL _ _ _ _ _ _ ⟨T [(14,(.d (.agg (B5c a1.2)))),(13,(di a1.1)),(3,(.ptr (3,u1) 0)),(5,(.ptr (5,u1) 0)),(7,(.ptr (7,u2) 0)),(8,(.ptr (8,u3) 0)),(12,(.d (.fn (.func 260) [] [(.bp [(.list (List.map A23 p1.Pts))] 0)])))],G [((1000000,u6),some (.obj (T [(3,(.ptr (3,u1) 0)),(5,(.ptr (5,u1) 0)),(7,(.ptr (7,u2) 0)),(8,(.ptr (8,u3) 0)),(12,(.d (.fn (.func 260) [] [(.bp [(.list (List.map A23 p1.Pts))] 0)])))]) r1)),((3,u1),some (.box 2 [(di p2)])),((5,u1),some (.box 255 (zs 6))),((7,u2),some (.box 3 [(di x1.1)])),((8,u3),some (.box 255 (A32 x1.2)))]⟩
 refine lr (fun u7 hu7=>sv rfl (A1 (C7 fun u8 hu8=>sn rfl rfl (sst rfl G_hit (A32 a1.2) rfl (A1 (l_j (C3k (gq rfl) ?_)))))))
 refine A9 (lr (fun u9 hu9=>sv rfl (sv rfl (sv rfl (gp rfl (A0h rfl) (fun _=>rfl) (gf rfl (vl rfl (gq rfl) rfl) (gf rfl (fun w3=>(R7 rfl (gq rfl) rfl)) (gf rfl (fun w4=>(X7 (A4 w4) (A4 w4) rfl)) (sd rfl (A49 rfl rfl (fun hc=>A4 (S3 hc))) (A1 (cc rfl hz1 (fun c1 hz1=> ?_) (fun c1 hz1=> ?_))))))))))))
 refine B2b fun u10 hu10=>U2 (.d _) rfl rfl (U2 (.d _) rfl (A6 rfl (gq rfl) rfl rfl) (B2c _ _ _ _ _ rfl rfl rfl (gq rfl) (nl rfl) [(di a1.1)] rfl (B2c _ _ _ _ _ rfl rfl rfl (gq rfl) (nl rfl) (A32 a1.2) rfl (C0c ⟨rfl,?_⟩))))
 refine J3 (I3 ?_)
 cases hz1
 exact C3l (gq rfl) () (sg rfl (sg rfl (sg rfl (B0 G_hit (.of rfl) trivial))))
 refine B1 (J3 (I3 ?_))
 cases hz1
 exact C3l G_hit () (sg rfl (sg rfl (sg rfl (sg rfl trivial))))
 rintro x1 g2 _ rfl qx1
 refine J3 (l_j ?_)
 exact ⟨(),(Sb.after qx1 (sbr rfl rfl))⟩
 rintro _ ⟨g1,q1⟩
 refine B5 q1 (A7 (B2b fun u11 hu11=>U2 (.d _) rfl (R7 rfl (gq rfl) rfl) (U2 (.d _) rfl (A6 rfl (gq rfl) rfl rfl) (U2 (.d _) rfl (R7 rfl G_hit rfl) (U2 (.ptr _ _) rfl rfl (U2 (.d _) rfl (R7 rfl (gq rfl) rfl) (U2 (.d _) rfl rfl (U2 (.ptr _ _) rfl rfl (U2 (.d _) rfl (R7 rfl (gq rfl) rfl) (U2 (.d _) rfl rfl (U2 (.d _) rfl rfl (U2 (.d _) rfl rfl (B2c _ _ _ _ _ rfl rfl rfl (gq rfl) (nl rfl) (A32 y1.2) rfl (U2 (.d _) rfl rfl (C0c ⟨rfl,?_⟩)))))))))))))))
 refine B4 ?_
 cases h
 exact A8 (.inr rfl) (C1j (B6 rfl) (G1 rfl G_hit (nl rfl) rfl) (B6 rfl) E5 E5 E5) (.refl _)
noncomputable def A77 (p1:Int)(p2:Int):Option Int:=
  (C9m .i64 p1 p2).bind fun v1=>(C2r p1 p2).bind fun v2=>cond (decide (v2<0)) (some (w64 (v1 - 1))) (some v1)
theorem B51 (p1:Int)(p2:Int)(r:Int)(h:A77 p1 p2=some r):PCall Tryz.prog 200 [(i64 p1),(i64 p2)] (i64 r):=by
 refine B8 (fk Tryz.func200 Tryz.ntmps200 m0 (by with_unfolding_all rfl)) (nl rfl) ?_
 unfold A77 at h
 refine B5 (s0:=⟨T [(0,(.d _)),(1,(.d _))],G []⟩) (sbr rfl rfl) ?_
 refine lr (fun u1 hu1=>sv rfl (A1 (lr (fun u2 hu2=>sv rfl (sv rfl (bs h fun v1 hv1 h=>sd rfl (D0w rfl rfl hv1) (sv rfl (A1 (A7 (lr (fun u3 hu3=>sv rfl (sv rfl (bs h fun v2 hv2 h=>sd rfl (C4u rfl rfl hv2) (sv rfl (A1 (cc rfl h (fun c1 h=> ?_) (fun c1 h=> ?_)))))))))))))))))
 refine C7 fun u4 hu4=>sv rfl (sv rfl (sv rfl (A1 (lr (fun u5 hu5=>sv rfl (sv rfl (A1 (B4 ?_))))))))
 cases h
 exact A8 (.inr rfl) (B7 (B6 rfl) E5) (.refl _)
 refine B1 (lr (fun u6 hu6=>sv rfl (sv rfl (A1 (B4 ?_)))))
 cases h
 exact A8 (.inr rfl) (B7 (B6 rfl) E5) (.refl _)
noncomputable def B0i (p1:Curve)(p2:Int):Option Spot:=
  (A57 p1).bind fun v1=>cond (v1 !=0) (some (Spot.mk 0 0)) ((B1x p1 (mm2 true 0 p2)).bind fun v2=>(A77 (w64 (v2.2.1.v.x*v2.2.2)) v2.2.1.l).bind fun v3=>(A77 (w64 (v2.2.1.v.y*v2.2.2)) v2.2.1.l).bind fun v4=>some (Spot.mk (w64 (v2.2.1.p.X+v3)) (w64 (v2.2.1.p.Y+v4))))
theorem B2k (p1:Curve)(p2:Int)(r:Spot)(h:B0i p1 p2=some r):PCall Tryz.prog 130 [(.agg [(.list (List.map A23 p1.Pts))]),(i64 p2)] (.agg [(i64 r.X),(i64 r.Y)]):=by
 refine B8 (fk Tryz.func130 Tryz.ntmps130 m0 (by with_unfolding_all rfl)) (nl rfl) ?_
 unfold B0i at h
 refine B5 (s0:=⟨T [(0,(.d _)),(1,(.d _))],G []⟩) (sbr rfl rfl) ?_
 refine lr (fun u1 hu1=>sn rfl rfl (sn rfl rfl (A1 (A7 (lr (fun u2 hu2=>sd rfl (A6 rfl (gq rfl) rfl rfl) (bs h fun v1 hv1 h=>B2 rfl rfl A2 (B0p _ _ hv1) (.inl rfl) (sv rfl (A1 (cc rfl h (fun c1 h=> ?_) (fun c1 h=> ?_)))))))))))
 refine lr (fun u3 hu3=>sv rfl (sst rfl G_hit [(di 0),(di 0)] rfl (A1 (B4 ?_))))
 cases h
 exact A8 (.inr rfl) (B7 (G1 rfl G_hit (nl rfl) rfl) E5) (.refl _)
 refine B1 (lr (fun u4 hu4=>sd rfl (A6 rfl (gq rfl) rfl rfl) (sv rfl (sv rfl (bs h fun v2 hv2 h=>B2 rfl rfl A2 (C0m _ _ _ hv2) (.inl rfl) (sv rfl (sv rfl (sv rfl (sv rfl (sn rfl rfl (sv rfl (sst rfl G_hit (A32 v2.2.1) rfl (sv rfl (A1 (A7 (I0 rfl fun u5 hu5=>sp rfl rfl (sp rfl rfl (sl rfl G_hit rfl (sp rfl rfl (sp rfl rfl (sl rfl G_hit rfl (sv rfl (sv rfl (sp rfl rfl (sl rfl G_hit rfl (bs h fun v3 hv3 h=>B2 rfl rfl A2 (B51 _ _ _ hv3) (.inl rfl) (sv rfl (sp rfl rfl (sp rfl rfl (sl rfl G_hit rfl (sp rfl rfl (sp rfl rfl (sl rfl G_hit rfl (sv rfl (sv rfl (sp rfl rfl (sl rfl G_hit rfl (bs h fun v4 hv4 h=>B2 rfl rfl A2 (B51 _ _ _ hv4) (.inl rfl) (sv rfl (sv rfl (sst rfl (gq rfl) [(di (w64 (v2.2.1.p.X+v3))),(di (w64 (v2.2.1.p.Y+v4)))] rfl (A1 (B4 ?_)))))))))))))))))))))))))))))))))))))))))))
 cases h
 exact A8 (.inr rfl) (B7 (G1 rfl G_hit (nl rfl) rfl) E5) (.refl _)
noncomputable def B2l (p1:Map)(p2:(List Int))(p3:Int):Option Spot:=
  (V9 p1 p2).bind fun v1=>(A9m p1 p2 (mm2 true 0 (mm2 false p3 v1))).bind fun v2=>(D0 p1.Lanes v2.1).bind fun v3=>(B0i v3.Curve_ v2.2.1).bind fun v4=>some v4
theorem B5g (p1:Map)(p2:(List Int))(p3:Int)(r:Spot)(h:B2l p1 p2 p3=some r):PCall Tryz.prog 193 [(.agg (A5o p1)),(.list (List.map A5 p2)),(i64 p3)] (.agg [(i64 r.X),(i64 r.Y)]):=by
 refine B8 (fk Tryz.func193 Tryz.ntmps193 m0 (by with_unfolding_all rfl)) (nl rfl) ?_
 unfold B2l at h
 refine B5 (s0:=⟨T [(0,(.d _)),(1,(.d _)),(2,(.d _))],G []⟩) (sbr rfl rfl) ?_
 refine lr (fun u1 hu1=>sn rfl rfl (sn rfl rfl (A1 (A7 (I0 rfl fun u2 hu2=>sd rfl (A6 rfl (gq rfl) rfl rfl) (sv rfl (sv rfl (sd rfl (A6 rfl (gq rfl) rfl rfl) (sv rfl (bs h fun v1 hv1 h=>B2 rfl rfl A2 (A4b _ _ _ hv1) (.inl rfl) (sv rfl (sv rfl (bs h fun v2 hv2 h=>B2 rfl rfl A2 (B9b _ _ _ _ hv2) (.inl rfl) (sv rfl (sv rfl (sv rfl (sv rfl (sv rfl (sv rfl (sv rfl (A1 (lr (fun u3 hu3=>sp rfl rfl (sl rfl (gq rfl) rfl (sv rfl (bs h fun v3 hv3 h=>sd rfl (F9 rfl rfl hv3 rfl) (sv rfl (sd rfl (C6 rfl hv3 rfl rfl) (sv rfl (bs h fun v4 hv4 h=>B2 rfl rfl A2 (B2k _ _ _ hv4) (.inl rfl) (sst rfl G_hit [(di v4.X),(di v4.Y)] rfl (A1 (B4 ?_)))))))))))))))))))))))))))))))))
 cases h
 exact A8 (.inr rfl) (B7 (G1 rfl G_hit (nl rfl) rfl) E5) (.refl _)
noncomputable def A9n (p1:Spot)(p2:Spot):Option Int:=
  (A3w [p1,p2]).bind fun v1=>cond (!v1) (some 0) ((A3x p1 p2).bind fun v2=>(V3 v2 v2).bind fun v3=>some v3)
theorem B9c (p1:Spot)(p2:Spot)(r:Int)(h:A9n p1 p2=some r):PCall Tryz.prog 256 [(.agg [(i64 p1.X),(i64 p1.Y)]),(.agg [(i64 p2.X),(i64 p2.Y)])] (i64 r):=by
 refine B8 (fk Tryz.func256 Tryz.ntmps256 (fun r=>if r==1 then [1002]else []) (by with_unfolding_all rfl)) (nl rfl) ?_
 unfold A9n at h
 refine B5 (s0:=⟨T [(0,(.d _)),(1,(.d _))],G []⟩) (sbr rfl rfl) ?_
 refine lr (fun u1 hu1=>sn rfl rfl (sn rfl rfl (sv rfl (A1 (A7 (lr (fun u2 hu2=>sd rfl (A6 rfl (gq rfl) rfl rfl) (sd rfl (A6 rfl G_hit rfl rfl) (C0 (dl A23 [p1,p2]) rfl rfl (bs h fun v1 hv1 h=>B2 rfl rfl A2 (A61 _ _ hv1) (.inl rfl) (C0 (.d (bo (!v1))) rfl rfl (A1 (cc rfl h (fun c1 h=> ?_) (fun c1 h=> ?_))))))))))))))
 refine lr (fun u3 hu3=>sv rfl (A1 (B4 ?_)))
 cases h
 exact A8 (.inr rfl) (B7 (B6 rfl) E5) (.refl _)
 refine B1 (lr (fun u4 hu4=>sd rfl (A6 rfl (gq rfl) rfl rfl) (sd rfl (A6 rfl G_hit rfl rfl) (bs h fun v2 hv2 h=>B2 rfl rfl A2 (A62 _ _ _ hv2) (.inl rfl) (sn rfl rfl (sst rfl G_hit [(di v2.x),(di v2.y)] rfl (A1 (lr (fun u5 hu5=>sd rfl (A6 rfl G_hit rfl rfl) (sd rfl (A6 rfl G_hit rfl rfl) (bs h fun v3 hv3 h=>B2 rfl rfl A2 (A24 _ _ _ hv3) (.inl rfl) (sv rfl (A1 (B4 ?_))))))))))))))
 cases h
 exact A8 (.inr rfl) (B7 (B6 rfl) E5) (.refl _)
noncomputable def A92 (p1:Spot)(p2:Spot)(p3:Int):Option Bool:=
  (A3w [p1,p2]).bind fun v1=>((cond ((v1&& (decide (p3≥0)))&& (decide (p3≤33554432))) (A9n p1 p2) (some default))).bind fun v2=>some (((v1&& (decide (p3≥0)))&& (decide (p3≤33554432)))&& (decide (v2≤(w64 (p3*p3)))))
theorem B6i (p1:Spot)(p2:Spot)(p3:Int)(r:Bool)(h:A92 p1 p2 p3=some r):PCall Tryz.prog 232 [(.agg [(i64 p1.X),(i64 p1.Y)]),(.agg [(i64 p2.X),(i64 p2.Y)]),(i64 p3)] (bo r):=by
 refine B8 (fk Tryz.func232 Tryz.ntmps232 (fun r=>if r==1 then [1002]else []) (by with_unfolding_all rfl)) (nl rfl) ?_
 unfold A92 at h
 refine B5 (s0:=⟨T [(0,(.d _)),(1,(.d _)),(2,(.d _))],G []⟩) (sbr rfl rfl) ?_
 refine lr (fun u1 hu1=>sn rfl rfl (sn rfl rfl (sv rfl (A1 (lr (fun u2 hu2=>sd rfl (A6 rfl (gq rfl) rfl rfl) (sd rfl (A6 rfl G_hit rfl rfl) (C0 (dl A23 [p1,p2]) rfl rfl (bs h fun v1 hv1 h=>B2 rfl rfl A2 (A61 _ _ hv1) (.inl rfl) (sv rfl (gt rfl (fun _=>rfl) (gt rfl (vb rfl rfl rfl) (sa rfl rfl rfl (sv rfl (gt rfl (fun _=>rfl) (gt rfl (vb rfl rfl rfl) (sa rfl rfl rfl (sv rfl (gt rfl (fun w5=>(A6 rfl (gq rfl) rfl rfl)) (gt rfl (fun w6=>(A6 rfl G_hit rfl rfl)) (bs h fun v2 hv2 h=> ?_)))))))))))))))))))))
 refine O5 _ (i64 v2) (V5 rfl) (fun w7=>⟨_,[(.d (.agg [(i64 p1.X),(i64 p1.Y)])),(.d (.agg [(i64 p2.X),(i64 p2.Y)]))],_,_,(by simp only [A4 w7];rfl),rfl,A2,B9c _ _ _ (B9 w7 hv2),(.inl rfl)⟩) ?_
 refine gt rfl (fun _=>rfl) (gt rfl (fun _=>rfl) (gt rfl (fun w10=>(X7 (A4 w10) (A4 w10) rfl)) (gt rfl (fun w11=>(X7 (A4 w11) (A4 w11) rfl)) (sa rfl rfl rfl (sv rfl (A1 (B4 ?_)))))))
 cases h
 exact A8 (.inr rfl) (B7 (B6 rfl) E5) (.refl _)
noncomputable def A9o (p1:(List Span))(p2:Span)(x1:Int):Option (Stp Int (Sum Unit (WorldSpan×Bool))):=
  cond (decide (x1< (p1.length:Int))) ((D0 p1 x1).bind fun v1=>cond (v1.Lane_==p2.Lane_) ((A18 (WorldSpan.mk v1.From v1.To) (WorldSpan.mk p2.From p2.To)).bind fun v2=>(Y3 v2).bind fun v3=>some (.out (.inr (v2,(!v3))))) (some (.go (w64 (x1+1))))) (some (.out (.inl ())))
noncomputable def B2m (p1:(List Span))(p2:Span):Option (WorldSpan×Bool):=
  thenS (loop (A9o p1 p2) 0) (fun _=>some ((WorldSpan.mk 0 0),false)) (fun r=>some r)
theorem B5h (p1:(List Span))(p2:Span)(r:(WorldSpan×Bool))(h:B2m p1 p2=some r):PCall Tryz.prog 129 [(.list (List.map R8 p1)),(.agg (R8 p2))] (.tup [(.agg [(i64 r.1.from_),(i64 r.1.to)]),(bo r.2)]):=by
 refine B8 (fk Tryz.func129 Tryz.ntmps129 m0 (by with_unfolding_all rfl)) (nl rfl) ?_
 unfold B2m at h
 refine B5 (s0:=⟨T [(0,(.d _)),(1,(.d _))],G []⟩) (sbr rfl rfl) ?_
 refine lr (fun u1 hu1=>sn rfl rfl (sn rfl rfl (sv rfl (A1 (A7 (lr (fun u2 hu2=>sv rfl (sd rfl (J6 rfl) (sv rfl (A1 (js h fun z1 hz1 h=>E7 (fun s=> ∃(y1:Unit) (g1:Unit),z1= .inl y1∧Sb ⟨T [(4,(.ptr (4,u1) 0))],G [((4,u1),some (.box 191 [(di 0),(di 0)]))]⟩ s) ?_ ?_)))))))))))
 refine A9 (G5 (A9o p1 p2) (fun (x1:Int) (g2:Unit)=>⟨T [(3,(.ptr (3,u1) 0)),(4,(.ptr (4,u1) 0)),(9,(dl R8 p1)),(10,(di (p1.length:Int))),(11,(di x1))],G [((3,u1),some (.box 93 (B96 p2))),((4,u1),some (.box 191 [(di 0),(di 0)]))]⟩) 0 () _ hz1 (sbr rfl rfl) ?_)
 intro x1 g2 z2 hz2 ez2
 unfold A9o at hz2
 refine lr (fun u3 hu3=>sv rfl (A1 (A7 (cc rfl hz2 (fun c1 hz2=> ?_) (fun c1 hz2=> ?_)))))
 refine B1 (A7 (A9 (lr (fun u4 hu4=>bs hz2 fun v1 hv1 hz2=>sd rfl (F9 rfl rfl hv1 rfl) (sd rfl (C6 rfl hv1 rfl rfl) (sn rfl rfl (sst rfl G_hit (B96 v1) rfl (A1 (lr (fun u5 hu5=>sp rfl rfl (sl rfl G_hit rfl (sp rfl rfl (sl rfl (gq rfl) rfl (sv rfl (A1 (cc rfl hz2 (fun c2 hz2=> ?_) (fun c2 hz2=> ?_)))))))))))))))))
 refine lr (fun u6 hu6=>sp rfl rfl (sl rfl G_hit rfl (sp rfl rfl (sl rfl G_hit rfl (sv rfl (sp rfl rfl (sl rfl (gq rfl) rfl (sp rfl rfl (sl rfl (gq rfl) rfl (sv rfl (bs hz2 fun v2 hv2 hz2=>B2 rfl rfl A2 (A72 _ _ _ hv2) (.inl rfl) (sn rfl rfl (sst rfl G_hit [(di v2.from_),(di v2.to)] rfl (A1 (A7 (I0 rfl fun u7 hu7=>sd rfl (A6 rfl G_hit rfl rfl) (sd rfl (A6 rfl G_hit rfl rfl) (bs hz2 fun v3 hv3 hz2=>B2 rfl rfl A2 (A59 _ _ hv3) (.inl rfl) (C0 (.d (bo (!v3))) rfl rfl (sst rfl (gq rfl) [(di v2.from_),(di v2.to)] rfl (sv rfl (A1 (B4 ?_)))))))))))))))))))))))
 cases hz2
 obtain rfl:=ez2 _ rfl
 refine ⟨nofun,G0 ?_⟩
 rw [Sum.elim_inr]at h
 cases h
 exact A8 (.inr rfl) (B4m (G1 rfl G_hit (nl rfl) rfl) (B6 rfl) E5 E5) (.refl _)
 refine B1 (J3 (C7 fun u8 hu8=>sv rfl (sv rfl (A1 (I3 ?_)))))
 cases hz2
 exact ⟨rfl,(),(sbr rfl rfl)⟩
 refine C5 rfl ?_
 cases hz2
 obtain rfl:=ez2 _ rfl
 refine ⟨nofun,C2 rfl (l_j ?_)⟩
 exact ⟨_,(),rfl,(sbr rfl rfl)⟩
 rintro _ ⟨y1,g1,rfl,q1⟩
 rw [Sum.elim_inl]at h
 refine B5 q1 (lr (fun u9 hu9=>sv rfl (sst rfl G_hit [(di 0),(di 0)] rfl (sv rfl (A1 (B4 ?_))))))
 cases h
 exact A8 (.inr rfl) (B4m (G1 rfl G_hit (nl rfl) rfl) (B6 rfl) E5 E5) (.refl _)
noncomputable def A0z (p1:CurveVector)(p2:CurveVector):Option Int:=
  some (w64 ((w64 (p1.x*p2.y)) - (w64 (p1.y*p2.x))))
theorem B3r (p1:CurveVector)(p2:CurveVector)(r:Int)(h:A0z p1 p2=some r):PCall Tryz.prog 269 [(.agg [(i64 p1.x),(i64 p1.y)]),(.agg [(i64 p2.x),(i64 p2.y)])] (i64 r):=by
 refine B8 (fk Tryz.func269 Tryz.ntmps269 m0 (by with_unfolding_all rfl)) (nl rfl) ?_
 unfold A0z at h
 refine B5 (s0:=⟨T [(0,(.d _)),(1,(.d _))],G []⟩) (sbr rfl rfl) ?_
 refine lr (fun u1 hu1=>sn rfl rfl (sn rfl rfl (sv rfl (A1 (lr (fun u2 hu2=>sp rfl rfl (sl rfl (gq rfl) rfl (sp rfl rfl (sl rfl G_hit rfl (sv rfl (sp rfl rfl (sl rfl (gq rfl) rfl (sp rfl rfl (sl rfl G_hit rfl (sv rfl (sv rfl (sv rfl (A1 (B4 ?_)))))))))))))))))))
 cases h
 exact A8 (.inr rfl) (B7 (B6 rfl) E5) (.refl _)
noncomputable def B1y (p1:Int):Option Int:=
  cond (decide (p1>0)) (some 1) (cond (decide (p1<0)) (some (-1)) (some 0))
theorem C0n (p1:Int)(r:Int)(h:B1y p1=some r):PCall Tryz.prog 268 [(i64 p1)] (i64 r):=by
 refine B8 (fk Tryz.func268 Tryz.ntmps268 m0 (by with_unfolding_all rfl)) (nl rfl) ?_
 unfold B1y at h
 refine B5 (s0:=⟨T [(0,(.d _))],G []⟩) (sbr rfl rfl) ?_
 refine lr (fun u1 hu1=>sv rfl (A1 (A7 (A9 (lr (fun u2 hu2=>sv rfl (sv rfl (sv rfl (A1 (cc rfl h (fun c1 h=> ?_) (fun c1 h=> ?_)))))))))))
 refine lr (fun u3 hu3=>sv rfl (A1 (B4 ?_)))
 cases h
 exact A8 (.inr rfl) (B7 (B6 rfl) E5) (.refl _)
 refine lr (fun u4 hu4=>sv rfl (sv rfl (sv rfl (A1 (cc rfl h (fun c2 h=> ?_) (fun c2 h=> ?_))))))
 refine lr (fun u5 hu5=>sv rfl (A1 (B4 ?_)))
 cases h
 exact A8 (.inr rfl) (B7 (B6 rfl) E5) (.refl _)
 refine B1 (J3 (lr (fun u6 hu6=>sv rfl (A1 (B4 ?_)))))
 cases h
 exact A8 (.inr rfl) (B7 (B6 rfl) E5) (.refl _)
noncomputable def A5q (p1:Spot)(p2:Spot)(p3:Spot):Option Int:=
  (A3w [p1,p2,p3]).bind fun v1=>cond (!v1) (some 0) ((A3x p1 p2).bind fun v2=>(A3x p1 p3).bind fun v3=>(A0z v2 v3).bind fun v4=>(B1y v4).bind fun v5=>some v5)
theorem A8s (p1:Spot)(p2:Spot)(p3:Spot)(r:Int)(h:A5q p1 p2 p3=some r):PCall Tryz.prog 257 [(.agg [(i64 p1.X),(i64 p1.Y)]),(.agg [(i64 p2.X),(i64 p2.Y)]),(.agg [(i64 p3.X),(i64 p3.Y)])] (i64 r):=by
 refine B8 (fk Tryz.func257 Tryz.ntmps257 (fun r=>if r==1 then [1003]else []) (by with_unfolding_all rfl)) (nl rfl) ?_
 unfold A5q at h
 refine B5 (s0:=⟨T [(0,(.d _)),(1,(.d _)),(2,(.d _))],G []⟩) (sbr rfl rfl) ?_
 refine lr (fun u1 hu1=>sn rfl rfl (sn rfl rfl (sn rfl rfl (sv rfl (A1 (A7 (lr (fun u2 hu2=>sd rfl (A6 rfl (gq rfl) rfl rfl) (sd rfl (A6 rfl (gq rfl) rfl rfl) (sd rfl (A6 rfl G_hit rfl rfl) (C0 (dl A23 [p1,p2,p3]) rfl rfl (bs h fun v1 hv1 h=>B2 rfl rfl A2 (A61 _ _ hv1) (.inl rfl) (C0 (.d (bo (!v1))) rfl rfl (A1 (cc rfl h (fun c1 h=> ?_) (fun c1 h=> ?_))))))))))))))))
 refine lr (fun u3 hu3=>sv rfl (A1 (B4 ?_)))
 cases h
 exact A8 (.inr rfl) (B7 (B6 rfl) E5) (.refl _)
 refine B1 (A7 (I0 rfl fun u4 hu4=>sd rfl (A6 rfl (gq rfl) rfl rfl) (sd rfl (A6 rfl (gq rfl) rfl rfl) (bs h fun v2 hv2 h=>B2 rfl rfl A2 (A62 _ _ _ hv2) (.inl rfl) (sd rfl (A6 rfl (gq rfl) rfl rfl) (sd rfl (A6 rfl G_hit rfl rfl) (bs h fun v3 hv3 h=>B2 rfl rfl A2 (A62 _ _ _ hv3) (.inl rfl) (bs h fun v4 hv4 h=>B2 rfl rfl A2 (B3r _ _ _ hv4) (.inl rfl) (bs h fun v5 hv5 h=>B2 rfl rfl A2 (C0n _ _ hv5) (.inl rfl) (sv rfl (A1 (B4 ?_))))))))))))
 cases h
 exact A8 (.inr rfl) (B7 (B6 rfl) E5) (.refl _)
noncomputable def A10 (p1:Spot)(p2:Spot)(p3:Spot):Option Bool:=
  some ((((decide ((mm2 false p1.X p2.X)≤p3.X))&& (decide (p3.X≤(mm2 true p1.X p2.X))))&& (decide ((mm2 false p1.Y p2.Y)≤p3.Y)))&& (decide (p3.Y≤(mm2 true p1.Y p2.Y))))
theorem A55 (p1:Spot)(p2:Spot)(p3:Spot)(r:Bool)(h:A10 p1 p2 p3=some r):PCall Tryz.prog 258 [(.agg [(i64 p1.X),(i64 p1.Y)]),(.agg [(i64 p2.X),(i64 p2.Y)]),(.agg [(i64 p3.X),(i64 p3.Y)])] (bo r):=by
 refine B8 (fk Tryz.func258 Tryz.ntmps258 m0 (by with_unfolding_all rfl)) (nl rfl) ?_
 unfold A10 at h
 refine B5 (s0:=⟨T [(0,(.d _)),(1,(.d _)),(2,(.d _))],G []⟩) (sbr rfl rfl) ?_
 refine lr (fun u1 hu1=>sn rfl rfl (sn rfl rfl (sn rfl rfl (sv rfl (A1 (lr (fun u2 hu2=>sp rfl rfl (sl rfl (gq rfl) rfl (sp rfl rfl (sl rfl (gq rfl) rfl (sv rfl (sp rfl rfl (sl rfl G_hit rfl (sv rfl (sv rfl (gp rfl (V5 rfl) (fun _=>rfl) (gt rfl (vl rfl G_hit rfl) (gp rfl (V5 rfl) (fun _=>rfl) (gt rfl (vl rfl (gq rfl) rfl) (gp rfl (V5 rfl) (fun _=>rfl) (gt rfl (vl rfl (gq rfl) rfl) ?_)))))))))))))))))))))
 refine gt rfl (fun w7=>(by simp only [A4 w7];rfl)) ?_
 refine gt rfl (fun w8=>(X7 (A4 w8) (A4 w8) rfl)) (sa rfl rfl rfl (sv rfl (gp rfl (V5 rfl) (fun _=>rfl) (gt rfl (vl rfl (gq rfl) rfl) (gp rfl (V5 rfl) (fun _=>rfl) (gt rfl (vl rfl (gq rfl) rfl) ?_))))))
 refine gt rfl (fun w13=>(by simp only [A4 w13];rfl)) ?_
 refine gp rfl (V5 rfl) (fun _=>rfl) (gt rfl (vl rfl G_hit rfl) (gt rfl (fun w16=>(X7 (A4 w16) (A4 w16) rfl)) (sa rfl rfl rfl (sv rfl (gp rfl (V5 rfl) (fun _=>rfl) (gt rfl (vl rfl G_hit rfl) (gp rfl (V5 rfl) (fun _=>rfl) (gt rfl (vl rfl (gq rfl) rfl) (gp rfl (V5 rfl) (fun _=>rfl) (gt rfl (vl rfl (gq rfl) rfl) ?_))))))))))
 refine gt rfl (fun w23=>(by simp only [A4 w23];rfl)) ?_
 refine gt rfl (fun w24=>(X7 (A4 w24) (A4 w24) rfl)) (sa rfl rfl rfl (sv rfl (A1 (B4 ?_))))
 cases h
 exact A8 (.inr rfl) (B7 (B6 rfl) E5) (.refl _)
noncomputable def A5r (p1:Spot)(p2:Spot)(p3:Spot)(p4:Spot):Option Bool:=
  (A3w [p1,p2,p3,p4]).bind fun v1=>cond (!v1) (some false) ((A5q p1 p2 p3).bind fun v2=>(A5q p1 p2 p4).bind fun v3=>(A5q p3 p4 p1).bind fun v4=>(A5q p3 p4 p2).bind fun v5=>cond ((decide ((w64 (v2*v3))<0))&& (decide ((w64 (v4*v5))<0))) (some true) (((cond (v2==0) (A10 p1 p2 p3) (some default))).bind fun v6=>((cond ((!((v2==0)&&v6))&& (v3==0)) (A10 p1 p2 p4) (some default))).bind fun v7=>((cond ((!(((v2==0)&&v6)||((v3==0)&&v7)))&& (v4==0)) (A10 p3 p4 p1) (some default))).bind fun v8=>((cond ((!((((v2==0)&&v6)||((v3==0)&&v7))||((v4==0)&&v8)))&& (v5==0)) (A10 p3 p4 p2) (some default))).bind fun v9=>some (((((v2==0)&&v6)||((v3==0)&&v7))||((v4==0)&&v8))||((v5==0)&&v9))))
theorem B3s (p1:Spot)(p2:Spot)(p3:Spot)(p4:Spot)(r:Bool)(h:A5r p1 p2 p3 p4=some r):PCall Tryz.prog 233 [(.agg [(i64 p1.X),(i64 p1.Y)]),(.agg [(i64 p2.X),(i64 p2.Y)]),(.agg [(i64 p3.X),(i64 p3.Y)]),(.agg [(i64 p4.X),(i64 p4.Y)])] (bo r):=by
 refine B8 (fk Tryz.func233 Tryz.ntmps233 (fun r=>if r==1 then [1004]else []) (by with_unfolding_all rfl)) (nl rfl) ?_
 unfold A5r at h
 refine B5 (s0:=⟨T [(0,(.d _)),(1,(.d _)),(2,(.d _)),(3,(.d _))],G []⟩) (sbr rfl rfl) ?_
 refine lr (fun u1 hu1=>sn rfl rfl (sn rfl rfl (sn rfl rfl (sn rfl rfl (sv rfl (A1 (A7 (lr (fun u2 hu2=>sd rfl (A6 rfl (gq rfl) rfl rfl) (sd rfl (A6 rfl (gq rfl) rfl rfl) (sd rfl (A6 rfl (gq rfl) rfl rfl) (sd rfl (A6 rfl G_hit rfl rfl) (C0 (dl A23 [p1,p2,p3,p4]) rfl rfl (bs h fun v1 hv1 h=>B2 rfl rfl A2 (A61 _ _ hv1) (.inl rfl) (C0 (.d (bo (!v1))) rfl rfl (A1 (cc rfl h (fun c1 h=> ?_) (fun c1 h=> ?_))))))))))))))))))
 refine lr (fun u3 hu3=>sv rfl (A1 (B4 ?_)))
 cases h
 exact A8 (.inr rfl) (B7 (B6 rfl) E5) (.refl _)
 refine B1 (A7 (I0 rfl fun u4 hu4=>sd rfl (A6 rfl (gq rfl) rfl rfl) (sd rfl (A6 rfl (gq rfl) rfl rfl) (sd rfl (A6 rfl (gq rfl) rfl rfl) (bs h fun v2 hv2 h=>B2 rfl rfl A2 (A8s _ _ _ _ hv2) (.inl rfl) (sd rfl (A6 rfl (gq rfl) rfl rfl) (sd rfl (A6 rfl (gq rfl) rfl rfl) (sd rfl (A6 rfl G_hit rfl rfl) (bs h fun v3 hv3 h=>B2 rfl rfl A2 (A8s _ _ _ _ hv3) (.inl rfl) (sd rfl (A6 rfl (gq rfl) rfl rfl) (sd rfl (A6 rfl G_hit rfl rfl) (sd rfl (A6 rfl (gq rfl) rfl rfl) (bs h fun v4 hv4 h=>B2 rfl rfl A2 (A8s _ _ _ _ hv4) (.inl rfl) (sd rfl (A6 rfl (gq rfl) rfl rfl) (sd rfl (A6 rfl G_hit rfl rfl) (sd rfl (A6 rfl (gq rfl) rfl rfl) (bs h fun v5 hv5 h=>B2 rfl rfl A2 (A8s _ _ _ _ hv5) (.inl rfl) (sv rfl (sv rfl (sv rfl (sv rfl (A1 (A7 (lr (fun u5 hu5=>sv rfl (sv rfl (sv rfl (sv rfl (sv rfl (gt rfl (fun _=>rfl) (gt rfl (fun _=>rfl) (gt rfl (fun w3=>(X7 (A4 w3) (A4 w3) rfl)) (gt rfl (vb rfl rfl rfl) (sa rfl rfl rfl (A1 (cc rfl h (fun c2 h=> ?_) (fun c2 h=> ?_)))))))))))))))))))))))))))))))))))))
 refine lr (fun u6 hu6=>sv rfl (A1 (B4 ?_)))
 cases h
 exact A8 (.inr rfl) (B7 (B6 rfl) E5) (.refl _)
 refine B1 (lr (fun u7 hu7=>sv rfl (sv rfl (sv rfl (gt rfl (fun w5=>(A6 rfl (gq rfl) rfl rfl)) (gt rfl (fun w6=>(A6 rfl (gq rfl) rfl rfl)) (gt rfl (fun w7=>(A6 rfl (gq rfl) rfl rfl)) (bs h fun v6 hv6 h=> ?_))))))))
 refine O5 _ (bo v6) (V5 rfl) (fun w8=>⟨_,[(.d (.agg [(i64 p1.X),(i64 p1.Y)])),(.d (.agg [(i64 p2.X),(i64 p2.Y)])),(.d (.agg [(i64 p3.X),(i64 p3.Y)]))],_,_,(by simp only [A4 w8];rfl),rfl,A2,A55 _ _ _ _ (B9 w8 hv6),(.inl rfl)⟩) ?_
 refine sa rfl rfl rfl (sv rfl (gf rfl (fun _=>rfl) (gf rfl (vb rfl rfl rfl) (gf rfl (fun w11=>(D0v (A4 w11))) (gv rfl (A8i rfl) (fun w12=>(A6 rfl (gq rfl) rfl rfl)) (gv rfl (A8i rfl) (fun w13=>(A6 rfl (gq rfl) rfl rfl)) (gv rfl (A8i rfl) (fun w14=>(A6 rfl G_hit rfl rfl)) (bs h fun v7 hv7 h=> ?_))))))))
 refine O5 _ (bo v7) (A8i rfl) (fun w15=>⟨_,[(.d (.agg [(i64 p1.X),(i64 p1.Y)])),(.d (.agg [(i64 p2.X),(i64 p2.Y)])),(.d (.agg [(i64 p4.X),(i64 p4.Y)]))],_,_,(by simp only [A4 w15];rfl),rfl,A2,A55 _ _ _ _ (B9 w15 hv7),(.inl rfl)⟩) ?_
 refine gf rfl (fun w16=>(C2s (A4 w16) (fun hc=>A4 (C65 w16 hc)) rfl)) (sd rfl (A49 rfl rfl (fun hc=>A4 (S3 hc))) (sv rfl (gf rfl (fun _=>rfl) (gf rfl (vb rfl rfl rfl) (gf rfl (fun w19=>(D0v (A4 w19))) (gv rfl (A8i rfl) (fun w20=>(A6 rfl (gq rfl) rfl rfl)) (gv rfl (A8i rfl) (fun w21=>(A6 rfl G_hit rfl rfl)) (gv rfl (A8i rfl) (fun w22=>(A6 rfl (gq rfl) rfl rfl)) (bs h fun v8 hv8 h=> ?_)))))))))
 refine O5 _ (bo v8) (A8i rfl) (fun w23=>⟨_,[(.d (.agg [(i64 p3.X),(i64 p3.Y)])),(.d (.agg [(i64 p4.X),(i64 p4.Y)])),(.d (.agg [(i64 p1.X),(i64 p1.Y)]))],_,_,(by simp only [A4 w23];rfl),rfl,A2,A55 _ _ _ _ (B9 w23 hv8),(.inl rfl)⟩) ?_
 refine gf rfl (fun w24=>(C2s (A4 w24) (fun hc=>A4 (C65 w24 hc)) rfl)) (sd rfl (A49 rfl rfl (fun hc=>A4 (S3 hc))) (sv rfl (gf rfl (fun _=>rfl) (gf rfl (vb rfl rfl rfl) (gf rfl (fun w27=>(D0v (A4 w27))) (gv rfl (A8i rfl) (fun w28=>(A6 rfl (gq rfl) rfl rfl)) (gv rfl (A8i rfl) (fun w29=>(A6 rfl G_hit rfl rfl)) (gv rfl (A8i rfl) (fun w30=>(A6 rfl (gq rfl) rfl rfl)) (bs h fun v9 hv9 h=> ?_)))))))))
 refine O5 _ (bo v9) (A8i rfl) (fun w31=>⟨_,[(.d (.agg [(i64 p3.X),(i64 p3.Y)])),(.d (.agg [(i64 p4.X),(i64 p4.Y)])),(.d (.agg [(i64 p2.X),(i64 p2.Y)]))],_,_,(by simp only [A4 w31];rfl),rfl,A2,A55 _ _ _ _ (B9 w31 hv9),(.inl rfl)⟩) ?_
 refine gf rfl (fun w32=>(C2s (A4 w32) (fun hc=>A4 (C65 w32 hc)) rfl)) (sd rfl (A49 rfl rfl (fun hc=>A4 (S3 hc))) (sv rfl (A1 (B4 ?_))))
 cases h
 exact A8 (.inr rfl) (B7 (B6 rfl) E5) (.refl _)
noncomputable def X3 (p1:WorldLooks)(p2:Span)(v3:Spot)(x2:Int):Option (Stp Int (Sum Unit Bool)):=
  cond (decide (x2< (p1.bars.length:Int))) ((D0 p1.bars x2).bind fun v10=>(D0 p1.bodies x2).bind fun v11=>(B2m v11 p2).bind fun v12=>((cond (!v12.2) (A5r p1.eye v3 v10.front v10.rear) (some default))).bind fun v13=>cond ((!v12.2)&&v13) (some (.out (.inr false))) (some (.go (w64 (x2+1))))) (some (.out (.inl ())))
noncomputable def X4 (p1:WorldLooks)(p2:Span)(v2:Spot)(x1:Int):Option (Stp Int (Sum Unit Bool)):=
  cond (decide (x1< (p1.bars.length:Int))) ((D0 p1.bars x1).bind fun v5=>(D0 p1.bodies x1).bind fun v6=>(B2m v6 p2).bind fun v7=>((cond (!v7.2) (A5r p1.eye v2 v5.front v5.rear) (some default))).bind fun v8=>cond ((!v7.2)&&v8) (some (.out (.inr false))) (some (.go (w64 (x1+1))))) (some (.out (.inl ())))
noncomputable def A11 (p1:WorldLooks)(p2:Span):Option Bool:=
  (D0 p1.m.Lanes p2.Lane_).bind fun v1=>(B0i v1.Curve_ p2.From).bind fun v2=>(B0i v1.Curve_ p2.To).bind fun v3=>thenS ((A92 p1.eye v2 p1.view).bind fun v4=>cond (!v4) (some (.inr false)) (thenS (loop (X4 p1 p2 v2) 0) (fun _=>(A92 p1.eye v3 p1.view).bind fun v9=>cond (!v9) (some (.inr false)) (thenS (loop (X3 p1 p2 v3) 0) (fun _=>some (.inl ())) (fun r=>some (.inr r)))) (fun r=>some (.inr r)))) (fun _=>some true) (fun r=>some r)
theorem B3t (p1:WorldLooks)(p2:Span)(r:Bool)(h:A11 p1 p2=some r):PCall Tryz.prog 194 [(.bp (A9b p1) 0),(.agg (R8 p2))] (bo r):=by
 refine B8 (fk Tryz.func194 Tryz.ntmps194 m0 (by with_unfolding_all rfl)) (nl rfl) ?_
 unfold A11 at h
 refine B5 (s0:=⟨T [(0,(.d _)),(1,(.d _))],G []⟩) (sbr rfl rfl) ?_
 refine lr (fun u1 hu1=>sn rfl rfl (sv rfl (A1 (A7 (I0 rfl fun u2 hu2=>sv rfl (sv rfl (sv rfl (sv rfl (sv rfl (sp rfl rfl (sl rfl G_hit rfl (bs h fun v1 hv1 h=>sd rfl (F9 rfl rfl hv1 rfl) (sv rfl (sd rfl (C6 rfl hv1 rfl rfl) (sn rfl rfl (sst rfl G_hit [(dl A23 v1.Curve_.Pts)] rfl (A1 (A7 (A7 (I0 rfl fun u3 hu3=>sd rfl (A6 rfl G_hit rfl rfl) (sp rfl rfl (sl rfl (gq rfl) rfl (bs h fun v2 hv2 h=>B2 rfl rfl A2 (B2k _ _ _ hv2) (.inl rfl) (sd rfl (A6 rfl G_hit rfl rfl) (sp rfl rfl (sl rfl (gq rfl) rfl (bs h fun v3 hv3 h=>B2 rfl rfl A2 (B2k _ _ _ hv3) (.inl rfl) (sv rfl (sv rfl (A1 (js h fun z1 hz1 h=>E7 (fun s=> ∃(y1:Unit) (g1:Unit),z1= .inl y1∧Sb ⟨T [],G []⟩ s) ?_ ?_)))))))))))))))))))))))))))))))
 refine A9 (B28 (lr (fun u4 hu4=>sv rfl (A1 (A7 (B3i rfl (B1 (A7 (A9 (lr (fun u5 hu5=>sv rfl (sn rfl rfl (sst rfl G_hit [(di v2.X),(di v2.Y)] rfl (A1 (A7 (A7 (I0 rfl fun u6 hu6=>sv rfl (sv rfl (sv rfl (sv rfl (sd rfl (A6 rfl G_hit rfl rfl) (sv rfl (sv rfl (sv rfl (sv rfl (bs hz1 fun v4 hv4 hz1=>B2 rfl rfl A2 (B6i _ _ _ _ hv4) (.inl rfl) (C0 (.d (bo (!v4))) rfl rfl (A1 (cc rfl hz1 (fun c1 hz1=> ?_) (fun c1 hz1=> ?_))))))))))))))))))))))))))))))
 refine lr (fun u7 hu7=>sv rfl (A1 (B4 ?_)))
 cases hz1
 rw [Sum.elim_inr]at h
 cases h
 exact A8 (.inr rfl) (B7 (B6 rfl) E5) (.refl _)
 refine B1 (lr (fun u8 hu8=>sv rfl (sv rfl (sv rfl (sv rfl (sd rfl (J6 rfl) (sv rfl (A1 (js hz1 fun z2 hz2 hz1=>E7 (fun s=> ∃(y2:Unit) (g2:Unit),z2= .inl y2∧Sb ⟨T [(0,(.d (.bp (A9b p1) 0))),(3,(.ptr (3,u1) 0)),(30,(.d (.agg [(i64 v2.X),(i64 v2.Y),(i64 v3.X),(i64 v3.Y)]))),(31,(di 0))],G [((3,u1),some (.box 93 (B96 p2)))]⟩ s) ?_ ?_)))))))))
 refine A9 (G5 (X4 p1 p2 v2) (fun (x1:Int) (g3:Unit)=>⟨T [(0,(.d (.bp (A9b p1) 0))),(3,(.ptr (3,u1) 0)),(7,(.ptr (7,u5) 0)),(30,(.d (.agg [(i64 v2.X),(i64 v2.Y),(i64 v3.X),(i64 v3.Y)]))),(31,(di 0)),(48,(dl A0u p1.bars)),(49,(di (p1.bars.length:Int))),(50,(di x1))],G [((3,u1),some (.box 93 (B96 p2))),((7,u5),some (.box 104 [(di v2.X),(di v2.Y)]))]⟩) 0 () _ hz2 (sbr rfl rfl) ?_)
 intro x1 g3 z3 hz3 ez3
 unfold X4 at hz3
 refine lr (fun u9 hu9=>sv rfl (A1 (A7 (cc rfl hz3 (fun c2 hz3=> ?_) (fun c2 hz3=> ?_)))))
 refine B1 (A7 (A9 (lr (fun u10 hu10=>sv rfl (bs hz3 fun v5 hv5 hz3=>sd rfl (F9 rfl rfl hv5 rfl) (sd rfl (C6 rfl hv5 rfl rfl) (sn rfl rfl (sv rfl (sst rfl G_hit (C1x v5) rfl (A1 (A7 (I0 rfl fun u11 hu11=>sv rfl (sv rfl (sv rfl (sv rfl (sv rfl (bs hz3 fun v6 hv6 hz3=>sd rfl (F9 rfl rfl hv6 rfl) (sd rfl (F4 rfl hv6 rfl) (sd rfl (A6 rfl (gq rfl) rfl rfl) (bs hz3 fun v7 hv7 hz3=>B2 rfl rfl A2 (B5h _ _ _ hv7) (.inl rfl) (sv rfl (sv rfl (sv rfl (sn rfl rfl (sst rfl G_hit [(di v7.1.from_),(di v7.1.to)] rfl (sv rfl (A1 (A7 (I0 rfl fun u12 hu12=>sv rfl (C0 (.d (bo (!v7.2))) rfl rfl (sv rfl (gt rfl (fun _=>rfl) ?_))))))))))))))))))))))))))))))))
 refine gt rfl (fun w2=>(by simp only [A4 w2];rfl)) ?_
 refine gt rfl (fun w3=>(by simp only [A4 w3];rfl)) ?_
 refine gt rfl (fun w4=>(by simp only [A4 w4];rfl)) ?_
 refine gt rfl (fun w5=>(A6 rfl (gq rfl) rfl rfl)) (gp rfl (V5 rfl) (fun _=>rfl) (gt rfl (fun w7=>(A6 (A4 w7) (gq rfl) rfl rfl)) (gp rfl (V5 rfl) (fun _=>rfl) (gt rfl (fun w9=>(A6 (A4 w9) (gq rfl) rfl rfl)) (bs hz3 fun v8 hv8 hz3=> ?_)))))
 refine O5 _ (bo v8) (V5 rfl) (fun w10=>⟨_,[(.d (.agg [(i64 p1.eye.X),(i64 p1.eye.Y)])),(.d (.agg [(i64 v2.X),(i64 v2.Y)])),(.d (.agg [(i64 v5.front.X),(i64 v5.front.Y)])),(.d (.agg [(i64 v5.rear.X),(i64 v5.rear.Y)]))],_,_,(by simp only [A4 w10];rfl),rfl,A2,B3s _ _ _ _ _ (B9 w10 hv8),(.inl rfl)⟩) ?_
 refine sa rfl rfl rfl (A1 (cc rfl hz3 (fun c3 hz3=> ?_) (fun c3 hz3=> ?_)))
 refine lr (fun u13 hu13=>sv rfl (A1 (B4 ?_)))
 cases hz3
 obtain rfl:=ez3 _ rfl
 refine ⟨nofun,G0 ?_⟩
 rw [Sum.elim_inr]at hz1
 cases hz1
 rw [Sum.elim_inr]at h
 cases h
 exact A8 (.inr rfl) (B7 (B6 rfl) E5) (.refl _)
 refine B1 (J3 (C7 fun u14 hu14=>sv rfl (sv rfl (A1 (I3 ?_)))))
 cases hz3
 exact ⟨rfl,(),(sbr rfl rfl)⟩
 refine C5 rfl ?_
 cases hz3
 obtain rfl:=ez3 _ rfl
 refine ⟨nofun,C2 rfl (l_j ?_)⟩
 exact ⟨_,(),rfl,(sbr rfl rfl)⟩
 rintro _ ⟨y2,g2,rfl,q1⟩
 rw [Sum.elim_inl]at hz1
 refine J3 (B5 q1 (C7 fun u15 hu15=>sv rfl (sv rfl (A1 (B28 (lr (fun u16 hu16=>sv rfl (A1 (A7 (B3i rfl (B1 (A7 (A9 (lr (fun u17 hu17=>sv rfl (sn rfl rfl (sst rfl G_hit [(di v3.X),(di v3.Y)] rfl (A1 (A7 (A7 (I0 rfl fun u18 hu18=>sv rfl (sv rfl (sv rfl (sv rfl (sd rfl (A6 rfl G_hit rfl rfl) (sv rfl (sv rfl (sv rfl (sv rfl (bs hz1 fun v9 hv9 hz1=>B2 rfl rfl A2 (B6i _ _ _ _ hv9) (.inl rfl) (C0 (.d (bo (!v9))) rfl rfl (A1 (cc rfl hz1 (fun c4 hz1=> ?_) (fun c4 hz1=> ?_))))))))))))))))))))))))))))))))))
 refine lr (fun u19 hu19=>sv rfl (A1 (B4 ?_)))
 cases hz1
 rw [Sum.elim_inr]at h
 cases h
 exact A8 (.inr rfl) (B7 (B6 rfl) E5) (.refl _)
 refine B1 (lr (fun u20 hu20=>sv rfl (sv rfl (sv rfl (sv rfl (sd rfl (J6 rfl) (sv rfl (A1 (js hz1 fun z4 hz4 hz1=>E7 (fun s=> ∃(y3:Unit) (g4:Unit),z4= .inl y3∧Sb ⟨T [(0,(.d (.bp (A9b p1) 0))),(3,(.ptr (3,u1) 0)),(30,(.d (.agg [(i64 v2.X),(i64 v2.Y),(i64 v3.X),(i64 v3.Y)]))),(31,(di 1))],G [((3,u1),some (.box 93 (B96 p2)))]⟩ s) ?_ ?_)))))))))
 refine A9 (G5 (X3 p1 p2 v3) (fun (x2:Int) (g5:Unit)=>⟨T [(0,(.d (.bp (A9b p1) 0))),(3,(.ptr (3,u1) 0)),(7,(.ptr (7,u17) 0)),(30,(.d (.agg [(i64 v2.X),(i64 v2.Y),(i64 v3.X),(i64 v3.Y)]))),(31,(di 1)),(48,(dl A0u p1.bars)),(49,(di (p1.bars.length:Int))),(50,(di x2))],G [((3,u1),some (.box 93 (B96 p2))),((7,u17),some (.box 104 [(di v3.X),(di v3.Y)]))]⟩) 0 () _ hz4 (sbr rfl rfl) ?_)
 intro x2 g5 z5 hz5 ez5
 unfold X3 at hz5
 refine lr (fun u21 hu21=>sv rfl (A1 (A7 (cc rfl hz5 (fun c5 hz5=> ?_) (fun c5 hz5=> ?_)))))
 refine B1 (A7 (A9 (lr (fun u22 hu22=>sv rfl (bs hz5 fun v10 hv10 hz5=>sd rfl (F9 rfl rfl hv10 rfl) (sd rfl (C6 rfl hv10 rfl rfl) (sn rfl rfl (sv rfl (sst rfl G_hit (C1x v10) rfl (A1 (A7 (I0 rfl fun u23 hu23=>sv rfl (sv rfl (sv rfl (sv rfl (sv rfl (bs hz5 fun v11 hv11 hz5=>sd rfl (F9 rfl rfl hv11 rfl) (sd rfl (F4 rfl hv11 rfl) (sd rfl (A6 rfl (gq rfl) rfl rfl) (bs hz5 fun v12 hv12 hz5=>B2 rfl rfl A2 (B5h _ _ _ hv12) (.inl rfl) (sv rfl (sv rfl (sv rfl (sn rfl rfl (sst rfl G_hit [(di v12.1.from_),(di v12.1.to)] rfl (sv rfl (A1 (A7 (I0 rfl fun u24 hu24=>sv rfl (C0 (.d (bo (!v12.2))) rfl rfl (sv rfl (gt rfl (fun _=>rfl) ?_))))))))))))))))))))))))))))))))
 refine gt rfl (fun w12=>(by simp only [A4 w12];rfl)) ?_
 refine gt rfl (fun w13=>(by simp only [A4 w13];rfl)) ?_
 refine gt rfl (fun w14=>(by simp only [A4 w14];rfl)) ?_
 refine gt rfl (fun w15=>(A6 rfl (gq rfl) rfl rfl)) (gp rfl (V5 rfl) (fun _=>rfl) (gt rfl (fun w17=>(A6 (A4 w17) (gq rfl) rfl rfl)) (gp rfl (V5 rfl) (fun _=>rfl) (gt rfl (fun w19=>(A6 (A4 w19) (gq rfl) rfl rfl)) (bs hz5 fun v13 hv13 hz5=> ?_)))))
 refine O5 _ (bo v13) (V5 rfl) (fun w20=>⟨_,[(.d (.agg [(i64 p1.eye.X),(i64 p1.eye.Y)])),(.d (.agg [(i64 v3.X),(i64 v3.Y)])),(.d (.agg [(i64 v10.front.X),(i64 v10.front.Y)])),(.d (.agg [(i64 v10.rear.X),(i64 v10.rear.Y)]))],_,_,(by simp only [A4 w20];rfl),rfl,A2,B3s _ _ _ _ _ (B9 w20 hv13),(.inl rfl)⟩) ?_
 refine sa rfl rfl rfl (A1 (cc rfl hz5 (fun c6 hz5=> ?_) (fun c6 hz5=> ?_)))
 refine lr (fun u25 hu25=>sv rfl (A1 (B4 ?_)))
 cases hz5
 obtain rfl:=ez5 _ rfl
 refine ⟨nofun,G0 ?_⟩
 rw [Sum.elim_inr]at hz1
 cases hz1
 rw [Sum.elim_inr]at h
 cases h
 exact A8 (.inr rfl) (B7 (B6 rfl) E5) (.refl _)
 refine B1 (J3 (C7 fun u26 hu26=>sv rfl (sv rfl (A1 (I3 ?_)))))
 cases hz5
 exact ⟨rfl,(),(sbr rfl rfl)⟩
 refine C5 rfl ?_
 cases hz5
 obtain rfl:=ez5 _ rfl
 refine ⟨nofun,C2 rfl (l_j ?_)⟩
 exact ⟨_,(),rfl,(sbr rfl rfl)⟩
 rintro _ ⟨y3,g4,rfl,q2⟩
 rw [Sum.elim_inl]at hz1
 refine J3 (B5 q2 (C7 fun u27 hu27=>sv rfl (sv rfl (A1 (B28 (lr (fun u28 hu28=>sv rfl (A1 (A7 (B27 rfl (B4w rfl ?_)))))))))))
 cases hz1
 exact l_j ⟨_,(),rfl,(sbr rfl rfl)⟩
 rintro _ ⟨y1,g1,rfl,q3⟩
 rw [Sum.elim_inl]at h
 refine B5 q3 (lr (fun u29 hu29=>sv rfl (A1 (B4 ?_))))
 cases h
 exact A8 (.inr rfl) (B7 (B6 rfl) E5) (.refl _)
end Go.Abs.World
