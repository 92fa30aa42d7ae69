/-
  The functions, part 3.
-/
import Derived.Test.YtimbepcdlehjjaaFns2
set_option maxRecDepth 20000
set_option maxHeartbeats 4000000
set_option linter.unusedVariables false
namespace Go.Abs.Roads
open Go Go.Abs Go.Proofs
attribute [local irreducible] X5 B6m AWL
noncomputable def N0 (p2:Int)(p3:Map)(x1:((List Clash)×Int))(v1:Zone)(v3:Int)(v4:List Int)(x3:((List Clash)×Int)):Option (Stp ((List Clash)×Int) (List Clash)):=
  cond (decide (x3.2< (v4.length:Int))) ((F3 v4 x3.2).bind fun v5=>(A0j v1 v3 v5 p3).bind fun v6=>cond v6 ((B0m x3.1 [(Clash.mk p2 x1.2 v3 v5)]).bind fun v7=>some (.go (v7,(w64 (x3.2+1))))) (some (.go (x3.1,(w64 (x3.2+1)))))) (some (.out x3.1))
noncomputable def N1 (p2:Int)(p3:Map)(x1:((List Clash)×Int))(v1:Zone)(v2:(List Int))(x2:((List Clash)×Int)):Option (Stp ((List Clash)×Int) (List Clash)):=
  cond (decide (x2.2< (v2.length:Int))) ((F3 v2 x2.2).bind fun v3=>(C3n v2 (w64 (x2.2+1)) (v2.length:Int)).bind fun v4=>(loop (N0 p2 p3 x1 v1 v3 v4) (x2.1,0)).bind fun y3=>some (.go (y3,(w64 (x2.2+1))))) (some (.out x2.1))
noncomputable def N2 (p1:Map)(p2:Int)(p3:Map)(x1:((List Clash)×Int)):Option (Stp ((List Clash)×Int) (List Clash)):=
  cond (decide (x1.2< (p1.Zones.length:Int))) ((F3 p1.Zones x1.2).bind fun v1=>(A1m p1 v1).bind fun v2=>(loop (N1 p2 p3 x1 v1 v2) (x1.1,0)).bind fun y2=>some (.go (y2,(w64 (x1.2+1))))) (some (.out x1.1))
noncomputable def P8 (p1:Map)(p2:Int)(p3:Map):Option (List Clash):=
  (loop (N2 p1 p2 p3) ([],0)).bind fun y1=>some y1
theorem A59 (p1:Map)(p2:Int)(p3:Map)(r:(List Clash))(h:P8 p1 p2 p3=some r):MCall Try.prog 113 [(.d (.agg (A27 p1))),(di p2),(.fn (.func 115) [] [(.ptr (900000,0) 0)])] [(.box 28 (A1v p3))] (dl L9 r) [some (.box 28 (A1v p3))] []:=by
 refine A78 (fk Try.func113 Try.ntmps113 (fun r=>if r==12 then [1006]else []) (by with_unfolding_all rfl)) rfl (nl rfl) ?_
 unfold P8 at h
 refine A9 (s0:=⟨T [(0,(.d _)),(1,(.d _)),(2,(.fn _ _ _))],G [((900000,0),some (.box 28 _))]⟩) (sbr rfl rfl) ?_
 refine lr (fun u1 hu1=>sn rfl rfl (sv rfl (A3 (A8 (lr (fun u2 hu2=>sp rfl rfl (sl rfl G_hit rfl (sd rfl (K5 rfl) (sv rfl (A3 (bs h fun y1 hy1 h=>H8 (fun s=> ∃g1:Nat,Sb ⟨T [(2,(.fn (.func 115) [] [(.ptr (900000,0) 0)])),(6,(oS y1 (53,g1)))],G [((900000,0),some (.box 28 (A1v p3))),((53,g1),oB 145 4 L9 y1)]⟩ s) ?_ ?_)))))))))))
 refine A7 (I0 (N2 p1 p2 p3) (fun (x1:((List Clash)×Int)) (g2:Nat)=>⟨T [(1,(di p2)),(2,(.fn (.func 115) [] [(.ptr (900000,0) 0)])),(3,(.ptr (3,u1) 0)),(6,(oS x1.1 (53,g2))),(15,(dl U8 p1.Zones)),(16,(di (p1.Zones.length:Int))),(17,(di x1.2))],G [((900000,0),some (.box 28 (A1v p3))),((3,u1),some (.box 28 (A1v p1))),((53,g2),oB 145 4 L9 x1.1)]⟩) ([],0) 0 _ hy1 (H9 ⟨.of rfl, .of rfl, .of rfl, .of rfl, .of rfl, .of rfl, .of rfl,trivial⟩ (sg rfl (B5 G_hit (.of rfl) (X6 trivial)))) ?_)
 intro x1 g2 z1 hz1 ez1
 unfold N2 at hz1
 refine lr (fun u3 hu3=>sv rfl (A3 (A8 (cc rfl hz1 (fun c1 hz1=> ?_) (fun c1 hz1=> ?_)))))
 refine B3 (A8 (A7 (lr (fun u4 hu4=>sv rfl (bs hz1 fun v1 hv1 hz1=>sd rfl (J8 rfl rfl hv1 rfl) (sd rfl (N3 rfl hv1 rfl rfl) (sn rfl rfl (sv rfl (sst rfl G_hit [(dl R6 v1.Parts),(di v1.Signal_)] rfl (A3 (lr (fun u5 hu5=>sd rfl (E0 rfl (gq rfl) rfl rfl) (sd rfl (E0 rfl G_hit rfl rfl) (bs hz1 fun v2 hv2 hz1=>C9 rfl rfl A4 (A5i _ _ _ hv2) (.inl rfl) (sv rfl (A3 (lr (fun u6 hu6=>sv rfl (sd rfl (K5 rfl) (sv rfl (A3 (bs hz1 fun y2 hy2 hz1=>H8 (fun s=> ∃g3:Nat,Sb ⟨T [(1,(di p2)),(2,(.fn (.func 115) [] [(.ptr (900000,0) 0)])),(3,(.ptr (3,u1) 0)),(6,(oS y2 (53,g3))),(15,(dl U8 p1.Zones)),(16,(di (p1.Zones.length:Int))),(17,(di x1.2))],G [((900000,0),some (.box 28 (A1v p3))),((3,u1),some (.box 28 (A1v p1))),((53,g3),oB 145 4 L9 y2)]⟩ s) ?_ ?_))))))))))))))))))))))
 refine A7 (I0 (N1 p2 p3 x1 v1 v2) (fun (x2:((List Clash)×Int)) (g4:Nat)=>⟨T [(1,(di p2)),(2,(.fn (.func 115) [] [(.ptr (900000,0) 0)])),(3,(.ptr (3,u1) 0)),(6,(oS x2.1 (53,g4))),(7,(di x1.2)),(8,(.ptr (8,u4) 0)),(9,(dl A5 v2)),(15,(dl U8 p1.Zones)),(16,(di (p1.Zones.length:Int))),(17,(di x1.2)),(25,(dl A5 v2)),(26,(di (v2.length:Int))),(27,(di x2.2))],G [((900000,0),some (.box 28 (A1v p3))),((3,u1),some (.box 28 (A1v p1))),((8,u4),some (.box 69 [(dl R6 v1.Parts),(di v1.Signal_)])),((53,g4),oB 145 4 L9 x2.1)]⟩) (x1.1,0) g2 _ hy2 (H9 ⟨.of rfl, .of rfl, .of rfl, .of rfl, .of rfl, .of rfl, .of rfl, .of rfl, .of rfl, .of rfl, .of rfl, .of rfl, .of rfl,trivial⟩ (sg rfl (sg rfl (B5 G_hit (.of rfl) (I9 (gq rfl) trivial))))) ?_)
 intro x2 g4 z2 hz2 ez2
 unfold N1 at hz2
 refine lr (fun u7 hu7=>sv rfl (A3 (A8 (cc rfl hz2 (fun c2 hz2=> ?_) (fun c2 hz2=> ?_)))))
 refine B3 (A8 (A7 (lr (fun u8 hu8=>sv rfl (bs hz2 fun v3 hv3 hz2=>sd rfl (J8 rfl rfl hv3 rfl) (sd rfl (F4 rfl hv3 rfl) (sv rfl (sv rfl (A3 (lr (fun u9 hu9=>sv rfl (sv rfl (sv rfl (bs hz2 fun v4 hv4 hz2=>sd rfl (C7a rfl (fun _=>rfl) (D1x rfl) C1j hv4) (sd rfl (K5 rfl) (sv rfl (A3 (bs hz2 fun y3 hy3 hz2=>H8 (fun s=> ∃g5:Nat,Sb ⟨T [(1,(di p2)),(2,(.fn (.func 115) [] [(.ptr (900000,0) 0)])),(3,(.ptr (3,u1) 0)),(6,(oS y3 (53,g5))),(7,(di x1.2)),(8,(.ptr (8,u4) 0)),(9,(dl A5 v2)),(15,(dl U8 p1.Zones)),(16,(di (p1.Zones.length:Int))),(17,(di x1.2)),(25,(dl A5 v2)),(26,(di (v2.length:Int))),(27,(di x2.2))],G [((900000,0),some (.box 28 (A1v p3))),((3,u1),some (.box 28 (A1v p1))),((8,u4),some (.box 69 [(dl R6 v1.Parts),(di v1.Signal_)])),((53,g5),oB 145 4 L9 y3)]⟩ s) ?_ ?_))))))))))))))))))
 refine A7 (I0 (N0 p2 p3 x1 v1 v3 v4) (fun (x3:((List Clash)×Int)) (g6:Nat)=>⟨T [(1,(di p2)),(2,(.fn (.func 115) [] [(.ptr (900000,0) 0)])),(3,(.ptr (3,u1) 0)),(6,(oS x3.1 (53,g6))),(7,(di x1.2)),(8,(.ptr (8,u4) 0)),(9,(dl A5 v2)),(11,(di v3)),(15,(dl U8 p1.Zones)),(16,(di (p1.Zones.length:Int))),(17,(di x1.2)),(25,(dl A5 v2)),(26,(di (v2.length:Int))),(27,(di x2.2)),(35,(dl A5 v4)),(36,(di (v4.length:Int))),(37,(di x3.2))],G [((900000,0),some (.box 28 (A1v p3))),((3,u1),some (.box 28 (A1v p1))),((8,u4),some (.box 69 [(dl R6 v1.Parts),(di v1.Signal_)])),((53,g6),oB 145 4 L9 x3.1)]⟩) (x2.1,0) g4 _ hy3 (H9 ⟨.of rfl, .of rfl, .of rfl, .of rfl, .of rfl, .of rfl, .of rfl, .of rfl, .of rfl, .of rfl, .of rfl, .of rfl, .of rfl, .of rfl, .of rfl, .of rfl, .of rfl,trivial⟩ (B5 G_hit (.of rfl) (sg rfl (sg rfl (I9 (gq rfl) trivial))))) ?_)
 intro x3 g6 z3 hz3 ez3
 unfold N0 at hz3
 refine lr (fun u10 hu10=>sv rfl (A3 (A8 (cc rfl hz3 (fun c3 hz3=> ?_) (fun c3 hz3=> ?_)))))
 refine B3 (A8 (A7 (lr (fun u11 hu11=>bs hz3 fun v5 hv5 hz3=>sd rfl (J8 rfl rfl hv5 rfl) (sd rfl (F4 rfl hv5 rfl) (sv rfl (A3 (lr (fun u12 hu12=>E2 (.fn _ _ _) rfl rfl (sd rfl (E0 rfl (gq rfl) rfl rfl) (sv rfl (sv rfl (bs hz3 fun v6 hv6 hz3=>C9 rfl (rD (rD (rD (Q3 (B0l G_hit (rD (rD (rD (rD (rD Q0)))))) Q0)))) A4 (A6d _ _ _ _ _ hv6) (.inr rfl) (A3 (cc rfl hz3 (fun c4 hz3=> ?_) (fun c4 hz3=> ?_))))))))))))))))
 refine A9 (s0:=⟨T [(1,(di p2)),(2,(.fn (.func 115) [] [(.ptr (900000,0) 0)])),(3,(.ptr (3,u1) 0)),(6,(oS x3.1 (53,g6))),(7,(di x1.2)),(8,(.ptr (8,u4) 0)),(9,(dl A5 v2)),(11,(di v3)),(13,(di v5)),(15,(dl U8 p1.Zones)),(16,(di (p1.Zones.length:Int))),(17,(di x1.2)),(25,(dl A5 v2)),(26,(di (v2.length:Int))),(27,(di x2.2)),(35,(dl A5 v4)),(36,(di (v4.length:Int))),(37,(di x3.2))],G [((900000,0),some (.box 28 (A1v p3))),((3,u1),some (.box 28 (A1v p1))),((53,g6),oB 145 4 L9 x3.1),((8,u4),some (.box 69 [(dl R6 v1.Parts),(di v1.Signal_)]))]⟩) (H9 ⟨.of rfl, .of rfl, .of rfl, .of rfl, .of rfl, .of rfl, .of rfl, .of rfl, .of rfl, .of rfl, .of rfl, .of rfl, .of rfl, .of rfl, .of rfl, .of rfl, .of rfl, .of rfl,trivial⟩ (B5 G_hit (.of rfl) (sg rfl (I9 (gq rfl) (sg rfl trivial))))) ?_
 refine D1 fun u13 hu13=>E2 (oS x3.1 (53,g6)) rfl rfl (sv rfl (sv rfl (sv rfl (sv rfl (sv rfl (E2 (dl L9 [(Clash.mk p2 x1.2 v3 v5)]) rfl rfl (bs hz3 fun v7 hv7 hz3=>A02 L9 (53,g6) x3.1 (Clash.mk p2 x1.2 v3 v5) [] _ (U7 (fun _=>rfl)) rfl (gq rfl) hv7 (ss rfl (A3 (I5 (A9 (s0:=⟨T [(1,(.d _)),(2,(.fn _ _ _)),(3,(.ptr _ _)),(6,(.sl _)),(7,(.d _)),(8,(.ptr _ _)),(9,(.d _)),(11,(.d _)),(15,(.d _)),(16,(.d _)),(17,(.d _)),(25,(.d _)),(26,(.d _)),(27,(.d _)),(35,(.d _)),(36,(.d _)),(37,(.d _))],G [((900000,0),some (.box 28 _)),((3,u1),some (.box 28 _)),((53,u13),some _),((8,u4),some (.box 69 _))]⟩) (sbr rfl rfl) ?_)))))))))))
 refine D1 fun u14 hu14=>sv rfl (sv rfl (A3 (J2 ?_)))
 cases hz3
 exact ⟨rfl,u13,(H9 ⟨.of rfl, .of rfl, .of rfl,(.of (A34 (A3l hv7)).symm), .of rfl, .of rfl, .of rfl, .of rfl, .of rfl, .of rfl, .of rfl, .of rfl, .of rfl, .of rfl, .of rfl, .of rfl, .of rfl,trivial⟩ (B5 G_hit (.of rfl) (sg rfl (sg rfl (R5 (gq rfl) trivial)))))⟩
 refine B3 (I5 (A9 (s0:=⟨T [(1,(di p2)),(2,(.fn (.func 115) [] [(.ptr (900000,0) 0)])),(3,(.ptr (3,u1) 0)),(6,(oS x3.1 (53,g6))),(7,(di x1.2)),(8,(.ptr (8,u4) 0)),(9,(dl A5 v2)),(11,(di v3)),(15,(dl U8 p1.Zones)),(16,(di (p1.Zones.length:Int))),(17,(di x1.2)),(25,(dl A5 v2)),(26,(di (v2.length:Int))),(27,(di x2.2)),(35,(dl A5 v4)),(36,(di (v4.length:Int))),(37,(di x3.2))],G [((900000,0),some (.box 28 (A1v p3))),((3,u1),some (.box 28 (A1v p1))),((53,g6),oB 145 4 L9 x3.1),((8,u4),some (.box 69 [(dl R6 v1.Parts),(di v1.Signal_)]))]⟩) (H9 ⟨.of rfl, .of rfl, .of rfl, .of rfl, .of rfl, .of rfl, .of rfl, .of rfl, .of rfl, .of rfl, .of rfl, .of rfl, .of rfl, .of rfl, .of rfl, .of rfl, .of rfl,trivial⟩ (B5 G_hit (.of rfl) (sg rfl (I9 (gq rfl) (sg rfl trivial))))) ?_))
 refine D1 fun u15 hu15=>sv rfl (sv rfl (A3 (J2 ?_)))
 cases hz3
 exact ⟨rfl,g6,(H9 ⟨.of rfl, .of rfl, .of rfl, .of rfl, .of rfl, .of rfl, .of rfl, .of rfl, .of rfl, .of rfl, .of rfl, .of rfl, .of rfl, .of rfl, .of rfl, .of rfl, .of rfl,trivial⟩ (B5 G_hit (.of rfl) (sg rfl (sg rfl (I9 (gq rfl) trivial)))))⟩
 refine E5 rfl ?_
 cases hz3
 obtain rfl:=ez3 _ rfl
 refine ⟨nofun,E3 rfl (l_j ?_)⟩
 exact ⟨g6,(H9 ⟨.of rfl, .of rfl, .of rfl, .of rfl, .of rfl, .of rfl, .of rfl, .of rfl, .of rfl, .of rfl, .of rfl, .of rfl, .of rfl,trivial⟩ (B5 G_hit (.of rfl) (sg rfl (sg rfl (I9 (gq rfl) trivial)))))⟩
 rintro _ ⟨g5,q1⟩
 refine I5 (A9 q1 (D1 fun u16 hu16=>sv rfl (sv rfl (A3 (J2 ?_)))))
 cases hz2
 exact ⟨rfl,g5,(H9 ⟨.of rfl, .of rfl, .of rfl, .of rfl, .of rfl, .of rfl, .of rfl, .of rfl, .of rfl, .of rfl, .of rfl, .of rfl, .of rfl,trivial⟩ (B5 G_hit (.of rfl) (sg rfl (sg rfl (I9 (gq rfl) trivial)))))⟩
 refine E5 rfl ?_
 cases hz2
 obtain rfl:=ez2 _ rfl
 refine ⟨nofun,E3 rfl (l_j ?_)⟩
 exact ⟨g4,(H9 ⟨.of rfl, .of rfl, .of rfl, .of rfl, .of rfl, .of rfl, .of rfl,trivial⟩ (B5 G_hit (.of rfl) (sg rfl (I9 (gq rfl) trivial))))⟩
 rintro _ ⟨g3,q2⟩
 refine I5 (A9 q2 (D1 fun u17 hu17=>sv rfl (sv rfl (A3 (J2 ?_)))))
 cases hz1
 exact ⟨rfl,g3,(H9 ⟨.of rfl, .of rfl, .of rfl, .of rfl, .of rfl, .of rfl, .of rfl,trivial⟩ (B5 G_hit (.of rfl) (sg rfl (I9 (gq rfl) trivial))))⟩
 refine E5 rfl ?_
 cases hz1
 obtain rfl:=ez1 _ rfl
 refine ⟨nofun,E3 rfl (l_j ?_)⟩
 exact ⟨g2,(H9 ⟨.of rfl, .of rfl,trivial⟩ (B5 G_hit (.of rfl) (I9 (gq rfl) trivial)))⟩
 rintro _ ⟨g1,q3⟩
 refine A9 q3 (lr (fun u18 hu18=>E2 (oS y1 (53,g1)) rfl rfl (E2 (oS y1 (53,g1)) rfl rfl (A3 (D5 ?_)))))
 cases h
 exact A70 (.inr rfl) [(53,g1)] (B8z (E1 rfl) (A77 (D2d (.head _) (gq rfl)))) A76 ⟨⟨_,_,_,G_hit,(C53 rfl K3),rfl,B1q,rfl⟩,trivial⟩
noncomputable def A5a (p1:Map):Option (List Clash):=
  (P8 p1 4 p1).bind fun v1=>some v1
theorem B58 (p1:Map)(r:(List Clash))(h:A5a p1=some r):PCall Try.prog 82 [(.agg (A27 p1))] (.list (List.map L9 r)):=by
 refine G2 (fk Try.func82 Try.ntmps82 (fun r=>if r==1 then [1001002]else []) (by with_unfolding_all rfl)) (nl rfl) ?_
 unfold A5a at h
 refine A9 (s0:=⟨T [(0,(.d _))],G []⟩) (sbr rfl rfl) ?_
 refine lr (fun u1 hu1=>sn rfl rfl (sv rfl (A3 (lr (fun u2 hu2=>sd rfl (E0 rfl G_hit rfl rfl) (E2 (.fn _ _ _) rfl rfl (bs h fun v1 hv1 h=>B8v (v:= .d (.list (List.map L9 v1))) (us:= [(1,u1)]) (B9s (A59 _ _ _ _ hv1) [(1,u1)] [(1,u1)] _ (((1,u1),some (.box 28 (A1v p1)))::_) rfl A35 (E8 A6t (E8 A6t (E8 (C9q rfl (E8 (B4s G_hit rfl) A41)) A41))) (T8 G_hit A11) ⟨⟨_,G_hit, .of rfl⟩,trivial⟩ (fun _ h=>h) nd1 rfl rfl rfl) (sv rfl (A3 (D5 ?_))))))))))
 cases h
 exact B0 (.inr rfl) (E4 (E1 rfl) N9) (.refl _)
noncomputable def A9e (p1:Map):Option Bool:=
  (A0s p1).bind fun v1=>((cond (v1==0) (A57 p1) (some default))).bind fun v2=>((cond (v1==0) (A58 p1) (some default))).bind fun v3=>((cond (v1==0) (A6c p1) (some default))).bind fun v4=>((cond (v1==0) (A5a p1) (some default))).bind fun v5=>some ((v1==0)&& ((w64 ((w64 ((w64 ((v2.length:Int)+ (v3.length:Int)))+ (v4.length:Int)))+ (v5.length:Int)))==0))
theorem B96 (p1:Map)(r:Bool)(h:A9e p1=some r):PCall Try.prog 50 [(.agg (A27 p1))] (bo r):=by
 refine G2 (fk Try.func50 Try.ntmps50 m0 (by with_unfolding_all rfl)) (nl rfl) ?_
 unfold A9e at h
 refine A9 (s0:=⟨T [(0,(.d _))],G []⟩) (sbr rfl rfl) ?_
 refine lr (fun u1 hu1=>sn rfl rfl (sv rfl (A3 (A8 (Z6 rfl fun u2 hu2=>sd rfl (E0 rfl G_hit rfl rfl) (bs h fun v1 hv1 h=>C9 rfl rfl A4 (A4u _ _ hv1) (.inl rfl) (sv rfl (sv rfl (gt rfl (fun w1=>(E0 rfl G_hit rfl rfl)) (bs h fun v2 hv2 h=> ?_))))))))))
 refine A0v _ (.list (List.map L9 v2)) (A62 rfl) (fun w2=>⟨_,[(.d (.agg (A27 p1)))],_,_,(by simp only [A6 w2];rfl),rfl,A4,B56 _ _ (G6 w2 hv2),(.inl rfl)⟩) ?_
 refine gt rfl (fun w3=>(K5 (A6 w3))) (gt rfl (fun w4=>(E0 rfl G_hit rfl rfl)) (bs h fun v3 hv3 h=> ?_))
 refine A0v _ (.list (List.map L9 v3)) (A62 rfl) (fun w5=>⟨_,[(.d (.agg (A27 p1)))],_,_,(by simp only [A6 w5];rfl),rfl,A4,B57 _ _ (G6 w5 hv3),(.inl rfl)⟩) ?_
 refine gt rfl (fun w6=>(K5 (A6 w6))) (gt rfl (fun w7=>(A1w (A6 w7) (A6 w7) rfl)) (gt rfl (fun w8=>(E0 rfl G_hit rfl rfl)) (bs h fun v4 hv4 h=> ?_)))
 refine A0v _ (.list (List.map L9 v4)) (A62 rfl) (fun w9=>⟨_,[(.d (.agg (A27 p1)))],_,_,(by simp only [A6 w9];rfl),rfl,A4,B63 _ _ (G6 w9 hv4),(.inl rfl)⟩) ?_
 refine gt rfl (fun w10=>(K5 (A6 w10))) (gt rfl (fun w11=>(A1w (A6 w11) (A6 w11) rfl)) (gt rfl (fun w12=>(E0 rfl G_hit rfl rfl)) (bs h fun v5 hv5 h=> ?_)))
 refine A0v _ (.list (List.map L9 v5)) (A62 rfl) (fun w13=>⟨_,[(.d (.agg (A27 p1)))],_,_,(by simp only [A6 w13];rfl),rfl,A4,B58 _ _ (G6 w13 hv5),(.inl rfl)⟩) ?_
 refine gt rfl (fun w14=>(K5 (A6 w14))) (gt rfl (fun w15=>(A1w (A6 w15) (A6 w15) rfl)) (gt rfl (vb rfl rfl rfl) (sa rfl rfl rfl (sv rfl (A3 (D5 ?_))))))
 cases h
 exact B0 (.inr rfl) (E4 (E1 rfl) N9) (.refl _)
noncomputable def A3f (p1:Map)(p2:Int)(p3:Int)(p4:Int)(x1:(Int×Int)):Option (Stp (Int×Int) Int):=
  cond (decide (x1.2< (p1.Works.length:Int))) ((F3 p1.Works x1.2).bind fun v5=>((cond (v5.Lane_==p2) (P5 p3 v5.From v5.To) (some default))).bind fun v6=>((cond ((v5.Lane_==p2)&&v6) (P5 p4 v5.Begin (w64 (v5.End - 1))) (some default))).bind fun v7=>cond (((v5.Lane_==p2)&&v6)&&v7) (some (.go ((mm2 false x1.1 v5.Limit),(w64 (x1.2+1))))) (some (.go (x1.1,(w64 (x1.2+1)))))) (some (.out x1.1))
noncomputable def A6e (p1:Map)(p2:Int)(p3:Int)(p4:Int):Option Int:=
  (A71 p1 p2).bind fun v1=>((cond (!(!v1)) (Z9 p1 p2) (some default))).bind fun v2=>((cond (!(!v1)) (P5 p3 0 v2) (some default))).bind fun v3=>cond ((!v1)||(!v3)) (some 0) ((F3 p1.Lanes p2).bind fun v4=>(loop (A3f p1 p2 p3 p4) (v4.Limit,0)).bind fun y1=>some y1)
theorem B64 (p1:Map)(p2:Int)(p3:Int)(p4:Int)(r:Int)(h:A6e p1 p2 p3 p4=some r):PCall Try.prog 12 [(.agg (A27 p1)),(i64 p2),(i64 p3),(i64 p4)] (i64 r):=by
 refine G2 (fk Try.func12 Try.ntmps12 m0 (by with_unfolding_all rfl)) (nl rfl) ?_
 unfold A6e at h
 refine A9 (s0:=⟨T [(0,(.d _)),(1,(.d _)),(2,(.d _)),(3,(.d _))],G []⟩) (sbr rfl rfl) ?_
 refine lr (fun u1 hu1=>sn rfl rfl (sv rfl (A3 (A8 (lr (fun u2 hu2=>sd rfl (E0 rfl G_hit rfl rfl) (sv rfl (bs h fun v1 hv1 h=>C9 rfl rfl A4 (B54 _ _ _ hv1) (.inl rfl) (E2 (.d (bo (!v1))) rfl rfl (sv rfl (gf rfl (fun _=>rfl) (gf rfl (fun w2=>(E0 rfl G_hit rfl rfl)) (gf rfl (fun _=>rfl) (bs h fun v2 hv2 h=> ?_))))))))))))))
 refine A0v _ (i64 v2) (A4i rfl) (fun w4=>⟨_,[(.d (.agg (A27 p1))),(di p2)],_,_,(by simp only [A6 w4];rfl),rfl,A4,A2y _ _ _ (G6 w4 hv2),(.inl rfl)⟩) ?_
 refine bs h fun v3 hv3 h=> ?_
 refine A0v _ (bo v3) (A4i rfl) (fun w5=>⟨_,[(di p3),(di 0),(di v2)],_,_,(by simp only [A6 w5];rfl),rfl,A4,R7 _ _ _ _ (G6 w5 hv3),(.inl rfl)⟩) ?_
 refine A3b _ (.d (bo (!v3))) rfl (A4i rfl) (fun w6=>(by simp only [A6 w6];rfl)) ?_
 refine sd rfl (A7y rfl rfl (fun hc=>A6 (A1g hc))) (A3 (cc rfl h (fun c1 h=> ?_) (fun c1 h=> ?_)))
 refine lr (fun u3 hu3=>sv rfl (A3 (D5 ?_)))
 cases h
 exact B0 (.inr rfl) (E4 (E1 rfl) N9) (.refl _)
 refine B3 (lr (fun u4 hu4=>sp rfl rfl (sl rfl G_hit rfl (sv rfl (bs h fun v4 hv4 h=>sd rfl (J8 rfl rfl hv4 rfl) (sv rfl (sd rfl (F4 rfl hv4 rfl) (sv rfl (A3 (A8 (A8 (A9 (s0:=⟨T [(1,(.d _)),(2,(.d _)),(3,(.d _)),(4,(.ptr _ _)),(9,(.d _))],G [((4,u1),some (.box 28 _))]⟩) (sbr rfl rfl) ?_))))))))))))
 refine D1 fun u5 hu5=>sp rfl rfl (sl rfl G_hit rfl (sd rfl (K5 rfl) (sv rfl (A3 (bs h fun y1 hy1 h=>H8 (fun s=> ∃g1:Unit,Sb ⟨T [(9,(di y1))],G []⟩ s) ?_ ?_)))))
 refine A7 (I0 (A3f p1 p2 p3 p4) (fun (x1:(Int×Int)) (g2:Unit)=>⟨T [(1,(di p2)),(2,(di p3)),(3,(di p4)),(9,(di x1.1)),(31,(dl B3g p1.Works)),(32,(di (p1.Works.length:Int))),(33,(di x1.2))],G []⟩) (v4.Limit,0) () _ hy1 (sbr rfl rfl) ?_)
 intro x1 g2 z1 hz1 ez1
 unfold A3f at hz1
 refine lr (fun u6 hu6=>sv rfl (A3 (A8 (cc rfl hz1 (fun c2 hz1=> ?_) (fun c2 hz1=> ?_)))))
 refine B3 (A8 (A7 (lr (fun u7 hu7=>bs hz1 fun v5 hv5 hz1=>sd rfl (J8 rfl rfl hv5 rfl) (sd rfl (N3 rfl hv5 rfl rfl) (sn rfl rfl (sst rfl G_hit (D1k v5) rfl (A3 (lr (fun u8 hu8=>sp rfl rfl (sl rfl G_hit rfl (sv rfl (sv rfl (sv rfl (gt rfl (fun _=>rfl) (gp rfl (A62 rfl) (fun _=>rfl) (gt rfl (vl rfl G_hit rfl) (gp rfl (A62 rfl) (fun _=>rfl) (gt rfl (vl rfl G_hit rfl) (bs hz1 fun v6 hv6 hz1=> ?_))))))))))))))))))))
 refine A0v _ (bo v6) (A62 rfl) (fun w12=>⟨_,[(di p3),(di v5.From),(di v5.To)],_,_,(by simp only [A6 w12];rfl),rfl,A4,R7 _ _ _ _ (G6 w12 hv6),(.inl rfl)⟩) ?_
 refine sa rfl rfl rfl (sv rfl (gt rfl (fun _=>rfl) (gp rfl (A62 rfl) (fun _=>rfl) (gt rfl (vl rfl G_hit rfl) (gp rfl (A62 rfl) (fun _=>rfl) (gt rfl (vl rfl G_hit rfl) (gt rfl (vb rfl rfl rfl) (bs hz1 fun v7 hv7 hz1=> ?_))))))))
 refine A0v _ (bo v7) (A62 rfl) (fun w19=>⟨_,[(di p4),(di v5.Begin),(di (w64 (v5.End - 1)))],_,_,(by simp only [A6 w19];rfl),rfl,A4,R7 _ _ _ _ (G6 w19 hv7),(.inl rfl)⟩) ?_
 refine sa rfl rfl rfl (A3 (cc rfl hz1 (fun c3 hz1=> ?_) (fun c3 hz1=> ?_)))
 refine A9 (s0:=⟨T [(1,(.d _)),(2,(.d _)),(3,(.d _)),(9,(.d _)),(11,(.ptr _ _)),(31,(.d _)),(32,(.d _)),(33,(.d _))],G [((11,u7),some (.box 33 _))]⟩) (sbr rfl rfl) ?_
 refine D1 fun u9 hu9=>sv rfl (sp rfl rfl (sl rfl G_hit rfl (sv rfl (sv rfl (A3 (I5 (D1 fun u10 hu10=>sv rfl (sv rfl (A3 (J2 ?_))))))))))
 cases hz1
 exact ⟨rfl,(),(sbr rfl rfl)⟩
 refine B3 (I5 (A9 (s0:=⟨T [(1,(.d _)),(2,(.d _)),(3,(.d _)),(9,(.d _)),(31,(.d _)),(32,(.d _)),(33,(.d _))],G []⟩) (sbr rfl rfl) ?_))
 refine D1 fun u11 hu11=>sv rfl (sv rfl (A3 (J2 ?_)))
 cases hz1
 exact ⟨rfl,(),(sbr rfl rfl)⟩
 refine E5 rfl ?_
 cases hz1
 obtain rfl:=ez1 _ rfl
 refine ⟨nofun,E3 rfl (l_j ?_)⟩
 exact ⟨(),(sbr rfl rfl)⟩
 rintro _ ⟨g1,q1⟩
 refine A9 q1 (lr (fun u12 hu12=>sv rfl (sv rfl (A3 (D5 ?_)))))
 cases h
 exact B0 (.inr rfl) (E4 (E1 rfl) N9) (.refl _)
noncomputable def A3o:Option Bool:=
  (A9c).bind fun v1=>(A1k v1 [0] 60000).bind fun v2=>(A0s v1).bind fun v3=>((cond (v3==0) (A9e v1) (some default))).bind fun v4=>((cond (((((v3==0)&&v4)&& (v2.1==0))&& (v2.2.1==60000))&&v2.2.2) (V9 v1 1) (some default))).bind fun v5=>((cond ((((((v3==0)&&v4)&& (v2.1==0))&& (v2.2.1==60000))&&v2.2.2)&& (v5==100000)) (A6e v1 0 10 5) (some default))).bind fun v6=>some (((((((v3==0)&&v4)&& (v2.1==0))&& (v2.2.1==60000))&&v2.2.2)&& (v5==100000))&& (v6==1500))
theorem B65 (r:Bool)(h:A3o=some r):PCall Try.prog 14 [] (bo r):=by
 refine G2 (fk Try.func14 Try.ntmps14 (fun r=>if r==2 then [1001]else []) (by with_unfolding_all rfl)) (nl rfl) ?_
 unfold A3o at h
 refine A9 (s0:=⟨T [],G []⟩) (sbr rfl rfl) ?_
 refine lr (fun u1 hu1=>sv rfl (A3 (lr (fun u2 hu2=>bs h fun v1 hv1 h=>C9 rfl rfl A4 (B95 _ hv1) (.inl rfl) (sn rfl rfl (sst rfl G_hit (A1v v1) rfl (A3 (lr (fun u3 hu3=>sd rfl (E0 rfl G_hit rfl rfl) (E2 (dl A5 [0]) rfl rfl (bs h fun v2 hv2 h=>C9 rfl rfl A4 (A7a _ _ _ _ hv2) (.inl rfl) (sv rfl (sv rfl (sv rfl (sv rfl (sv rfl (sv rfl (sv rfl (A3 (lr (fun u4 hu4=>sd rfl (E0 rfl G_hit rfl rfl) (bs h fun v3 hv3 h=>C9 rfl rfl A4 (A4u _ _ hv3) (.inl rfl) (sv rfl (sv rfl (gt rfl (fun w1=>(E0 rfl G_hit rfl rfl)) (bs h fun v4 hv4 h=> ?_))))))))))))))))))))))))))
 refine A0v _ (bo v4) (A62 rfl) (fun w2=>⟨_,[(.d (.agg (A27 v1)))],_,_,(by simp only [A6 w2];rfl),rfl,A4,B96 _ _ (G6 w2 hv4),(.inl rfl)⟩) ?_
 refine sa rfl rfl rfl (sv rfl (gt rfl (fun _=>rfl) (gt rfl (vb rfl rfl rfl) (sa rfl rfl rfl (sv rfl (gt rfl (fun _=>rfl) (gt rfl (vb rfl rfl rfl) (sa rfl rfl rfl (sv rfl (gt rfl (fun _=>rfl) (sa rfl rfl rfl (sv rfl (gt rfl (fun w8=>(E0 rfl G_hit rfl rfl)) (bs h fun v5 hv5 h=> ?_))))))))))))))
 refine A0v _ (i64 v5) (A62 rfl) (fun w9=>⟨_,[(.d (.agg (A27 v1))),(di 1)],_,_,(by simp only [A6 w9];rfl),rfl,A4,A6a _ _ _ (G6 w9 hv5),(.inl rfl)⟩) ?_
 refine gt rfl (vb rfl rfl rfl) (sa rfl rfl rfl (sv rfl (gt rfl (fun w11=>(E0 rfl G_hit rfl rfl)) (bs h fun v6 hv6 h=> ?_))))
 refine A0v _ (i64 v6) (A62 rfl) (fun w12=>⟨_,[(.d (.agg (A27 v1))),(di 0),(di 10),(di 5)],_,_,(by simp only [A6 w12];rfl),rfl,A4,B64 _ _ _ _ _ (G6 w12 hv6),(.inl rfl)⟩) ?_
 refine gt rfl (vb rfl rfl rfl) (sa rfl rfl rfl (sv rfl (A3 (D5 ?_))))
 cases h
 exact B0 (.inr rfl) (E4 (E1 rfl) N9) (.refl _)
noncomputable def U4 (v1:Map)(v2:(List Int))(v3:Int)(v15:(List Pass))(x2:Int):Option (Stp Int (Sum Unit Bool)):=
  cond (decide (x2< (v15.length:Int))) ((F3 v15 x2).bind fun v16=>((cond (!(decide (v16.Zone_<0))) (F3 v15 x2) (some default))).bind fun v17=>((cond (!((decide (v16.Zone_<0))||(decide (v17.Zone_≥(v1.Zones.length:Int))))) (F3 v15 x2) (some default))).bind fun v18=>((cond (!(((decide (v16.Zone_<0))||(decide (v17.Zone_≥(v1.Zones.length:Int))))||(decide (v18.Part_<0)))) (F3 v15 x2) (some default))).bind fun v19=>((cond (!(((decide (v16.Zone_<0))||(decide (v17.Zone_≥(v1.Zones.length:Int))))||(decide (v18.Part_<0)))) (F3 v15 x2) (some default))).bind fun v20=>((cond (!(((decide (v16.Zone_<0))||(decide (v17.Zone_≥(v1.Zones.length:Int))))||(decide (v18.Part_<0)))) (F3 v1.Zones v20.Zone_) (some default))).bind fun v21=>((cond ((!((((decide (v16.Zone_<0))||(decide (v17.Zone_≥(v1.Zones.length:Int))))||(decide (v18.Part_<0)))||(decide (v19.Part_≥(v21.Parts.length:Int)))))&& (decide (x2>0))) (F3 v15 x2) (some default))).bind fun v22=>((cond ((!((((decide (v16.Zone_<0))||(decide (v17.Zone_≥(v1.Zones.length:Int))))||(decide (v18.Part_<0)))||(decide (v19.Part_≥(v21.Parts.length:Int)))))&& (decide (x2>0))) (F3 v15 (w64 (x2 - 1))) (some default))).bind fun v23=>cond (((((decide (v16.Zone_<0))||(decide (v17.Zone_≥(v1.Zones.length:Int))))||(decide (v18.Part_<0)))||(decide (v19.Part_≥(v21.Parts.length:Int))))||((decide (x2>0))&& (decide (v22.From<v23.From)))) (some (.out (.inr false))) ((F3 v15 x2).bind fun v24=>(F3 v1.Zones v24.Zone_).bind fun v25=>(F3 v15 x2).bind fun v26=>(F3 v25.Parts v26.Part_).bind fun v27=>(F3 v15 x2).bind fun v28=>(A1k v1 v2 (w64 (v28.From+1))).bind fun v29=>((cond (!(!v29.2.2)) (F3 v15 x2) (some default))).bind fun v30=>((cond (!((!v29.2.2)||(decide (v30.To>v3)))) (F3 v15 x2) (some default))).bind fun v31=>((cond (!((!v29.2.2)||(decide (v30.To>v3)))) (F3 v15 x2) (some default))).bind fun v32=>cond (((((!v29.2.2)||(decide (v30.To>v3)))||((w64 (v31.To - v32.From)) !=(w64 (v27.To - v27.From))))||(v29.1 !=v27.Lane_))||(v29.2.1 !=(w64 (v27.From+1)))) (some (.out (.inr false))) (some (.go (w64 (x2+1)))))) (some (.out (.inl ())))
noncomputable def O5 (v1:Map)(v2:(List Int))(v4:(List Int))(v6:Int)(v7:(Int×Int×Bool))(x1:(Bool×Int)):Option (Stp (Bool×Int) (Sum Bool Bool)):=
  cond (decide (x1.2< (v2.length:Int))) (((cond (!x1.1) (F3 v2 x1.2) (some default))).bind fun v8=>((cond ((!x1.1)&& (v8==v7.1)) (F3 v4 x1.2) (some default))).bind fun v9=>((cond ((!x1.1)&& (((v8==v7.1)&& ((w64 (v9+v7.2.1))==v6))&& (decide (v7.2.1≥0)))) (V9 v1 v7.1) (some default))).bind fun v10=>((cond (decide (x1.2>0)) (F3 v4 x1.2) (some default))).bind fun v11=>((cond (decide (x1.2>0)) (F3 v4 (w64 (x1.2 - 1))) (some default))).bind fun v12=>((cond (decide (x1.2>0)) (F3 v2 (w64 (x1.2 - 1))) (some default))).bind fun v13=>((cond (decide (x1.2>0)) (V9 v1 v13) (some default))).bind fun v14=>cond ((decide (x1.2>0))&& (v11 !=(w64 (v12+v14)))) (some (.out (.inr false))) (some (.go ((x1.1||((((v8==v7.1)&& ((w64 (v9+v7.2.1))==v6))&& (decide (v7.2.1≥0)))&& (decide (v7.2.1≤v10)))),(w64 (x1.2+1)))))) (some (.out (.inl x1.1)))
noncomputable def A31 (p1:Int)(p2:Int)(p3:Int):Option Bool:=
  (B4x p1).bind fun v1=>(A97 v1 p2).bind fun v2=>(A14 v1 v2).bind fun v3=>(A55 v1 v2).bind fun v4=>((cond (!(((v4.length:Int) !=(v2.length:Int))||(decide (v3<1000)))) (F3 v4 0) (some default))).bind fun v5=>cond ((((v4.length:Int) !=(v2.length:Int))||(decide (v3<1000)))||(v5 !=0)) (some false) ((A9b p3 (w64 (v3+1))).bind fun v6=>(A1k v1 v2 v6).bind fun v7=>thenS (loop (O5 v1 v2 v4 v6 v7) (false,0)) (fun y1=>cond ((!v7.2.2)||(!y1)) (some false) ((A56 v1 v2).bind fun v15=>thenS (loop (U4 v1 v2 v3 v15) 0) (fun _=>(A3o).bind fun v33=>some v33) (fun r=>some r))) (fun r=>some r))
theorem B0a (p1:Int)(p2:Int)(p3:Int)(r:Bool)(h:A31 p1 p2 p3=some r):PCall Try.prog 7 [(i64 p1),(i64 p2),(i64 p3)] (bo r):=by
 refine G2 (fk Try.func7 Try.ntmps7 m0 (by with_unfolding_all rfl)) (nl rfl) ?_
 unfold A31 at h
 refine A9 (s0:=⟨T [(0,(.d _)),(1,(.d _)),(2,(.d _))],G []⟩) (sbr rfl rfl) ?_
 refine lr (fun u1 hu1=>sv rfl (A3 (lr (fun u2 hu2=>sv rfl (bs h fun v1 hv1 h=>C9 rfl rfl A4 (C2z _ _ hv1) (.inl rfl) (sn rfl rfl (sst rfl G_hit (A1v v1) rfl (A3 (lr (fun u3 hu3=>sd rfl (E0 rfl G_hit rfl rfl) (sv rfl (bs h fun v2 hv2 h=>C9 rfl rfl A4 (B93 _ _ _ hv2) (.inl rfl) (sv rfl (A3 (lr (fun u4 hu4=>sd rfl (E0 rfl G_hit rfl rfl) (sv rfl (bs h fun v3 hv3 h=>C9 rfl rfl A4 (B07 _ _ _ hv3) (.inl rfl) (sv rfl (A3 (lr (fun u5 hu5=>sd rfl (E0 rfl G_hit rfl rfl) (sv rfl (bs h fun v4 hv4 h=>C9 rfl rfl A4 (B53 _ _ _ hv4) (.inl rfl) (sv rfl (A3 (A8 (lr (fun u6 hu6=>sv rfl (sd rfl (K5 rfl) (sv rfl (sd rfl (K5 rfl) (sv rfl (sv rfl (gf rfl (fun _=>rfl) (gf rfl (vb rfl rfl rfl) (sd rfl (A7y rfl rfl (fun hc=>A6 (A1g hc))) (sv rfl (gf rfl (fun _=>rfl) (bs h fun v5 hv5 h=>gf rfl (fun w4=>(J8 (A6 w4) rfl (G6 w4 hv5) rfl)) (gf rfl (fun w5=>(F4 (A6 w5) (G6 w5 hv5) rfl)) (gf rfl (vb rfl rfl rfl) (sd rfl (A7y rfl rfl (fun hc=>A6 (A1g hc))) (A3 (cc rfl h (fun c1 h=> ?_) (fun c1 h=> ?_))))))))))))))))))))))))))))))))))))))))))))))
 refine A8 (A9 (s0:=⟨T [],G []⟩) (sbr rfl rfl) ?_)
 refine D1 fun u7 hu7=>sv rfl (A3 (D5 ?_))
 cases h
 exact B0 (.inr rfl) (E4 (E1 rfl) N9) (.refl _)
 refine B3 (A8 (A9 (s0:=⟨T [(2,(.d _)),(7,(.ptr _ _)),(8,(.d _)),(9,(.d _)),(10,(.d _))],G [((7,u2),some (.box 28 _))]⟩) (sbr rfl rfl) ?_))
 refine D1 fun u8 hu8=>sv rfl (sv rfl (sv rfl (bs h fun v6 hv6 h=>C9 rfl rfl A4 (B94 _ _ _ hv6) (.inl rfl) (sv rfl (A3 (lr (fun u9 hu9=>sd rfl (E0 rfl G_hit rfl rfl) (sv rfl (sv rfl (bs h fun v7 hv7 h=>C9 rfl rfl A4 (A7a _ _ _ _ hv7) (.inl rfl) (sv rfl (sv rfl (sv rfl (sv rfl (sv rfl (sv rfl (sv rfl (A3 (lr (fun u10 hu10=>sv rfl (A3 (A8 (lr (fun u11 hu11=>sv rfl (A3 (js h fun z1 hz1 h=>H8 (fun s=> ∃(y1:Bool) (g1:Unit),z1= .inl y1∧Sb ⟨T [(7,(.ptr (7,u2) 0)),(8,(dl A5 v2)),(9,(di v3)),(13,(.d (bo v7.2.2))),(14,(.d (bo y1)))],G [((7,u2),some (.box 28 (A1v v1)))]⟩ s) ?_ ?_))))))))))))))))))))))))))
 refine A7 (I0 (O5 v1 v2 v4 v6 v7) (fun (x1:(Bool×Int)) (g2:Unit)=>⟨T [(2,(di v6)),(7,(.ptr (7,u2) 0)),(8,(dl A5 v2)),(9,(di v3)),(10,(dl A5 v4)),(11,(di v7.1)),(12,(di v7.2.1)),(13,(.d (bo v7.2.2))),(14,(.d (bo x1.1))),(15,(di x1.2))],G [((7,u2),some (.box 28 (A1v v1)))]⟩) (false,0) () _ hz1 (sbr rfl rfl) ?_)
 intro x1 g2 z2 hz2 ez2
 unfold O5 at hz2
 refine A8 (lr (fun u12 hu12=>sv rfl (sv rfl (sd rfl (K5 rfl) (sv rfl (A3 (cc rfl hz2 (fun c2 hz2=> ?_) (fun c2 hz2=> ?_))))))))
 refine B3 (A8 (A7 (lr (fun u13 hu13=>sv rfl (sv rfl (gf rfl (fun _=>rfl) (gf rfl (fun _=>rfl) (bs hz2 fun v8 hv8 hz2=>gf rfl (fun w9=>(J8 (A6 w9) (A6 w9) (G6 w9 hv8) rfl)) (gf rfl (fun w10=>(F4 (A6 w10) (G6 w10 hv8) rfl)) (gf rfl (fun _=>rfl) (gf rfl (fun w12=>(A1w (A6 w12) (A6 w12) rfl)) (gf rfl (fun w13=>(D1w (A6 w13))) (gv rfl (A4j rfl) (fun _=>rfl) (gv rfl (A4j rfl) (fun _=>rfl) (bs hz2 fun v9 hv9 hz2=>gv rfl (A4j rfl) (fun w16=>(J8 (A6 w16) (A6 w16) (G6 w16 hv9) rfl)) (gv rfl (A4j rfl) (fun w17=>(F4 (A6 w17) (G6 w17 hv9) rfl)) (gv rfl (A4j rfl) (fun _=>rfl) (gv rfl (A4j rfl) (fun w19=>(A1w (A6 w19) (A6 w19) rfl)) (gv rfl (A4j rfl) (fun _=>rfl) (gv rfl (A4j rfl) (fun w21=>(A1w (A6 w21) (A6 w21) rfl)) (gf rfl (fun w22=>(C4u (A6 w22) (fun hc=>A6 (C7b w22 hc)) rfl)) (gf rfl (fun w23=>(D1w (A6 w23))) (gv rfl (A4j rfl) (fun _=>rfl) (gv rfl (A4j rfl) (vb rfl rfl rfl) (gf rfl (fun w26=>(C4u (A6 w26) (fun hc=>A6 (C7b w26 hc)) rfl)) (gf rfl (fun w27=>(D1w (A6 w27))) (gv rfl (A4j rfl) (fun _=>rfl) (gv rfl (A4j rfl) (fun w29=>(E0 rfl G_hit rfl rfl)) (gv rfl (A4j rfl) (fun _=>rfl) (bs hz2 fun v10 hv10 hz2=> ?_))))))))))))))))))))))))))))))
 refine A0v _ (i64 v10) (A4j rfl) (fun w31=>⟨_,[(.d (.agg (A27 v1))),(di v7.1)],_,_,(by simp only [A6 w31];rfl),rfl,A4,A6a _ _ _ (G6 w31 hv10),(.inl rfl)⟩) ?_
 refine gv rfl (A4j rfl) (fun w32=>(A1w (A6 w32) (A6 w32) rfl)) (gf rfl (fun w33=>(C4u (A6 w33) (fun hc=>A6 (C7b w33 hc)) rfl)) (sd rfl (A7y rfl rfl (fun hc=>A6 (A1g hc))) (sv rfl (A3 (A8 (A9 (s0:=⟨T [(2,(.d _)),(7,(.ptr _ _)),(8,(.d _)),(9,(.d _)),(10,(.d _)),(11,(.d _)),(12,(.d _)),(13,(.d _)),(14,(.d _)),(15,(.d _))],G [((7,u2),some (.box 28 _))]⟩) (sbr rfl rfl) ?_))))))
 refine Z6 rfl fun u14 hu14=>sv rfl (sv rfl (sv rfl (gt rfl (fun _=>rfl) (gt rfl (fun _=>rfl) (bs hz2 fun v11 hv11 hz2=>gt rfl (fun w36=>(J8 (A6 w36) (A6 w36) (G6 w36 hv11) rfl)) (gt rfl (fun w37=>(F4 (A6 w37) (G6 w37 hv11) rfl)) (gt rfl (fun _=>rfl) (gt rfl (fun _=>rfl) (gt rfl (vb rfl rfl rfl) (bs hz2 fun v12 hv12 hz2=>gt rfl (fun w41=>(J8 (A6 w41) (A6 w41) (G6 w41 hv12) rfl)) (gt rfl (fun w42=>(F4 (A6 w42) (G6 w42 hv12) rfl)) (gt rfl (fun w43=>(E0 rfl G_hit rfl rfl)) (gt rfl (fun _=>rfl) (gt rfl (fun _=>rfl) (gt rfl (vb rfl rfl rfl) (bs hz2 fun v13 hv13 hz2=>gt rfl (fun w47=>(J8 (A6 w47) (A6 w47) (G6 w47 hv13) rfl)) (gt rfl (fun w48=>(F4 (A6 w48) (G6 w48 hv13) rfl)) (bs hz2 fun v14 hv14 hz2=> ?_))))))))))))))))))
 refine A0v _ (i64 v14) (A62 rfl) (fun w49=>⟨_,[(.d (.agg (A27 v1))),(di v13)],_,_,(by simp only [A6 w49];rfl),rfl,A4,A6a _ _ _ (G6 w49 hv14),(.inl rfl)⟩) ?_
 refine gt rfl (fun w50=>(A1w (A6 w50) (A6 w50) rfl)) (gt rfl (fun w51=>(A1w (A6 w51) (A6 w51) rfl)) (sa rfl rfl rfl (A3 (cc rfl hz2 (fun c3 hz2=> ?_) (fun c3 hz2=> ?_)))))
 refine A8 (A9 (s0:=⟨T [],G []⟩) (sbr rfl rfl) ?_)
 refine D1 fun u15 hu15=>sv rfl (A3 (D5 ?_))
 cases hz2
 obtain rfl:=ez2 _ rfl
 refine ⟨nofun,J9 ?_⟩
 rw [Sum.elim_inr]at h
 cases h
 exact B0 (.inr rfl) (E4 (E1 rfl) N9) (.refl _)
 refine B3 (I5 (A9 (s0:=⟨T [(2,(.d _)),(7,(.ptr _ _)),(8,(.d _)),(9,(.d _)),(10,(.d _)),(11,(.d _)),(12,(.d _)),(13,(.d _)),(14,(.d _)),(15,(.d _))],G [((7,u2),some (.box 28 _))]⟩) (sbr rfl rfl) ?_))
 refine D1 fun u16 hu16=>sv rfl (sv rfl (sv rfl (A3 (J2 ?_))))
 cases hz2
 exact ⟨rfl,(),(sbr rfl rfl)⟩
 refine E5 rfl ?_
 cases hz2
 obtain rfl:=ez2 _ rfl
 refine ⟨nofun,E3 rfl (l_j ?_)⟩
 exact ⟨_,(),rfl,(sbr rfl rfl)⟩
 rintro _ ⟨y1,g1,rfl,q1⟩
 rw [Sum.elim_inl]at h
 refine A9 q1 (A8 (lr (fun u17 hu17=>sv rfl (E2 (.d (bo (!v7.2.2))) rfl rfl (sv rfl (gf rfl (fun _=>rfl) ?_))))))
 refine A3b _ (.d (bo (!y1))) rfl (A4i rfl) (fun w53=>(by simp only [A6 w53];rfl)) ?_
 refine sd rfl (A7y rfl rfl (fun hc=>A6 (A1g hc))) (A3 (cc rfl h (fun c4 h=> ?_) (fun c4 h=> ?_)))
 refine lr (fun u18 hu18=>sv rfl (A3 (D5 ?_)))
 cases h
 exact B0 (.inr rfl) (E4 (E1 rfl) N9) (.refl _)
 refine B3 (lr (fun u19 hu19=>sd rfl (E0 rfl G_hit rfl rfl) (sv rfl (bs h fun v15 hv15 h=>C9 rfl rfl A4 (B55 _ _ _ hv15) (.inl rfl) (sv rfl (A3 (A8 (lr (fun u20 hu20=>sv rfl (A3 (js h fun z3 hz3 h=>H8 (fun s=> ∃(y2:Unit) (g3:Unit),z3= .inl y2∧Sb ⟨T [],G []⟩ s) ?_ ?_)))))))))))
 refine A7 (I0 (U4 v1 v2 v3 v15) (fun (x2:Int) (g4:Unit)=>⟨T [(7,(.ptr (7,u2) 0)),(8,(dl A5 v2)),(9,(di v3)),(16,(dl L0 v15)),(17,(di x2))],G [((7,u2),some (.box 28 (A1v v1)))]⟩) 0 () _ hz3 (sbr rfl rfl) ?_)
 intro x2 g4 z4 hz4 ez4
 unfold U4 at hz4
 refine A8 (lr (fun u21 hu21=>sv rfl (sv rfl (sd rfl (K5 rfl) (sv rfl (A3 (cc rfl hz4 (fun c5 hz4=> ?_) (fun c5 hz4=> ?_))))))))
 refine B3 (A8 (A7 (A8 (A8 (Z6 rfl fun u22 hu22=>sv rfl (sv rfl (bs hz4 fun v16 hv16 hz4=>sd rfl (J8 rfl rfl hv16 rfl) (sv rfl (sd rfl (F4 rfl hv16 rfl) (sv rfl (sv rfl (gf rfl (fun _=>rfl) (gf rfl (fun _=>rfl) (bs hz4 fun v17 hv17 hz4=>gf rfl (fun w56=>(J8 (A6 w56) (A6 w56) (G6 w56 hv17) rfl)) ?_))))))))))))))
 refine gf rfl (fun w57=>(by simp only [A6 w57];rfl)) ?_
 refine gf rfl (fun w58=>(F4 (A6 w58) (G6 w58 hv17) rfl)) (gp rfl (A4i rfl) (fun _=>rfl) (gf rfl (vl rfl G_hit rfl) (gf rfl (fun w61=>(K5 (A6 w61))) (gf rfl (fun w62=>(A1w (A6 w62) (A6 w62) rfl)) (sd rfl (A7y rfl rfl (fun hc=>A6 (A1g hc))) (sv rfl (gf rfl (fun _=>rfl) (gf rfl (fun _=>rfl) (bs hz4 fun v18 hv18 hz4=>gf rfl (fun w65=>(J8 (A6 w65) (A6 w65) (G6 w65 hv18) rfl)) ?_)))))))))
 refine gf rfl (fun w66=>(by simp only [A6 w66];rfl)) ?_
 refine gf rfl (fun w67=>(F4 (A6 w67) (G6 w67 hv18) rfl)) (gf rfl (vb rfl rfl rfl) (sd rfl (A7y rfl rfl (fun hc=>A6 (A1g hc))) (sv rfl (gf rfl (fun _=>rfl) (gf rfl (fun _=>rfl) (bs hz4 fun v19 hv19 hz4=>gf rfl (fun w71=>(J8 (A6 w71) (A6 w71) (G6 w71 hv19) rfl)) ?_))))))
 refine gf rfl (fun w72=>(by simp only [A6 w72];rfl)) ?_
 refine gf rfl (fun w73=>(F4 (A6 w73) (G6 w73 hv19) rfl)) (gp rfl (A4i rfl) (fun _=>rfl) (gf rfl (vl rfl G_hit rfl) (gf rfl (fun _=>rfl) (gf rfl (fun _=>rfl) (bs hz4 fun v20 hv20 hz4=>gf rfl (fun w78=>(J8 (A6 w78) (A6 w78) (G6 w78 hv20) rfl)) ?_)))))
 refine gf rfl (fun w79=>(by simp only [A6 w79];rfl)) ?_
 refine gf rfl (fun w80=>(F4 (A6 w80) (G6 w80 hv20) rfl)) (bs hz4 fun v21 hv21 hz4=>gf rfl (fun w81=>(J8 (A6 w81) (A6 w81) (G6 w81 hv21) rfl)) ?_)
 refine gf rfl (fun w82=>(by simp only [A6 w82];rfl)) ?_
 refine gf rfl (fun w83=>(F4 (A6 w83) (G6 w83 hv21) rfl)) (gf rfl (fun w84=>(K5 (A6 w84))) (gf rfl (fun w85=>(A1w (A6 w85) (A6 w85) rfl)) (sd rfl (A7y rfl rfl (fun hc=>A6 (A1g hc))) (sv rfl (gf rfl (fun _=>rfl) (gf rfl (vb rfl rfl rfl) (gf rfl (fun w88=>(D1w (A6 w88))) (gv rfl (A4j rfl) (fun _=>rfl) (gv rfl (A4j rfl) (fun _=>rfl) (bs hz4 fun v22 hv22 hz4=>gv rfl (A4j rfl) (fun w91=>(J8 (A6 w91) (A6 w91) (G6 w91 hv22) rfl)) ?_))))))))))
 refine gv rfl (A4j rfl) (fun w92=>(by simp only [A6 w92];rfl)) ?_
 refine gv rfl (A4j rfl) (fun w93=>(F4 (A6 w93) (G6 w93 hv22) rfl)) (gv rfl (A4j rfl) (fun _=>rfl) (gv rfl (A4j rfl) (fun _=>rfl) (gv rfl (A4j rfl) (vb rfl rfl rfl) (bs hz4 fun v23 hv23 hz4=>gv rfl (A4j rfl) (fun w97=>(J8 (A6 w97) (A6 w97) (G6 w97 hv23) rfl)) ?_))))
 refine gv rfl (A4j rfl) (fun w98=>(by simp only [A6 w98];rfl)) ?_
 refine gv rfl (A4j rfl) (fun w99=>(F4 (A6 w99) (G6 w99 hv23) rfl)) (gv rfl (A4j rfl) (fun w100=>(A1w (A6 w100) (A6 w100) rfl)) (gf rfl (fun w101=>(C4u (A6 w101) (fun hc=>A6 (C7b w101 hc)) rfl)) (sd rfl (A7y rfl rfl (fun hc=>A6 (A1g hc))) (A3 (cc rfl hz4 (fun c6 hz4=> ?_) (fun c6 hz4=> ?_))))))
 refine A8 (A9 (s0:=⟨T [],G []⟩) (sbr rfl rfl) ?_)
 refine D1 fun u23 hu23=>sv rfl (A3 (D5 ?_))
 cases hz4
 obtain rfl:=ez4 _ rfl
 refine ⟨nofun,J9 ?_⟩
 rw [Sum.elim_inr]at h
 cases h
 exact B0 (.inr rfl) (E4 (E1 rfl) N9) (.refl _)
 refine B3 (A8 (A9 (s0:=⟨T [(7,(.ptr _ _)),(8,(.d _)),(9,(.d _)),(16,(.d _)),(17,(.d _))],G [((7,u2),some (.box 28 _))]⟩) (sbr rfl rfl) ?_))
 refine Z6 rfl fun u24 hu24=>sp rfl rfl (sl rfl G_hit rfl (sv rfl (sv rfl (bs hz4 fun v24 hv24 hz4=>sd rfl (J8 rfl rfl hv24 rfl) (sv rfl (sd rfl (F4 rfl hv24 rfl) (bs hz4 fun v25 hv25 hz4=>sd rfl (J8 rfl rfl hv25 rfl) (sv rfl (sd rfl (F4 rfl hv25 rfl) (sv rfl (sv rfl (bs hz4 fun v26 hv26 hz4=>sd rfl (J8 rfl rfl hv26 rfl) (sv rfl (sd rfl (F4 rfl hv26 rfl) (bs hz4 fun v27 hv27 hz4=>sd rfl (J8 rfl rfl hv27 rfl) (sd rfl (N3 rfl hv27 rfl rfl) (sn rfl rfl (sst rfl G_hit (B2r v27) rfl (A3 (A8 (A9 (s0:=⟨T [(7,(.ptr _ _)),(8,(.d _)),(9,(.d _)),(16,(.d _)),(17,(.d _)),(18,(.ptr _ _))],G [((7,u2),some (.box 28 _)),((18,u24),some (.box 71 _))]⟩) (sbr rfl rfl) ?_)))))))))))))))))))))
 refine Z6 rfl fun u25 hu25=>sd rfl (E0 rfl G_hit rfl rfl) (sv rfl (sv rfl (sv rfl (bs hz4 fun v28 hv28 hz4=>sd rfl (J8 rfl rfl hv28 rfl) (sv rfl (sd rfl (F4 rfl hv28 rfl) (sv rfl (bs hz4 fun v29 hv29 hz4=>C9 rfl rfl A4 (A7a _ _ _ _ hv29) (.inl rfl) (sv rfl (sv rfl (sv rfl (sv rfl (sv rfl (sv rfl (sv rfl (A3 (A8 (A9 (s0:=⟨T [(7,(.ptr _ _)),(8,(.d _)),(9,(.d _)),(16,(.d _)),(17,(.d _)),(18,(.ptr _ _)),(19,(.d _)),(20,(.d _)),(21,(.d _))],G [((7,u2),some (.box 28 _)),((18,u24),some (.box 71 _))]⟩) (sbr rfl rfl) ?_))))))))))))))))))
 refine Z6 rfl fun u26 hu26=>sv rfl (E2 (.d (bo (!v29.2.2))) rfl rfl (sv rfl (gf rfl (fun _=>rfl) (gf rfl (fun _=>rfl) (bs hz4 fun v30 hv30 hz4=>gf rfl (fun w104=>(J8 (A6 w104) (A6 w104) (G6 w104 hv30) rfl)) ?_)))))
 refine gf rfl (fun w105=>(by simp only [A6 w105];rfl)) ?_
 refine gf rfl (fun w106=>(F4 (A6 w106) (G6 w106 hv30) rfl)) (gf rfl (fun _=>rfl) (gf rfl (fun w108=>(A1w (A6 w108) (A6 w108) rfl)) (sd rfl (A7y rfl rfl (fun hc=>A6 (A1g hc))) (sv rfl (gf rfl (fun _=>rfl) (gf rfl (fun _=>rfl) (bs hz4 fun v31 hv31 hz4=>gf rfl (fun w111=>(J8 (A6 w111) (A6 w111) (G6 w111 hv31) rfl)) ?_)))))))
 refine gf rfl (fun w112=>(by simp only [A6 w112];rfl)) ?_
 refine gf rfl (fun w113=>(F4 (A6 w113) (G6 w113 hv31) rfl)) (gf rfl (fun _=>rfl) (gf rfl (fun _=>rfl) (bs hz4 fun v32 hv32 hz4=>gf rfl (fun w116=>(J8 (A6 w116) (A6 w116) (G6 w116 hv32) rfl)) ?_)))
 refine gf rfl (fun w117=>(by simp only [A6 w117];rfl)) ?_
 refine gf rfl (fun w118=>(F4 (A6 w118) (G6 w118 hv32) rfl)) (gf rfl (fun w119=>(A1w (A6 w119) (A6 w119) rfl)) (gp rfl (A4i rfl) (fun _=>rfl) (gf rfl (vl rfl (gq rfl) rfl) (gp rfl (A4i rfl) (fun _=>rfl) (gf rfl (vl rfl (gq rfl) rfl) (gf rfl (fun w124=>(A1w (A6 w124) (A6 w124) rfl)) (gf rfl (fun w125=>(A1w (A6 w125) (A6 w125) rfl)) (sd rfl (A7y rfl rfl (fun hc=>A6 (A1g hc))) (sv rfl (gf rfl (fun _=>rfl) (gp rfl (A4i rfl) (fun _=>rfl) (gf rfl (vl rfl (gq rfl) rfl) (gf rfl (fun w129=>(A1w (A6 w129) (A6 w129) rfl)) (sd rfl (A7y rfl rfl (fun hc=>A6 (A1g hc))) (sv rfl (gf rfl (fun _=>rfl) (gp rfl (A4i rfl) (fun _=>rfl) (gf rfl (vl rfl (gq rfl) rfl) (gf rfl (vb rfl rfl rfl) (gf rfl (fun w134=>(A1w (A6 w134) (A6 w134) rfl)) (sd rfl (A7y rfl rfl (fun hc=>A6 (A1g hc))) (A3 (cc rfl hz4 (fun c7 hz4=> ?_) (fun c7 hz4=> ?_))))))))))))))))))))))))
 refine A8 (A9 (s0:=⟨T [],G []⟩) (sbr rfl rfl) ?_)
 refine D1 fun u27 hu27=>sv rfl (A3 (D5 ?_))
 cases hz4
 obtain rfl:=ez4 _ rfl
 refine ⟨nofun,J9 ?_⟩
 rw [Sum.elim_inr]at h
 cases h
 exact B0 (.inr rfl) (E4 (E1 rfl) N9) (.refl _)
 refine B3 (I5 (A9 (s0:=⟨T [(7,(.ptr _ _)),(8,(.d _)),(9,(.d _)),(16,(.d _)),(17,(.d _))],G [((7,u2),some (.box 28 _))]⟩) (sbr rfl rfl) ?_))
 refine D1 fun u28 hu28=>sv rfl (sv rfl (sv rfl (A3 (J2 ?_))))
 cases hz4
 exact ⟨rfl,(),(sbr rfl rfl)⟩
 refine E5 rfl ?_
 cases hz4
 obtain rfl:=ez4 _ rfl
 refine ⟨nofun,E3 rfl (l_j ?_)⟩
 exact ⟨_,(),rfl,(sbr rfl rfl)⟩
 rintro _ ⟨y2,g3,rfl,q2⟩
 rw [Sum.elim_inl]at h
 refine A9 q2 (lr (fun u29 hu29=>bs h fun v33 hv33 h=>C9 rfl rfl A4 (B65 _ hv33) (.inl rfl) (sv rfl (A3 (D5 ?_)))))
 cases h
 exact B0 (.inr rfl) (E4 (E1 rfl) N9) (.refl _)
end Go.Abs.Roads
