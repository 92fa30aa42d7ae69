/-
  The functions, part 4.
-/
import Derived.Test.YtgjdiioennhoeaaGreatFns3
set_option maxRecDepth 20000
set_option maxHeartbeats 4000000
set_option linter.unusedVariables false
namespace Go.Abs.World
open Go Go.Abs Go.Proofs
attribute [local irreducible] Y7 B5v AWL
noncomputable def A1v (p1:Curve)(x1:((List Int)×Int)):Option (Stp ((List Int)×Int) (List Int)):=
  cond (decide ((w64 (x1.2+1))< (p1.Pts.length:Int))) ((D4 p1.Pts (w64 (x1.2+1))).bind fun v2=>(D4 p1.Pts x1.2).bind fun v3=>(A72 v2 v3).bind fun v4=>(A9e v4 v4).bind fun v5=>(A7f v5).bind fun v6=>(A7p x1.1 [v6]).bind fun v7=>some (.go (v7,(w64 (x1.2+1))))) (some (.out x1.1))
noncomputable def A9f (p1:Curve):Option (List Int):=
  (A8r p1).bind fun v1=>cond (v1 !=0) (some []) ((loop (A1v p1) ([],0)).bind fun y1=>some y1)
theorem C20 (p1:Curve)(r:(List Int))(h:A9f p1=some r):PCall Tryz.prog 134 [(.agg [(.list (List.map A5v p1.Pts))])] (.list (List.map A4 r)):=by
 refine B7 (fk Tryz.func134 Tryz.ntmps134 (fun r=>if r==8 then [1005]else []) (by with_unfolding_all rfl)) (nl rfl) ?_
 unfold A9f at h
 refine B5 (s0:=⟨T [(0,(.d _))],G []⟩) (sbr rfl rfl) ?_
 refine lr (fun u1 hu1=>sn rfl rfl (sv rfl (A1 (A6 (lr (fun u2 hu2=>sd rfl (B2 rfl G_hit rfl rfl) (bs h fun v1 hv1 h=>B0 rfl rfl A2 (B6f _ _ hv1) (.inl rfl) (sv rfl (A1 (cc rfl h (fun c1 h=> ?_) (fun c1 h=> ?_)))))))))))
 refine lr (fun u3 hu3=>sv rfl (A1 (B3 ?_)))
 cases h
 exact A7 (.inr rfl) (B6 (B4 rfl) E0) DLe.nil
 refine A9 (lr (fun u4 hu4=>sv rfl (A1 (A6 (lr (fun u5 hu5=>sv rfl (A1 (bs h fun y1 hy1 h=>D7 (fun s=> ∃g1:Nat,Sb ⟨T [(3,(oS y1 (35,g1)))],G [((35,g1),oB 2 1 A4 y1)]⟩ s) ?_ ?_))))))))
 refine A8 (F1 (A1v p1) (fun (x1:((List Int)×Int)) (g2:Nat)=>⟨T [(1,(.ptr (1,u1) 0)),(3,(oS x1.1 (35,g2))),(4,(di x1.2))],G [((1,u1),some (.box 61 [(dl A5v p1.Pts)])),((35,g2),oB 2 1 A4 x1.1)]⟩) ([],0) 0 _ hy1 (H9 ⟨.of rfl, .of rfl, .of rfl,trivial⟩ (B1 G_hit (.of rfl) (A04 trivial))) ?_)
 intro x1 g2 z1 hz1 ez1
 unfold A1v at hz1
 refine A6 (lr (fun u6 hu6=>sv rfl (sv rfl (sp rfl rfl (sl rfl G_hit rfl (sd rfl (E7 rfl) (sv rfl (A1 (cc rfl hz1 (fun c2 hz1=> ?_) (fun c2 hz1=> ?_))))))))))
 refine A9 (A6 (A8 (A6 (I0 rfl fun u7 hu7=>sp rfl rfl (sl rfl G_hit rfl (sv rfl (sv rfl (bs hz1 fun v2 hv2 hz1=>sd rfl (E2 rfl rfl hv2 rfl) (sd rfl (C3 rfl hv2 rfl rfl) (sp rfl rfl (sl rfl G_hit rfl (sv rfl (bs hz1 fun v3 hv3 hz1=>sd rfl (E2 rfl rfl hv3 rfl) (sd rfl (C3 rfl hv3 rfl rfl) (bs hz1 fun v4 hv4 hz1=>B0 rfl rfl A2 (B2i _ _ _ hv4) (.inl rfl) (sn rfl rfl (sst rfl G_hit [(di v4.X),(di v4.Y)] rfl (A1 (C8 fun u8 hu8=>C1 (oS x1.1 (35,g2)) rfl rfl (sd rfl (B2 rfl G_hit rfl rfl) (sd rfl (B2 rfl G_hit rfl rfl) (bs hz1 fun v5 hv5 hz1=>B0 rfl rfl A2 (B29 _ _ _ hv5) (.inl rfl) (bs hz1 fun v6 hv6 hz1=>B0 rfl rfl A2 (B84 _ _ hv6) (.inl rfl) (C1 (dl A4 [v6]) rfl rfl (bs hz1 fun v7 hv7 hz1=>Z3 A4 (35,g2) x1.1 v6 [] _ (O0 (fun _=>rfl)) rfl (gq rfl) hv7 (ss rfl (A1 (G3 (C8 fun u9 hu9=>sv rfl (sv rfl (sv rfl (A1 (G4 ?_)))))))))))))))))))))))))))))))))
 cases hz1
 exact ⟨rfl,u8,(H9 ⟨.of rfl,(.of (A3p (A21 hv7)).symm), .of rfl,trivial⟩ (sg rfl (U5 G_hit trivial)))⟩
 refine C2 rfl ?_
 cases hz1
 obtain rfl:=ez1 _ rfl
 refine ⟨nofun,B9 rfl (l_j ?_)⟩
 exact ⟨g2,(H9 ⟨.of rfl,trivial⟩ (B8 (gq rfl) trivial))⟩
 rintro _ ⟨g1,q1⟩
 refine B5 q1 (lr (fun u10 hu10=>C1 (oS y1 (35,g1)) rfl rfl (C1 (oS y1 (35,g1)) rfl rfl (A1 (B3 ?_)))))
 cases h
 exact A7 (.inr rfl) (B6 (B4 rfl) (A2r G_hit)) A2q
noncomputable def A0p (v1:(List Int))(x1:(Int×Int)):Option (Stp (Int×Int) Int):=
  cond (decide (x1.2< (v1.length:Int))) ((D4 v1 x1.2).bind fun v2=>some (.go ((w64 (x1.1+v2)),(w64 (x1.2+1))))) (some (.out x1.1))
noncomputable def A3s (p1:Curve):Option Int:=
  (A9f p1).bind fun v1=>(loop (A0p v1) (0,0)).bind fun y1=>some y1
theorem B19 (p1:Curve)(r:Int)(h:A3s p1=some r):PCall Tryz.prog 204 [(.agg [(.list (List.map A5v p1.Pts))])] (i64 r):=by
 refine B7 (fk Tryz.func204 Tryz.ntmps204 m0 (by with_unfolding_all rfl)) (nl rfl) ?_
 unfold A3s at h
 refine B5 (s0:=⟨T [(0,(.d _))],G []⟩) (sbr rfl rfl) ?_
 refine lr (fun u1 hu1=>sn rfl rfl (sv rfl (A1 (lr (fun u2 hu2=>sv rfl (A1 (lr (fun u3 hu3=>sd rfl (B2 rfl G_hit rfl rfl) (bs h fun v1 hv1 h=>B0 rfl rfl A2 (C20 _ _ hv1) (.inl rfl) (sv rfl (A1 (A6 (lr (fun u4 hu4=>sv rfl (A1 (bs h fun y1 hy1 h=>D7 (fun s=> ∃g1:Unit,Sb ⟨T [(3,(di y1))],G []⟩ s) ?_ ?_))))))))))))))))
 refine A8 (F1 (A0p v1) (fun (x1:(Int×Int)) (g2:Unit)=>⟨T [(3,(di x1.1)),(4,(dl A4 v1)),(5,(di x1.2))],G []⟩) (0,0) () _ hy1 (sbr rfl rfl) ?_)
 intro x1 g2 z1 hz1 ez1
 unfold A0p at hz1
 refine A6 (lr (fun u5 hu5=>sv rfl (sv rfl (sd rfl (E7 rfl) (sv rfl (A1 (cc rfl hz1 (fun c1 hz1=> ?_) (fun c1 hz1=> ?_))))))))
 refine A9 (A6 (A8 (C8 fun u6 hu6=>sv rfl (sv rfl (sv rfl (bs hz1 fun v2 hv2 hz1=>sd rfl (E2 rfl rfl hv2 rfl) (sd rfl (D9 rfl hv2 rfl) (sv rfl (sv rfl (A1 (G3 (C8 fun u7 hu7=>sv rfl (sv rfl (sv rfl (A1 (G4 ?_))))))))))))))))
 cases hz1
 exact ⟨rfl,(),(sbr rfl rfl)⟩
 refine C2 rfl ?_
 cases hz1
 obtain rfl:=ez1 _ rfl
 refine ⟨nofun,B9 rfl (l_j ?_)⟩
 exact ⟨(),(sbr rfl rfl)⟩
 rintro _ ⟨g1,q1⟩
 refine B5 q1 (lr (fun u8 hu8=>sv rfl (sv rfl (A1 (B3 ?_)))))
 cases h
 exact A7 (.inr rfl) (B6 (B4 rfl) E0) (.refl _)
noncomputable def A0y (p1:Map)(p2:Zone)(x2:Int):Option (Stp Int (Sum Unit Int)):=
  cond (decide (x2< (p2.Parts.length:Int))) ((D4 p2.Parts x2).bind fun v4=>((cond (!((decide (v4.From<0))||(decide (v4.From≥v4.To)))) (D4 p1.Lanes v4.Lane_) (some default))).bind fun v5=>((cond (!((decide (v4.From<0))||(decide (v4.From≥v4.To)))) (A3s v5.Curve_) (some default))).bind fun v6=>cond (((((decide (v4.From<0))||(decide (v4.From≥v4.To)))||(decide (v4.To>v6)))||(decide (v4.Rank<0)))||(decide (v4.Rank>100))) (some (.out (.inr 2))) (some (.go (w64 (x2+1))))) (some (.out (.inl ())))
noncomputable def A50 (p2:Zone)(x1:((List Int)×Int)):Option (Stp ((List Int)×Int) (List Int)):=
  cond (decide (x1.2< (p2.Parts.length:Int))) ((D4 p2.Parts x1.2).bind fun v1=>(A7p x1.1 [v1.Lane_]).bind fun v2=>some (.go (v2,(w64 (x1.2+1))))) (some (.out x1.1))
noncomputable def A5h (p1:Map)(p2:Zone):Option Int:=
  cond (decide ((p2.Parts.length:Int)<2)) (some 6) (cond (decide ((p2.Parts.length:Int)>6)) (some 8) (cond ((decide (p2.Signal_<0))||(decide (p2.Signal_>(p1.Signals.length:Int)))) (some 2) ((loop (A50 p2) ([],0)).bind fun y1=>(A43 y1 0 (p1.Lanes.length:Int)).bind fun v3=>cond (!v3) (some 11) (thenS (loop (A0y p1 p2) 0) (fun _=>some 0) (fun r=>some r)))))
theorem B87 (p1:Map)(p2:Zone)(r:Int)(h:A5h p1 p2=some r):PCall Tryz.prog 166 [(.agg (A3b p1)),(.agg [(.list (List.map A53 p2.Parts)),(i64 p2.Signal_)])] (i64 r):=by
 refine B7 (fk Tryz.func166 Tryz.ntmps166 (fun r=>if r==11 then [1007]else []) (by with_unfolding_all rfl)) (nl rfl) ?_
 unfold A5h at h
 refine B5 (s0:=⟨T [(0,(.d _)),(1,(.d _))],G []⟩) (sbr rfl rfl) ?_
 refine lr (fun u1 hu1=>sn rfl rfl (sn rfl rfl (sv rfl (A1 (A6 (lr (fun u2 hu2=>sp rfl rfl (sl rfl G_hit rfl (sd rfl (E7 rfl) (sv rfl (A1 (cc rfl h (fun c1 h=> ?_) (fun c1 h=> ?_)))))))))))))
 refine lr (fun u3 hu3=>sv rfl (A1 (B3 ?_)))
 cases h
 exact A7 (.inr rfl) (B6 (B4 rfl) E0) (.refl _)
 refine A9 (A6 (lr (fun u4 hu4=>sp rfl rfl (sl rfl G_hit rfl (sd rfl (E7 rfl) (sv rfl (A1 (cc rfl h (fun c2 h=> ?_) (fun c2 h=> ?_)))))))))
 refine lr (fun u5 hu5=>sv rfl (A1 (B3 ?_)))
 cases h
 exact A7 (.inr rfl) (B6 (B4 rfl) E0) (.refl _)
 refine A9 (A6 (lr (fun u6 hu6=>sp rfl rfl (sl rfl G_hit rfl (sv rfl (sv rfl (gp rfl (T8 rfl) (fun _=>rfl) (gf rfl (vl rfl G_hit rfl) (gp rfl (T8 rfl) (fun _=>rfl) (gf rfl (vl rfl (gq rfl) rfl) (gf rfl (fun w5=>(E7 (A3 w5))) (gf rfl (fun w6=>(S3 (A3 w6) (A3 w6) rfl)) (sd rfl (A0s rfl rfl (fun hc=>A3 (K9 hc))) (A1 (cc rfl h (fun c3 h=> ?_) (fun c3 h=> ?_))))))))))))))))
 refine lr (fun u7 hu7=>sv rfl (A1 (B3 ?_)))
 cases h
 exact A7 (.inr rfl) (B6 (B4 rfl) E0) (.refl _)
 refine A9 (lr (fun u8 hu8=>sv rfl (A1 (A6 (lr (fun u9 hu9=>sv rfl (A1 (bs h fun y1 hy1 h=>D7 (fun s=> ∃g1:Nat,Sb ⟨T [(2,(.ptr (2,u1) 0)),(3,(.ptr (3,u1) 0)),(5,(oS y1 (43,g1)))],G [((2,u1),some (.box 33 (A09 p1))),((3,u1),some (.box 117 [(dl A53 p2.Parts),(di p2.Signal_)])),((43,g1),oB 3 1 A4 y1)]⟩ s) ?_ ?_))))))))
 refine A8 (F1 (A50 p2) (fun (x1:((List Int)×Int)) (g2:Nat)=>⟨T [(2,(.ptr (2,u1) 0)),(3,(.ptr (3,u1) 0)),(5,(oS x1.1 (43,g2))),(6,(di x1.2))],G [((2,u1),some (.box 33 (A09 p1))),((3,u1),some (.box 117 [(dl A53 p2.Parts),(di p2.Signal_)])),((43,g2),oB 3 1 A4 x1.1)]⟩) ([],0) 0 _ hy1 (H9 ⟨.of rfl, .of rfl, .of rfl, .of rfl,trivial⟩ (sg rfl (B1 G_hit (.of rfl) (A04 trivial)))) ?_)
 intro x1 g2 z1 hz1 ez1
 unfold A50 at hz1
 refine A6 (lr (fun u10 hu10=>sv rfl (sp rfl rfl (sl rfl (gq rfl) rfl (sd rfl (E7 rfl) (sv rfl (A1 (cc rfl hz1 (fun c4 hz1=> ?_) (fun c4 hz1=> ?_)))))))))
 refine A9 (A6 (A8 (C8 fun u11 hu11=>C1 (oS x1.1 (43,g2)) rfl rfl (sp rfl rfl (sl rfl (gq rfl) rfl (sv rfl (bs hz1 fun v1 hv1 hz1=>sd rfl (E2 rfl rfl hv1 rfl) (sv rfl (sd rfl (D9 rfl hv1 rfl) (C1 (dl A4 [v1.Lane_]) rfl rfl (bs hz1 fun v2 hv2 hz1=>Z3 A4 (43,g2) x1.1 v1.Lane_ [] _ (O0 (fun _=>rfl)) rfl (gq rfl) hv2 (ss rfl (A1 (G3 (C8 fun u12 hu12=>sv rfl (sv rfl (sv rfl (A1 (G4 ?_)))))))))))))))))))
 cases hz1
 exact ⟨rfl,u11,(H9 ⟨.of rfl, .of rfl,(.of (A3p (A21 hv2)).symm), .of rfl,trivial⟩ (sg rfl (sg rfl (U5 G_hit trivial))))⟩
 refine C2 rfl ?_
 cases hz1
 obtain rfl:=ez1 _ rfl
 refine ⟨nofun,B9 rfl (l_j ?_)⟩
 exact ⟨g2,(H9 ⟨.of rfl, .of rfl, .of rfl,trivial⟩ (B1 G_hit (.of rfl) (sg rfl (B8 (gq rfl) trivial))))⟩
 rintro _ ⟨g1,q1⟩
 refine B5 q1 (A6 (lr (fun u13 hu13=>C1 (oS y1 (43,g1)) rfl rfl (sp rfl rfl (sl rfl G_hit rfl (sd rfl (E7 rfl) (bs h fun v3 hv3 h=>B0 rfl (D3 (A2r (gq rfl)) (rD (rD F2))) (.cons A2q (.cons (.refl _) A2)) (A9r _ _ _ _ hv3) (.inr rfl) (C1 (.d (bo (!v3))) rfl rfl (A1 (cc rfl h (fun c5 h=> ?_) (fun c5 h=> ?_)))))))))))
 refine lr (fun u14 hu14=>sv rfl (A1 (B3 ?_)))
 cases h
 exact A7 (.inr rfl) (B6 (B4 rfl) E0) (.refl _)
 refine A9 (A6 (lr (fun u15 hu15=>sv rfl (A1 (js h fun z2 hz2 h=>D7 (fun s=> ∃(y2:Unit) (g3:Unit),z2= .inl y2∧Sb ⟨T [],G []⟩ s) ?_ ?_)))))
 refine A8 (F1 (A0y p1 p2) (fun (x2:Int) (g4:Unit)=>⟨T [(2,(.ptr (2,u1) 0)),(3,(.ptr (3,u1) 0)),(7,(di x2))],G [((2,u1),some (.box 33 (A09 p1))),((3,u1),some (.box 117 [(dl A53 p2.Parts),(di p2.Signal_)]))]⟩) 0 () _ hz2 (sbr rfl rfl) ?_)
 intro x2 g4 z3 hz3 ez3
 unfold A0y at hz3
 refine A6 (lr (fun u16 hu16=>sv rfl (sp rfl rfl (sl rfl (gq rfl) rfl (sd rfl (E7 rfl) (sv rfl (A1 (cc rfl hz3 (fun c6 hz3=> ?_) (fun c6 hz3=> ?_)))))))))
 refine A9 (A6 (A8 (lr (fun u17 hu17=>sp rfl rfl (sl rfl (gq rfl) rfl (sv rfl (bs hz3 fun v4 hv4 hz3=>sd rfl (E2 rfl rfl hv4 rfl) (sd rfl (C3 rfl hv4 rfl rfl) (sn rfl rfl (sst rfl G_hit (C04 v4) rfl (A1 (A6 (I0 rfl fun u18 hu18=>sp rfl rfl (sl rfl G_hit rfl (sv rfl (sv rfl (gp rfl (T8 rfl) (fun _=>rfl) (gf rfl (vl rfl G_hit rfl) (gp rfl (T8 rfl) (fun _=>rfl) (gf rfl (vl rfl G_hit rfl) (gf rfl (fun w11=>(S3 (A3 w11) (A3 w11) rfl)) (sd rfl (A0s rfl rfl (fun hc=>A3 (K9 hc))) (sv rfl (gp rfl (T8 rfl) (fun _=>rfl) (gf rfl (vl rfl G_hit rfl) (gp rfl (T8 rfl) (fun _=>rfl) (gf rfl (vl rfl (gq rfl) rfl) (gp rfl (T8 rfl) (fun _=>rfl) (gf rfl (vl rfl G_hit rfl) (bs hz3 fun v5 hv5 hz3=>gf rfl (fun w18=>(E2 (A3 w18) (A3 w18) (C0 w18 hv5) rfl)) ?_))))))))))))))))))))))))))))))
 refine gf rfl (fun w19=>(by simp only [A3 w19];rfl)) ?_
 refine gf rfl (fun w20=>(C3 (A3 w20) (C0 w20 hv5) rfl rfl)) (bs hz3 fun v6 hv6 hz3=> ?_)
 refine S4 _ (i64 v6) (T8 rfl) (fun w21=>⟨_,[(.d (.agg [(.list (List.map A5v v5.Curve_.Pts))]))],_,_,(by simp only [A3 w21];rfl),rfl,A2,B19 _ _ (C0 w21 hv6),(.inl rfl)⟩) ?_
 refine gf rfl (fun w22=>(S3 (A3 w22) (A3 w22) rfl)) (sd rfl (A0s rfl rfl (fun hc=>A3 (K9 hc))) (sv rfl (gp rfl (T8 rfl) (fun _=>rfl) (gf rfl (vl rfl G_hit rfl) (gf rfl (vb rfl rfl rfl) (sd rfl (A0s rfl rfl (fun hc=>A3 (K9 hc))) (sv rfl (gp rfl (T8 rfl) (fun _=>rfl) (gf rfl (vl rfl G_hit rfl) (gf rfl (vb rfl rfl rfl) (sd rfl (A0s rfl rfl (fun hc=>A3 (K9 hc))) (A1 (cc rfl hz3 (fun c7 hz3=> ?_) (fun c7 hz3=> ?_))))))))))))))
 refine lr (fun u19 hu19=>sv rfl (A1 (B3 ?_)))
 cases hz3
 obtain rfl:=ez3 _ rfl
 refine ⟨nofun,E1 ?_⟩
 rw [Sum.elim_inr]at h
 cases h
 exact A7 (.inr rfl) (B6 (B4 rfl) E0) (.refl _)
 refine A9 (G3 (C8 fun u20 hu20=>sv rfl (sv rfl (sv rfl (A1 (G4 ?_))))))
 cases hz3
 exact ⟨rfl,(),(sbr rfl rfl)⟩
 refine C2 rfl ?_
 cases hz3
 obtain rfl:=ez3 _ rfl
 refine ⟨nofun,B9 rfl (l_j ?_)⟩
 exact ⟨_,(),rfl,(sbr rfl rfl)⟩
 rintro _ ⟨y2,g3,rfl,q2⟩
 rw [Sum.elim_inl]at h
 refine B5 q2 (lr (fun u21 hu21=>sv rfl (A1 (B3 ?_))))
 cases h
 exact A7 (.inr rfl) (B6 (B4 rfl) E0) (.refl _)
noncomputable def A5i (p1:Map)(p2:Work):Option Int:=
  cond ((decide (p2.Lane_<0))||(decide (p2.Lane_≥(p1.Lanes.length:Int)))) (some 7) ((D4 p1.Lanes p2.Lane_).bind fun v1=>(A3r v1.Kind).bind fun v2=>((cond (!((decide (p2.From<0))||(decide (p2.From>p2.To)))) (A3s v1.Curve_) (some default))).bind fun v3=>((cond (!((((((decide (p2.From<0))||(decide (p2.From>p2.To)))||(decide (p2.To>v3)))||(decide (p2.Begin<0)))||(decide (p2.Begin≥p2.End)))||(decide (p2.End>1099511627776)))) (A2k p2.Limit 0 v2.1) (some default))).bind fun v4=>cond (((((((decide (p2.From<0))||(decide (p2.From>p2.To)))||(decide (p2.To>v3)))||(decide (p2.Begin<0)))||(decide (p2.Begin≥p2.End)))||(decide (p2.End>1099511627776)))||(!v4)) (some 2) (some 0))
theorem B88 (p1:Map)(p2:Work)(r:Int)(h:A5i p1 p2=some r):PCall Tryz.prog 167 [(.agg (A3b p1)),(.agg (B93 p2))] (i64 r):=by
 refine B7 (fk Tryz.func167 Tryz.ntmps167 m0 (by with_unfolding_all rfl)) (nl rfl) ?_
 unfold A5i at h
 refine B5 (s0:=⟨T [(0,(.d _)),(1,(.d _))],G []⟩) (sbr rfl rfl) ?_
 refine lr (fun u1 hu1=>sn rfl rfl (sn rfl rfl (sv rfl (A1 (A6 (lr (fun u2 hu2=>sp rfl rfl (sl rfl G_hit rfl (sv rfl (sv rfl (gp rfl (T8 rfl) (fun _=>rfl) (gf rfl (vl rfl G_hit rfl) (gp rfl (T8 rfl) (fun _=>rfl) (gf rfl (vl rfl (gq rfl) rfl) (gf rfl (fun w5=>(E7 (A3 w5))) (gf rfl (fun w6=>(S3 (A3 w6) (A3 w6) rfl)) (sd rfl (A0s rfl rfl (fun hc=>A3 (K9 hc))) (A1 (cc rfl h (fun c1 h=> ?_) (fun c1 h=> ?_))))))))))))))))))))
 refine lr (fun u3 hu3=>sv rfl (A1 (B3 ?_)))
 cases h
 exact A7 (.inr rfl) (B6 (B4 rfl) E0) (.refl _)
 refine A9 (lr (fun u4 hu4=>sp rfl rfl (sl rfl (gq rfl) rfl (sp rfl rfl (sl rfl G_hit rfl (bs h fun v1 hv1 h=>sd rfl (E2 rfl rfl hv1 rfl) (sd rfl (C3 rfl hv1 rfl rfl) (sn rfl rfl (sst rfl G_hit (C4v v1) rfl (A1 (lr (fun u5 hu5=>sp rfl rfl (sl rfl G_hit rfl (bs h fun v2 hv2 h=>B0 rfl rfl A2 (A87 _ _ hv2) (.inl rfl) (sv rfl (sv rfl (sv rfl (sv rfl (sv rfl (sv rfl (sv rfl (A1 (A6 (A6 (I0 rfl fun u6 hu6=>sp rfl rfl (sl rfl (gq rfl) rfl (sv rfl (sv rfl (gp rfl (T8 rfl) (fun _=>rfl) (gf rfl (vl rfl (gq rfl) rfl) (gp rfl (T8 rfl) (fun _=>rfl) (gf rfl (vl rfl (gq rfl) rfl) (gf rfl (fun w11=>(S3 (A3 w11) (A3 w11) rfl)) (sd rfl (A0s rfl rfl (fun hc=>A3 (K9 hc))) (sv rfl (gp rfl (T8 rfl) (fun _=>rfl) (gf rfl (vl rfl (gq rfl) rfl) (gp rfl (T8 rfl) (fun _=>rfl) (gf rfl (fun w15=>(B2 (A3 w15) G_hit rfl rfl)) (bs h fun v3 hv3 h=> ?_))))))))))))))))))))))))))))))))))))))))
 refine S4 _ (i64 v3) (T8 rfl) (fun w16=>⟨_,[(.d (.agg [(.list (List.map A5v v1.Curve_.Pts))]))],_,_,(by simp only [A3 w16];rfl),rfl,A2,B19 _ _ (C0 w16 hv3),(.inl rfl)⟩) ?_
 refine gf rfl (fun w17=>(S3 (A3 w17) (A3 w17) rfl)) (sd rfl (A0s rfl rfl (fun hc=>A3 (K9 hc))) (sv rfl (gp rfl (T8 rfl) (fun _=>rfl) (gf rfl (vl rfl (gq rfl) rfl) (gf rfl (vb rfl rfl rfl) (sd rfl (A0s rfl rfl (fun hc=>A3 (K9 hc))) (sv rfl (gp rfl (T8 rfl) (fun _=>rfl) (gf rfl (vl rfl (gq rfl) rfl) (gp rfl (T8 rfl) (fun _=>rfl) (gf rfl (vl rfl (gq rfl) rfl) (gf rfl (fun w25=>(S3 (A3 w25) (A3 w25) rfl)) (sd rfl (A0s rfl rfl (fun hc=>A3 (K9 hc))) (sv rfl (gp rfl (T8 rfl) (fun _=>rfl) (gf rfl (vl rfl (gq rfl) rfl) (gf rfl (vb rfl rfl rfl) (sd rfl (A0s rfl rfl (fun hc=>A3 (K9 hc))) (sv rfl (gp rfl (T8 rfl) (fun _=>rfl) (gf rfl (vl rfl (gq rfl) rfl) (gf rfl (fun _=>rfl) (bs h fun v4 hv4 h=> ?_)))))))))))))))))))))))
 refine S4 _ (bo v4) (T8 rfl) (fun w32=>⟨_,[(di p2.Limit),(di 0),(di v2.1)],_,_,(by simp only [A3 w32];rfl),rfl,A2,A3j _ _ _ _ (C0 w32 hv4),(.inl rfl)⟩) ?_
 refine A01 _ (.d (bo (!v4))) rfl (T8 rfl) (fun w33=>(by simp only [A3 w33];rfl)) ?_
 refine sd rfl (A0s rfl rfl (fun hc=>A3 (K9 hc))) (A1 (cc rfl h (fun c2 h=> ?_) (fun c2 h=> ?_)))
 refine lr (fun u7 hu7=>sv rfl (A1 (B3 ?_)))
 cases h
 exact A7 (.inr rfl) (B6 (B4 rfl) E0) (.refl _)
 refine A9 (lr (fun u8 hu8=>sv rfl (A1 (B3 ?_))))
 cases h
 exact A7 (.inr rfl) (B6 (B4 rfl) E0) (.refl _)
noncomputable def A4j (p1:Map)(x4:(Int×Int)):Option (Stp (Int×Int) Int):=
  cond ((decide (x4.2< (p1.Works.length:Int)))&& (x4.1==0)) ((D4 p1.Works x4.2).bind fun v8=>(A5i p1 v8).bind fun v9=>some (.go (v9,(w64 (x4.2+1))))) (some (.out x4.1))
noncomputable def A4k (p1:Map)(x3:(Int×Int)):Option (Stp (Int×Int) Int):=
  cond ((decide (x3.2< (p1.Zones.length:Int)))&& (x3.1==0)) ((D4 p1.Zones x3.2).bind fun v6=>(A5h p1 v6).bind fun v7=>some (.go (v7,(w64 (x3.2+1))))) (some (.out x3.1))
noncomputable def A4l (p1:Map)(x2:(Int×Int)):Option (Stp (Int×Int) Int):=
  cond ((decide (x2.2< (p1.Signals.length:Int)))&& (x2.1==0)) ((D4 p1.Signals x2.2).bind fun v4=>(A3k p1 v4).bind fun v5=>some (.go (v5,(w64 (x2.2+1))))) (some (.out x2.1))
noncomputable def A2z (p1:Map)(x1:Int):Option (Stp Int (Sum Unit Int)):=
  cond (decide (x1< (p1.Lanes.length:Int))) ((A5f p1 x1).bind fun v2=>cond (v2 !=0) (some (.out (.inr v2))) (some (.go (w64 (x1+1))))) (some (.out (.inl ())))
noncomputable def A73 (p1:Map):Option Int:=
  (A2k p1.Version 0 1099511627776).bind fun v1=>cond (!v1) (some 2) (cond ((p1.Lanes.length:Int)==0) (some 6) (cond ((((decide ((p1.Lanes.length:Int)>12))||(decide ((p1.Zones.length:Int)>12)))||(decide ((p1.Signals.length:Int)>4)))||(decide ((p1.Works.length:Int)>8))) (some 8) (thenS (loop (A2z p1) 0) (fun _=>(A5g p1).bind fun v3=>(loop (A4l p1) (v3,0)).bind fun y2=>(loop (A4k p1) (y2,0)).bind fun y3=>(loop (A4j p1) (y3,0)).bind fun y4=>some y4) (fun r=>some r))))
theorem B2j (p1:Map)(r:Int)(h:A73 p1=some r):PCall Tryz.prog 76 [(.agg (A3b p1))] (i64 r):=by
 refine B7 (fk Tryz.func76 Tryz.ntmps76 m0 (by with_unfolding_all rfl)) (nl rfl) ?_
 unfold A73 at h
 refine B5 (s0:=⟨T [(0,(.d _))],G []⟩) (sbr rfl rfl) ?_
 refine lr (fun u1 hu1=>sn rfl rfl (sv rfl (A1 (A6 (lr (fun u2 hu2=>sp rfl rfl (sl rfl G_hit rfl (bs h fun v1 hv1 h=>B0 rfl rfl A2 (A3j _ _ _ _ hv1) (.inl rfl) (C1 (.d (bo (!v1))) rfl rfl (A1 (cc rfl h (fun c1 h=> ?_) (fun c1 h=> ?_))))))))))))
 refine lr (fun u3 hu3=>sv rfl (A1 (B3 ?_)))
 cases h
 exact A7 (.inr rfl) (B6 (B4 rfl) E0) (.refl _)
 refine A9 (A6 (lr (fun u4 hu4=>sp rfl rfl (sl rfl G_hit rfl (sd rfl (E7 rfl) (sv rfl (A1 (cc rfl h (fun c2 h=> ?_) (fun c2 h=> ?_)))))))))
 refine lr (fun u5 hu5=>sv rfl (A1 (B3 ?_)))
 cases h
 exact A7 (.inr rfl) (B6 (B4 rfl) E0) (.refl _)
 refine A9 (A6 (lr (fun u6 hu6=>sp rfl rfl (sl rfl G_hit rfl (sd rfl (E7 rfl) (sv rfl (sv rfl (gp rfl (T8 rfl) (fun _=>rfl) (gf rfl (vl rfl G_hit rfl) (gf rfl (fun w3=>(E7 (A3 w3))) (gf rfl (vb rfl rfl rfl) (sd rfl (A0s rfl rfl (fun hc=>A3 (K9 hc))) (sv rfl (gp rfl (T8 rfl) (fun _=>rfl) (gf rfl (vl rfl G_hit rfl) (gf rfl (fun w7=>(E7 (A3 w7))) (gf rfl (vb rfl rfl rfl) (sd rfl (A0s rfl rfl (fun hc=>A3 (K9 hc))) (sv rfl (gp rfl (T8 rfl) (fun _=>rfl) (gf rfl (vl rfl G_hit rfl) (gf rfl (fun w11=>(E7 (A3 w11))) (gf rfl (vb rfl rfl rfl) (sd rfl (A0s rfl rfl (fun hc=>A3 (K9 hc))) (A1 (cc rfl h (fun c3 h=> ?_) (fun c3 h=> ?_)))))))))))))))))))))))))))
 refine lr (fun u7 hu7=>sv rfl (A1 (B3 ?_)))
 cases h
 exact A7 (.inr rfl) (B6 (B4 rfl) E0) (.refl _)
 refine A9 (A6 (lr (fun u8 hu8=>sv rfl (A1 (js h fun z1 hz1 h=>D7 (fun s=> ∃(y1:Unit) (g1:Unit),z1= .inl y1∧Sb ⟨T [(1,(.ptr (1,u1) 0))],G [((1,u1),some (.box 33 (A09 p1)))]⟩ s) ?_ ?_)))))
 refine A8 (F1 (A2z p1) (fun (x1:Int) (g2:Unit)=>⟨T [(1,(.ptr (1,u1) 0)),(3,(di x1))],G [((1,u1),some (.box 33 (A09 p1)))]⟩) 0 () _ hz1 (sbr rfl rfl) ?_)
 intro x1 g2 z2 hz2 ez2
 unfold A2z at hz2
 refine A6 (lr (fun u9 hu9=>sv rfl (sp rfl rfl (sl rfl G_hit rfl (sd rfl (E7 rfl) (sv rfl (A1 (cc rfl hz2 (fun c4 hz2=> ?_) (fun c4 hz2=> ?_)))))))))
 refine A9 (A6 (A8 (lr (fun u10 hu10=>sd rfl (B2 rfl G_hit rfl rfl) (sv rfl (bs hz2 fun v2 hv2 hz2=>B0 rfl rfl A2 (B85 _ _ _ hv2) (.inl rfl) (sv rfl (A1 (lr (fun u11 hu11=>sv rfl (sv rfl (A1 (cc rfl hz2 (fun c5 hz2=> ?_) (fun c5 hz2=> ?_))))))))))))))
 refine lr (fun u12 hu12=>sv rfl (sv rfl (A1 (B3 ?_))))
 cases hz2
 obtain rfl:=ez2 _ rfl
 refine ⟨nofun,E1 ?_⟩
 rw [Sum.elim_inr]at h
 cases h
 exact A7 (.inr rfl) (B6 (B4 rfl) E0) (.refl _)
 refine A9 (G3 (C8 fun u13 hu13=>sv rfl (sv rfl (sv rfl (A1 (G4 ?_))))))
 cases hz2
 exact ⟨rfl,(),(sbr rfl rfl)⟩
 refine C2 rfl ?_
 cases hz2
 obtain rfl:=ez2 _ rfl
 refine ⟨nofun,B9 rfl (l_j ?_)⟩
 exact ⟨_,(),rfl,(sbr rfl rfl)⟩
 rintro _ ⟨y1,g1,rfl,q1⟩
 rw [Sum.elim_inl]at h
 refine B5 q1 (lr (fun u14 hu14=>sd rfl (B2 rfl G_hit rfl rfl) (bs h fun v3 hv3 h=>B0 rfl rfl A2 (B86 _ _ hv3) (.inl rfl) (sv rfl (A1 (A6 (lr (fun u15 hu15=>sv rfl (A1 (bs h fun y2 hy2 h=>D7 (fun s=> ∃g3:Unit,Sb ⟨T [(1,(.ptr (1,u1) 0)),(5,(di y2))],G [((1,u1),some (.box 33 (A09 p1)))]⟩ s) ?_ ?_))))))))))
 refine A8 (F1 (A4l p1) (fun (x2:(Int×Int)) (g4:Unit)=>⟨T [(1,(.ptr (1,u1) 0)),(5,(di x2.1)),(6,(di x2.2))],G [((1,u1),some (.box 33 (A09 p1)))]⟩) (v3,0) () _ hy2 (sbr rfl rfl) ?_)
 intro x2 g4 z3 hz3 ez3
 unfold A4l at hz3
 refine A6 (lr (fun u16 hu16=>sv rfl (sp rfl rfl (sl rfl G_hit rfl (sd rfl (E7 rfl) (sv rfl (sv rfl (gt rfl (fun _=>rfl) (gt rfl (vb rfl rfl rfl) (sa rfl rfl rfl (A1 (cc rfl hz3 (fun c6 hz3=> ?_) (fun c6 hz3=> ?_)))))))))))))
 refine A9 (A6 (A8 (I0 rfl fun u17 hu17=>sd rfl (B2 rfl G_hit rfl rfl) (sp rfl rfl (sl rfl G_hit rfl (sv rfl (bs hz3 fun v4 hv4 hz3=>sd rfl (E2 rfl rfl hv4 rfl) (sd rfl (C3 rfl hv4 rfl rfl) (bs hz3 fun v5 hv5 hz3=>B0 rfl rfl A2 (B62 _ _ _ hv5) (.inl rfl) (sv rfl (A1 (G3 (C8 fun u18 hu18=>sv rfl (sv rfl (sv rfl (A1 (G4 ?_)))))))))))))))))
 cases hz3
 exact ⟨rfl,(),(sbr rfl rfl)⟩
 refine C2 rfl ?_
 cases hz3
 obtain rfl:=ez3 _ rfl
 refine ⟨nofun,B9 rfl (l_j ?_)⟩
 exact ⟨(),(sbr rfl rfl)⟩
 rintro _ ⟨g3,q2⟩
 refine B5 q2 (A6 (lr (fun u19 hu19=>sv rfl (A1 (bs h fun y3 hy3 h=>D7 (fun s=> ∃g5:Unit,Sb ⟨T [(1,(.ptr (1,u1) 0)),(5,(di y3))],G [((1,u1),some (.box 33 (A09 p1)))]⟩ s) ?_ ?_)))))
 refine A8 (F1 (A4k p1) (fun (x3:(Int×Int)) (g6:Unit)=>⟨T [(1,(.ptr (1,u1) 0)),(5,(di x3.1)),(7,(di x3.2))],G [((1,u1),some (.box 33 (A09 p1)))]⟩) (y2,0) () _ hy3 (sbr rfl rfl) ?_)
 intro x3 g6 z4 hz4 ez4
 unfold A4k at hz4
 refine A6 (lr (fun u20 hu20=>sv rfl (sp rfl rfl (sl rfl G_hit rfl (sd rfl (E7 rfl) (sv rfl (sv rfl (gt rfl (fun _=>rfl) (gt rfl (vb rfl rfl rfl) (sa rfl rfl rfl (A1 (cc rfl hz4 (fun c7 hz4=> ?_) (fun c7 hz4=> ?_)))))))))))))
 refine A9 (A6 (A8 (I0 rfl fun u21 hu21=>sd rfl (B2 rfl G_hit rfl rfl) (sp rfl rfl (sl rfl G_hit rfl (sv rfl (bs hz4 fun v6 hv6 hz4=>sd rfl (E2 rfl rfl hv6 rfl) (sd rfl (C3 rfl hv6 rfl rfl) (bs hz4 fun v7 hv7 hz4=>B0 rfl rfl A2 (B87 _ _ _ hv7) (.inl rfl) (sv rfl (A1 (G3 (C8 fun u22 hu22=>sv rfl (sv rfl (sv rfl (A1 (G4 ?_)))))))))))))))))
 cases hz4
 exact ⟨rfl,(),(sbr rfl rfl)⟩
 refine C2 rfl ?_
 cases hz4
 obtain rfl:=ez4 _ rfl
 refine ⟨nofun,B9 rfl (l_j ?_)⟩
 exact ⟨(),(sbr rfl rfl)⟩
 rintro _ ⟨g5,q3⟩
 refine B5 q3 (A6 (lr (fun u23 hu23=>sv rfl (A1 (bs h fun y4 hy4 h=>D7 (fun s=> ∃g7:Unit,Sb ⟨T [(5,(di y4))],G []⟩ s) ?_ ?_)))))
 refine A8 (F1 (A4j p1) (fun (x4:(Int×Int)) (g8:Unit)=>⟨T [(1,(.ptr (1,u1) 0)),(5,(di x4.1)),(8,(di x4.2))],G [((1,u1),some (.box 33 (A09 p1)))]⟩) (y3,0) () _ hy4 (sbr rfl rfl) ?_)
 intro x4 g8 z5 hz5 ez5
 unfold A4j at hz5
 refine A6 (lr (fun u24 hu24=>sv rfl (sp rfl rfl (sl rfl G_hit rfl (sd rfl (E7 rfl) (sv rfl (sv rfl (gt rfl (fun _=>rfl) (gt rfl (vb rfl rfl rfl) (sa rfl rfl rfl (A1 (cc rfl hz5 (fun c8 hz5=> ?_) (fun c8 hz5=> ?_)))))))))))))
 refine A9 (A6 (A8 (I0 rfl fun u25 hu25=>sd rfl (B2 rfl G_hit rfl rfl) (sp rfl rfl (sl rfl G_hit rfl (sv rfl (bs hz5 fun v8 hv8 hz5=>sd rfl (E2 rfl rfl hv8 rfl) (sd rfl (C3 rfl hv8 rfl rfl) (bs hz5 fun v9 hv9 hz5=>B0 rfl rfl A2 (B88 _ _ _ hv9) (.inl rfl) (sv rfl (A1 (G3 (C8 fun u26 hu26=>sv rfl (sv rfl (sv rfl (A1 (G4 ?_)))))))))))))))))
 cases hz5
 exact ⟨rfl,(),(sbr rfl rfl)⟩
 refine C2 rfl ?_
 cases hz5
 obtain rfl:=ez5 _ rfl
 refine ⟨nofun,B9 rfl (l_j ?_)⟩
 exact ⟨(),(sbr rfl rfl)⟩
 rintro _ ⟨g7,q4⟩
 refine B5 q4 (lr (fun u27 hu27=>sv rfl (sv rfl (A1 (B3 ?_)))))
 cases h
 exact A7 (.inr rfl) (B6 (B4 rfl) E0) (.refl _)
noncomputable def A9g (p1:(List Int))(p2:Int)(x1:Int):Option (Stp Int (Sum Unit Bool)):=
  cond (decide (x1< (p1.length:Int))) ((D4 p1 x1).bind fun v1=>cond (v1==p2) (some (.out (.inr true))) (some (.go (w64 (x1+1))))) (some (.out (.inl ())))
noncomputable def B1a (p1:(List Int))(p2:Int):Option Bool:=
  thenS (loop (A9g p1 p2) 0) (fun _=>some false) (fun r=>some r)
theorem B4z (p1:(List Int))(p2:Int)(r:Bool)(h:B1a p1 p2=some r):PCall Tryz.prog 190 [(.list (List.map A4 p1)),(i64 p2)] (bo r):=by
 refine B7 (fk Tryz.func190 Tryz.ntmps190 m0 (by with_unfolding_all rfl)) (nl rfl) ?_
 unfold B1a at h
 refine B5 (s0:=⟨T [(0,(.d _)),(1,(.d _))],G []⟩) (sbr rfl rfl) ?_
 refine lr (fun u1 hu1=>sv rfl (A1 (A6 (lr (fun u2 hu2=>sv rfl (A1 (js h fun z1 hz1 h=>D7 (fun s=> ∃(y1:Unit) (g1:Unit),z1= .inl y1∧Sb ⟨T [],G []⟩ s) ?_ ?_)))))))
 refine A8 (F1 (A9g p1 p2) (fun (x1:Int) (g2:Unit)=>⟨T [(0,(dl A4 p1)),(1,(di p2)),(5,(di x1))],G []⟩) 0 () _ hz1 (sbr rfl rfl) ?_)
 intro x1 g2 z2 hz2 ez2
 unfold A9g at hz2
 refine A6 (lr (fun u3 hu3=>sv rfl (sv rfl (sd rfl (E7 rfl) (sv rfl (A1 (cc rfl hz2 (fun c1 hz2=> ?_) (fun c1 hz2=> ?_))))))))
 refine A9 (A6 (A8 (lr (fun u4 hu4=>sv rfl (sv rfl (bs hz2 fun v1 hv1 hz2=>sd rfl (E2 rfl rfl hv1 rfl) (sd rfl (D9 rfl hv1 rfl) (sv rfl (sv rfl (A1 (cc rfl hz2 (fun c2 hz2=> ?_) (fun c2 hz2=> ?_))))))))))))
 refine lr (fun u5 hu5=>sv rfl (A1 (B3 ?_)))
 cases hz2
 obtain rfl:=ez2 _ rfl
 refine ⟨nofun,E1 ?_⟩
 rw [Sum.elim_inr]at h
 cases h
 exact A7 (.inr rfl) (B6 (B4 rfl) E0) (.refl _)
 refine A9 (G3 (C8 fun u6 hu6=>sv rfl (sv rfl (sv rfl (A1 (G4 ?_))))))
 cases hz2
 exact ⟨rfl,(),(sbr rfl rfl)⟩
 refine C2 rfl ?_
 cases hz2
 obtain rfl:=ez2 _ rfl
 refine ⟨nofun,B9 rfl (l_j ?_)⟩
 exact ⟨_,(),rfl,(sbr rfl rfl)⟩
 rintro _ ⟨y1,g1,rfl,q1⟩
 rw [Sum.elim_inl]at h
 refine B5 q1 (lr (fun u7 hu7=>sv rfl (A1 (B3 ?_))))
 cases h
 exact A7 (.inr rfl) (B6 (B4 rfl) E0) (.refl _)
noncomputable def A5j (p1:Map)(p2:Int)(x1:((List Int)×Int)):Option (Stp ((List Int)×Int) (List Int)):=
  cond (decide (x1.2< (p1.Lanes.length:Int))) ((D4 p1.Lanes x1.2).bind fun v1=>(B1a v1.Next p2).bind fun v2=>cond v2 ((A7p x1.1 [x1.2]).bind fun v3=>some (.go (v3,(w64 (x1.2+1))))) (some (.go (x1.1,(w64 (x1.2+1)))))) (some (.out x1.1))
noncomputable def A9h (p1:Map)(p2:Int):Option (List Int):=
  (loop (A5j p1 p2) ([],0)).bind fun y1=>some y1
theorem C21 (p1:Map)(p2:Int)(r:(List Int))(h:A9h p1 p2=some r):PCall Tryz.prog 189 [(.agg (A3b p1)),(i64 p2)] (.list (List.map A4 r)):=by
 refine B7 (fk Tryz.func189 Tryz.ntmps189 (fun r=>if r==6 then [1002]else []) (by with_unfolding_all rfl)) (nl rfl) ?_
 unfold A9h at h
 refine B5 (s0:=⟨T [(0,(.d _)),(1,(.d _))],G []⟩) (sbr rfl rfl) ?_
 refine lr (fun u1 hu1=>sn rfl rfl (sv rfl (A1 (lr (fun u2 hu2=>sv rfl (A1 (A6 (lr (fun u3 hu3=>sv rfl (A1 (bs h fun y1 hy1 h=>D7 (fun s=> ∃g1:Nat,Sb ⟨T [(5,(oS y1 (25,g1)))],G [((25,g1),oB 3 1 A4 y1)]⟩ s) ?_ ?_)))))))))))
 refine A8 (F1 (A5j p1 p2) (fun (x1:((List Int)×Int)) (g2:Nat)=>⟨T [(1,(di p2)),(2,(.ptr (2,u1) 0)),(5,(oS x1.1 (25,g2))),(6,(di x1.2))],G [((2,u1),some (.box 33 (A09 p1))),((25,g2),oB 3 1 A4 x1.1)]⟩) ([],0) 0 _ hy1 (H9 ⟨.of rfl, .of rfl, .of rfl, .of rfl,trivial⟩ (B1 G_hit (.of rfl) (A04 trivial))) ?_)
 intro x1 g2 z1 hz1 ez1
 unfold A5j at hz1
 refine A6 (lr (fun u4 hu4=>sv rfl (sp rfl rfl (sl rfl G_hit rfl (sd rfl (E7 rfl) (sv rfl (A1 (cc rfl hz1 (fun c1 hz1=> ?_) (fun c1 hz1=> ?_)))))))))
 refine A9 (A6 (A8 (lr (fun u5 hu5=>sp rfl rfl (sl rfl G_hit rfl (sv rfl (bs hz1 fun v1 hv1 hz1=>sd rfl (E2 rfl rfl hv1 rfl) (sv rfl (sd rfl (D9 rfl hv1 rfl) (sv rfl (bs hz1 fun v2 hv2 hz1=>B0 rfl rfl A2 (B4z _ _ _ hv2) (.inl rfl) (A1 (cc rfl hz1 (fun c2 hz1=> ?_) (fun c2 hz1=> ?_))))))))))))))
 refine C8 fun u6 hu6=>C1 (oS x1.1 (25,g2)) rfl rfl (sv rfl (C1 (dl A4 [x1.2]) rfl rfl (bs hz1 fun v3 hv3 hz1=>Z3 A4 (25,g2) x1.1 x1.2 [] _ (O0 (fun _=>rfl)) rfl (gq rfl) hv3 (ss rfl (A1 (G3 (C8 fun u7 hu7=>sv rfl (sv rfl (sv rfl (A1 (G4 ?_)))))))))))
 cases hz1
 exact ⟨rfl,u6,(H9 ⟨.of rfl, .of rfl,(.of (A3p (A21 hv3)).symm), .of rfl,trivial⟩ (sg rfl (U5 G_hit trivial)))⟩
 refine A9 (G3 (C8 fun u8 hu8=>sv rfl (sv rfl (sv rfl (A1 (G4 ?_))))))
 cases hz1
 exact ⟨rfl,g2,(H9 ⟨.of rfl, .of rfl, .of rfl, .of rfl,trivial⟩ (B1 G_hit (.of rfl) (B8 (gq rfl) trivial)))⟩
 refine C2 rfl ?_
 cases hz1
 obtain rfl:=ez1 _ rfl
 refine ⟨nofun,B9 rfl (l_j ?_)⟩
 exact ⟨g2,(H9 ⟨.of rfl,trivial⟩ (B8 (gq rfl) trivial))⟩
 rintro _ ⟨g1,q1⟩
 refine B5 q1 (lr (fun u9 hu9=>C1 (oS y1 (25,g1)) rfl rfl (C1 (oS y1 (25,g1)) rfl rfl (A1 (B3 ?_)))))
 cases h
 exact A7 (.inr rfl) (B6 (B4 rfl) (A2r G_hit)) A2q
noncomputable def X8 (p1:Map)(p2:(List Int))(x1:Int):Option (Stp Int (Sum Unit Int)):=
  cond (decide (x1< (p2.length:Int))) ((D4 p2 (w64 (x1 - 1))).bind fun v6=>(D4 p1.Lanes v6).bind fun v7=>(D4 p2 x1).bind fun v8=>(B1a v7.Next v8).bind fun v9=>cond (!v9) (some (.out (.inr 13))) (some (.go (w64 (x1+1))))) (some (.out (.inl ())))
noncomputable def A12 (p1:Map)(p2:(List Int)):Option Int:=
  (A73 p1).bind fun v1=>cond (v1 !=0) (some v1) (((cond (!(((p2.length:Int)==0)||(decide ((p2.length:Int)>8)))) (D4 p2 0) (some default))).bind fun v2=>((cond (!((((p2.length:Int)==0)||(decide ((p2.length:Int)>8)))||(decide (v2<0)))) (D4 p2 0) (some default))).bind fun v3=>((cond (!(((((p2.length:Int)==0)||(decide ((p2.length:Int)>8)))||(decide (v2<0)))||(decide (v3≥(p1.Lanes.length:Int))))) (D4 p2 0) (some default))).bind fun v4=>((cond (!(((((p2.length:Int)==0)||(decide ((p2.length:Int)>8)))||(decide (v2<0)))||(decide (v3≥(p1.Lanes.length:Int))))) (A9h p1 v4) (some default))).bind fun v5=>cond ((((((p2.length:Int)==0)||(decide ((p2.length:Int)>8)))||(decide (v2<0)))||(decide (v3≥(p1.Lanes.length:Int))))||(decide ((v5.length:Int)>0))) (some 13) (thenS (loop (X8 p1 p2) 1) (fun _=>some 0) (fun r=>some r)))
theorem A74 (p1:Map)(p2:(List Int))(r:Int)(h:A12 p1 p2=some r):PCall Tryz.prog 102 [(.agg (A3b p1)),(.list (List.map A4 p2))] (i64 r):=by
 refine B7 (fk Tryz.func102 Tryz.ntmps102 m0 (by with_unfolding_all rfl)) (nl rfl) ?_
 unfold A12 at h
 refine B5 (s0:=⟨T [(0,(.d _)),(1,(.d _))],G []⟩) (sbr rfl rfl) ?_
 refine lr (fun u1 hu1=>sn rfl rfl (sv rfl (A1 (lr (fun u2 hu2=>sd rfl (B2 rfl G_hit rfl rfl) (bs h fun v1 hv1 h=>B0 rfl rfl A2 (B2j _ _ hv1) (.inl rfl) (sv rfl (A1 (A6 (lr (fun u3 hu3=>sv rfl (sv rfl (A1 (cc rfl h (fun c1 h=> ?_) (fun c1 h=> ?_)))))))))))))))
 refine lr (fun u4 hu4=>sv rfl (sv rfl (A1 (B3 ?_))))
 cases h
 exact A7 (.inr rfl) (B6 (B4 rfl) E0) (.refl _)
 refine A9 (A6 (A6 (I0 rfl fun u5 hu5=>sv rfl (sd rfl (E7 rfl) (sv rfl (sv rfl (gf rfl (fun _=>rfl) (gf rfl (fun w2=>(E7 (A3 w2))) (gf rfl (vb rfl rfl rfl) (sd rfl (A0s rfl rfl (fun hc=>A3 (K9 hc))) (sv rfl (gf rfl (fun _=>rfl) (bs h fun v2 hv2 h=>gf rfl (fun w5=>(E2 (A3 w5) rfl (C0 w5 hv2) rfl)) (gf rfl (fun w6=>(D9 (A3 w6) (C0 w6 hv2) rfl)) (gf rfl (vb rfl rfl rfl) (sd rfl (A0s rfl rfl (fun hc=>A3 (K9 hc))) (sv rfl (gf rfl (fun _=>rfl) (bs h fun v3 hv3 h=>gf rfl (fun w9=>(E2 (A3 w9) rfl (C0 w9 hv3) rfl)) (gf rfl (fun w10=>(D9 (A3 w10) (C0 w10 hv3) rfl)) (gp rfl (T8 rfl) (fun _=>rfl) (gf rfl (vl rfl G_hit rfl) (gf rfl (fun w13=>(E7 (A3 w13))) (gf rfl (fun w14=>(S3 (A3 w14) (A3 w14) rfl)) (sd rfl (A0s rfl rfl (fun hc=>A3 (K9 hc))) (sv rfl (gf rfl (fun w15=>(B2 rfl G_hit rfl rfl)) (gf rfl (fun _=>rfl) (bs h fun v4 hv4 h=>gf rfl (fun w17=>(E2 (A3 w17) rfl (C0 w17 hv4) rfl)) (gf rfl (fun w18=>(D9 (A3 w18) (C0 w18 hv4) rfl)) (bs h fun v5 hv5 h=> ?_)))))))))))))))))))))))))))))))
 refine S4 _ (.list (List.map A4 v5)) (T8 rfl) (fun w19=>⟨_,[(.d (.agg (A3b p1))),(di v4)],_,_,(by simp only [A3 w19];rfl),rfl,A2,C21 _ _ _ (C0 w19 hv5),(.inl rfl)⟩) ?_
 refine gf rfl (fun w20=>(E7 (A3 w20))) (gf rfl (vb rfl rfl rfl) (sd rfl (A0s rfl rfl (fun hc=>A3 (K9 hc))) (A1 (cc rfl h (fun c2 h=> ?_) (fun c2 h=> ?_)))))
 refine lr (fun u6 hu6=>sv rfl (A1 (B3 ?_)))
 cases h
 exact A7 (.inr rfl) (B6 (B4 rfl) E0) (.refl _)
 refine A9 (A6 (lr (fun u7 hu7=>sv rfl (A1 (js h fun z1 hz1 h=>D7 (fun s=> ∃(y1:Unit) (g1:Unit),z1= .inl y1∧Sb ⟨T [],G []⟩ s) ?_ ?_)))))
 refine A8 (F1 (X8 p1 p2) (fun (x1:Int) (g2:Unit)=>⟨T [(1,(dl A4 p2)),(2,(.ptr (2,u1) 0)),(6,(di x1))],G [((2,u1),some (.box 33 (A09 p1)))]⟩) 1 () _ hz1 (sbr rfl rfl) ?_)
 intro x1 g2 z2 hz2 ez2
 unfold X8 at hz2
 refine A6 (lr (fun u8 hu8=>sv rfl (sv rfl (sd rfl (E7 rfl) (sv rfl (A1 (cc rfl hz2 (fun c3 hz2=> ?_) (fun c3 hz2=> ?_))))))))
 refine A9 (A6 (A8 (A6 (I0 rfl fun u9 hu9=>sp rfl rfl (sl rfl G_hit rfl (sv rfl (sv rfl (sv rfl (bs hz2 fun v6 hv6 hz2=>sd rfl (E2 rfl rfl hv6 rfl) (sd rfl (D9 rfl hv6 rfl) (bs hz2 fun v7 hv7 hz2=>sd rfl (E2 rfl rfl hv7 rfl) (sv rfl (sd rfl (D9 rfl hv7 rfl) (sv rfl (sv rfl (bs hz2 fun v8 hv8 hz2=>sd rfl (E2 rfl rfl hv8 rfl) (sd rfl (D9 rfl hv8 rfl) (bs hz2 fun v9 hv9 hz2=>B0 rfl rfl A2 (B4z _ _ _ hv9) (.inl rfl) (C1 (.d (bo (!v9))) rfl rfl (A1 (cc rfl hz2 (fun c4 hz2=> ?_) (fun c4 hz2=> ?_))))))))))))))))))))))
 refine lr (fun u10 hu10=>sv rfl (A1 (B3 ?_)))
 cases hz2
 obtain rfl:=ez2 _ rfl
 refine ⟨nofun,E1 ?_⟩
 rw [Sum.elim_inr]at h
 cases h
 exact A7 (.inr rfl) (B6 (B4 rfl) E0) (.refl _)
 refine A9 (G3 (C8 fun u11 hu11=>sv rfl (sv rfl (sv rfl (A1 (G4 ?_))))))
 cases hz2
 exact ⟨rfl,(),(sbr rfl rfl)⟩
 refine C2 rfl ?_
 cases hz2
 obtain rfl:=ez2 _ rfl
 refine ⟨nofun,B9 rfl (l_j ?_)⟩
 exact ⟨_,(),rfl,(sbr rfl rfl)⟩
 rintro _ ⟨y1,g1,rfl,q1⟩
 rw [Sum.elim_inl]at h
 refine B5 q1 (lr (fun u12 hu12=>sv rfl (A1 (B3 ?_))))
 cases h
 exact A7 (.inr rfl) (B6 (B4 rfl) E0) (.refl _)
noncomputable def A7g (p1:Map)(p2:Int):Option Int:=
  (D4 p1.Lanes p2).bind fun v1=>(A3s v1.Curve_).bind fun v2=>some v2
theorem B50 (p1:Map)(p2:Int)(r:Int)(h:A7g p1 p2=some r):PCall Tryz.prog 195 [(.agg (A3b p1)),(i64 p2)] (i64 r):=by
 refine B7 (fk Tryz.func195 Tryz.ntmps195 m0 (by with_unfolding_all rfl)) (nl rfl) ?_
 unfold A7g at h
 refine B5 (s0:=⟨T [(0,(.d _)),(1,(.d _))],G []⟩) (sbr rfl rfl) ?_
 refine lr (fun u1 hu1=>sn rfl rfl (sv rfl (A1 (lr (fun u2 hu2=>sp rfl rfl (sl rfl G_hit rfl (sv rfl (bs h fun v1 hv1 h=>sd rfl (E2 rfl rfl hv1 rfl) (sv rfl (sd rfl (C3 rfl hv1 rfl rfl) (bs h fun v2 hv2 h=>B0 rfl rfl A2 (B19 _ _ hv2) (.inl rfl) (sv rfl (A1 (B3 ?_))))))))))))))
 cases h
 exact A7 (.inr rfl) (B6 (B4 rfl) E0) (.refl _)
noncomputable def A1w (p1:Map)(p2:(List Int))(x1:((List Int)×Int×Int)):Option (Stp ((List Int)×Int×Int) ((List Int)×Int)):=
  cond (decide (x1.2.2< (p2.length:Int))) ((A7p x1.1 [x1.2.1]).bind fun v1=>(D4 p2 x1.2.2).bind fun v2=>(A7g p1 v2).bind fun v3=>some (.go (v1,(w64 (x1.2.1+v3)),(w64 (x1.2.2+1))))) (some (.out (x1.1,x1.2.1)))
noncomputable def A7h (p1:Map)(p2:(List Int)):Option ((List Int)×Int):=
  (loop (A1w p1 p2) ([],0,0)).bind fun y1=>some (y1.1,y1.2)
theorem B51 (p1:Map)(p2:(List Int))(r:((List Int)×Int))(h:A7h p1 p2=some r):PCall Tryz.prog 186 [(.agg (A3b p1)),(.list (List.map A4 p2))] (.tup [(.list (List.map A4 r.1)),(i64 r.2)]):=by
 refine B7 (fk Tryz.func186 Tryz.ntmps186 (fun r=>if r==6 then [1002]else []) (by with_unfolding_all rfl)) (nl rfl) ?_
 unfold A7h at h
 refine B5 (s0:=⟨T [(0,(.d _)),(1,(.d _))],G []⟩) (sbr rfl rfl) ?_
 refine lr (fun u1 hu1=>sn rfl rfl (sv rfl (sv rfl (A1 (lr (fun u2 hu2=>sv rfl (A1 (lr (fun u3 hu3=>sv rfl (A1 (A6 (lr (fun u4 hu4=>sv rfl (A1 (bs h fun y1 hy1 h=>D7 (fun s=> ∃g1:Nat,Sb ⟨T [(6,(oS y1.1 (18,g1))),(7,(di y1.2))],G [((18,g1),oB 2 1 A4 y1.1)]⟩ s) ?_ ?_)))))))))))))))
 refine A8 (F1 (A1w p1 p2) (fun (x1:((List Int)×Int×Int)) (g2:Nat)=>⟨T [(1,(dl A4 p2)),(2,(.ptr (2,u1) 0)),(6,(oS x1.1 (18,g2))),(7,(di x1.2.1)),(8,(di x1.2.2))],G [((2,u1),some (.box 33 (A09 p1))),((18,g2),oB 2 1 A4 x1.1)]⟩) ([],0,0) 0 _ hy1 (H9 ⟨.of rfl, .of rfl, .of rfl, .of rfl, .of rfl,trivial⟩ (B1 G_hit (.of rfl) (A04 trivial))) ?_)
 intro x1 g2 z1 hz1 ez1
 unfold A1w at hz1
 refine A6 (lr (fun u5 hu5=>sv rfl (sv rfl (sd rfl (E7 rfl) (sv rfl (A1 (cc rfl hz1 (fun c1 hz1=> ?_) (fun c1 hz1=> ?_))))))))
 refine A9 (A6 (A8 (lr (fun u6 hu6=>C1 (oS x1.1 (18,g2)) rfl rfl (sv rfl (C1 (dl A4 [x1.2.1]) rfl rfl (bs hz1 fun v1 hv1 hz1=>Z3 A4 (18,g2) x1.1 x1.2.1 [] _ (O0 (fun _=>rfl)) rfl (gq rfl) hv1 (ss rfl (A1 (I0 rfl fun u7 hu7=>sv rfl (sd rfl (B2 rfl (gq rfl) rfl rfl) (sv rfl (sv rfl (bs hz1 fun v2 hv2 hz1=>sd rfl (E2 rfl rfl hv2 rfl) (sd rfl (D9 rfl hv2 rfl) (bs hz1 fun v3 hv3 hz1=>B0 rfl rfl A2 (B50 _ _ _ hv3) (.inl rfl) (sv rfl (sv rfl (A1 (G3 (C8 fun u8 hu8=>sv rfl (sv rfl (sv rfl (A1 (G4 ?_)))))))))))))))))))))))))
 cases hz1
 exact ⟨rfl,u6,(H9 ⟨.of rfl, .of rfl,(.of (A3p (A21 hv1)).symm), .of rfl, .of rfl,trivial⟩ (sg rfl (U5 G_hit trivial)))⟩
 refine C2 rfl ?_
 cases hz1
 obtain rfl:=ez1 _ rfl
 refine ⟨nofun,B9 rfl (l_j ?_)⟩
 exact ⟨g2,(H9 ⟨.of rfl, .of rfl,trivial⟩ (B8 (gq rfl) trivial))⟩
 rintro _ ⟨g1,q1⟩
 refine B5 q1 (lr (fun u9 hu9=>C1 (oS y1.1 (18,g1)) rfl rfl (sv rfl (C1 (oS y1.1 (18,g1)) rfl rfl (sv rfl (A1 (B3 ?_)))))))
 cases h
 exact A7 (.inr rfl) (B5w (B4 rfl) (B4 rfl) (A2r G_hit) E0) (.tup (.cons A2q A2))
noncomputable def A1m (p1:Map)(p2:(List Int)):Option Int:=
  (A12 p1 p2).bind fun v1=>cond (v1 !=0) (some 0) ((A7h p1 p2).bind fun v2=>some v2.2)
theorem B06 (p1:Map)(p2:(List Int))(r:Int)(h:A1m p1 p2=some r):PCall Tryz.prog 97 [(.agg (A3b p1)),(.list (List.map A4 p2))] (i64 r):=by
 refine B7 (fk Tryz.func97 Tryz.ntmps97 m0 (by with_unfolding_all rfl)) (nl rfl) ?_
 unfold A1m at h
 refine B5 (s0:=⟨T [(0,(.d _)),(1,(.d _))],G []⟩) (sbr rfl rfl) ?_
 refine lr (fun u1 hu1=>sn rfl rfl (sv rfl (A1 (A6 (lr (fun u2 hu2=>sd rfl (B2 rfl G_hit rfl rfl) (sv rfl (bs h fun v1 hv1 h=>B0 rfl rfl A2 (A74 _ _ _ hv1) (.inl rfl) (sv rfl (A1 (cc rfl h (fun c1 h=> ?_) (fun c1 h=> ?_))))))))))))
 refine lr (fun u3 hu3=>sv rfl (A1 (B3 ?_)))
 cases h
 exact A7 (.inr rfl) (B6 (B4 rfl) E0) (.refl _)
 refine A9 (lr (fun u4 hu4=>sd rfl (B2 rfl G_hit rfl rfl) (sv rfl (bs h fun v2 hv2 h=>B0 rfl rfl A2 (B51 _ _ _ hv2) (.inl rfl) (sv rfl (sv rfl (sv rfl (sv rfl (sv rfl (A1 (lr (fun u5 hu5=>sv rfl (sv rfl (A1 (B3 ?_)))))))))))))))
 cases h
 exact A7 (.inr rfl) (B6 (B4 rfl) E0) (.refl _)
noncomputable def A9i (p1:Map)(p2:(List Int)):Option (List Int):=
  (A12 p1 p2).bind fun v1=>cond (v1 !=0) (some []) ((A7h p1 p2).bind fun v2=>some v2.1)
theorem C22 (p1:Map)(p2:(List Int))(r:(List Int))(h:A9i p1 p2=some r):PCall Tryz.prog 96 [(.agg (A3b p1)),(.list (List.map A4 p2))] (.list (List.map A4 r)):=by
 refine B7 (fk Tryz.func96 Tryz.ntmps96 m0 (by with_unfolding_all rfl)) (nl rfl) ?_
 unfold A9i at h
 refine B5 (s0:=⟨T [(0,(.d _)),(1,(.d _))],G []⟩) (sbr rfl rfl) ?_
 refine lr (fun u1 hu1=>sn rfl rfl (sv rfl (A1 (A6 (lr (fun u2 hu2=>sd rfl (B2 rfl G_hit rfl rfl) (sv rfl (bs h fun v1 hv1 h=>B0 rfl rfl A2 (A74 _ _ _ hv1) (.inl rfl) (sv rfl (A1 (cc rfl h (fun c1 h=> ?_) (fun c1 h=> ?_))))))))))))
 refine lr (fun u3 hu3=>sv rfl (A1 (B3 ?_)))
 cases h
 exact A7 (.inr rfl) (B6 (B4 rfl) E0) DLe.nil
 refine A9 (lr (fun u4 hu4=>sd rfl (B2 rfl G_hit rfl rfl) (sv rfl (bs h fun v2 hv2 h=>B0 rfl rfl A2 (B51 _ _ _ hv2) (.inl rfl) (sv rfl (sv rfl (sv rfl (sv rfl (sv rfl (A1 (lr (fun u5 hu5=>sv rfl (sv rfl (A1 (B3 ?_)))))))))))))))
 cases h
 exact A7 (.inr rfl) (B6 (B4 rfl) E0) (.refl _)
noncomputable def A44 (p2:Agent)(v1:(List Int))(x1:(Int×Int)):Option (Stp (Int×Int) Int):=
  cond (decide (x1.2< (v1.length:Int))) ((D4 v1 x1.2).bind fun v2=>cond (decide (v2≤p2.S)) (some (.go (x1.2,(w64 (x1.2+1))))) (some (.go (x1.1,(w64 (x1.2+1)))))) (some (.out x1.1))
noncomputable def B0k (p1:Map)(p2:Agent):Option (Int×Int):=
  (A9i p1 p2.Route).bind fun v1=>(loop (A44 p2 v1) (0,0)).bind fun y1=>(D4 p2.Route y1).bind fun v3=>(D4 v1 y1).bind fun v4=>some (v3,(w64 (p2.S - v4)))
theorem B89 (p1:Map)(p2:Agent)(r:(Int×Int))(h:B0k p1 p2=some r):PCall Tryz.prog 168 [(.agg (A3b p1)),(.agg (D8 p2))] (.tup [(i64 r.1),(i64 r.2)]):=by
 refine B7 (fk Tryz.func168 Tryz.ntmps168 m0 (by with_unfolding_all rfl)) (nl rfl) ?_
 unfold B0k at h
 refine B5 (s0:=⟨T [(0,(.d _)),(1,(.d _))],G []⟩) (sbr rfl rfl) ?_
 refine lr (fun u1 hu1=>sn rfl rfl (sn rfl rfl (sv rfl (sv rfl (A1 (lr (fun u2 hu2=>sd rfl (B2 rfl (gq rfl) rfl rfl) (sp rfl rfl (sl rfl G_hit rfl (bs h fun v1 hv1 h=>B0 rfl rfl A2 (C22 _ _ _ hv1) (.inl rfl) (sv rfl (A1 (lr (fun u3 hu3=>sv rfl (A1 (A6 (lr (fun u4 hu4=>sv rfl (A1 (bs h fun y1 hy1 h=>D7 (fun s=> ∃g1:Unit,Sb ⟨T [(3,(.ptr (3,u1) 0)),(6,(dl A4 v1)),(7,(di y1))],G [((3,u1),some (.box 45 (V4 p2)))]⟩ s) ?_ ?_))))))))))))))))))))
 refine A8 (F1 (A44 p2 v1) (fun (x1:(Int×Int)) (g2:Unit)=>⟨T [(3,(.ptr (3,u1) 0)),(6,(dl A4 v1)),(7,(di x1.1)),(8,(di x1.2))],G [((3,u1),some (.box 45 (V4 p2)))]⟩) (0,0) () _ hy1 (sbr rfl rfl) ?_)
 intro x1 g2 z1 hz1 ez1
 unfold A44 at hz1
 refine A6 (lr (fun u5 hu5=>sv rfl (sv rfl (sd rfl (E7 rfl) (sv rfl (A1 (cc rfl hz1 (fun c1 hz1=> ?_) (fun c1 hz1=> ?_))))))))
 refine A9 (A6 (A8 (A6 (I0 rfl fun u6 hu6=>sv rfl (sv rfl (bs hz1 fun v2 hv2 hz1=>sd rfl (E2 rfl rfl hv2 rfl) (sd rfl (D9 rfl hv2 rfl) (sp rfl rfl (sl rfl G_hit rfl (sv rfl (A1 (cc rfl hz1 (fun c2 hz1=> ?_) (fun c2 hz1=> ?_)))))))))))))
 refine C8 fun u7 hu7=>sv rfl (sv rfl (A1 (G3 (C8 fun u8 hu8=>sv rfl (sv rfl (sv rfl (A1 (G4 ?_))))))))
 cases hz1
 exact ⟨rfl,(),(sbr rfl rfl)⟩
 refine A9 (G3 (C8 fun u9 hu9=>sv rfl (sv rfl (sv rfl (A1 (G4 ?_))))))
 cases hz1
 exact ⟨rfl,(),(sbr rfl rfl)⟩
 refine C2 rfl ?_
 cases hz1
 obtain rfl:=ez1 _ rfl
 refine ⟨nofun,B9 rfl (l_j ?_)⟩
 exact ⟨(),(sbr rfl rfl)⟩
 rintro _ ⟨g1,q1⟩
 refine B5 q1 (A6 (I0 rfl fun u10 hu10=>sp rfl rfl (sl rfl G_hit rfl (sv rfl (bs h fun v3 hv3 h=>sd rfl (E2 rfl rfl hv3 rfl) (sd rfl (D9 rfl hv3 rfl) (sp rfl rfl (sl rfl G_hit rfl (sv rfl (sv rfl (bs h fun v4 hv4 h=>sd rfl (E2 rfl rfl hv4 rfl) (sd rfl (D9 rfl hv4 rfl) (sv rfl (sv rfl (sv rfl (A1 (B3 ?_)))))))))))))))))
 cases h
 exact A7 (.inr rfl) (B5w (B4 rfl) (B4 rfl) E0 E0) (.refl _)
noncomputable def A8s (p1:Map)(p2:Agent):Option Bool:=
  (A1m p1 p2.Route).bind fun v1=>some (decide ((w64 (p2.S - p2.Len))>v1))
theorem B8a (p1:Map)(p2:Agent)(r:Bool)(h:A8s p1 p2=some r):PCall Tryz.prog 169 [(.agg (A3b p1)),(.agg (D8 p2))] (bo r):=by
 refine B7 (fk Tryz.func169 Tryz.ntmps169 m0 (by with_unfolding_all rfl)) (nl rfl) ?_
 unfold A8s at h
 refine B5 (s0:=⟨T [(0,(.d _)),(1,(.d _))],G []⟩) (sbr rfl rfl) ?_
 refine lr (fun u1 hu1=>sn rfl rfl (sn rfl rfl (sv rfl (A1 (A6 (I0 rfl fun u2 hu2=>sp rfl rfl (sl rfl G_hit rfl (sp rfl rfl (sl rfl G_hit rfl (sv rfl (sd rfl (B2 rfl (gq rfl) rfl rfl) (sp rfl rfl (sl rfl G_hit rfl (bs h fun v1 hv1 h=>B0 rfl rfl A2 (B06 _ _ _ hv1) (.inl rfl) (sv rfl (sv rfl (A1 (B3 ?_))))))))))))))))))
 cases h
 exact A7 (.inr rfl) (B6 (B4 rfl) E0) (.refl _)
noncomputable def A4e (p1:Map)(p2:State)(p3:Int):Option Int:=
  (D4 p2.Agents p3).bind fun v1=>(A12 p1 v1.Route).bind fun v2=>cond (v2 !=0) (some 13) (((cond (!(((((decide (v1.Len<300))||(decide (v1.Len>20000)))||(decide (v1.Begin<0)))||(decide (v1.Begin>1099511627776)))||(decide (v1.S<0)))) (A1m p1 v1.Route) (some default))).bind fun v3=>cond ((((((decide (v1.Len<300))||(decide (v1.Len>20000)))||(decide (v1.Begin<0)))||(decide (v1.Begin>1099511627776)))||(decide (v1.S<0)))||(decide (v1.S>(w64 ((w64 (v3+v1.Len))+2000))))) (some 2) ((B0k p1 v1).bind fun v4=>(D4 p1.Lanes v4.1).bind fun v5=>(A3r v5.Kind).bind fun v6=>cond ((decide (v1.V<0))||(decide (v1.V>v6.1))) (some 2) ((A8s p1 v1).bind fun v7=>cond (((!(v1.Gone==v7))||((decide (v1.Begin>p2.Tick))&& (v1.S !=0)))||((p3==0)&& (v1.Begin !=0))) (some 10) (some 0))))
theorem B6x (p1:Map)(p2:State)(p3:Int)(r:Int)(h:A4e p1 p2 p3=some r):PCall Tryz.prog 77 [(.agg (A3b p1)),(.agg (A30 p2)),(i64 p3)] (i64 r):=by
 refine B7 (fk Tryz.func77 Tryz.ntmps77 m0 (by with_unfolding_all rfl)) (nl rfl) ?_
 unfold A4e at h
 refine B5 (s0:=⟨T [(0,(.d _)),(1,(.d _)),(2,(.d _))],G []⟩) (sbr rfl rfl) ?_
 refine lr (fun u1 hu1=>sn rfl rfl (sn rfl rfl (sv rfl (A1 (lr (fun u2 hu2=>sp rfl rfl (sl rfl G_hit rfl (sv rfl (bs h fun v1 hv1 h=>sd rfl (E2 rfl rfl hv1 rfl) (sd rfl (C3 rfl hv1 rfl rfl) (sn rfl rfl (sst rfl G_hit (V4 v1) rfl (A1 (A6 (lr (fun u3 hu3=>sd rfl (B2 rfl (gq rfl) rfl rfl) (sp rfl rfl (sl rfl G_hit rfl (bs h fun v2 hv2 h=>B0 rfl rfl A2 (A74 _ _ _ hv2) (.inl rfl) (sv rfl (A1 (cc rfl h (fun c1 h=> ?_) (fun c1 h=> ?_)))))))))))))))))))))))
 refine lr (fun u4 hu4=>sv rfl (A1 (B3 ?_)))
 cases h
 exact A7 (.inr rfl) (B6 (B4 rfl) E0) (.refl _)
 refine A9 (A6 (A6 (I0 rfl fun u5 hu5=>sp rfl rfl (sl rfl G_hit rfl (sv rfl (sv rfl (gp rfl (T8 rfl) (fun _=>rfl) (gf rfl (vl rfl G_hit rfl) (gf rfl (vb rfl rfl rfl) (sd rfl (A0s rfl rfl (fun hc=>A3 (K9 hc))) (sv rfl (gp rfl (T8 rfl) (fun _=>rfl) (gf rfl (vl rfl G_hit rfl) (gf rfl (vb rfl rfl rfl) (sd rfl (A0s rfl rfl (fun hc=>A3 (K9 hc))) (sv rfl (gp rfl (T8 rfl) (fun _=>rfl) (gf rfl (vl rfl G_hit rfl) (gf rfl (vb rfl rfl rfl) (sd rfl (A0s rfl rfl (fun hc=>A3 (K9 hc))) (sv rfl (gp rfl (T8 rfl) (fun _=>rfl) (gf rfl (vl rfl G_hit rfl) (gf rfl (vb rfl rfl rfl) (sd rfl (A0s rfl rfl (fun hc=>A3 (K9 hc))) (sv rfl (gp rfl (T8 rfl) (fun _=>rfl) (gf rfl (vl rfl G_hit rfl) (gf rfl (fun w15=>(B2 rfl (gq rfl) rfl rfl)) (gp rfl (T8 rfl) (fun _=>rfl) (gf rfl (vl rfl G_hit rfl) (bs h fun v3 hv3 h=> ?_))))))))))))))))))))))))))))))))
 refine S4 _ (i64 v3) (T8 rfl) (fun w18=>⟨_,[(.d (.agg (A3b p1))),(dl A4 v1.Route)],_,_,(by simp only [A3 w18];rfl),rfl,A2,B06 _ _ _ (C0 w18 hv3),(.inl rfl)⟩) ?_
 refine gp rfl (T8 rfl) (fun _=>rfl) (gf rfl (vl rfl G_hit rfl) (gf rfl (fun w21=>(S3 (A3 w21) (A3 w21) rfl)) (gf rfl (vb rfl rfl rfl) (gf rfl (fun w23=>(S3 (A3 w23) (A3 w23) rfl)) (sd rfl (A0s rfl rfl (fun hc=>A3 (K9 hc))) (A1 (cc rfl h (fun c2 h=> ?_) (fun c2 h=> ?_))))))))
 refine lr (fun u6 hu6=>sv rfl (A1 (B3 ?_)))
 cases h
 exact A7 (.inr rfl) (B6 (B4 rfl) E0) (.refl _)
 refine A9 (lr (fun u7 hu7=>sd rfl (B2 rfl (gq rfl) rfl rfl) (sd rfl (B2 rfl G_hit rfl rfl) (bs h fun v4 hv4 h=>B0 rfl rfl A2 (B89 _ _ _ hv4) (.inl rfl) (sv rfl (sv rfl (sv rfl (sv rfl (sv rfl (A1 (lr (fun u8 hu8=>sp rfl rfl (sl rfl (gq rfl) rfl (sv rfl (bs h fun v5 hv5 h=>sd rfl (E2 rfl rfl hv5 rfl) (sv rfl (sd rfl (D9 rfl hv5 rfl) (bs h fun v6 hv6 h=>B0 rfl rfl A2 (A87 _ _ hv6) (.inl rfl) (sv rfl (sv rfl (sv rfl (sv rfl (sv rfl (sv rfl (sv rfl (A1 (A6 (lr (fun u9 hu9=>sp rfl rfl (sl rfl G_hit rfl (sv rfl (sv rfl (gp rfl (T8 rfl) (fun _=>rfl) (gf rfl (vl rfl G_hit rfl) (gf rfl (fun _=>rfl) (gf rfl (fun w27=>(S3 (A3 w27) (A3 w27) rfl)) (sd rfl (A0s rfl rfl (fun hc=>A3 (K9 hc))) (A1 (cc rfl h (fun c3 h=> ?_) (fun c3 h=> ?_))))))))))))))))))))))))))))))))))))))))
 refine A6 (B5 (s0:=⟨T [],G []⟩) (sbr rfl rfl) ?_)
 refine C8 fun u10 hu10=>sv rfl (A1 (B3 ?_))
 cases h
 exact A7 (.inr rfl) (B6 (B4 rfl) E0) (.refl _)
 refine A9 (A6 (A6 (B5 (s0:=⟨T [(2,(.d _)),(3,(.ptr _ _)),(4,(.ptr _ _)),(7,(.ptr _ _))],G [((3,u1),some (.box 33 _)),((4,u1),some (.box 25 _)),((7,u2),some (.box 45 _))]⟩) (sbr rfl rfl) ?_)))
 refine I0 rfl fun u11 hu11=>sp rfl rfl (sl rfl (gq rfl) rfl (sd rfl (B2 rfl G_hit rfl rfl) (sd rfl (B2 rfl (gq rfl) rfl rfl) (bs h fun v7 hv7 h=>B0 rfl rfl A2 (B8a _ _ _ hv7) (.inl rfl) (C1 (.d (bo (!(v1.Gone==v7)))) rfl rfl (sv rfl (gp rfl (T8 rfl) (fun _=>rfl) (gf rfl (vl rfl (gq rfl) rfl) (gp rfl (T8 rfl) (fun _=>rfl) (gf rfl (vl rfl (gq rfl) rfl) (gf rfl (fun w32=>(S3 (A3 w32) (A3 w32) rfl)) (gf rfl (fun w33=>(D8s (A3 w33))) (A01 _ (.ptr _ _) rfl (A4c rfl) (fun _=>rfl) (gv rfl (A4c rfl) (vl rfl (gq rfl) rfl) (gv rfl (A4c rfl) (vb rfl rfl rfl) (gf rfl (fun w37=>(C7z (A3 w37) (fun hc=>A3 (C80 w37 hc)) rfl)) (sd rfl (A0s rfl rfl (fun hc=>A3 (K9 hc))) (sv rfl (gf rfl (fun _=>rfl) (gf rfl (vb rfl rfl rfl) (gf rfl (fun w40=>(D8s (A3 w40))) (A01 _ (.ptr _ _) rfl (A4c rfl) (fun _=>rfl) (gv rfl (A4c rfl) (vl rfl (gq rfl) rfl) (gv rfl (A4c rfl) (vb rfl rfl rfl) (gf rfl (fun w44=>(C7z (A3 w44) (fun hc=>A3 (C80 w44 hc)) rfl)) (sd rfl (A0s rfl rfl (fun hc=>A3 (K9 hc))) (A1 (cc rfl h (fun c4 h=> ?_) (fun c4 h=> ?_)))))))))))))))))))))))))))))
 refine lr (fun u12 hu12=>sv rfl (A1 (B3 ?_)))
 cases h
 exact A7 (.inr rfl) (B6 (B4 rfl) E0) (.refl _)
 refine A9 (lr (fun u13 hu13=>sv rfl (A1 (B3 ?_))))
 cases h
 exact A7 (.inr rfl) (B6 (B4 rfl) E0) (.refl _)
noncomputable def A4m (p2:State)(x3:Int):Option (Stp Int (Sum Unit Int)):=
  cond (decide (x3< (p2.In.length:Int))) ((D4 p2.In x3).bind fun v7=>cond ((((decide (v7.Since<0))||(decide (v7.Since>p2.Tick)))||(decide (v7.Rank<0)))||(decide (v7.Rank>100))) (some (.out (.inr 2))) (some (.go (w64 (x3+1))))) (some (.out (.inl ())))
noncomputable def A4n (p1:Map)(p2:State)(x2:Int):Option (Stp Int (Sum Unit Int)):=
  cond (decide (x2< (p2.In.length:Int))) ((D4 p2.In x2).bind fun v3=>cond ((((decide (v3.Agent_<0))||(decide (v3.Agent_≥(p2.Agents.length:Int))))||(decide (v3.Zone_<0)))||(decide (v3.Zone_≥(p1.Zones.length:Int)))) (some (.out (.inr 11))) (((cond (decide (x2>0)) (D4 p2.In (w64 (x2 - 1))) (some default))).bind fun v4=>((cond ((decide (x2>0))&& (!(decide (v3.Agent_<v4.Agent_)))) (D4 p2.In (w64 (x2 - 1))) (some default))).bind fun v5=>((cond (((decide (x2>0))&& (!(decide (v3.Agent_<v4.Agent_))))&& (v3.Agent_==v5.Agent_)) (D4 p2.In (w64 (x2 - 1))) (some default))).bind fun v6=>cond ((decide (x2>0))&& ((decide (v3.Agent_<v4.Agent_))||((v3.Agent_==v5.Agent_)&& (decide (v3.Zone_≤v6.Zone_))))) (some (.out (.inr 11))) (some (.go (w64 (x2+1)))))) (some (.out (.inl ())))
noncomputable def A4o (p1:Map)(p2:State)(x1:Int):Option (Stp Int (Sum Unit Int)):=
  cond (decide (x1< (p2.Agents.length:Int))) ((A4e p1 p2 x1).bind fun v2=>cond (v2 !=0) (some (.out (.inr v2))) (some (.go (w64 (x1+1))))) (some (.out (.inl ())))
noncomputable def B1b (p1:Map)(p2:State):Option Int:=
  (A73 p1).bind fun v1=>cond (v1 !=0) (some v1) (cond ((decide (p2.Tick<0))||(decide (p2.Tick>1099511627776))) (some 2) (cond ((p2.Agents.length:Int)==0) (some 6) (cond (decide ((p2.Agents.length:Int)>8)) (some 8) (thenS (loop (A4o p1 p2) 0) (fun _=>thenS (loop (A4n p1 p2) 0) (fun _=>thenS (loop (A4m p2) 0) (fun _=>some 0) (fun r=>some r)) (fun r=>some r)) (fun r=>some r)))))
theorem C31 (p1:Map)(p2:State)(r:Int)(h:B1b p1 p2=some r):PCall Tryz.prog 25 [(.agg (A3b p1)),(.agg (A30 p2))] (i64 r):=by
 refine B7 (fk Tryz.func25 Tryz.ntmps25 m0 (by with_unfolding_all rfl)) (nl rfl) ?_
 unfold B1b at h
 refine B5 (s0:=⟨T [(0,(.d _)),(1,(.d _))],G []⟩) (sbr rfl rfl) ?_
 refine lr (fun u1 hu1=>sn rfl rfl (sn rfl rfl (sv rfl (A1 (lr (fun u2 hu2=>sd rfl (B2 rfl (gq rfl) rfl rfl) (bs h fun v1 hv1 h=>B0 rfl rfl A2 (B2j _ _ hv1) (.inl rfl) (sv rfl (A1 (A6 (lr (fun u3 hu3=>sv rfl (sv rfl (A1 (cc rfl h (fun c1 h=> ?_) (fun c1 h=> ?_))))))))))))))))
 refine lr (fun u4 hu4=>sv rfl (sv rfl (A1 (B3 ?_))))
 cases h
 exact A7 (.inr rfl) (B6 (B4 rfl) E0) (.refl _)
 refine A9 (A6 (lr (fun u5 hu5=>sp rfl rfl (sl rfl G_hit rfl (sv rfl (sv rfl (gp rfl (T8 rfl) (fun _=>rfl) (gf rfl (vl rfl G_hit rfl) (gf rfl (vb rfl rfl rfl) (sd rfl (A0s rfl rfl (fun hc=>A3 (K9 hc))) (A1 (cc rfl h (fun c2 h=> ?_) (fun c2 h=> ?_)))))))))))))
 refine lr (fun u6 hu6=>sv rfl (A1 (B3 ?_)))
 cases h
 exact A7 (.inr rfl) (B6 (B4 rfl) E0) (.refl _)
 refine A9 (A6 (lr (fun u7 hu7=>sp rfl rfl (sl rfl G_hit rfl (sd rfl (E7 rfl) (sv rfl (A1 (cc rfl h (fun c3 h=> ?_) (fun c3 h=> ?_)))))))))
 refine lr (fun u8 hu8=>sv rfl (A1 (B3 ?_)))
 cases h
 exact A7 (.inr rfl) (B6 (B4 rfl) E0) (.refl _)
 refine A9 (A6 (lr (fun u9 hu9=>sp rfl rfl (sl rfl G_hit rfl (sd rfl (E7 rfl) (sv rfl (A1 (cc rfl h (fun c4 h=> ?_) (fun c4 h=> ?_)))))))))
 refine lr (fun u10 hu10=>sv rfl (A1 (B3 ?_)))
 cases h
 exact A7 (.inr rfl) (B6 (B4 rfl) E0) (.refl _)
 refine A9 (A6 (lr (fun u11 hu11=>sv rfl (A1 (js h fun z1 hz1 h=>D7 (fun s=> ∃(y1:Unit) (g1:Unit),z1= .inl y1∧Sb ⟨T [(2,(.ptr (2,u1) 0)),(3,(.ptr (3,u1) 0))],G [((2,u1),some (.box 33 (A09 p1))),((3,u1),some (.box 25 (N0 p2)))]⟩ s) ?_ ?_)))))
 refine A8 (F1 (A4o p1 p2) (fun (x1:Int) (g2:Unit)=>⟨T [(2,(.ptr (2,u1) 0)),(3,(.ptr (3,u1) 0)),(6,(di x1))],G [((2,u1),some (.box 33 (A09 p1))),((3,u1),some (.box 25 (N0 p2)))]⟩) 0 () _ hz1 (sbr rfl rfl) ?_)
 intro x1 g2 z2 hz2 ez2
 unfold A4o at hz2
 refine A6 (lr (fun u12 hu12=>sv rfl (sp rfl rfl (sl rfl (gq rfl) rfl (sd rfl (E7 rfl) (sv rfl (A1 (cc rfl hz2 (fun c5 hz2=> ?_) (fun c5 hz2=> ?_)))))))))
 refine A9 (A6 (A8 (lr (fun u13 hu13=>sd rfl (B2 rfl G_hit rfl rfl) (sd rfl (B2 rfl (gq rfl) rfl rfl) (sv rfl (bs hz2 fun v2 hv2 hz2=>B0 rfl rfl A2 (B6x _ _ _ _ hv2) (.inl rfl) (sv rfl (A1 (lr (fun u14 hu14=>sv rfl (sv rfl (A1 (cc rfl hz2 (fun c6 hz2=> ?_) (fun c6 hz2=> ?_)))))))))))))))
 refine lr (fun u15 hu15=>sv rfl (sv rfl (A1 (B3 ?_))))
 cases hz2
 obtain rfl:=ez2 _ rfl
 refine ⟨nofun,E1 ?_⟩
 rw [Sum.elim_inr]at h
 cases h
 exact A7 (.inr rfl) (B6 (B4 rfl) E0) (.refl _)
 refine A9 (G3 (C8 fun u16 hu16=>sv rfl (sv rfl (sv rfl (A1 (G4 ?_))))))
 cases hz2
 exact ⟨rfl,(),(sbr rfl rfl)⟩
 refine C2 rfl ?_
 cases hz2
 obtain rfl:=ez2 _ rfl
 refine ⟨nofun,B9 rfl (l_j ?_)⟩
 exact ⟨_,(),rfl,(sbr rfl rfl)⟩
 rintro _ ⟨y1,g1,rfl,q1⟩
 rw [Sum.elim_inl]at h
 refine B5 q1 (A6 (lr (fun u17 hu17=>sv rfl (A1 (js h fun z3 hz3 h=>D7 (fun s=> ∃(y2:Unit) (g3:Unit),z3= .inl y2∧Sb ⟨T [(3,(.ptr (3,u1) 0))],G [((3,u1),some (.box 25 (N0 p2)))]⟩ s) ?_ ?_)))))
 refine A8 (F1 (A4n p1 p2) (fun (x2:Int) (g4:Unit)=>⟨T [(2,(.ptr (2,u1) 0)),(3,(.ptr (3,u1) 0)),(7,(di x2))],G [((2,u1),some (.box 33 (A09 p1))),((3,u1),some (.box 25 (N0 p2)))]⟩) 0 () _ hz3 (sbr rfl rfl) ?_)
 intro x2 g4 z4 hz4 ez4
 unfold A4n at hz4
 refine A6 (lr (fun u18 hu18=>sv rfl (sp rfl rfl (sl rfl (gq rfl) rfl (sd rfl (E7 rfl) (sv rfl (A1 (cc rfl hz4 (fun c7 hz4=> ?_) (fun c7 hz4=> ?_)))))))))
 refine A9 (A6 (A8 (lr (fun u19 hu19=>sp rfl rfl (sl rfl (gq rfl) rfl (sv rfl (bs hz4 fun v3 hv3 hz4=>sd rfl (E2 rfl rfl hv3 rfl) (sd rfl (C3 rfl hv3 rfl rfl) (sn rfl rfl (sst rfl G_hit (C05 v3) rfl (A1 (A6 (lr (fun u20 hu20=>sp rfl rfl (sl rfl G_hit rfl (sv rfl (sv rfl (gp rfl (T8 rfl) (fun _=>rfl) (gf rfl (vl rfl G_hit rfl) (gp rfl (T8 rfl) (fun _=>rfl) (gf rfl (vl rfl (gq rfl) rfl) (gf rfl (fun w8=>(E7 (A3 w8))) (gf rfl (fun w9=>(S3 (A3 w9) (A3 w9) rfl)) (sd rfl (A0s rfl rfl (fun hc=>A3 (K9 hc))) (sv rfl (gp rfl (T8 rfl) (fun _=>rfl) (gf rfl (vl rfl G_hit rfl) (gf rfl (vb rfl rfl rfl) (sd rfl (A0s rfl rfl (fun hc=>A3 (K9 hc))) (sv rfl (gp rfl (T8 rfl) (fun _=>rfl) (gf rfl (vl rfl G_hit rfl) (gp rfl (T8 rfl) (fun _=>rfl) (gf rfl (vl rfl (gq rfl) rfl) (gf rfl (fun w17=>(E7 (A3 w17))) (gf rfl (fun w18=>(S3 (A3 w18) (A3 w18) rfl)) (sd rfl (A0s rfl rfl (fun hc=>A3 (K9 hc))) (A1 (cc rfl hz4 (fun c8 hz4=> ?_) (fun c8 hz4=> ?_))))))))))))))))))))))))))))))))))))))))
 refine lr (fun u21 hu21=>sv rfl (A1 (B3 ?_)))
 cases hz4
 obtain rfl:=ez4 _ rfl
 refine ⟨nofun,E1 ?_⟩
 rw [Sum.elim_inr]at h
 cases h
 exact A7 (.inr rfl) (B6 (B4 rfl) E0) (.refl _)
 refine A9 (A6 (I0 rfl fun u22 hu22=>sv rfl (sv rfl (sv rfl (gp rfl (A0d rfl) (fun _=>rfl) (gt rfl (vl rfl G_hit rfl) (gp rfl (A0d rfl) (fun _=>rfl) (gt rfl (vl rfl (gq rfl) rfl) (gt rfl (fun _=>rfl) (gt rfl (vb rfl rfl rfl) (bs hz4 fun v4 hv4 hz4=>gt rfl (fun w25=>(E2 (A3 w25) (A3 w25) (C0 w25 hv4) rfl)) ?_)))))))))))
 refine gt rfl (fun w26=>(by simp only [A3 w26];rfl)) ?_
 refine gt rfl (fun w27=>(D9 (A3 w27) (C0 w27 hv4) rfl)) (gt rfl (fun w28=>(S3 (A3 w28) (A3 w28) rfl)) (gt rfl (fun w29=>(D8s (A3 w29))) (A01 _ (.ptr _ _) rfl (C02 rfl) (fun _=>rfl) (gv rfl (C02 rfl) (vl rfl G_hit rfl) (A01 _ (.ptr _ _) rfl (C02 rfl) (fun _=>rfl) (gv rfl (C02 rfl) (vl rfl (gq rfl) rfl) (gv rfl (C02 rfl) (fun _=>rfl) (gv rfl (C02 rfl) (vb rfl rfl rfl) (bs hz4 fun v5 hv5 hz4=>gv rfl (C02 rfl) (fun w36=>(E2 (A3 w36) (A3 w36) (C0 w36 hv5) rfl)) ?_)))))))))
 refine gv rfl (C02 rfl) (fun w37=>(by simp only [A3 w37];rfl)) ?_
 refine gv rfl (C02 rfl) (fun w38=>(D9 (A3 w38) (C0 w38 hv5) rfl)) (gv rfl (C02 rfl) (fun w39=>(S3 (A3 w39) (A3 w39) rfl)) (gv rfl (C02 rfl) (fun w40=>(D8s (A3 w40))) (A01 _ (.ptr _ _) rfl (A4c rfl) (fun _=>rfl) (gv rfl (A4c rfl) (vl rfl G_hit rfl) (A01 _ (.ptr _ _) rfl (A4c rfl) (fun _=>rfl) (gv rfl (A4c rfl) (vl rfl (gq rfl) rfl) (gv rfl (A4c rfl) (fun _=>rfl) (gv rfl (A4c rfl) (vb rfl rfl rfl) (bs hz4 fun v6 hv6 hz4=>gv rfl (A4c rfl) (fun w47=>(E2 (A3 w47) (A3 w47) (C0 w47 hv6) rfl)) ?_)))))))))
 refine gv rfl (A4c rfl) (fun w48=>(by simp only [A3 w48];rfl)) ?_
 refine gv rfl (A4c rfl) (fun w49=>(D9 (A3 w49) (C0 w49 hv6) rfl)) (gv rfl (A4c rfl) (fun w50=>(S3 (A3 w50) (A3 w50) rfl)) (gv rfl (C02 rfl) (fun w51=>(C7z (A3 w51) (fun hc=>A3 (C80 w51 hc)) rfl)) (gt rfl (fun w52=>(A0s (A3 w52) rfl (fun hc=>A3 (C80 w52 (K9 hc))))) (sa rfl rfl rfl (A1 (cc rfl hz4 (fun c9 hz4=> ?_) (fun c9 hz4=> ?_)))))))
 refine lr (fun u23 hu23=>sv rfl (A1 (B3 ?_)))
 cases hz4
 obtain rfl:=ez4 _ rfl
 refine ⟨nofun,E1 ?_⟩
 rw [Sum.elim_inr]at h
 cases h
 exact A7 (.inr rfl) (B6 (B4 rfl) E0) (.refl _)
 refine A9 (G3 (C8 fun u24 hu24=>sv rfl (sv rfl (sv rfl (A1 (G4 ?_))))))
 cases hz4
 exact ⟨rfl,(),(sbr rfl rfl)⟩
 refine C2 rfl ?_
 cases hz4
 obtain rfl:=ez4 _ rfl
 refine ⟨nofun,B9 rfl (l_j ?_)⟩
 exact ⟨_,(),rfl,(sbr rfl rfl)⟩
 rintro _ ⟨y2,g3,rfl,q2⟩
 rw [Sum.elim_inl]at h
 refine B5 q2 (A6 (lr (fun u25 hu25=>sv rfl (A1 (js h fun z5 hz5 h=>D7 (fun s=> ∃(y3:Unit) (g5:Unit),z5= .inl y3∧Sb ⟨T [],G []⟩ s) ?_ ?_)))))
 refine A8 (F1 (A4m p2) (fun (x3:Int) (g6:Unit)=>⟨T [(3,(.ptr (3,u1) 0)),(9,(di x3))],G [((3,u1),some (.box 25 (N0 p2)))]⟩) 0 () _ hz5 (sbr rfl rfl) ?_)
 intro x3 g6 z6 hz6 ez6
 unfold A4m at hz6
 refine A6 (lr (fun u26 hu26=>sv rfl (sp rfl rfl (sl rfl G_hit rfl (sd rfl (E7 rfl) (sv rfl (A1 (cc rfl hz6 (fun c10 hz6=> ?_) (fun c10 hz6=> ?_)))))))))
 refine A9 (A6 (A8 (lr (fun u27 hu27=>sp rfl rfl (sl rfl G_hit rfl (sv rfl (bs hz6 fun v7 hv7 hz6=>sd rfl (E2 rfl rfl hv7 rfl) (sd rfl (C3 rfl hv7 rfl rfl) (sn rfl rfl (sst rfl G_hit (C05 v7) rfl (A1 (lr (fun u28 hu28=>sp rfl rfl (sl rfl G_hit rfl (sv rfl (sv rfl (gp rfl (T8 rfl) (fun _=>rfl) (gf rfl (vl rfl G_hit rfl) (gp rfl (T8 rfl) (fun _=>rfl) (gf rfl (vl rfl (gq rfl) rfl) (gf rfl (fun w57=>(S3 (A3 w57) (A3 w57) rfl)) (sd rfl (A0s rfl rfl (fun hc=>A3 (K9 hc))) (sv rfl (gp rfl (T8 rfl) (fun _=>rfl) (gf rfl (vl rfl G_hit rfl) (gf rfl (vb rfl rfl rfl) (sd rfl (A0s rfl rfl (fun hc=>A3 (K9 hc))) (sv rfl (gp rfl (T8 rfl) (fun _=>rfl) (gf rfl (vl rfl G_hit rfl) (gf rfl (vb rfl rfl rfl) (sd rfl (A0s rfl rfl (fun hc=>A3 (K9 hc))) (A1 (cc rfl hz6 (fun c11 hz6=> ?_) (fun c11 hz6=> ?_)))))))))))))))))))))))))))))))))))
 refine lr (fun u29 hu29=>sv rfl (A1 (B3 ?_)))
 cases hz6
 obtain rfl:=ez6 _ rfl
 refine ⟨nofun,E1 ?_⟩
 rw [Sum.elim_inr]at h
 cases h
 exact A7 (.inr rfl) (B6 (B4 rfl) E0) (.refl _)
 refine A9 (G3 (C8 fun u30 hu30=>sv rfl (sv rfl (sv rfl (A1 (G4 ?_))))))
 cases hz6
 exact ⟨rfl,(),(sbr rfl rfl)⟩
 refine C2 rfl ?_
 cases hz6
 obtain rfl:=ez6 _ rfl
 refine ⟨nofun,B9 rfl (l_j ?_)⟩
 exact ⟨_,(),rfl,(sbr rfl rfl)⟩
 rintro _ ⟨y3,g5,rfl,q3⟩
 rw [Sum.elim_inl]at h
 refine B5 q3 (lr (fun u31 hu31=>sv rfl (A1 (B3 ?_))))
 cases h
 exact A7 (.inr rfl) (B6 (B4 rfl) E0) (.refl _)
noncomputable def B1c (p1:State)(p2:Int):Option Bool:=
  ((cond ((decide (p2≥0))&& (decide (p2< (p1.Agents.length:Int)))) (D4 p1.Agents p2) (some default))).bind fun v1=>((cond (((decide (p2≥0))&& (decide (p2< (p1.Agents.length:Int))))&& (decide (v1.Begin≤p1.Tick))) (D4 p1.Agents p2) (some default))).bind fun v2=>some ((((decide (p2≥0))&& (decide (p2< (p1.Agents.length:Int))))&& (decide (v1.Begin≤p1.Tick)))&& (!v2.Gone))
theorem C32 (p1:State)(p2:Int)(r:Bool)(h:B1c p1 p2=some r):PCall Tryz.prog 39 [(.agg (A30 p1)),(i64 p2)] (bo r):=by
 refine B7 (fk Tryz.func39 Tryz.ntmps39 m0 (by with_unfolding_all rfl)) (nl rfl) ?_
 unfold B1c at h
 refine B5 (s0:=⟨T [(0,(.d _)),(1,(.d _))],G []⟩) (sbr rfl rfl) ?_
 refine lr (fun u1 hu1=>sn rfl rfl (sv rfl (A1 (A6 (I0 rfl fun u2 hu2=>sv rfl (sv rfl (sv rfl (gt rfl (fun _=>rfl) (gp rfl (A0d rfl) (fun _=>rfl) (gt rfl (vl rfl G_hit rfl) (gt rfl (fun w4=>(E7 (A3 w4))) (gt rfl (fun w5=>(S3 (A3 w5) (A3 w5) rfl)) (sa rfl rfl rfl (sv rfl (gp rfl (A0d rfl) (fun _=>rfl) (gt rfl (vl rfl G_hit rfl) (gt rfl (fun _=>rfl) (bs h fun v1 hv1 h=>gt rfl (fun w9=>(E2 (A3 w9) (A3 w9) (C0 w9 hv1) rfl)) ?_))))))))))))))))))
 refine gt rfl (fun w10=>(by simp only [A3 w10];rfl)) ?_
 refine gt rfl (fun w11=>(D9 (A3 w11) (C0 w11 hv1) rfl)) (gp rfl (A0d rfl) (fun _=>rfl) (gt rfl (vl rfl G_hit rfl) (gt rfl (fun w14=>(S3 (A3 w14) (A3 w14) rfl)) (sa rfl rfl rfl (sv rfl (gp rfl (A0d rfl) (fun _=>rfl) (gt rfl (vl rfl G_hit rfl) (gt rfl (fun _=>rfl) (bs h fun v2 hv2 h=>gt rfl (fun w18=>(E2 (A3 w18) (A3 w18) (C0 w18 hv2) rfl)) ?_)))))))))
 refine gt rfl (fun w19=>(by simp only [A3 w19];rfl)) ?_
 refine gt rfl (fun w20=>(D9 (A3 w20) (C0 w20 hv2) rfl)) ?_
 refine A01 _ (.d (bo (!v2.Gone))) rfl (A0d rfl) (fun w21=>(by simp only [A3 w21];rfl)) ?_
 refine sa rfl rfl rfl (sv rfl (A1 (B3 ?_)))
 cases h
 exact A7 (.inr rfl) (B6 (B4 rfl) E0) (.refl _)
noncomputable def B0l (p1:Map)(p2:Int):Option Bool:=
  ((cond ((decide (p2≥0))&& (decide (p2< (p1.Lanes.length:Int)))) (A73 p1) (some default))).bind fun v1=>some (((decide (p2≥0))&& (decide (p2< (p1.Lanes.length:Int))))&& (v1==0))
theorem B8b (p1:Map)(p2:Int)(r:Bool)(h:B0l p1 p2=some r):PCall Tryz.prog 98 [(.agg (A3b p1)),(i64 p2)] (bo r):=by
 refine B7 (fk Tryz.func98 Tryz.ntmps98 m0 (by with_unfolding_all rfl)) (nl rfl) ?_
 unfold B0l at h
 refine B5 (s0:=⟨T [(0,(.d _)),(1,(.d _))],G []⟩) (sbr rfl rfl) ?_
 refine lr (fun u1 hu1=>sn rfl rfl (sv rfl (A1 (lr (fun u2 hu2=>sv rfl (sv rfl (sv rfl (gt rfl (fun _=>rfl) (gp rfl (A0d rfl) (fun _=>rfl) (gt rfl (vl rfl G_hit rfl) (gt rfl (fun w4=>(E7 (A3 w4))) (gt rfl (fun w5=>(S3 (A3 w5) (A3 w5) rfl)) (sa rfl rfl rfl (sv rfl (gt rfl (fun w6=>(B2 rfl G_hit rfl rfl)) (bs h fun v1 hv1 h=> ?_))))))))))))))))
 refine S4 _ (i64 v1) (A0d rfl) (fun w7=>⟨_,[(.d (.agg (A3b p1)))],_,_,(by simp only [A3 w7];rfl),rfl,A2,B2j _ _ (C0 w7 hv1),(.inl rfl)⟩) ?_
 refine gt rfl (vb rfl rfl rfl) (sa rfl rfl rfl (sv rfl (A1 (B3 ?_))))
 cases h
 exact A7 (.inr rfl) (B6 (B4 rfl) E0) (.refl _)
noncomputable def A9j (p1:Map)(p2:Int):Option Int:=
  (B0l p1 p2).bind fun v1=>cond (!v1) (some 0) ((A7g p1 p2).bind fun v2=>some v2)
theorem C23 (p1:Map)(p2:Int)(r:Int)(h:A9j p1 p2=some r):PCall Tryz.prog 126 [(.agg (A3b p1)),(i64 p2)] (i64 r):=by
 refine B7 (fk Tryz.func126 Tryz.ntmps126 m0 (by with_unfolding_all rfl)) (nl rfl) ?_
 unfold A9j at h
 refine B5 (s0:=⟨T [(0,(.d _)),(1,(.d _))],G []⟩) (sbr rfl rfl) ?_
 refine lr (fun u1 hu1=>sn rfl rfl (sv rfl (A1 (A6 (lr (fun u2 hu2=>sd rfl (B2 rfl G_hit rfl rfl) (sv rfl (bs h fun v1 hv1 h=>B0 rfl rfl A2 (B8b _ _ _ hv1) (.inl rfl) (C1 (.d (bo (!v1))) rfl rfl (A1 (cc rfl h (fun c1 h=> ?_) (fun c1 h=> ?_))))))))))))
 refine lr (fun u3 hu3=>sv rfl (A1 (B3 ?_)))
 cases h
 exact A7 (.inr rfl) (B6 (B4 rfl) E0) (.refl _)
 refine A9 (lr (fun u4 hu4=>sd rfl (B2 rfl G_hit rfl rfl) (sv rfl (bs h fun v2 hv2 h=>B0 rfl rfl A2 (B50 _ _ _ hv2) (.inl rfl) (sv rfl (A1 (B3 ?_)))))))
 cases h
 exact A7 (.inr rfl) (B6 (B4 rfl) E0) (.refl _)
noncomputable def A45 (p1:Zone)(p2:Int)(x1:Int):Option (Stp Int (Sum Unit (Part×Bool))):=
  cond (decide (x1< (p1.Parts.length:Int))) ((D4 p1.Parts x1).bind fun v1=>cond (v1.Lane_==p2) ((D4 p1.Parts x1).bind fun v2=>some (.out (.inr (v2,true)))) (some (.go (w64 (x1+1))))) (some (.out (.inl ())))
noncomputable def B5s (p1:Zone)(p2:Int):Option (Part×Bool):=
  thenS (loop (A45 p1 p2) 0) (fun _=>some ((Part.mk 0 0 0 0),false)) (fun r=>some r)
theorem C50 (p1:Zone)(p2:Int)(r:(Part×Bool))(h:B5s p1 p2=some r):PCall Tryz.prog 103 [(.agg [(.list (List.map A53 p1.Parts)),(i64 p1.Signal_)]),(i64 p2)] (.tup [(.agg (A53 r.1)),(bo r.2)]):=by
 refine B7 (fk Tryz.func103 Tryz.ntmps103 m0 (by with_unfolding_all rfl)) (nl rfl) ?_
 unfold B5s at h
 refine B5 (s0:=⟨T [(0,(.d _)),(1,(.d _))],G []⟩) (sbr rfl rfl) ?_
 refine lr (fun u1 hu1=>sn rfl rfl (sn rfl rfl (sv rfl (A1 (A6 (lr (fun u2 hu2=>sv rfl (A1 (js h fun z1 hz1 h=>D7 (fun s=> ∃(y1:Unit) (g1:Unit),z1= .inl y1∧Sb ⟨T [(4,(.ptr (4,u1) 0))],G [((4,u1),some (.box 114 (zs 4)))]⟩ s) ?_ ?_)))))))))
 refine A8 (F1 (A45 p1 p2) (fun (x1:Int) (g2:Unit)=>⟨T [(1,(di p2)),(2,(.ptr (2,u1) 0)),(4,(.ptr (4,u1) 0)),(6,(di x1))],G [((2,u1),some (.box 117 [(dl A53 p1.Parts),(di p1.Signal_)])),((4,u1),some (.box 114 (zs 4)))]⟩) 0 () _ hz1 (sbr rfl rfl) ?_)
 intro x1 g2 z2 hz2 ez2
 unfold A45 at hz2
 refine A6 (lr (fun u3 hu3=>sv rfl (sp rfl rfl (sl rfl G_hit rfl (sd rfl (E7 rfl) (sv rfl (A1 (cc rfl hz2 (fun c1 hz2=> ?_) (fun c1 hz2=> ?_)))))))))
 refine A9 (A6 (A8 (lr (fun u4 hu4=>sp rfl rfl (sl rfl G_hit rfl (sv rfl (bs hz2 fun v1 hv1 hz2=>sd rfl (E2 rfl rfl hv1 rfl) (sv rfl (sd rfl (D9 rfl hv1 rfl) (sv rfl (sv rfl (A1 (cc rfl hz2 (fun c2 hz2=> ?_) (fun c2 hz2=> ?_))))))))))))))
 refine lr (fun u5 hu5=>sp rfl rfl (sl rfl G_hit rfl (sv rfl (bs hz2 fun v2 hv2 hz2=>sd rfl (E2 rfl rfl hv2 rfl) (sd rfl (C3 rfl hv2 rfl rfl) (sst rfl (gq rfl) (C04 v2) rfl (sv rfl (A1 (B3 ?_)))))))))
 cases hz2
 obtain rfl:=ez2 _ rfl
 refine ⟨nofun,E1 ?_⟩
 rw [Sum.elim_inr]at h
 cases h
 exact A7 (.inr rfl) (B5w (K0 rfl G_hit (nl rfl) rfl) (B4 rfl) E0 E0) (.refl _)
 refine A9 (G3 (C8 fun u6 hu6=>sv rfl (sv rfl (sv rfl (A1 (G4 ?_))))))
 cases hz2
 exact ⟨rfl,(),(sbr rfl rfl)⟩
 refine C2 rfl ?_
 cases hz2
 obtain rfl:=ez2 _ rfl
 refine ⟨nofun,B9 rfl (l_j ?_)⟩
 exact ⟨_,(),rfl,(sbr rfl rfl)⟩
 rintro _ ⟨y1,g1,rfl,q1⟩
 rw [Sum.elim_inl]at h
 refine B5 q1 (lr (fun u7 hu7=>sv rfl (sst rfl G_hit (zs 4) rfl (sv rfl (A1 (B3 ?_))))))
 cases h
 exact A7 (.inr rfl) (B5w (K0 rfl G_hit (nl rfl) rfl) (B4 rfl) E0 E0) (.refl _)
noncomputable def A0g (p1:Signal)(p2:Int)(x2:(Int×Int)):Option (Stp (Int×Int) (Sum Unit Bool)):=
  cond (decide (x2.2< (p1.Phases.length:Int))) ((D4 p1.Phases x2.2).bind fun v5=>cond (decide (x2.1<v5.Ticks)) ((D4 p1.Phases x2.2).bind fun v6=>(B1a v6.Green p2).bind fun v7=>some (.out (.inr v7))) ((D4 p1.Phases x2.2).bind fun v8=>some (.go ((w64 (x2.1 - v8.Ticks)),(w64 (x2.2+1)))))) (some (.out (.inl ())))
noncomputable def A1g (p1:Signal)(x1:(Int×Int)):Option (Stp (Int×Int) Int):=
  cond (decide (x1.2< (p1.Phases.length:Int))) ((D4 p1.Phases x1.2).bind fun v1=>some (.go ((w64 (x1.1+v1.Ticks)),(w64 (x1.2+1))))) (some (.out x1.1))
noncomputable def B1d (p1:Signal)(p2:Int)(p3:Int):Option Bool:=
  (loop (A1g p1) (0,0)).bind fun y1=>(C7a p1.Offset y1).bind fun v2=>(C7a p3 y1).bind fun v3=>(C7a (w64 (v2+v3)) y1).bind fun v4=>thenS (loop (A0g p1 p2) (v4,0)) (fun _=>some false) (fun r=>some r)
theorem C33 (p1:Signal)(p2:Int)(p3:Int)(r:Bool)(h:B1d p1 p2 p3=some r):PCall Tryz.prog 187 [(.agg [(i64 p1.Offset),(.list (List.map A39 p1.Phases))]),(i64 p2),(i64 p3)] (bo r):=by
 refine B7 (fk Tryz.func187 Tryz.ntmps187 m0 (by with_unfolding_all rfl)) (nl rfl) ?_
 unfold B1d at h
 refine B5 (s0:=⟨T [(0,(.d _)),(1,(.d _)),(2,(.d _))],G []⟩) (sbr rfl rfl) ?_
 refine lr (fun u1 hu1=>sn rfl rfl (sv rfl (A1 (lr (fun u2 hu2=>sv rfl (A1 (A6 (lr (fun u3 hu3=>sv rfl (A1 (bs h fun y1 hy1 h=>D7 (fun s=> ∃g1:Unit,Sb ⟨T [(1,(di p2)),(2,(di p3)),(3,(.ptr (3,u1) 0)),(7,(di y1))],G [((3,u1),some (.box 120 [(di p1.Offset),(dl A39 p1.Phases)]))]⟩ s) ?_ ?_)))))))))))
 refine A8 (F1 (A1g p1) (fun (x1:(Int×Int)) (g2:Unit)=>⟨T [(1,(di p2)),(2,(di p3)),(3,(.ptr (3,u1) 0)),(7,(di x1.1)),(8,(di x1.2))],G [((3,u1),some (.box 120 [(di p1.Offset),(dl A39 p1.Phases)]))]⟩) (0,0) () _ hy1 (sbr rfl rfl) ?_)
 intro x1 g2 z1 hz1 ez1
 unfold A1g at hz1
 refine A6 (lr (fun u4 hu4=>sv rfl (sp rfl rfl (sl rfl G_hit rfl (sd rfl (E7 rfl) (sv rfl (A1 (cc rfl hz1 (fun c1 hz1=> ?_) (fun c1 hz1=> ?_)))))))))
 refine A9 (A6 (A8 (C8 fun u5 hu5=>sv rfl (sp rfl rfl (sl rfl G_hit rfl (sv rfl (bs hz1 fun v1 hv1 hz1=>sd rfl (E2 rfl rfl hv1 rfl) (sv rfl (sd rfl (D9 rfl hv1 rfl) (sv rfl (sv rfl (A1 (G3 (C8 fun u6 hu6=>sv rfl (sv rfl (sv rfl (A1 (G4 ?_))))))))))))))))))
 cases hz1
 exact ⟨rfl,(),(sbr rfl rfl)⟩
 refine C2 rfl ?_
 cases hz1
 obtain rfl:=ez1 _ rfl
 refine ⟨nofun,B9 rfl (l_j ?_)⟩
 exact ⟨(),(sbr rfl rfl)⟩
 rintro _ ⟨g1,q1⟩
 refine B5 q1 (A6 (I0 rfl fun u7 hu7=>sp rfl rfl (sl rfl G_hit rfl (sv rfl (bs h fun v2 hv2 h=>sd rfl (C7y rfl rfl hv2) (sv rfl (sv rfl (bs h fun v3 hv3 h=>sd rfl (C7y rfl rfl hv3) (sv rfl (sv rfl (bs h fun v4 hv4 h=>sd rfl (C7y rfl rfl hv4) (sv rfl (A1 (A6 (lr (fun u8 hu8=>sv rfl (A1 (js h fun z2 hz2 h=>D7 (fun s=> ∃(y2:Unit) (g3:Unit),z2= .inl y2∧Sb ⟨T [],G []⟩ s) ?_ ?_))))))))))))))))))
 refine A8 (F1 (A0g p1 p2) (fun (x2:(Int×Int)) (g4:Unit)=>⟨T [(1,(di p2)),(3,(.ptr (3,u1) 0)),(9,(di x2.1)),(10,(di x2.2))],G [((3,u1),some (.box 120 [(di p1.Offset),(dl A39 p1.Phases)]))]⟩) (v4,0) () _ hz2 (sbr rfl rfl) ?_)
 intro x2 g4 z3 hz3 ez3
 unfold A0g at hz3
 refine A6 (lr (fun u9 hu9=>sv rfl (sp rfl rfl (sl rfl G_hit rfl (sd rfl (E7 rfl) (sv rfl (A1 (cc rfl hz3 (fun c2 hz3=> ?_) (fun c2 hz3=> ?_)))))))))
 refine A9 (A6 (A8 (A6 (lr (fun u10 hu10=>sv rfl (sp rfl rfl (sl rfl G_hit rfl (sv rfl (bs hz3 fun v5 hv5 hz3=>sd rfl (E2 rfl rfl hv5 rfl) (sv rfl (sd rfl (D9 rfl hv5 rfl) (sv rfl (A1 (cc rfl hz3 (fun c3 hz3=> ?_) (fun c3 hz3=> ?_)))))))))))))))
 refine lr (fun u11 hu11=>sp rfl rfl (sl rfl G_hit rfl (sv rfl (bs hz3 fun v6 hv6 hz3=>sd rfl (E2 rfl rfl hv6 rfl) (sv rfl (sd rfl (D9 rfl hv6 rfl) (sv rfl (bs hz3 fun v7 hv7 hz3=>B0 rfl rfl A2 (B4z _ _ _ hv7) (.inl rfl) (sv rfl (A1 (B3 ?_)))))))))))
 cases hz3
 obtain rfl:=ez3 _ rfl
 refine ⟨nofun,E1 ?_⟩
 rw [Sum.elim_inr]at h
 cases h
 exact A7 (.inr rfl) (B6 (B4 rfl) E0) (.refl _)
 refine A9 (C8 fun u12 hu12=>sv rfl (sp rfl rfl (sl rfl G_hit rfl (sv rfl (bs hz3 fun v8 hv8 hz3=>sd rfl (E2 rfl rfl hv8 rfl) (sv rfl (sd rfl (D9 rfl hv8 rfl) (sv rfl (sv rfl (A1 (G3 (C8 fun u13 hu13=>sv rfl (sv rfl (sv rfl (A1 (G4 ?_))))))))))))))))
 cases hz3
 exact ⟨rfl,(),(sbr rfl rfl)⟩
 refine C2 rfl ?_
 cases hz3
 obtain rfl:=ez3 _ rfl
 refine ⟨nofun,B9 rfl (l_j ?_)⟩
 exact ⟨_,(),rfl,(sbr rfl rfl)⟩
 rintro _ ⟨y2,g3,rfl,q2⟩
 rw [Sum.elim_inl]at h
 refine B5 q2 (lr (fun u14 hu14=>sv rfl (A1 (B3 ?_))))
 cases h
 exact A7 (.inr rfl) (B6 (B4 rfl) E0) (.refl _)
noncomputable def A1h (x1:((List Int)×Int))(v2:(Part×Bool))(x2:Int):Option (Stp Int Int):=
  ((cond (decide (x2< (x1.1.length:Int))) (D4 x1.1 x2) (some default))).bind fun v5=>cond ((decide (x2< (x1.1.length:Int)))&& (decide (v5<v2.1.From))) (some (.go (w64 (x2+1)))) (some (.out x2))
noncomputable def A1i (p1:Map)(p2:Int)(p3:Int)(x1:((List Int)×Int)):Option (Stp ((List Int)×Int) (List Int)):=
  cond (decide (x1.2< (p1.Zones.length:Int))) ((D4 p1.Zones x1.2).bind fun v1=>(B5s v1 p2).bind fun v2=>((cond (!((!v2.2)||(v1.Signal_==0))) (D4 p1.Signals (w64 (v1.Signal_ - 1))) (some default))).bind fun v3=>((cond (!((!v2.2)||(v1.Signal_==0))) (B1d v3 p2 p3) (some default))).bind fun v4=>cond (((!v2.2)||(v1.Signal_==0))||v4) (some (.go (x1.1,(w64 (x1.2+1))))) ((loop (A1h x1 v2) 0).bind fun y2=>((cond (decide (y2< (x1.1.length:Int))) (D4 x1.1 y2) (some default))).bind fun v6=>cond ((decide (y2< (x1.1.length:Int)))&& (v6==v2.1.From)) (some (.go (x1.1,(w64 (x1.2+1))))) ((C6e x1.1 0 y2).bind fun v7=>(A7p ([]:List Int) v7).bind fun v8=>(A7p v8 [v2.1.From]).bind fun v9=>(C6e x1.1 y2 (x1.1.length:Int)).bind fun v10=>(A7p v9 v10).bind fun v11=>some (.go (v11,(w64 (x1.2+1))))))) (some (.out x1.1))
noncomputable def B40 (p1:Map)(p2:Int)(p3:Int):Option (List Int):=
  (loop (A1i p1 p2 p3) ([],0)).bind fun y1=>some y1
theorem C34 (p1:Map)(p2:Int)(p3:Int)(r:(List Int))(h:B40 p1 p2 p3=some r):PCall Tryz.prog 99 [(.agg (A3b p1)),(i64 p2),(i64 p3)] (.list (List.map A4 r)):=by
 refine B7 (fk Tryz.func99 Tryz.ntmps99 (fun r=>if r==12 then [1007]else []) (by with_unfolding_all rfl)) (nl rfl) ?_
 unfold B40 at h
 refine B5 (s0:=⟨T [(0,(.d _)),(1,(.d _)),(2,(.d _))],G []⟩) (sbr rfl rfl) ?_
 refine lr (fun u1 hu1=>sn rfl rfl (sv rfl (A1 (lr (fun u2 hu2=>sv rfl (A1 (A6 (lr (fun u3 hu3=>sv rfl (A1 (bs h fun y1 hy1 h=>D7 (fun s=> ∃g1:Unit,Sb ⟨T [(7,(dl A4 y1))],G []⟩ s) ?_ ?_)))))))))))
 refine A8 (F1 (A1i p1 p2 p3) (fun (x1:((List Int)×Int)) (g2:Unit)=>⟨T [(1,(di p2)),(2,(di p3)),(3,(.ptr (3,u1) 0)),(7,(dl A4 x1.1)),(8,(di x1.2))],G [((3,u1),some (.box 33 (A09 p1)))]⟩) ([],0) () _ hy1 (H9 ⟨.of rfl, .of rfl, .of rfl,(DLe.d DLe.nil), .of rfl,trivial⟩ (B1 G_hit (.of rfl) trivial)) ?_)
 intro x1 g2 z1 hz1 ez1
 unfold A1i at hz1
 refine A6 (lr (fun u4 hu4=>sv rfl (sp rfl rfl (sl rfl G_hit rfl (sd rfl (E7 rfl) (sv rfl (A1 (cc rfl hz1 (fun c1 hz1=> ?_) (fun c1 hz1=> ?_)))))))))
 refine A9 (A6 (A8 (lr (fun u5 hu5=>sp rfl rfl (sl rfl G_hit rfl (sv rfl (bs hz1 fun v1 hv1 hz1=>sd rfl (E2 rfl rfl hv1 rfl) (sd rfl (C3 rfl hv1 rfl rfl) (sn rfl rfl (sst rfl G_hit [(dl A53 v1.Parts),(di v1.Signal_)] rfl (A1 (lr (fun u6 hu6=>sd rfl (B2 rfl G_hit rfl rfl) (sv rfl (bs hz1 fun v2 hv2 hz1=>B0 rfl rfl A2 (C50 _ _ _ hv2) (.inl rfl) (sv rfl (sv rfl (sv rfl (sn rfl rfl (sst rfl G_hit (C04 v2.1) rfl (sv rfl (A1 (A6 (lr (fun u7 hu7=>sv rfl (C1 (.d (bo (!v2.2))) rfl rfl (sv rfl (gp rfl (T8 rfl) (fun _=>rfl) (gf rfl (vl rfl (gq rfl) rfl) (gf rfl (vb rfl rfl rfl) (sd rfl (A0s rfl rfl (fun hc=>A3 (K9 hc))) (sv rfl (gp rfl (T8 rfl) (fun _=>rfl) (gf rfl (vl rfl (gq rfl) rfl) (gp rfl (T8 rfl) (fun _=>rfl) (gf rfl (vl rfl (gq rfl) rfl) (gf rfl (vb rfl rfl rfl) (bs hz1 fun v3 hv3 hz1=>gf rfl (fun w9=>(E2 (A3 w9) (A3 w9) (C0 w9 hv3) rfl)) (gf rfl (fun w10=>(C3 (A3 w10) (C0 w10 hv3) rfl rfl)) (gf rfl (fun _=>rfl) (gf rfl (fun _=>rfl) (bs hz1 fun v4 hv4 hz1=> ?_))))))))))))))))))))))))))))))))))))))))))
 refine S4 _ (bo v4) (T8 rfl) (fun w13=>⟨_,[(.d (.agg [(i64 v3.Offset),(.list (List.map A39 v3.Phases))])),(di p2),(di p3)],_,_,(by simp only [A3 w13];rfl),rfl,A2,C33 _ _ _ _ (C0 w13 hv4),(.inl rfl)⟩) ?_
 refine sd rfl (A0s rfl rfl (fun hc=>A3 (K9 hc))) (A1 (cc rfl hz1 (fun c2 hz1=> ?_) (fun c2 hz1=> ?_)))
 refine B7n rfl (C8 fun u8 hu8=>sv rfl (sv rfl (sv rfl (A1 (G4 ?_)))))
 cases hz1
 exact ⟨rfl,(),(sbr rfl rfl)⟩
 refine A9 (lr (fun u9 hu9=>sv rfl (A1 (A6 (bs hz1 fun y2 hy2 hz1=>D7 (fun s=> ∃g3:Unit,Sb ⟨T [(1,(di p2)),(2,(di p3)),(3,(.ptr (3,u1) 0)),(7,(dl A4 x1.1)),(8,(di x1.2)),(10,(.ptr (10,u6) 0)),(12,(di y2))],G [((3,u1),some (.box 33 (A09 p1))),((10,u6),some (.box 114 (C04 v2.1)))]⟩ s) ?_ ?_)))))
 refine A8 (F1 (A1h x1 v2) (fun (x2:Int) (g4:Unit)=>⟨T [(1,(di p2)),(2,(di p3)),(3,(.ptr (3,u1) 0)),(7,(dl A4 x1.1)),(8,(di x1.2)),(10,(.ptr (10,u6) 0)),(12,(di x2))],G [((3,u1),some (.box 33 (A09 p1))),((10,u6),some (.box 114 (C04 v2.1)))]⟩) 0 () _ hy2 (sbr rfl rfl) ?_)
 intro x2 g4 z2 hz2 ez2
 unfold A1h at hz2
 refine A6 (A6 (I0 rfl fun u10 hu10=>sv rfl (sv rfl (sd rfl (E7 rfl) (sv rfl (sv rfl (gt rfl (fun _=>rfl) (gt rfl (fun _=>rfl) (bs hz2 fun v5 hv5 hz2=>gt rfl (fun w16=>(E2 (A3 w16) (A3 w16) (C0 w16 hv5) rfl)) (gt rfl (fun w17=>(D9 (A3 w17) (C0 w17 hv5) rfl)) (gp rfl (A0d rfl) (fun _=>rfl) (gt rfl (vl rfl (gq rfl) rfl) (gt rfl (fun w20=>(S3 (A3 w20) (A3 w20) rfl)) (sa rfl rfl rfl (A1 (cc rfl hz2 (fun c3 hz2=> ?_) (fun c3 hz2=> ?_)))))))))))))))))
 refine A9 (A8 (C8 fun u11 hu11=>sv rfl (sv rfl (sv rfl (A1 (G3 (G4 ?_)))))))
 cases hz2
 exact ⟨rfl,(),(sbr rfl rfl)⟩
 refine C2 rfl ?_
 cases hz2
 obtain rfl:=ez2 _ rfl
 refine ⟨nofun,B9 rfl (l_j ?_)⟩
 exact ⟨(),(sbr rfl rfl)⟩
 rintro _ ⟨g3,q1⟩
 refine B5 q1 (A6 (A6 (I0 rfl fun u12 hu12=>sv rfl (sv rfl (sd rfl (E7 rfl) (sv rfl (sv rfl (gt rfl (fun _=>rfl) (gt rfl (fun _=>rfl) (bs hz1 fun v6 hv6 hz1=>gt rfl (fun w23=>(E2 (A3 w23) (A3 w23) (C0 w23 hv6) rfl)) (gt rfl (fun w24=>(D9 (A3 w24) (C0 w24 hv6) rfl)) (gp rfl (A0d rfl) (fun _=>rfl) (gt rfl (vl rfl (gq rfl) rfl) (gt rfl (fun w27=>(S3 (A3 w27) (A3 w27) rfl)) (sa rfl rfl rfl (A1 (cc rfl hz1 (fun c4 hz1=> ?_) (fun c4 hz1=> ?_))))))))))))))))))
 refine B7n rfl (C8 fun u13 hu13=>sv rfl (sv rfl (sv rfl (A1 (G4 ?_)))))
 cases hz1
 exact ⟨rfl,(),(sbr rfl rfl)⟩
 refine A9 (B8z fun u14 hu14=>D31 (.sl _) (.arr 2 1 (List.map A4 ([]:List Int))) rfl rfl (A16 (.d _) rfl rfl (A16 (.d _) rfl rfl (bs hz1 fun v7 hv7 hz1=>A16 (.d _) rfl (D8t rfl (fun _=>rfl) E0p (E1t rfl) hv7) (bs hz1 fun v8 hv8 hz1=>C4m A4 _ _ _ _ (O0 (fun _=>rfl)) rfl G_hit hv8 (A16 (.ptr _ _) rfl rfl (A16 (.d _) rfl (Z4 rfl (gq rfl) rfl) (A16 (dl A4 [v2.1.From]) rfl rfl (bs hz1 fun v9 hv9 hz1=>C4m A4 _ _ _ _ (O0 (fun _=>rfl)) rfl G_hit hv9 (A16 (.d _) rfl rfl (A16 (.d _) rfl rfl (bs hz1 fun v10 hv10 hz1=>A16 (.d _) rfl (D8t rfl (fun _=>rfl) (E1t rfl) D7f hv10) (bs hz1 fun v11 hv11 hz1=>C4m A4 _ _ _ _ (O0 (fun _=>rfl)) rfl G_hit hv11 (A16 (.sl _) rfl rfl (D12 ⟨rfl,?_⟩)))))))))))))))
 refine G3 (l_fr [(90,u14)] [(1,(di p2)),(2,(di p3)),(3,(.ptr (3,u1) 0)),(7,(dl A4 v11)),(8,(di x1.2)),(10,(.ptr (10,u6) 0)),(12,(di y2)),(65,(di y2)),(66,(dl A4 x1.1)),(67,(di (x1.1.length:Int))),(68,(.d (bo (decide (y2< (x1.1.length:Int)))))),(69,(.d (bo (decide (y2< (x1.1.length:Int)))))),(77,(.d (bo ((decide (y2< (x1.1.length:Int)))&& (v6==v2.1.From))))),(79,(dl A4 x1.1)),(80,(di y2)),(81,(dl A4 v7)),(83,(.ptr (10,u6) 1)),(84,(di v2.1.From)),(85,(dl A4 [v2.1.From])),(87,(dl A4 x1.1)),(88,(di y2)),(89,(dl A4 v10)),(90,(dl A4 v11))] [((3,u1),some (.box 33 (A09 p1))),((10,u6),some (.box 114 (C04 v2.1)))] ⟨A0k rfl,A0k rfl,A0k rfl,(E1m (C7x (D36 (.head _) G_hit)) (.refl _)),A0k rfl,A0k rfl,A0k rfl,A0k rfl,A0k rfl,A0k rfl,A0k rfl,A0k rfl,A0k rfl,A0k rfl,A0k rfl,A0k rfl,A0k rfl,A0k rfl,A0k rfl,A0k rfl,A0k rfl,A0k rfl,(E1m (C7x (D36 (.head _) G_hit)) (.refl _)),trivial⟩ (C6l (gq rfl) (B92 (C1l rfl) C3m) (C6l (gq rfl) (B92 (C1l rfl) C3m) trivial)) (C8 fun u15 hu15=>sv rfl (sv rfl (sv rfl (A1 (G4 ?_))))))
 cases hz1
 exact ⟨rfl,(),(sbr rfl rfl)⟩
 refine C2 rfl ?_
 cases hz1
 obtain rfl:=ez1 _ rfl
 refine ⟨nofun,B9 rfl (l_j ?_)⟩
 exact ⟨(),(sbr rfl rfl)⟩
 rintro _ ⟨g1,q2⟩
 refine B5 q2 (lr (fun u16 hu16=>sv rfl (sv rfl (A1 (B3 ?_)))))
 cases h
 exact A7 (.inr rfl) (B6 (B4 rfl) E0) (.refl _)
noncomputable def B1e (p1:Map)(p2:Int)(p3:Int):Option (List Int):=
  (B0l p1 p2).bind fun v1=>cond ((!v1)||(decide (p3<0))) (some []) ((B40 p1 p2 p3).bind fun v2=>some v2)
theorem C6t (p1:Map)(p2:Int)(p3:Int)(r:(List Int))(h:B1e p1 p2 p3=some r):PCall Tryz.prog 40 [(.agg (A3b p1)),(i64 p2),(i64 p3)] (.list (List.map A4 r)):=by
 refine B7 (fk Tryz.func40 Tryz.ntmps40 m0 (by with_unfolding_all rfl)) (nl rfl) ?_
 unfold B1e at h
 refine B5 (s0:=⟨T [(0,(.d _)),(1,(.d _)),(2,(.d _))],G []⟩) (sbr rfl rfl) ?_
 refine lr (fun u1 hu1=>sn rfl rfl (sv rfl (A1 (A6 (lr (fun u2 hu2=>sd rfl (B2 rfl G_hit rfl rfl) (sv rfl (bs h fun v1 hv1 h=>B0 rfl rfl A2 (B8b _ _ _ hv1) (.inl rfl) (C1 (.d (bo (!v1))) rfl rfl (sv rfl (gf rfl (fun _=>rfl) (gf rfl (vb rfl rfl rfl) (sd rfl (A0s rfl rfl (fun hc=>A3 (K9 hc))) (A1 (cc rfl h (fun c1 h=> ?_) (fun c1 h=> ?_))))))))))))))))
 refine lr (fun u3 hu3=>sv rfl (A1 (B3 ?_)))
 cases h
 exact A7 (.inr rfl) (B6 (B4 rfl) E0) DLe.nil
 refine A9 (lr (fun u4 hu4=>sd rfl (B2 rfl G_hit rfl rfl) (sv rfl (sv rfl (bs h fun v2 hv2 h=>B0 rfl rfl A2 (C34 _ _ _ _ hv2) (.inl rfl) (sv rfl (A1 (B3 ?_))))))))
 cases h
 exact A7 (.inr rfl) (B6 (B4 rfl) E0) (.refl _)
noncomputable def A0h (p2:Int)(x1:(Int×Int)):Option (Stp (Int×Int) Int):=
  cond (decide (x1.1>(mm2 false p2 1000000))) (some (.go ((w64 (x1.1 - (mm2 false p2 1000000))),(w64 (x1.2+ (w64 (x1.1 - (mm2 false p2 1000000)))))))) (some (.out x1.2))
noncomputable def B0m (p1:Int)(p2:Int):Option Int:=
  cond ((decide ((mm2 false p1 1000000)<1))||(decide ((mm2 false p2 1000000)<1))) (some 0) ((loop (A0h p2) ((mm2 false p1 1000000),0)).bind fun y1=>some y1)
theorem B8c (p1:Int)(p2:Int)(r:Int)(h:B0m p1 p2=some r):PCall Tryz.prog 226 [(i64 p1),(i64 p2)] (i64 r):=by
 refine B7 (fk Tryz.func226 Tryz.ntmps226 m0 (by with_unfolding_all rfl)) (nl rfl) ?_
 unfold B0m at h
 refine B5 (s0:=⟨T [(0,(.d _)),(1,(.d _))],G []⟩) (sbr rfl rfl) ?_
 refine lr (fun u1 hu1=>sv rfl (A1 (lr (fun u2 hu2=>sv rfl (sv rfl (sv rfl (sv rfl (sv rfl (sv rfl (A1 (lr (fun u3 hu3=>sv rfl (A1 (A6 (lr (fun u4 hu4=>sv rfl (sv rfl (sv rfl (gf rfl (fun _=>rfl) (gf rfl (vb rfl rfl rfl) (sd rfl (A0s rfl rfl (fun hc=>A3 (K9 hc))) (A1 (cc rfl h (fun c1 h=> ?_) (fun c1 h=> ?_))))))))))))))))))))))))
 refine lr (fun u5 hu5=>sv rfl (A1 (B3 ?_)))
 cases h
 exact A7 (.inr rfl) (B6 (B4 rfl) E0) (.refl _)
 refine A9 (A6 (bs h fun y1 hy1 h=>D7 (fun s=> ∃g1:Unit,Sb ⟨T [(5,(di y1))],G []⟩ s) ?_ ?_))
 refine A8 (F1 (A0h p2) (fun (x1:(Int×Int)) (g2:Unit)=>⟨T [(0,(di x1.1)),(1,(di (mm2 false p2 1000000))),(5,(di x1.2))],G []⟩) ((mm2 false p1 1000000),0) () _ hy1 (sbr rfl rfl) ?_)
 intro x1 g2 z1 hz1 ez1
 unfold A0h at hz1
 refine A6 (lr (fun u6 hu6=>sv rfl (sv rfl (sv rfl (A1 (cc rfl hz1 (fun c2 hz1=> ?_) (fun c2 hz1=> ?_)))))))
 refine A9 (A8 (lr (fun u7 hu7=>sv rfl (sv rfl (sv rfl (sv rfl (A1 (C8 fun u8 hu8=>sv rfl (sv rfl (sv rfl (sv rfl (A1 (G3 (G4 ?_))))))))))))))
 cases hz1
 exact ⟨rfl,(),(sbr rfl rfl)⟩
 refine C2 rfl ?_
 cases hz1
 obtain rfl:=ez1 _ rfl
 refine ⟨nofun,B9 rfl (l_j ?_)⟩
 exact ⟨(),(sbr rfl rfl)⟩
 rintro _ ⟨g1,q1⟩
 refine B5 q1 (lr (fun u9 hu9=>sv rfl (sv rfl (A1 (B3 ?_)))))
 cases h
 exact A7 (.inr rfl) (B6 (B4 rfl) E0) (.refl _)
noncomputable def A6t (p1:(List Int))(p2:Int)(p3:Int)(p4:Int)(p5:Int)(x1:Int):Option (Stp Int (Sum Unit Bool)):=
  cond (decide (x1< (p1.length:Int))) ((D4 p1 x1).bind fun v1=>((cond (decide (v1>p2)) (B0m p3 p5) (some default))).bind fun v2=>((cond (decide (v1>p2)) (D4 p1 x1) (some default))).bind fun v3=>((cond ((decide (v1>p2))&& (decide ((w64 (p2+v2))<v3))) (B0m p4 p5) (some default))).bind fun v4=>((cond ((decide (v1>p2))&& (decide ((w64 (p2+v2))<v3))) (D4 p1 x1) (some default))).bind fun v5=>cond (((decide (v1>p2))&& (decide ((w64 (p2+v2))<v3)))&& (decide ((w64 ((w64 (p2+p4))+v4))≥v5))) (some (.out (.inr false))) (some (.go (w64 (x1+1))))) (some (.out (.inl ())))
noncomputable def B1f (p1:(List Int))(p2:Int)(p3:Int)(p4:Int)(p5:Int):Option Bool:=
  thenS (loop (A6t p1 p2 p3 p4 p5) 0) (fun _=>some true) (fun r=>some r)
theorem C35 (p1:(List Int))(p2:Int)(p3:Int)(p4:Int)(p5:Int)(r:Bool)(h:B1f p1 p2 p3 p4 p5=some r):PCall Tryz.prog 182 [(.list (List.map A4 p1)),(i64 p2),(i64 p3),(i64 p4),(i64 p5)] (bo r):=by
 refine B7 (fk Tryz.func182 Tryz.ntmps182 m0 (by with_unfolding_all rfl)) (nl rfl) ?_
 unfold B1f at h
 refine B5 (s0:=⟨T [(0,(.d _)),(1,(.d _)),(2,(.d _)),(3,(.d _)),(4,(.d _))],G []⟩) (sbr rfl rfl) ?_
 refine lr (fun u1 hu1=>sv rfl (A1 (A6 (lr (fun u2 hu2=>sv rfl (A1 (js h fun z1 hz1 h=>D7 (fun s=> ∃(y1:Unit) (g1:Unit),z1= .inl y1∧Sb ⟨T [],G []⟩ s) ?_ ?_)))))))
 refine A8 (F1 (A6t p1 p2 p3 p4 p5) (fun (x1:Int) (g2:Unit)=>⟨T [(0,(dl A4 p1)),(1,(di p2)),(2,(di p3)),(3,(di p4)),(4,(di p5)),(11,(di x1))],G []⟩) 0 () _ hz1 (sbr rfl rfl) ?_)
 intro x1 g2 z2 hz2 ez2
 unfold A6t at hz2
 refine A6 (lr (fun u3 hu3=>sv rfl (sv rfl (sd rfl (E7 rfl) (sv rfl (A1 (cc rfl hz2 (fun c1 hz2=> ?_) (fun c1 hz2=> ?_))))))))
 refine A9 (A6 (A8 (A6 (I0 rfl fun u4 hu4=>sv rfl (sv rfl (bs hz2 fun v1 hv1 hz2=>sd rfl (E2 rfl rfl hv1 rfl) (sd rfl (D9 rfl hv1 rfl) (sv rfl (sv rfl (sv rfl (gt rfl (fun _=>rfl) (gt rfl (fun _=>rfl) (gt rfl (fun _=>rfl) (bs hz2 fun v2 hv2 hz2=> ?_))))))))))))))
 refine S4 _ (i64 v2) (A0d rfl) (fun w4=>⟨_,[(di p3),(di p5)],_,_,(by simp only [A3 w4];rfl),rfl,A2,B8c _ _ _ (C0 w4 hv2),(.inl rfl)⟩) ?_
 refine gt rfl (fun w5=>(S3 (A3 w5) (A3 w5) rfl)) (gt rfl (fun _=>rfl) (gt rfl (fun _=>rfl) (bs hz2 fun v3 hv3 hz2=>gt rfl (fun w8=>(E2 (A3 w8) (A3 w8) (C0 w8 hv3) rfl)) (gt rfl (fun w9=>(D9 (A3 w9) (C0 w9 hv3) rfl)) (gt rfl (fun w10=>(S3 (A3 w10) (A3 w10) rfl)) (sa rfl rfl rfl (sv rfl (gt rfl (fun _=>rfl) (gt rfl (fun _=>rfl) (gt rfl (fun w13=>(S3 (A3 w13) (A3 w13) rfl)) (gt rfl (fun _=>rfl) (gt rfl (fun _=>rfl) (bs hz2 fun v4 hv4 hz2=> ?_)))))))))))))
 refine S4 _ (i64 v4) (A0d rfl) (fun w16=>⟨_,[(di p4),(di p5)],_,_,(by simp only [A3 w16];rfl),rfl,A2,B8c _ _ _ (C0 w16 hv4),(.inl rfl)⟩) ?_
 refine gt rfl (fun w17=>(S3 (A3 w17) (A3 w17) rfl)) (gt rfl (fun _=>rfl) (gt rfl (fun _=>rfl) (bs hz2 fun v5 hv5 hz2=>gt rfl (fun w20=>(E2 (A3 w20) (A3 w20) (C0 w20 hv5) rfl)) (gt rfl (fun w21=>(D9 (A3 w21) (C0 w21 hv5) rfl)) (gt rfl (fun w22=>(S3 (A3 w22) (A3 w22) rfl)) (sa rfl rfl rfl (A1 (cc rfl hz2 (fun c2 hz2=> ?_) (fun c2 hz2=> ?_)))))))))
 refine lr (fun u5 hu5=>sv rfl (A1 (B3 ?_)))
 cases hz2
 obtain rfl:=ez2 _ rfl
 refine ⟨nofun,E1 ?_⟩
 rw [Sum.elim_inr]at h
 cases h
 exact A7 (.inr rfl) (B6 (B4 rfl) E0) (.refl _)
 refine A9 (G3 (C8 fun u6 hu6=>sv rfl (sv rfl (sv rfl (A1 (G4 ?_))))))
 cases hz2
 exact ⟨rfl,(),(sbr rfl rfl)⟩
 refine C2 rfl ?_
 cases hz2
 obtain rfl:=ez2 _ rfl
 refine ⟨nofun,B9 rfl (l_j ?_)⟩
 exact ⟨_,(),rfl,(sbr rfl rfl)⟩
 rintro _ ⟨y1,g1,rfl,q1⟩
 rw [Sum.elim_inl]at h
 refine B5 q1 (lr (fun u7 hu7=>sv rfl (A1 (B3 ?_))))
 cases h
 exact A7 (.inr rfl) (B6 (B4 rfl) E0) (.refl _)
noncomputable def A2l (p2:Agent)(v1:(Int×Int))(v3:(Int×Int×Int))(v5:(List Int))(x1:(Int×Int)):Option (Stp (Int×Int) Int):=
  ((cond (decide (x1.1>(w64 (0 - v3.2.2)))) (B1f v5 v1.2 p2.V x1.2 v3.2.2) (some default))).bind fun v6=>cond ((decide (x1.1>(w64 (0 - v3.2.2))))&& (!v6)) (some (.go ((w64 (x1.1 - 1)),(mm2 true 0 (mm2 false (w64 (p2.V+ (w64 (x1.1 - 1)))) v3.1))))) (some (.out x1.2))
noncomputable def B0n (p1:Map)(p2:Agent)(p3:Int)(p4:Int):Option Agent:=
  (B0k p1 p2).bind fun v1=>(D4 p1.Lanes v1.1).bind fun v2=>(A3r v2.Kind).bind fun v3=>((cond p2.Obey (A9j p1 v1.1) (some default))).bind fun v4=>(cond (p2.Obey&& (decide (v1.2≤v4))) ((B1e p1 v1.1 p3).bind fun v5=>(loop (A2l p2 v1 v3 v5) ((mm2 true (w64 (0 - v3.2.2)) (mm2 false p4 v3.2.1)),(mm2 true 0 (mm2 false (w64 (p2.V+ (mm2 true (w64 (0 - v3.2.2)) (mm2 false p4 v3.2.1)))) v3.1)))).bind fun y2=>some y2) (some (mm2 true 0 (mm2 false (w64 (p2.V+ (mm2 true (w64 (0 - v3.2.2)) (mm2 false p4 v3.2.1)))) v3.1)))).bind fun y1=>(A8s p1 (Agent.mk p2.Route (w64 (p2.S+y1)) y1 p2.Len p2.Begin p2.Obey p2.Gone)).bind fun v7=>some (Agent.mk p2.Route (w64 (p2.S+y1)) y1 p2.Len p2.Begin p2.Obey v7)
theorem C51 (p1:Map)(p2:Agent)(p3:Int)(p4:Int)(r:Agent)(h:B0n p1 p2 p3 p4=some r):PCall Tryz.prog 89 [(.agg (A3b p1)),(.agg (D8 p2)),(i64 p3),(i64 p4)] (.agg (D8 r)):=by
 refine B7 (fk Tryz.func89 Tryz.ntmps89 m0 (by with_unfolding_all rfl)) (nl rfl) ?_
 unfold B0n at h
 refine B5 (s0:=⟨T [(0,(.d _)),(1,(.d _)),(2,(.d _)),(3,(.d _))],G []⟩) (sbr rfl rfl) ?_
 refine lr (fun u1 hu1=>sn rfl rfl (sn rfl rfl (sn rfl rfl (A1 (lr (fun u2 hu2=>sd rfl (B2 rfl (gq rfl) rfl rfl) (sd rfl (B2 rfl (gq rfl) rfl rfl) (bs h fun v1 hv1 h=>B0 rfl rfl A2 (B89 _ _ _ hv1) (.inl rfl) (sv rfl (sv rfl (sv rfl (sv rfl (sv rfl (A1 (lr (fun u3 hu3=>sp rfl rfl (sl rfl (gq rfl) rfl (sv rfl (bs h fun v2 hv2 h=>sd rfl (E2 rfl rfl hv2 rfl) (sv rfl (sd rfl (D9 rfl hv2 rfl) (bs h fun v3 hv3 h=>B0 rfl rfl A2 (A87 _ _ hv3) (.inl rfl) (sv rfl (sv rfl (sv rfl (sv rfl (sv rfl (sv rfl (sv rfl (A1 (lr (fun u4 hu4=>sv rfl (C1 (di (w64 (0 - v3.2.2))) rfl rfl (sv rfl (sv rfl (sv rfl (sv rfl (sv rfl (A1 (lr (fun u5 hu5=>sp rfl rfl (sl rfl (gq rfl) rfl (sv rfl (sv rfl (sv rfl (sv rfl (sv rfl (sv rfl (A1 (A6 (A6 ?_)))))))))))))))))))))))))))))))))))))))))))))))))))
 refine C8 fun u6 hu6=>sp rfl rfl (sl rfl (gq rfl) rfl (sv rfl (gt rfl (fun _=>rfl) (gt rfl (fun w2=>(B2 rfl (gq rfl) rfl rfl)) (gt rfl (fun _=>rfl) (bs h fun v4 hv4 h=> ?_))))))
 refine S4 p2.Obey (i64 v4) (A0d rfl) (fun w4=>⟨_,[(.d (.agg (A3b p1))),(di v1.1)],_,_,(by simp only [A3 w4];rfl),rfl,A2,C23 _ _ _ (C0 w4 hv4),(.inl rfl)⟩) ?_
 refine gt rfl (fun w5=>(S3 (A3 w5) (A3 w5) rfl)) (sa rfl rfl rfl (A1 (bs h fun y1 hy1 h=>D7 (fun s=> ∃g1:Unit,Sb ⟨T [(4,(.ptr (4,u1) 0)),(5,(.ptr (5,u1) 0)),(8,(.ptr (8,u1) 0)),(14,(di y1))],G [((4,u1),some (.box 33 (A09 p1))),((5,u1),some (.box 45 (V4 p2))),((8,u1),some (.box 45 ([(.d .nilS)]++ (zs 4)++ [(.d (bo false)),(.d (bo false))])))]⟩ s) ?_ ?_)))
 refine cc rfl hy1 (fun c1 hy1=> ?_) (fun c1 hy1=> ?_)
 refine lr (fun u7 hu7=>sd rfl (B2 rfl (gq rfl) rfl rfl) (sv rfl (sv rfl (bs hy1 fun v5 hv5 hy1=>B0 rfl rfl A2 (C6t _ _ _ _ hv5) (.inl rfl) (sv rfl (A1 (bs hy1 fun y2 hy2 hy1=>D7 (fun s=> ∃g2:Unit,Sb ⟨T [(4,(.ptr (4,u1) 0)),(5,(.ptr (5,u1) 0)),(8,(.ptr (8,u1) 0)),(14,(di y2))],G [((4,u1),some (.box 33 (A09 p1))),((5,u1),some (.box 45 (V4 p2))),((8,u1),some (.box 45 ([(.d .nilS)]++ (zs 4)++ [(.d (bo false)),(.d (bo false))])))]⟩ s) ?_ ?_)))))))
 refine A8 (F1 (A2l p2 v1 v3 v5) (fun (x1:(Int×Int)) (g3:Unit)=>⟨T [(3,(di x1.1)),(4,(.ptr (4,u1) 0)),(5,(.ptr (5,u1) 0)),(8,(.ptr (8,u1) 0)),(10,(di v1.2)),(11,(di v3.1)),(13,(di v3.2.2)),(14,(di x1.2)),(15,(dl A4 v5))],G [((4,u1),some (.box 33 (A09 p1))),((5,u1),some (.box 45 (V4 p2))),((8,u1),some (.box 45 ([(.d .nilS)]++ (zs 4)++ [(.d (bo false)),(.d (bo false))])))]⟩) ((mm2 true (w64 (0 - v3.2.2)) (mm2 false p4 v3.2.1)),(mm2 true 0 (mm2 false (w64 (p2.V+ (mm2 true (w64 (0 - v3.2.2)) (mm2 false p4 v3.2.1)))) v3.1))) () _ hy2 (sbr rfl rfl) ?_)
 intro x1 g3 z1 hz1 ez1
 unfold A2l at hz1
 refine A6 (lr (fun u8 hu8=>sv rfl (sv rfl (C1 (di (w64 (0 - v3.2.2))) rfl rfl (sv rfl (sv rfl (gt rfl (fun _=>rfl) (gt rfl (fun _=>rfl) (gp rfl (A0d rfl) (fun _=>rfl) (gt rfl (vl rfl (gq rfl) rfl) (gt rfl (fun _=>rfl) (gt rfl (fun _=>rfl) (bs hz1 fun v6 hv6 hz1=> ?_)))))))))))))
 refine S4 _ (bo v6) (A0d rfl) (fun w12=>⟨_,[(dl A4 v5),(di v1.2),(di p2.V),(di x1.2),(di v3.2.2)],_,_,(by simp only [A3 w12];rfl),rfl,A2,C35 _ _ _ _ _ _ (C0 w12 hv6),(.inl rfl)⟩) ?_
 refine A01 _ (.d (bo (!v6))) rfl (A0d rfl) (fun w13=>(by simp only [A3 w13];rfl)) ?_
 refine sa rfl rfl rfl (A1 (cc rfl hz1 (fun c2 hz1=> ?_) (fun c2 hz1=> ?_)))
 refine A9 (A8 (lr (fun u9 hu9=>sv rfl (sv rfl (sv rfl (A1 (C8 fun u10 hu10=>sp rfl rfl (sl rfl (gq rfl) rfl (sv rfl (sv rfl (sv rfl (sv rfl (sv rfl (sv rfl (A1 (G3 (G4 ?_)))))))))))))))))
 cases hz1
 exact ⟨rfl,(),(sbr rfl rfl)⟩
 refine C2 rfl ?_
 cases hz1
 obtain rfl:=ez1 _ rfl
 refine ⟨nofun,B9 rfl (l_j ?_)⟩
 exact ⟨(),(sbr rfl rfl)⟩
 rintro _ ⟨g2,q1⟩
 obtain rfl:=(Option.some.inj hy1)
 exact l_j ⟨(),(Sb.after q1 (sbr rfl rfl))⟩
 refine A9 ?_
 cases hy1
 exact l_j ⟨(),(sbr rfl rfl)⟩
 rintro _ ⟨g1,q2⟩
 refine B5 q2 (lr (fun u11 hu11=>sv rfl (sp rfl rfl (sl rfl (gq rfl) rfl (sv rfl (sv rfl (sp rfl rfl (sst rfl (gq rfl) ((V4 p2).set 2 (di y1)) rfl (sp rfl rfl (sst rfl G_hit (((V4 p2).set 1 (di (w64 (p2.S+y1)))).set 2 (di y1)) rfl (A1 (lr (fun u12 hu12=>sd rfl (B2 rfl (gq rfl) rfl rfl) (sd rfl (B2 rfl G_hit rfl rfl) (bs h fun v7 hv7 h=>B0 rfl rfl A2 (B8a _ _ _ hv7) (.inl rfl) (sp rfl rfl (sst rfl G_hit ((((V4 p2).set 1 (di (w64 (p2.S+y1)))).set 2 (di y1)).set 6 (.d (bo v7))) rfl (A1 (lr (fun u13 hu13=>sd rfl (B2 rfl G_hit rfl rfl) (sst rfl (gq rfl) ((((V4 p2).set 1 (di (w64 (p2.S+y1)))).set 2 (di y1)).set 6 (.d (bo v7))) rfl (A1 (B3 ?_)))))))))))))))))))))))
 cases h
 exact A7 (.inr rfl) (B6 (K0 rfl G_hit (nl rfl) rfl) E0) (.refl _)
noncomputable def B3k (p1:Map)(p2:State)(p3:Int)(p4:Int):Option Agent:=
  cond ((decide (p3<0))||(decide (p3≥(p2.Agents.length:Int)))) (some (Agent.mk [] 0 0 0 0 false false)) ((D4 p2.Agents p3).bind fun v1=>(A7p ([]:List Int) v1.Route).bind fun v2=>(B1b p1 p2).bind fun v3=>((cond (!(v3 !=0)) (B1c p2 p3) (some default))).bind fun v4=>cond ((v3 !=0)||(!v4)) (some (Agent.mk v2 v1.S v1.V v1.Len v1.Begin v1.Obey v1.Gone)) ((B0n p1 (Agent.mk v2 v1.S v1.V v1.Len v1.Begin v1.Obey v1.Gone) p2.Tick p4).bind fun v5=>some v5))
theorem C52 (p1:Map)(p2:State)(p3:Int)(p4:Int)(r:Agent)(h:B3k p1 p2 p3 p4=some r):PCall Tryz.prog 30 [(.agg (A3b p1)),(.agg (A30 p2)),(i64 p3),(i64 p4)] (.agg (D8 r)):=by
 refine B7 (fk Tryz.func30 Tryz.ntmps30 m0 (by with_unfolding_all rfl)) (nl rfl) ?_
 unfold B3k at h
 refine B5 (s0:=⟨T [(0,(.d _)),(1,(.d _)),(2,(.d _)),(3,(.d _))],G []⟩) (sbr rfl rfl) ?_
 refine lr (fun u1 hu1=>sn rfl rfl (sn rfl rfl (sn rfl rfl (A1 (A6 (lr (fun u2 hu2=>sv rfl (sv rfl (sv rfl (gf rfl (fun _=>rfl) (gp rfl (T8 rfl) (fun _=>rfl) (gf rfl (vl rfl (gq rfl) rfl) (gf rfl (fun w4=>(E7 (A3 w4))) (gf rfl (fun w5=>(S3 (A3 w5) (A3 w5) rfl)) (sd rfl (A0s rfl rfl (fun hc=>A3 (K9 hc))) (A1 (cc rfl h (fun c1 h=> ?_) (fun c1 h=> ?_))))))))))))))))))
 refine lr (fun u3 hu3=>sv rfl (sst rfl G_hit ([(.d .nilS)]++ (zs 4)++ [(.d (bo false)),(.d (bo false))]) rfl (A1 (B3 ?_))))
 cases h
 exact A7 (.inr rfl) (B6 (K0 rfl G_hit (nl rfl) rfl) E0) (.agg (.cons ⟨DLe.nil,rfl⟩ (cz rfl)))
 refine A9 (lr (fun u4 hu4=>sp rfl rfl (sl rfl (gq rfl) rfl (sv rfl (bs h fun v1 hv1 h=>sd rfl (E2 rfl rfl hv1 rfl) (sd rfl (C3 rfl hv1 rfl rfl) (sn rfl rfl (sst rfl G_hit (V4 v1) rfl (A1 (lr (fun u5 hu5=>sp rfl rfl (sl rfl G_hit rfl (bs h fun v2 hv2 h=>D39 A4 (27,u5) ([]:List Int) v1.Route _ (O0 (fun _=>rfl)) rfl (C3l hu5) hv2 (C3l hu5) (sp rfl rfl (A9o _ _ _ _ _ (D38 _ _) rfl rfl (gq rfl) (nl rfl) ((V4 v1).set 0 (oS v2 (27,u5))) rfl (A1 (A6 (lr (fun u6 hu6=>sd rfl (B2 rfl (gq rfl) rfl rfl) (sd rfl (B2 rfl (gq rfl) rfl rfl) (bs h fun v3 hv3 h=>B0 rfl rfl A2 (C31 _ _ _ hv3) (.inl rfl) (sv rfl (sv rfl (gf rfl (fun w6=>(B2 rfl (gq rfl) rfl rfl)) (gf rfl (fun _=>rfl) (bs h fun v4 hv4 h=> ?_))))))))))))))))))))))))))
 refine S4 _ (bo v4) (T8 rfl) (fun w8=>⟨_,[(.d (.agg (A30 p2))),(di p3)],_,_,(by simp only [A3 w8];rfl),rfl,A2,C32 _ _ _ (C0 w8 hv4),(.inl rfl)⟩) ?_
 refine A01 _ (.d (bo (!v4))) rfl (T8 rfl) (fun w9=>(by simp only [A3 w9];rfl)) ?_
 refine sd rfl (A0s rfl rfl (fun hc=>A3 (K9 hc))) (A1 (cc rfl h (fun c2 h=> ?_) (fun c2 h=> ?_)))
 refine lr (fun u7 hu7=>C1 (A4b ((V4 v1).set 0 (oS v2 (27,u5)))) rfl (B2 rfl G_hit rfl rfl) (A9o _ _ _ _ _ (A0j _) rfl rfl (gq rfl) (nl rfl) ((V4 v1).set 0 (oS v2 (27,u5))) rfl (A1 (B3 ?_))))
 cases h
 exact A7 (.inr rfl) (B6 (K0 rfl G_hit (nl rfl) rfl) (B27 (D3 (A2r (gq rfl)) (rD (rD (rD (rD (rD (rD F2))))))))) (.agg (.cons ⟨A2q,rfl⟩ (cz rfl)))
 refine A9 (A6 (l_fr [(27,u5)] [(0,(.d (.agg (A3b p1)))),(1,(.d (.agg (A30 p2)))),(2,(di p3)),(3,(di p4)),(4,(.ptr (4,u1) 0)),(5,(.ptr (5,u1) 0)),(8,(.ptr (8,u1) 0)),(9,(.ptr (9,u4) 0)),(10,(di p3)),(11,(.d (bo (decide (p3<0))))),(12,(.d (bo (decide (p3<0))))),(18,(.d (bo ((decide (p3<0))||(decide (p3≥(p2.Agents.length:Int))))))),(20,(.ptr (5,u1) 1)),(21,(dl D8 p2.Agents)),(22,(di p3)),(23,(.d (.lp (List.map D8 p2.Agents) (p3).toNat 0))),(24,(.d (.agg (D8 v1)))),(25,(.ptr (9,u4) 0)),(26,(dl A4 v1.Route)),(27,(dl A4 v2)),(28,(.ptr (9,u4) 0)),(29,(.d (.agg (A3b p1)))),(30,(.d (.agg (A30 p2)))),(31,(di v3)),(32,(.d (bo (v3 !=0)))),(33,(.d (bo (v3 !=0)))),(38,(.d (bo ((v3 !=0)||(!v4)))))] [((9,u4),some (.box 45 ((V4 v1).set 0 (dl A4 v2)))),((8,u1),some (.box 45 ([(.d .nilS)]++ (zs 4)++ [(.d (bo false)),(.d (bo false))]))),((5,u1),some (.box 25 (N0 p2))),((4,u1),some (.box 33 (A09 p1)))] ⟨A0k rfl,A0k rfl,A0k rfl,A0k rfl,A0k rfl,A0k rfl,A0k rfl,A0k rfl,A0k rfl,A0k rfl,A0k rfl,A0k rfl,A0k rfl,A0k rfl,A0k rfl,A0k rfl,A0k rfl,A0k rfl,A0k rfl,(E1m (A2r (D36 (.head _) (gq rfl))) A2q),A0k rfl,A0k rfl,A0k rfl,A0k rfl,A0k rfl,A0k rfl,A0k rfl,trivial⟩ (D92 G_hit (B92 (C1l rfl) C3m) (.cons (E1m (A2r (D36 (.head _) (gq rfl))) A2q) (.cons (A0k rfl) (.cons (A0k rfl) (.cons (A0k rfl) (.cons (A0k rfl) (.cons (A0k rfl) (.cons (A0k rfl) .nil))))))) (C6l (gq rfl) (B92 (C1l rfl) C3m) (C6l (gq rfl) (B92 (C1l rfl) C3m) (C6l (gq rfl) (B92 (C1l rfl) C3m) trivial)))) (C8 fun u8 hu8=>sd rfl (B2 rfl (gq rfl) rfl rfl) (sd rfl (B2 rfl G_hit rfl rfl) (sp rfl rfl (sl rfl (gq rfl) rfl (sv rfl (bs h fun v5 hv5 h=>B0 rfl rfl A2 (C51 _ _ _ _ _ hv5) (.inl rfl) (sst rfl (gq rfl) (V4 v5) rfl (A1 (B3 ?_)))))))))))
 cases h
 exact A7 (.inr rfl) (B6 (K0 rfl G_hit (nl rfl) rfl) E0) (.refl _)
noncomputable def A64 (p1:State)(p2:State)(x3:Int):Option (Stp Int (Sum Unit Bool)):=
  cond (decide (x3< (p1.In.length:Int))) ((D4 p1.In x3).bind fun v5=>(D4 p2.In x3).bind fun v6=>cond (!(v5.Agent_==v6.Agent_&& (v5.Zone_==v6.Zone_&& (v5.Since==v6.Since&& (v5.Rank==v6.Rank&&true))))) (some (.out (.inr false))) (some (.go (w64 (x3+1))))) (some (.out (.inl ())))
noncomputable def A46 (v1:Agent)(v2:Agent)(x2:Int):Option (Stp Int (Sum Unit Bool)):=
  cond (decide (x2< (v1.Route.length:Int))) ((D4 v1.Route x2).bind fun v3=>(D4 v2.Route x2).bind fun v4=>cond (v3 !=v4) (some (.out (.inr false))) (some (.go (w64 (x2+1))))) (some (.out (.inl ())))
noncomputable def A65 (p1:State)(p2:State)(x1:Int):Option (Stp Int (Sum Unit Bool)):=
  cond (decide (x1< (p1.Agents.length:Int))) ((D4 p1.Agents x1).bind fun v1=>(D4 p2.Agents x1).bind fun v2=>cond ((((((((v1.Route.length:Int) !=(v2.Route.length:Int))||(v1.S !=v2.S))||(v1.V !=v2.V))||(v1.Len !=v2.Len))||(v1.Begin !=v2.Begin))||(!(v1.Obey==v2.Obey)))||(!(v1.Gone==v2.Gone))) (some (.out (.inr false))) (thenS (loop (A46 v1 v2) 0) (fun _=>some (.go (w64 (x1+1)))) (fun r=>some (.out (.inr r))))) (some (.out (.inl ())))
noncomputable def B3l (p1:State)(p2:State):Option Bool:=
  cond (((p1.Tick !=p2.Tick)||((p1.Agents.length:Int) !=(p2.Agents.length:Int)))||((p1.In.length:Int) !=(p2.In.length:Int))) (some false) (thenS (loop (A65 p1 p2) 0) (fun _=>thenS (loop (A64 p1 p2) 0) (fun _=>some true) (fun r=>some r)) (fun r=>some r))
theorem C53 (p1:State)(p2:State)(r:Bool)(h:B3l p1 p2=some r):PCall Tryz.prog 26 [(.agg (A30 p1)),(.agg (A30 p2))] (bo r):=by
 refine B7 (fk Tryz.func26 Tryz.ntmps26 m0 (by with_unfolding_all rfl)) (nl rfl) ?_
 unfold B3l at h
 refine B5 (s0:=⟨T [(0,(.d _)),(1,(.d _))],G []⟩) (sbr rfl rfl) ?_
 refine lr (fun u1 hu1=>sn rfl rfl (sn rfl rfl (sv rfl (A1 (A6 (lr (fun u2 hu2=>sp rfl rfl (sl rfl (gq rfl) rfl (sp rfl rfl (sl rfl G_hit rfl (sv rfl (sv rfl (gp rfl (T8 rfl) (fun _=>rfl) (gf rfl (vl rfl (gq rfl) rfl) (gf rfl (fun w3=>(E7 (A3 w3))) (gp rfl (T8 rfl) (fun _=>rfl) (gf rfl (vl rfl G_hit rfl) (gf rfl (fun w6=>(E7 (A3 w6))) (gf rfl (fun w7=>(S3 (A3 w7) (A3 w7) rfl)) (sd rfl (A0s rfl rfl (fun hc=>A3 (K9 hc))) (sv rfl (gp rfl (T8 rfl) (fun _=>rfl) (gf rfl (vl rfl (gq rfl) rfl) (gf rfl (fun w10=>(E7 (A3 w10))) (gp rfl (T8 rfl) (fun _=>rfl) (gf rfl (vl rfl G_hit rfl) (gf rfl (fun w13=>(E7 (A3 w13))) (gf rfl (fun w14=>(S3 (A3 w14) (A3 w14) rfl)) (sd rfl (A0s rfl rfl (fun hc=>A3 (K9 hc))) (A1 (cc rfl h (fun c1 h=> ?_) (fun c1 h=> ?_))))))))))))))))))))))))))))))))
 refine lr (fun u3 hu3=>sv rfl (A1 (B3 ?_)))
 cases h
 exact A7 (.inr rfl) (B6 (B4 rfl) E0) (.refl _)
 refine A9 (A6 (lr (fun u4 hu4=>sv rfl (A1 (js h fun z1 hz1 h=>D7 (fun s=> ∃(y1:Unit) (g1:Unit),z1= .inl y1∧Sb ⟨T [(2,(.ptr (2,u1) 0)),(3,(.ptr (3,u1) 0))],G [((2,u1),some (.box 25 (N0 p1))),((3,u1),some (.box 25 (N0 p2)))]⟩ s) ?_ ?_)))))
 refine A8 (F1 (A65 p1 p2) (fun (x1:Int) (g2:Unit)=>⟨T [(2,(.ptr (2,u1) 0)),(3,(.ptr (3,u1) 0)),(5,(di x1))],G [((2,u1),some (.box 25 (N0 p1))),((3,u1),some (.box 25 (N0 p2)))]⟩) 0 () _ hz1 (sbr rfl rfl) ?_)
 intro x1 g2 z2 hz2 ez2
 unfold A65 at hz2
 refine A6 (lr (fun u5 hu5=>sv rfl (sp rfl rfl (sl rfl G_hit rfl (sd rfl (E7 rfl) (sv rfl (A1 (cc rfl hz2 (fun c2 hz2=> ?_) (fun c2 hz2=> ?_)))))))))
 refine A9 (A6 (A8 (A6 (B8z fun u6 hu6=>A16 (.ptr _ _) rfl rfl (A16 (.d _) rfl (Z4 rfl G_hit rfl) (A16 (.d _) rfl rfl (bs hz2 fun v1 hv1 hz2=>A16 (.d _) rfl (E2 rfl rfl hv1 rfl) (A16 (.d _) rfl (C3 rfl hv1 rfl rfl) (A16 (.ptr _ _) rfl rfl (A16 (.d _) rfl (Z4 rfl (gq rfl) rfl) (A16 (.d _) rfl rfl (bs hz2 fun v2 hv2 hz2=>A16 (.d _) rfl (E2 rfl rfl hv2 rfl) (A16 (.d _) rfl (C3 rfl hv2 rfl rfl) (D31 (.ptr _ _) (.box _ _) rfl rfl (D31 (.ptr _ _) (.box _ _) rfl rfl (C4l _ _ _ _ _ rfl rfl rfl (gq rfl) (nl rfl) (V4 v1) rfl (C4l _ _ _ _ _ rfl rfl rfl (gq rfl) (nl rfl) (V4 v2) rfl (D12 ⟨rfl,?_⟩))))))))))))))))))
 refine A6 (lr (fun u7 hu7=>sp rfl rfl (sl rfl (gq rfl) rfl (sd rfl (E7 rfl) (sp rfl rfl (sl rfl G_hit rfl (sd rfl (E7 rfl) (sv rfl (sv rfl (gp rfl (T8 rfl) (fun _=>rfl) (gf rfl (vl rfl (gq rfl) rfl) (gp rfl (T8 rfl) (fun _=>rfl) (gf rfl (vl rfl G_hit rfl) (gf rfl (fun w19=>(S3 (A3 w19) (A3 w19) rfl)) (sd rfl (A0s rfl rfl (fun hc=>A3 (K9 hc))) (sv rfl (gp rfl (T8 rfl) (fun _=>rfl) (gf rfl (vl rfl (gq rfl) rfl) (gp rfl (T8 rfl) (fun _=>rfl) (gf rfl (vl rfl G_hit rfl) (gf rfl (fun w24=>(S3 (A3 w24) (A3 w24) rfl)) (sd rfl (A0s rfl rfl (fun hc=>A3 (K9 hc))) (sv rfl (gp rfl (T8 rfl) (fun _=>rfl) (gf rfl (vl rfl (gq rfl) rfl) (gp rfl (T8 rfl) (fun _=>rfl) (gf rfl (vl rfl G_hit rfl) (gf rfl (fun w29=>(S3 (A3 w29) (A3 w29) rfl)) (sd rfl (A0s rfl rfl (fun hc=>A3 (K9 hc))) (sv rfl (gp rfl (T8 rfl) (fun _=>rfl) (gf rfl (vl rfl (gq rfl) rfl) (gp rfl (T8 rfl) (fun _=>rfl) (gf rfl (vl rfl G_hit rfl) (gf rfl (fun w34=>(S3 (A3 w34) (A3 w34) rfl)) (sd rfl (A0s rfl rfl (fun hc=>A3 (K9 hc))) (sv rfl (gp rfl (T8 rfl) (fun _=>rfl) (gf rfl (vl rfl (gq rfl) rfl) (gp rfl (T8 rfl) (fun _=>rfl) (gf rfl (vl rfl G_hit rfl) ?_)))))))))))))))))))))))))))))))))))))))))
 refine A01 _ (.d (bo (!(v1.Obey==v2.Obey)))) rfl (T8 rfl) (fun w39=>(by simp only [A3 w39];rfl)) ?_
 refine sd rfl (A0s rfl rfl (fun hc=>A3 (K9 hc))) (sv rfl (gp rfl (T8 rfl) (fun _=>rfl) (gf rfl (vl rfl (gq rfl) rfl) (gp rfl (T8 rfl) (fun _=>rfl) (gf rfl (vl rfl G_hit rfl) ?_)))))
 refine A01 _ (.d (bo (!(v1.Gone==v2.Gone)))) rfl (T8 rfl) (fun w44=>(by simp only [A3 w44];rfl)) ?_
 refine sd rfl (A0s rfl rfl (fun hc=>A3 (K9 hc))) (A1 (cc rfl hz2 (fun c3 hz2=> ?_) (fun c3 hz2=> ?_)))
 refine lr (fun u8 hu8=>sv rfl (A1 (B3 ?_)))
 cases hz2
 obtain rfl:=ez2 _ rfl
 refine ⟨nofun,E1 ?_⟩
 rw [Sum.elim_inr]at h
 cases h
 exact A7 (.inr rfl) (B6 (B4 rfl) E0) (.refl _)
 refine A9 (lr (fun u9 hu9=>sv rfl (A1 (js hz2 fun z3 hz3 hz2=>D7 (fun s=> ∃(y2:Unit) (g3:Unit),z3= .inl y2∧Sb ⟨T [(2,(.ptr (2,u1) 0)),(3,(.ptr (3,u1) 0)),(5,(di x1))],G [((2,u1),some (.box 25 (N0 p1))),((3,u1),some (.box 25 (N0 p2)))]⟩ s) ?_ ?_))))
 refine A8 (F1 (A46 v1 v2) (fun (x2:Int) (g4:Unit)=>⟨T [(2,(.ptr (2,u1) 0)),(3,(.ptr (3,u1) 0)),(5,(di x1)),(6,(.ptr (6,u6) 0)),(7,(.ptr (7,u6) 0)),(8,(di x2))],G [((2,u1),some (.box 25 (N0 p1))),((3,u1),some (.box 25 (N0 p2))),((6,u6),some (.box 45 (V4 v1))),((7,u6),some (.box 45 (V4 v2)))]⟩) 0 () _ hz3 (sbr rfl rfl) ?_)
 intro x2 g4 z4 hz4 ez4
 unfold A46 at hz4
 refine A6 (lr (fun u10 hu10=>sv rfl (sp rfl rfl (sl rfl (gq rfl) rfl (sd rfl (E7 rfl) (sv rfl (A1 (cc rfl hz4 (fun c4 hz4=> ?_) (fun c4 hz4=> ?_)))))))))
 refine A9 (A6 (A8 (A6 (I0 rfl fun u11 hu11=>sp rfl rfl (sl rfl (gq rfl) rfl (sv rfl (bs hz4 fun v3 hv3 hz4=>sd rfl (E2 rfl rfl hv3 rfl) (sd rfl (D9 rfl hv3 rfl) (sp rfl rfl (sl rfl (gq rfl) rfl (sv rfl (bs hz4 fun v4 hv4 hz4=>sd rfl (E2 rfl rfl hv4 rfl) (sd rfl (D9 rfl hv4 rfl) (sv rfl (A1 (cc rfl hz4 (fun c5 hz4=> ?_) (fun c5 hz4=> ?_)))))))))))))))))
 refine lr (fun u12 hu12=>sv rfl (A1 (B3 ?_)))
 cases hz4
 obtain rfl:=ez4 _ rfl
 refine ⟨nofun,E1 ?_⟩
 rw [Sum.elim_inr]at hz2
 cases hz2
 obtain rfl:=ez2 _ rfl
 refine ⟨nofun,E1 ?_⟩
 rw [Sum.elim_inr]at h
 cases h
 exact A7 (.inr rfl) (B6 (B4 rfl) E0) (.refl _)
 refine A9 (G3 (C8 fun u13 hu13=>sv rfl (sv rfl (sv rfl (A1 (G4 ?_))))))
 cases hz4
 exact ⟨rfl,(),(sbr rfl rfl)⟩
 refine C2 rfl ?_
 cases hz4
 obtain rfl:=ez4 _ rfl
 refine ⟨nofun,B9 rfl (l_j ?_)⟩
 exact ⟨_,(),rfl,(sbr rfl rfl)⟩
 rintro _ ⟨y2,g3,rfl,q1⟩
 rw [Sum.elim_inl]at hz2
 refine G3 (B5 q1 (C8 fun u14 hu14=>sv rfl (sv rfl (sv rfl (A1 (G4 ?_))))))
 cases hz2
 exact ⟨rfl,(),(sbr rfl rfl)⟩
 refine C2 rfl ?_
 cases hz2
 obtain rfl:=ez2 _ rfl
 refine ⟨nofun,B9 rfl (l_j ?_)⟩
 exact ⟨_,(),rfl,(sbr rfl rfl)⟩
 rintro _ ⟨y1,g1,rfl,q2⟩
 rw [Sum.elim_inl]at h
 refine B5 q2 (A6 (lr (fun u15 hu15=>sv rfl (A1 (js h fun z5 hz5 h=>D7 (fun s=> ∃(y3:Unit) (g5:Unit),z5= .inl y3∧Sb ⟨T [],G []⟩ s) ?_ ?_)))))
 refine A8 (F1 (A64 p1 p2) (fun (x3:Int) (g6:Unit)=>⟨T [(2,(.ptr (2,u1) 0)),(3,(.ptr (3,u1) 0)),(9,(di x3))],G [((2,u1),some (.box 25 (N0 p1))),((3,u1),some (.box 25 (N0 p2)))]⟩) 0 () _ hz5 (sbr rfl rfl) ?_)
 intro x3 g6 z6 hz6 ez6
 unfold A64 at hz6
 refine A6 (lr (fun u16 hu16=>sv rfl (sp rfl rfl (sl rfl G_hit rfl (sd rfl (E7 rfl) (sv rfl (A1 (cc rfl hz6 (fun c6 hz6=> ?_) (fun c6 hz6=> ?_)))))))))
 refine A9 (A6 (A8 (A6 (I0 rfl fun u17 hu17=>sp rfl rfl (sl rfl G_hit rfl (sv rfl (bs hz6 fun v5 hv5 hz6=>sd rfl (E2 rfl rfl hv5 rfl) (sd rfl (C3 rfl hv5 rfl rfl) (sp rfl rfl (sl rfl (gq rfl) rfl (sv rfl (bs hz6 fun v6 hv6 hz6=>sd rfl (E2 rfl rfl hv6 rfl) (sd rfl (C3 rfl hv6 rfl rfl) (C1 (.d (bo (!(v5.Agent_==v6.Agent_&& (v5.Zone_==v6.Zone_&& (v5.Since==v6.Since&& (v5.Rank==v6.Rank&&true))))))) rfl rfl (A1 (cc rfl hz6 (fun c7 hz6=> ?_) (fun c7 hz6=> ?_)))))))))))))))))
 refine lr (fun u18 hu18=>sv rfl (A1 (B3 ?_)))
 cases hz6
 obtain rfl:=ez6 _ rfl
 refine ⟨nofun,E1 ?_⟩
 rw [Sum.elim_inr]at h
 cases h
 exact A7 (.inr rfl) (B6 (B4 rfl) E0) (.refl _)
 refine A9 (G3 (C8 fun u19 hu19=>sv rfl (sv rfl (sv rfl (A1 (G4 ?_))))))
 cases hz6
 exact ⟨rfl,(),(sbr rfl rfl)⟩
 refine C2 rfl ?_
 cases hz6
 obtain rfl:=ez6 _ rfl
 refine ⟨nofun,B9 rfl (l_j ?_)⟩
 exact ⟨_,(),rfl,(sbr rfl rfl)⟩
 rintro _ ⟨y3,g5,rfl,q3⟩
 rw [Sum.elim_inl]at h
 refine B5 q3 (lr (fun u20 hu20=>sv rfl (A1 (B3 ?_))))
 cases h
 exact A7 (.inr rfl) (B6 (B4 rfl) E0) (.refl _)
noncomputable def A6w (p1:Int)(p2:State)(p3:Int)(p4:Int):Option Bool:=
  (B0w p2).bind fun v1=>cond (!v1) ((A71).bind fun v2=>some v2) ((B9a p1).bind fun v3=>(A7e v3 p2 p3 p4).bind fun v4=>(B3k v3 p2 p3 p4).bind fun v5=>(B3l (State.mk 0 [v4] []) (State.mk 0 [v5] [])).bind fun v6=>((cond v6 (A71) (some default))).bind fun v7=>some (v6&&v7))
theorem B6y (p1:Int)(p2:State)(p3:Int)(p4:Int)(r:Bool)(h:A6w p1 p2 p3 p4=some r):PCall Tryz.prog 5 [(i64 p1),(.agg (A30 p2)),(i64 p3),(i64 p4)] (bo r):=by
 refine B7 (fk Tryz.func5 Tryz.ntmps5 (fun r=>if r==5 then [1001,1004]else []) (by with_unfolding_all rfl)) (nl rfl) ?_
 unfold A6w at h
 refine B5 (s0:=⟨T [(0,(.d _)),(1,(.d _)),(2,(.d _)),(3,(.d _))],G []⟩) (sbr rfl rfl) ?_
 refine lr (fun u1 hu1=>sn rfl rfl (sv rfl (A1 (A6 (lr (fun u2 hu2=>sd rfl (B2 rfl G_hit rfl rfl) (bs h fun v1 hv1 h=>B0 rfl rfl A2 (C2v _ _ hv1) (.inl rfl) (C1 (.d (bo (!v1))) rfl rfl (A1 (cc rfl h (fun c1 h=> ?_) (fun c1 h=> ?_)))))))))))
 refine lr (fun u3 hu3=>bs h fun v2 hv2 h=>B0 rfl rfl A2 (B6e _ hv2) (.inl rfl) (sv rfl (A1 (B3 ?_))))
 cases h
 exact A7 (.inr rfl) (B6 (B4 rfl) E0) (.refl _)
 refine A9 (lr (fun u4 hu4=>sv rfl (bs h fun v3 hv3 h=>B0 rfl rfl A2 (D17 _ _ hv3) (.inl rfl) (sn rfl rfl (sst rfl G_hit (A09 v3) rfl (A1 (A6 (I0 rfl fun u5 hu5=>sd rfl (B2 rfl G_hit rfl rfl) (sd rfl (B2 rfl (gq rfl) rfl rfl) (sv rfl (sv rfl (bs h fun v4 hv4 h=>B0 rfl rfl A2 (B83 _ _ _ _ _ hv4) (.inl rfl) (sd rfl (B2 rfl G_hit rfl rfl) (sd rfl (B2 rfl (gq rfl) rfl rfl) (sv rfl (sv rfl (bs h fun v5 hv5 h=>B0 rfl rfl A2 (C52 _ _ _ _ _ hv5) (.inl rfl) (sn rfl rfl (sn rfl rfl (sst rfl (gq rfl) (V4 v4) rfl (sst rfl (gq rfl) (V4 v5) rfl (A1 (lr (fun u6 hu6=>sd rfl (B2 rfl (gq rfl) rfl rfl) (C1 (dl D8 [v4]) rfl rfl (sv rfl (sd rfl (B2 rfl G_hit rfl rfl) (C1 (dl D8 [v5]) rfl rfl (sv rfl (bs h fun v6 hv6 h=>B0 rfl rfl (.cons (.agg (ca rfl (ca rfl (.cons ⟨DLe.nil,rfl⟩ .nil)))) (.cons (.agg (ca rfl (ca rfl (.cons ⟨DLe.nil,rfl⟩ .nil)))) .nil)) (C53 _ _ _ hv6) (.inl rfl) (sv rfl (bs h fun v7 hv7 h=>S4 v6 (bo v7) (A0d rfl) (fun w1=>⟨_,_,_,_,rfl,rfl,A2,B6e _ (C0 w1 hv7),(.inl rfl)⟩) (sa rfl rfl rfl (sv rfl (A1 (B3 ?_))))))))))))))))))))))))))))))))))))
 cases h
 exact A7 (.inr rfl) (B6 (B4 rfl) E0) (.refl _)
end Go.Abs.World
