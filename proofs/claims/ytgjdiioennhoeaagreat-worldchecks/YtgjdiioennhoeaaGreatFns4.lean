/-
  The functions, part 4.
-/
import Derived.Test.YtgjdiioennhoeaaGreatFns3
set_option maxRecDepth 20000
set_option maxHeartbeats 4000000
set_option linter.unusedVariables false
namespace Go.Abs.World
open Go Go.Abs Go.Proofs
attribute [local irreducible] X8 B3m AWL
noncomputable def V2 (p1:Map)(p2:Signal)(x2:Int):Option (Stp Int (Sum Unit Int)):=
  cond (decide (x2< (p2.Phases.length:Int))) ((D6 p2.Phases x2).bind fun v4=>(A3j v4.Green 0 (p1.Lanes.length:Int)).bind fun v5=>cond (!v5) (some (.out (.inr 11))) (some (.go (w64 (x2+1))))) (some (.out (.inl ())))
noncomputable def V3 (p2:Signal)(x1:(Bool×Int)):Option (Stp (Bool×Int) Bool):=
  cond (decide (x1.2< (p2.Phases.length:Int))) (((cond x1.1 (D6 p2.Phases x1.2) (some default))).bind fun v2=>((cond x1.1 (A26 v2.Ticks 1 10000) (some default))).bind fun v3=>some (.go ((x1.1&&v3),(w64 (x1.2+1))))) (some (.out x1.1))
noncomputable def A32 (p1:Map)(p2:Signal):Option Int:=
  cond ((p2.Phases.length:Int)==0) (some 6) (cond (decide ((p2.Phases.length:Int)>6)) (some 8) ((A26 p2.Offset 0 1099511627776).bind fun v1=>(loop (V3 p2) (v1,0)).bind fun y1=>cond (!y1) (some 2) (thenS (loop (V2 p1 p2) 0) (fun _=>some 0) (fun r=>some r))))
theorem B4y (p1:Map)(p2:Signal)(r:Int)(h:A32 p1 p2=some r):PCall Tryz.prog 165 [(.agg (A4h p1)),(.agg [(i64 p2.Offset),(.list (List.map A5q p2.Phases))])] (i64 r):=by
 refine B8 (fk Tryz.func165 Tryz.ntmps165 m0 (by with_unfolding_all rfl)) (nl rfl) ?_
 unfold A32 at h
 refine B5 (s0:=⟨T [(0,(.d _)),(1,(.d _))],G []⟩) (sbr rfl rfl) ?_
 refine lr (fun u1 hu1=>sn rfl rfl (sn rfl rfl (sv rfl (A1 (A6 (lr (fun u2 hu2=>sp rfl rfl (sl rfl G_hit rfl (sd rfl (E5 rfl) (sv rfl (A1 (cc rfl h (fun c1 h=> ?_) (fun c1 h=> ?_)))))))))))))
 refine lr (fun u3 hu3=>sv rfl (A1 (B3 ?_)))
 cases h
 exact A7 (.inr rfl) (B6 (B4 rfl) E1) (.refl _)
 refine A9 (A6 (lr (fun u4 hu4=>sp rfl rfl (sl rfl G_hit rfl (sd rfl (E5 rfl) (sv rfl (A1 (cc rfl h (fun c2 h=> ?_) (fun c2 h=> ?_)))))))))
 refine lr (fun u5 hu5=>sv rfl (A1 (B3 ?_)))
 cases h
 exact A7 (.inr rfl) (B6 (B4 rfl) E1) (.refl _)
 refine A9 (lr (fun u6 hu6=>sp rfl rfl (sl rfl G_hit rfl (bs h fun v1 hv1 h=>B1 rfl rfl A2 (A31 _ _ _ _ hv1) (.inl rfl) (sv rfl (A1 (A6 (lr (fun u7 hu7=>sv rfl (A1 (bs h fun y1 hy1 h=>E0 (fun s=> ∃g1:Unit,Sb ⟨T [(2,(.ptr (2,u1) 0)),(3,(.ptr (3,u1) 0)),(5,(.d (bo y1)))],G [((2,u1),some (.box 33 (A0i p1))),((3,u1),some (.box 120 [(di p2.Offset),(dl A5q p2.Phases)]))]⟩ s) ?_ ?_)))))))))))
 refine A8 (E7 (V3 p2) (fun (x1:(Bool×Int)) (g2:Unit)=>⟨T [(2,(.ptr (2,u1) 0)),(3,(.ptr (3,u1) 0)),(5,(.d (bo x1.1))),(6,(di x1.2))],G [((2,u1),some (.box 33 (A0i p1))),((3,u1),some (.box 120 [(di p2.Offset),(dl A5q p2.Phases)]))]⟩) (v1,0) () _ hy1 (sbr rfl rfl) ?_)
 intro x1 g2 z1 hz1 ez1
 unfold V3 at hz1
 refine A6 (lr (fun u8 hu8=>sv rfl (sp rfl rfl (sl rfl (gq rfl) rfl (sd rfl (E5 rfl) (sv rfl (A1 (cc rfl hz1 (fun c3 hz1=> ?_) (fun c3 hz1=> ?_)))))))))
 refine A9 (A6 (A8 (D0 fun u9 hu9=>sv rfl (sv rfl (gp rfl (A19 rfl) (fun _=>rfl) (gt rfl (vl rfl (gq rfl) rfl) (gt rfl (fun _=>rfl) (bs hz1 fun v2 hv2 hz1=>gt rfl (fun w4=>(E4 (A3 w4) (A3 w4) (C7 w4 hv2) rfl)) ?_))))))))
 refine gt rfl (fun w5=>(by simp only [A3 w5];rfl)) ?_
 refine gt rfl (fun w6=>(F3 (A3 w6) (C7 w6 hv2) rfl)) (bs hz1 fun v3 hv3 hz1=> ?_)
 refine U8 x1.1 (bo v3) (A19 rfl) (fun w7=>⟨_,[(di v2.Ticks),(di 1),(di 10000)],_,_,(by simp only [A3 w7];rfl),rfl,A2,A31 _ _ _ _ (C7 w7 hv3),(.inl rfl)⟩) ?_
 refine sa rfl rfl rfl (sv rfl (A1 (F9 (D0 fun u10 hu10=>sv rfl (sv rfl (sv rfl (A1 (G3 ?_))))))))
 cases hz1
 exact ⟨rfl,(),(sbr rfl rfl)⟩
 refine C3 rfl ?_
 cases hz1
 obtain rfl:=ez1 _ rfl
 refine ⟨nofun,C0 rfl (l_j ?_)⟩
 exact ⟨(),(sbr rfl rfl)⟩
 rintro _ ⟨g1,q1⟩
 refine B5 q1 (A6 (lr (fun u11 hu11=>sv rfl (B9 (.d (bo (!y1))) rfl rfl (A1 (cc rfl h (fun c4 h=> ?_) (fun c4 h=> ?_)))))))
 refine lr (fun u12 hu12=>sv rfl (A1 (B3 ?_)))
 cases h
 exact A7 (.inr rfl) (B6 (B4 rfl) E1) (.refl _)
 refine A9 (A6 (lr (fun u13 hu13=>sv rfl (A1 (js h fun z2 hz2 h=>E0 (fun s=> ∃(y2:Unit) (g3:Unit),z2= .inl y2∧Sb ⟨T [],G []⟩ s) ?_ ?_)))))
 refine A8 (E7 (V2 p1 p2) (fun (x2:Int) (g4:Unit)=>⟨T [(2,(.ptr (2,u1) 0)),(3,(.ptr (3,u1) 0)),(7,(di x2))],G [((2,u1),some (.box 33 (A0i p1))),((3,u1),some (.box 120 [(di p2.Offset),(dl A5q p2.Phases)]))]⟩) 0 () _ hz2 (sbr rfl rfl) ?_)
 intro x2 g4 z3 hz3 ez3
 unfold V2 at hz3
 refine A6 (lr (fun u14 hu14=>sv rfl (sp rfl rfl (sl rfl (gq rfl) rfl (sd rfl (E5 rfl) (sv rfl (A1 (cc rfl hz3 (fun c5 hz3=> ?_) (fun c5 hz3=> ?_)))))))))
 refine A9 (A6 (A8 (A6 (I6 rfl fun u15 hu15=>sp rfl rfl (sl rfl (gq rfl) rfl (sv rfl (bs hz3 fun v4 hv4 hz3=>sd rfl (E4 rfl rfl hv4 rfl) (sv rfl (sd rfl (F3 rfl hv4 rfl) (sp rfl rfl (sl rfl G_hit rfl (sd rfl (E5 rfl) (bs hz3 fun v5 hv5 hz3=>B1 rfl rfl A2 (A91 _ _ _ _ hv5) (.inl rfl) (B9 (.d (bo (!v5))) rfl rfl (A1 (cc rfl hz3 (fun c6 hz3=> ?_) (fun c6 hz3=> ?_)))))))))))))))))
 refine lr (fun u16 hu16=>sv rfl (A1 (B3 ?_)))
 cases hz3
 obtain rfl:=ez3 _ rfl
 refine ⟨nofun,D7 ?_⟩
 rw [Sum.elim_inr]at h
 cases h
 exact A7 (.inr rfl) (B6 (B4 rfl) E1) (.refl _)
 refine A9 (F9 (D0 fun u17 hu17=>sv rfl (sv rfl (sv rfl (A1 (G3 ?_))))))
 cases hz3
 exact ⟨rfl,(),(sbr rfl rfl)⟩
 refine C3 rfl ?_
 cases hz3
 obtain rfl:=ez3 _ rfl
 refine ⟨nofun,C0 rfl (l_j ?_)⟩
 exact ⟨_,(),rfl,(sbr rfl rfl)⟩
 rintro _ ⟨y2,g3,rfl,q2⟩
 rw [Sum.elim_inl]at h
 refine B5 q2 (lr (fun u18 hu18=>sv rfl (A1 (B3 ?_))))
 cases h
 exact A7 (.inr rfl) (B6 (B4 rfl) E1) (.refl _)
noncomputable def A1g (p1:Curve)(x1:((List Int)×Int)):Option (Stp ((List Int)×Int) (List Int)):=
  cond (decide ((w64 (x1.2+1))< (p1.Pts.length:Int))) ((D6 p1.Pts (w64 (x1.2+1))).bind fun v2=>(D6 p1.Pts x1.2).bind fun v3=>(A6f v2 v3).bind fun v4=>(A8q v4 v4).bind fun v5=>(A6r v5).bind fun v6=>(A8h x1.1 [v6]).bind fun v7=>some (.go (v7,(w64 (x1.2+1))))) (some (.out x1.1))
noncomputable def A8r (p1:Curve):Option (List Int):=
  (A82 p1).bind fun v1=>cond (v1 !=0) (some []) ((loop (A1g p1) ([],0)).bind fun y1=>some y1)
theorem C0i (p1:Curve)(r:(List Int))(h:A8r p1=some r):PCall Tryz.prog 134 [(.agg [(.list (List.map A5a p1.Pts))])] (.list (List.map A5 r)):=by
 refine B8 (fk Tryz.func134 Tryz.ntmps134 (fun r=>if r==8 then [1005]else []) (by with_unfolding_all rfl)) (nl rfl) ?_
 unfold A8r at h
 refine B5 (s0:=⟨T [(0,(.d _))],G []⟩) (sbr rfl rfl) ?_
 refine lr (fun u1 hu1=>sn rfl rfl (sv rfl (A1 (A6 (lr (fun u2 hu2=>sd rfl (B2 rfl G_hit rfl rfl) (bs h fun v1 hv1 h=>B1 rfl rfl A2 (B5b _ _ hv1) (.inl rfl) (sv rfl (A1 (cc rfl h (fun c1 h=> ?_) (fun c1 h=> ?_)))))))))))
 refine lr (fun u3 hu3=>sv rfl (A1 (B3 ?_)))
 cases h
 exact A7 (.inr rfl) (B6 (B4 rfl) E1) DLe.nil
 refine A9 (lr (fun u4 hu4=>sv rfl (A1 (A6 (lr (fun u5 hu5=>sv rfl (A1 (bs h fun y1 hy1 h=>E0 (fun s=> ∃g1:Nat,Sb ⟨T [(3,(oS y1 (35,g1)))],G [((35,g1),oB 2 1 A5 y1)]⟩ s) ?_ ?_))))))))
 refine A8 (E7 (A1g p1) (fun (x1:((List Int)×Int)) (g2:Nat)=>⟨T [(1,(.ptr (1,u1) 0)),(3,(oS x1.1 (35,g2))),(4,(di x1.2))],G [((1,u1),some (.box 61 [(dl A5a p1.Pts)])),((35,g2),oB 2 1 A5 x1.1)]⟩) ([],0) 0 _ hy1 (G8 ⟨.of rfl, .of rfl, .of rfl,trivial⟩ (B0 G_hit (.of rfl) (Y3 trivial))) ?_)
 intro x1 g2 z1 hz1 ez1
 unfold A1g at hz1
 refine A6 (lr (fun u6 hu6=>sv rfl (sv rfl (sp rfl rfl (sl rfl G_hit rfl (sd rfl (E5 rfl) (sv rfl (A1 (cc rfl hz1 (fun c2 hz1=> ?_) (fun c2 hz1=> ?_))))))))))
 refine A9 (A6 (A8 (A6 (I6 rfl fun u7 hu7=>sp rfl rfl (sl rfl G_hit rfl (sv rfl (sv rfl (bs hz1 fun v2 hv2 hz1=>sd rfl (E4 rfl rfl hv2 rfl) (sd rfl (C4 rfl hv2 rfl rfl) (sp rfl rfl (sl rfl G_hit rfl (sv rfl (bs hz1 fun v3 hv3 hz1=>sd rfl (E4 rfl rfl hv3 rfl) (sd rfl (C4 rfl hv3 rfl rfl) (bs hz1 fun v4 hv4 hz1=>B1 rfl rfl A2 (B1i _ _ _ hv4) (.inl rfl) (sn rfl rfl (sst rfl G_hit [(di v4.X),(di v4.Y)] rfl (A1 (D0 fun u8 hu8=>B9 (oS x1.1 (35,g2)) rfl rfl (sd rfl (B2 rfl G_hit rfl rfl) (sd rfl (B2 rfl G_hit rfl rfl) (bs hz1 fun v5 hv5 hz1=>B1 rfl rfl A2 (B1a _ _ _ hv5) (.inl rfl) (bs hz1 fun v6 hv6 hz1=>B1 rfl rfl A2 (B6z _ _ hv6) (.inl rfl) (B9 (dl A5 [v6]) rfl rfl (bs hz1 fun v7 hv7 hz1=>X0 A5 (35,g2) x1.1 v6 [] _ (O2 (fun _=>rfl)) rfl (gq rfl) hv7 (ss rfl (A1 (F9 (D0 fun u9 hu9=>sv rfl (sv rfl (sv rfl (A1 (G3 ?_)))))))))))))))))))))))))))))))))
 cases hz1
 exact ⟨rfl,u8,(G8 ⟨.of rfl,(.of (A2r (A18 hv7)).symm), .of rfl,trivial⟩ (sg rfl (T1 G_hit trivial)))⟩
 refine C3 rfl ?_
 cases hz1
 obtain rfl:=ez1 _ rfl
 refine ⟨nofun,C0 rfl (l_j ?_)⟩
 exact ⟨g2,(G8 ⟨.of rfl,trivial⟩ (B7 (gq rfl) trivial))⟩
 rintro _ ⟨g1,q1⟩
 refine B5 q1 (lr (fun u10 hu10=>B9 (oS y1 (35,g1)) rfl rfl (B9 (oS y1 (35,g1)) rfl rfl (A1 (B3 ?_)))))
 cases h
 exact A7 (.inr rfl) (B6 (B4 rfl) (A1x G_hit)) A1w
noncomputable def A0b (v1:(List Int))(x1:(Int×Int)):Option (Stp (Int×Int) Int):=
  cond (decide (x1.2< (v1.length:Int))) ((D6 v1 x1.2).bind fun v2=>some (.go ((w64 (x1.1+v2)),(w64 (x1.2+1))))) (some (.out x1.1))
noncomputable def A38 (p1:Curve):Option Int:=
  (A8r p1).bind fun v1=>(loop (A0b v1) (0,0)).bind fun y1=>some y1
theorem B0h (p1:Curve)(r:Int)(h:A38 p1=some r):PCall Tryz.prog 204 [(.agg [(.list (List.map A5a p1.Pts))])] (i64 r):=by
 refine B8 (fk Tryz.func204 Tryz.ntmps204 m0 (by with_unfolding_all rfl)) (nl rfl) ?_
 unfold A38 at h
 refine B5 (s0:=⟨T [(0,(.d _))],G []⟩) (sbr rfl rfl) ?_
 refine lr (fun u1 hu1=>sn rfl rfl (sv rfl (A1 (lr (fun u2 hu2=>sv rfl (A1 (lr (fun u3 hu3=>sd rfl (B2 rfl G_hit rfl rfl) (bs h fun v1 hv1 h=>B1 rfl rfl A2 (C0i _ _ hv1) (.inl rfl) (sv rfl (A1 (A6 (lr (fun u4 hu4=>sv rfl (A1 (bs h fun y1 hy1 h=>E0 (fun s=> ∃g1:Unit,Sb ⟨T [(3,(di y1))],G []⟩ s) ?_ ?_))))))))))))))))
 refine A8 (E7 (A0b v1) (fun (x1:(Int×Int)) (g2:Unit)=>⟨T [(3,(di x1.1)),(4,(dl A5 v1)),(5,(di x1.2))],G []⟩) (0,0) () _ hy1 (sbr rfl rfl) ?_)
 intro x1 g2 z1 hz1 ez1
 unfold A0b at hz1
 refine A6 (lr (fun u5 hu5=>sv rfl (sv rfl (sd rfl (E5 rfl) (sv rfl (A1 (cc rfl hz1 (fun c1 hz1=> ?_) (fun c1 hz1=> ?_))))))))
 refine A9 (A6 (A8 (D0 fun u6 hu6=>sv rfl (sv rfl (sv rfl (bs hz1 fun v2 hv2 hz1=>sd rfl (E4 rfl rfl hv2 rfl) (sd rfl (F3 rfl hv2 rfl) (sv rfl (sv rfl (A1 (F9 (D0 fun u7 hu7=>sv rfl (sv rfl (sv rfl (A1 (G3 ?_))))))))))))))))
 cases hz1
 exact ⟨rfl,(),(sbr rfl rfl)⟩
 refine C3 rfl ?_
 cases hz1
 obtain rfl:=ez1 _ rfl
 refine ⟨nofun,C0 rfl (l_j ?_)⟩
 exact ⟨(),(sbr rfl rfl)⟩
 rintro _ ⟨g1,q1⟩
 refine B5 q1 (lr (fun u8 hu8=>sv rfl (sv rfl (A1 (B3 ?_)))))
 cases h
 exact A7 (.inr rfl) (B6 (B4 rfl) E1) (.refl _)
noncomputable def A0n (p1:Map)(p2:Zone)(x2:Int):Option (Stp Int (Sum Unit Int)):=
  cond (decide (x2< (p2.Parts.length:Int))) ((D6 p2.Parts x2).bind fun v4=>((cond (!((decide (v4.From<0))||(decide (v4.From≥v4.To)))) (D6 p1.Lanes v4.Lane_) (some default))).bind fun v5=>((cond (!((decide (v4.From<0))||(decide (v4.From≥v4.To)))) (A38 v5.Curve_) (some default))).bind fun v6=>cond (((((decide (v4.From<0))||(decide (v4.From≥v4.To)))||(decide (v4.To>v6)))||(decide (v4.Rank<0)))||(decide (v4.Rank>100))) (some (.out (.inr 2))) (some (.go (w64 (x2+1))))) (some (.out (.inl ())))
noncomputable def A4e (p2:Zone)(x1:((List Int)×Int)):Option (Stp ((List Int)×Int) (List Int)):=
  cond (decide (x1.2< (p2.Parts.length:Int))) ((D6 p2.Parts x1.2).bind fun v1=>(A8h x1.1 [v1.Lane_]).bind fun v2=>some (.go (v2,(w64 (x1.2+1))))) (some (.out x1.1))
noncomputable def A4w (p1:Map)(p2:Zone):Option Int:=
  cond (decide ((p2.Parts.length:Int)<2)) (some 6) (cond (decide ((p2.Parts.length:Int)>6)) (some 8) (cond ((decide (p2.Signal_<0))||(decide (p2.Signal_>(p1.Signals.length:Int)))) (some 2) ((loop (A4e p2) ([],0)).bind fun y1=>(A3j y1 0 (p1.Lanes.length:Int)).bind fun v3=>cond (!v3) (some 11) (thenS (loop (A0n p1 p2) 0) (fun _=>some 0) (fun r=>some r)))))
theorem B72 (p1:Map)(p2:Zone)(r:Int)(h:A4w p1 p2=some r):PCall Tryz.prog 166 [(.agg (A4h p1)),(.agg [(.list (List.map A6b p2.Parts)),(i64 p2.Signal_)])] (i64 r):=by
 refine B8 (fk Tryz.func166 Tryz.ntmps166 (fun r=>if r==11 then [1007]else []) (by with_unfolding_all rfl)) (nl rfl) ?_
 unfold A4w at h
 refine B5 (s0:=⟨T [(0,(.d _)),(1,(.d _))],G []⟩) (sbr rfl rfl) ?_
 refine lr (fun u1 hu1=>sn rfl rfl (sn rfl rfl (sv rfl (A1 (A6 (lr (fun u2 hu2=>sp rfl rfl (sl rfl G_hit rfl (sd rfl (E5 rfl) (sv rfl (A1 (cc rfl h (fun c1 h=> ?_) (fun c1 h=> ?_)))))))))))))
 refine lr (fun u3 hu3=>sv rfl (A1 (B3 ?_)))
 cases h
 exact A7 (.inr rfl) (B6 (B4 rfl) E1) (.refl _)
 refine A9 (A6 (lr (fun u4 hu4=>sp rfl rfl (sl rfl G_hit rfl (sd rfl (E5 rfl) (sv rfl (A1 (cc rfl h (fun c2 h=> ?_) (fun c2 h=> ?_)))))))))
 refine lr (fun u5 hu5=>sv rfl (A1 (B3 ?_)))
 cases h
 exact A7 (.inr rfl) (B6 (B4 rfl) E1) (.refl _)
 refine A9 (A6 (lr (fun u6 hu6=>sp rfl rfl (sl rfl G_hit rfl (sv rfl (sv rfl (gp rfl (T8 rfl) (fun _=>rfl) (gf rfl (vl rfl G_hit rfl) (gp rfl (T8 rfl) (fun _=>rfl) (gf rfl (vl rfl (gq rfl) rfl) (gf rfl (fun w5=>(E5 (A3 w5))) (gf rfl (fun w6=>(V8 (A3 w6) (A3 w6) rfl)) (sd rfl (A0u rfl rfl (fun hc=>A3 (L6 hc))) (A1 (cc rfl h (fun c3 h=> ?_) (fun c3 h=> ?_))))))))))))))))
 refine lr (fun u7 hu7=>sv rfl (A1 (B3 ?_)))
 cases h
 exact A7 (.inr rfl) (B6 (B4 rfl) E1) (.refl _)
 refine A9 (lr (fun u8 hu8=>sv rfl (A1 (A6 (lr (fun u9 hu9=>sv rfl (A1 (bs h fun y1 hy1 h=>E0 (fun s=> ∃g1:Nat,Sb ⟨T [(2,(.ptr (2,u1) 0)),(3,(.ptr (3,u1) 0)),(5,(oS y1 (43,g1)))],G [((2,u1),some (.box 33 (A0i p1))),((3,u1),some (.box 117 [(dl A6b p2.Parts),(di p2.Signal_)])),((43,g1),oB 3 1 A5 y1)]⟩ s) ?_ ?_))))))))
 refine A8 (E7 (A4e p2) (fun (x1:((List Int)×Int)) (g2:Nat)=>⟨T [(2,(.ptr (2,u1) 0)),(3,(.ptr (3,u1) 0)),(5,(oS x1.1 (43,g2))),(6,(di x1.2))],G [((2,u1),some (.box 33 (A0i p1))),((3,u1),some (.box 117 [(dl A6b p2.Parts),(di p2.Signal_)])),((43,g2),oB 3 1 A5 x1.1)]⟩) ([],0) 0 _ hy1 (G8 ⟨.of rfl, .of rfl, .of rfl, .of rfl,trivial⟩ (sg rfl (B0 G_hit (.of rfl) (Y3 trivial)))) ?_)
 intro x1 g2 z1 hz1 ez1
 unfold A4e at hz1
 refine A6 (lr (fun u10 hu10=>sv rfl (sp rfl rfl (sl rfl (gq rfl) rfl (sd rfl (E5 rfl) (sv rfl (A1 (cc rfl hz1 (fun c4 hz1=> ?_) (fun c4 hz1=> ?_)))))))))
 refine A9 (A6 (A8 (D0 fun u11 hu11=>B9 (oS x1.1 (43,g2)) rfl rfl (sp rfl rfl (sl rfl (gq rfl) rfl (sv rfl (bs hz1 fun v1 hv1 hz1=>sd rfl (E4 rfl rfl hv1 rfl) (sv rfl (sd rfl (F3 rfl hv1 rfl) (B9 (dl A5 [v1.Lane_]) rfl rfl (bs hz1 fun v2 hv2 hz1=>X0 A5 (43,g2) x1.1 v1.Lane_ [] _ (O2 (fun _=>rfl)) rfl (gq rfl) hv2 (ss rfl (A1 (F9 (D0 fun u12 hu12=>sv rfl (sv rfl (sv rfl (A1 (G3 ?_)))))))))))))))))))
 cases hz1
 exact ⟨rfl,u11,(G8 ⟨.of rfl, .of rfl,(.of (A2r (A18 hv2)).symm), .of rfl,trivial⟩ (sg rfl (sg rfl (T1 G_hit trivial))))⟩
 refine C3 rfl ?_
 cases hz1
 obtain rfl:=ez1 _ rfl
 refine ⟨nofun,C0 rfl (l_j ?_)⟩
 exact ⟨g2,(G8 ⟨.of rfl, .of rfl, .of rfl,trivial⟩ (B0 G_hit (.of rfl) (sg rfl (B7 (gq rfl) trivial))))⟩
 rintro _ ⟨g1,q1⟩
 refine B5 q1 (A6 (lr (fun u13 hu13=>B9 (oS y1 (43,g1)) rfl rfl (sp rfl rfl (sl rfl G_hit rfl (sd rfl (E5 rfl) (bs h fun v3 hv3 h=>B1 rfl (C9 (A1x (gq rfl)) (rD (rD E2))) (.cons A1w (.cons (.refl _) A2)) (A91 _ _ _ _ hv3) (.inr rfl) (B9 (.d (bo (!v3))) rfl rfl (A1 (cc rfl h (fun c5 h=> ?_) (fun c5 h=> ?_)))))))))))
 refine lr (fun u14 hu14=>sv rfl (A1 (B3 ?_)))
 cases h
 exact A7 (.inr rfl) (B6 (B4 rfl) E1) (.refl _)
 refine A9 (A6 (lr (fun u15 hu15=>sv rfl (A1 (js h fun z2 hz2 h=>E0 (fun s=> ∃(y2:Unit) (g3:Unit),z2= .inl y2∧Sb ⟨T [],G []⟩ s) ?_ ?_)))))
 refine A8 (E7 (A0n p1 p2) (fun (x2:Int) (g4:Unit)=>⟨T [(2,(.ptr (2,u1) 0)),(3,(.ptr (3,u1) 0)),(7,(di x2))],G [((2,u1),some (.box 33 (A0i p1))),((3,u1),some (.box 117 [(dl A6b p2.Parts),(di p2.Signal_)]))]⟩) 0 () _ hz2 (sbr rfl rfl) ?_)
 intro x2 g4 z3 hz3 ez3
 unfold A0n at hz3
 refine A6 (lr (fun u16 hu16=>sv rfl (sp rfl rfl (sl rfl (gq rfl) rfl (sd rfl (E5 rfl) (sv rfl (A1 (cc rfl hz3 (fun c6 hz3=> ?_) (fun c6 hz3=> ?_)))))))))
 refine A9 (A6 (A8 (lr (fun u17 hu17=>sp rfl rfl (sl rfl (gq rfl) rfl (sv rfl (bs hz3 fun v4 hv4 hz3=>sd rfl (E4 rfl rfl hv4 rfl) (sd rfl (C4 rfl hv4 rfl rfl) (sn rfl rfl (sst rfl G_hit (C62 v4) rfl (A1 (A6 (I6 rfl fun u18 hu18=>sp rfl rfl (sl rfl G_hit rfl (sv rfl (sv rfl (gp rfl (T8 rfl) (fun _=>rfl) (gf rfl (vl rfl G_hit rfl) (gp rfl (T8 rfl) (fun _=>rfl) (gf rfl (vl rfl G_hit rfl) (gf rfl (fun w11=>(V8 (A3 w11) (A3 w11) rfl)) (sd rfl (A0u rfl rfl (fun hc=>A3 (L6 hc))) (sv rfl (gp rfl (T8 rfl) (fun _=>rfl) (gf rfl (vl rfl G_hit rfl) (gp rfl (T8 rfl) (fun _=>rfl) (gf rfl (vl rfl (gq rfl) rfl) (gp rfl (T8 rfl) (fun _=>rfl) (gf rfl (vl rfl G_hit rfl) (bs hz3 fun v5 hv5 hz3=>gf rfl (fun w18=>(E4 (A3 w18) (A3 w18) (C7 w18 hv5) rfl)) ?_))))))))))))))))))))))))))))))
 refine gf rfl (fun w19=>(by simp only [A3 w19];rfl)) ?_
 refine gf rfl (fun w20=>(C4 (A3 w20) (C7 w20 hv5) rfl rfl)) (bs hz3 fun v6 hv6 hz3=> ?_)
 refine U8 _ (i64 v6) (T8 rfl) (fun w21=>⟨_,[(.d (.agg [(.list (List.map A5a v5.Curve_.Pts))]))],_,_,(by simp only [A3 w21];rfl),rfl,A2,B0h _ _ (C7 w21 hv6),(.inl rfl)⟩) ?_
 refine gf rfl (fun w22=>(V8 (A3 w22) (A3 w22) rfl)) (sd rfl (A0u rfl rfl (fun hc=>A3 (L6 hc))) (sv rfl (gp rfl (T8 rfl) (fun _=>rfl) (gf rfl (vl rfl G_hit rfl) (gf rfl (vb rfl rfl rfl) (sd rfl (A0u rfl rfl (fun hc=>A3 (L6 hc))) (sv rfl (gp rfl (T8 rfl) (fun _=>rfl) (gf rfl (vl rfl G_hit rfl) (gf rfl (vb rfl rfl rfl) (sd rfl (A0u rfl rfl (fun hc=>A3 (L6 hc))) (A1 (cc rfl hz3 (fun c7 hz3=> ?_) (fun c7 hz3=> ?_))))))))))))))
 refine lr (fun u19 hu19=>sv rfl (A1 (B3 ?_)))
 cases hz3
 obtain rfl:=ez3 _ rfl
 refine ⟨nofun,D7 ?_⟩
 rw [Sum.elim_inr]at h
 cases h
 exact A7 (.inr rfl) (B6 (B4 rfl) E1) (.refl _)
 refine A9 (F9 (D0 fun u20 hu20=>sv rfl (sv rfl (sv rfl (A1 (G3 ?_))))))
 cases hz3
 exact ⟨rfl,(),(sbr rfl rfl)⟩
 refine C3 rfl ?_
 cases hz3
 obtain rfl:=ez3 _ rfl
 refine ⟨nofun,C0 rfl (l_j ?_)⟩
 exact ⟨_,(),rfl,(sbr rfl rfl)⟩
 rintro _ ⟨y2,g3,rfl,q2⟩
 rw [Sum.elim_inl]at h
 refine B5 q2 (lr (fun u21 hu21=>sv rfl (A1 (B3 ?_))))
 cases h
 exact A7 (.inr rfl) (B6 (B4 rfl) E1) (.refl _)
noncomputable def A4x (p1:Map)(p2:Work):Option Int:=
  cond ((decide (p2.Lane_<0))||(decide (p2.Lane_≥(p1.Lanes.length:Int)))) (some 7) ((D6 p1.Lanes p2.Lane_).bind fun v1=>(A4t v1.Kind).bind fun v2=>((cond (!((decide (p2.From<0))||(decide (p2.From>p2.To)))) (A38 v1.Curve_) (some default))).bind fun v3=>((cond (!((((((decide (p2.From<0))||(decide (p2.From>p2.To)))||(decide (p2.To>v3)))||(decide (p2.Begin<0)))||(decide (p2.Begin≥p2.End)))||(decide (p2.End>1099511627776)))) (A26 p2.Limit 0 v2.1) (some default))).bind fun v4=>cond (((((((decide (p2.From<0))||(decide (p2.From>p2.To)))||(decide (p2.To>v3)))||(decide (p2.Begin<0)))||(decide (p2.Begin≥p2.End)))||(decide (p2.End>1099511627776)))||(!v4)) (some 2) (some 0))
theorem B73 (p1:Map)(p2:Work)(r:Int)(h:A4x p1 p2=some r):PCall Tryz.prog 167 [(.agg (A4h p1)),(.agg (B7q p2))] (i64 r):=by
 refine B8 (fk Tryz.func167 Tryz.ntmps167 m0 (by with_unfolding_all rfl)) (nl rfl) ?_
 unfold A4x at h
 refine B5 (s0:=⟨T [(0,(.d _)),(1,(.d _))],G []⟩) (sbr rfl rfl) ?_
 refine lr (fun u1 hu1=>sn rfl rfl (sn rfl rfl (sv rfl (A1 (A6 (lr (fun u2 hu2=>sp rfl rfl (sl rfl G_hit rfl (sv rfl (sv rfl (gp rfl (T8 rfl) (fun _=>rfl) (gf rfl (vl rfl G_hit rfl) (gp rfl (T8 rfl) (fun _=>rfl) (gf rfl (vl rfl (gq rfl) rfl) (gf rfl (fun w5=>(E5 (A3 w5))) (gf rfl (fun w6=>(V8 (A3 w6) (A3 w6) rfl)) (sd rfl (A0u rfl rfl (fun hc=>A3 (L6 hc))) (A1 (cc rfl h (fun c1 h=> ?_) (fun c1 h=> ?_))))))))))))))))))))
 refine lr (fun u3 hu3=>sv rfl (A1 (B3 ?_)))
 cases h
 exact A7 (.inr rfl) (B6 (B4 rfl) E1) (.refl _)
 refine A9 (lr (fun u4 hu4=>sp rfl rfl (sl rfl (gq rfl) rfl (sp rfl rfl (sl rfl G_hit rfl (bs h fun v1 hv1 h=>sd rfl (E4 rfl rfl hv1 rfl) (sd rfl (C4 rfl hv1 rfl rfl) (sn rfl rfl (sst rfl G_hit (C31 v1) rfl (A1 (lr (fun u5 hu5=>sp rfl rfl (sl rfl G_hit rfl (bs h fun v2 hv2 h=>B1 rfl rfl A2 (B0g _ _ hv2) (.inl rfl) (sv rfl (sv rfl (sv rfl (sv rfl (sv rfl (sv rfl (sv rfl (A1 (A6 (A6 (I6 rfl fun u6 hu6=>sp rfl rfl (sl rfl (gq rfl) rfl (sv rfl (sv rfl (gp rfl (T8 rfl) (fun _=>rfl) (gf rfl (vl rfl (gq rfl) rfl) (gp rfl (T8 rfl) (fun _=>rfl) (gf rfl (vl rfl (gq rfl) rfl) (gf rfl (fun w11=>(V8 (A3 w11) (A3 w11) rfl)) (sd rfl (A0u rfl rfl (fun hc=>A3 (L6 hc))) (sv rfl (gp rfl (T8 rfl) (fun _=>rfl) (gf rfl (vl rfl (gq rfl) rfl) (gp rfl (T8 rfl) (fun _=>rfl) (gf rfl (fun w15=>(B2 (A3 w15) G_hit rfl rfl)) (bs h fun v3 hv3 h=> ?_))))))))))))))))))))))))))))))))))))))))
 refine U8 _ (i64 v3) (T8 rfl) (fun w16=>⟨_,[(.d (.agg [(.list (List.map A5a v1.Curve_.Pts))]))],_,_,(by simp only [A3 w16];rfl),rfl,A2,B0h _ _ (C7 w16 hv3),(.inl rfl)⟩) ?_
 refine gf rfl (fun w17=>(V8 (A3 w17) (A3 w17) rfl)) (sd rfl (A0u rfl rfl (fun hc=>A3 (L6 hc))) (sv rfl (gp rfl (T8 rfl) (fun _=>rfl) (gf rfl (vl rfl (gq rfl) rfl) (gf rfl (vb rfl rfl rfl) (sd rfl (A0u rfl rfl (fun hc=>A3 (L6 hc))) (sv rfl (gp rfl (T8 rfl) (fun _=>rfl) (gf rfl (vl rfl (gq rfl) rfl) (gp rfl (T8 rfl) (fun _=>rfl) (gf rfl (vl rfl (gq rfl) rfl) (gf rfl (fun w25=>(V8 (A3 w25) (A3 w25) rfl)) (sd rfl (A0u rfl rfl (fun hc=>A3 (L6 hc))) (sv rfl (gp rfl (T8 rfl) (fun _=>rfl) (gf rfl (vl rfl (gq rfl) rfl) (gf rfl (vb rfl rfl rfl) (sd rfl (A0u rfl rfl (fun hc=>A3 (L6 hc))) (sv rfl (gp rfl (T8 rfl) (fun _=>rfl) (gf rfl (vl rfl (gq rfl) rfl) (gf rfl (fun _=>rfl) (bs h fun v4 hv4 h=> ?_)))))))))))))))))))))))
 refine U8 _ (bo v4) (T8 rfl) (fun w32=>⟨_,[(di p2.Limit),(di 0),(di v2.1)],_,_,(by simp only [A3 w32];rfl),rfl,A2,A31 _ _ _ _ (C7 w32 hv4),(.inl rfl)⟩) ?_
 refine Z7 _ (.d (bo (!v4))) rfl (T8 rfl) (fun w33=>(by simp only [A3 w33];rfl)) ?_
 refine sd rfl (A0u rfl rfl (fun hc=>A3 (L6 hc))) (A1 (cc rfl h (fun c2 h=> ?_) (fun c2 h=> ?_)))
 refine lr (fun u7 hu7=>sv rfl (A1 (B3 ?_)))
 cases h
 exact A7 (.inr rfl) (B6 (B4 rfl) E1) (.refl _)
 refine A9 (lr (fun u8 hu8=>sv rfl (A1 (B3 ?_))))
 cases h
 exact A7 (.inr rfl) (B6 (B4 rfl) E1) (.refl _)
noncomputable def A3x (p1:Map)(x4:(Int×Int)):Option (Stp (Int×Int) Int):=
  cond ((decide (x4.2< (p1.Works.length:Int)))&& (x4.1==0)) ((D6 p1.Works x4.2).bind fun v8=>(A4x p1 v8).bind fun v9=>some (.go (v9,(w64 (x4.2+1))))) (some (.out x4.1))
noncomputable def A3y (p1:Map)(x3:(Int×Int)):Option (Stp (Int×Int) Int):=
  cond ((decide (x3.2< (p1.Zones.length:Int)))&& (x3.1==0)) ((D6 p1.Zones x3.2).bind fun v6=>(A4w p1 v6).bind fun v7=>some (.go (v7,(w64 (x3.2+1))))) (some (.out x3.1))
noncomputable def A3z (p1:Map)(x2:(Int×Int)):Option (Stp (Int×Int) Int):=
  cond ((decide (x2.2< (p1.Signals.length:Int)))&& (x2.1==0)) ((D6 p1.Signals x2.2).bind fun v4=>(A32 p1 v4).bind fun v5=>some (.go (v5,(w64 (x2.2+1))))) (some (.out x2.1))
noncomputable def A2i (p1:Map)(x1:Int):Option (Stp Int (Sum Unit Int)):=
  cond (decide (x1< (p1.Lanes.length:Int))) ((A4u p1 x1).bind fun v2=>cond (v2 !=0) (some (.out (.inr v2))) (some (.go (w64 (x1+1))))) (some (.out (.inl ())))
noncomputable def A83 (p1:Map):Option Int:=
  (A26 p1.Version 0 1099511627776).bind fun v1=>cond (!v1) (some 2) (cond ((p1.Lanes.length:Int)==0) (some 6) (cond ((((decide ((p1.Lanes.length:Int)>12))||(decide ((p1.Zones.length:Int)>12)))||(decide ((p1.Signals.length:Int)>4)))||(decide ((p1.Works.length:Int)>8))) (some 8) (thenS (loop (A2i p1) 0) (fun _=>(A4v p1).bind fun v3=>(loop (A3z p1) (v3,0)).bind fun y2=>(loop (A3y p1) (y2,0)).bind fun y3=>(loop (A3x p1) (y3,0)).bind fun y4=>some y4) (fun r=>some r))))
theorem B5c (p1:Map)(r:Int)(h:A83 p1=some r):PCall Tryz.prog 76 [(.agg (A4h p1))] (i64 r):=by
 refine B8 (fk Tryz.func76 Tryz.ntmps76 m0 (by with_unfolding_all rfl)) (nl rfl) ?_
 unfold A83 at h
 refine B5 (s0:=⟨T [(0,(.d _))],G []⟩) (sbr rfl rfl) ?_
 refine lr (fun u1 hu1=>sn rfl rfl (sv rfl (A1 (A6 (lr (fun u2 hu2=>sp rfl rfl (sl rfl G_hit rfl (bs h fun v1 hv1 h=>B1 rfl rfl A2 (A31 _ _ _ _ hv1) (.inl rfl) (B9 (.d (bo (!v1))) rfl rfl (A1 (cc rfl h (fun c1 h=> ?_) (fun c1 h=> ?_))))))))))))
 refine lr (fun u3 hu3=>sv rfl (A1 (B3 ?_)))
 cases h
 exact A7 (.inr rfl) (B6 (B4 rfl) E1) (.refl _)
 refine A9 (A6 (lr (fun u4 hu4=>sp rfl rfl (sl rfl G_hit rfl (sd rfl (E5 rfl) (sv rfl (A1 (cc rfl h (fun c2 h=> ?_) (fun c2 h=> ?_)))))))))
 refine lr (fun u5 hu5=>sv rfl (A1 (B3 ?_)))
 cases h
 exact A7 (.inr rfl) (B6 (B4 rfl) E1) (.refl _)
 refine A9 (A6 (lr (fun u6 hu6=>sp rfl rfl (sl rfl G_hit rfl (sd rfl (E5 rfl) (sv rfl (sv rfl (gp rfl (T8 rfl) (fun _=>rfl) (gf rfl (vl rfl G_hit rfl) (gf rfl (fun w3=>(E5 (A3 w3))) (gf rfl (vb rfl rfl rfl) (sd rfl (A0u rfl rfl (fun hc=>A3 (L6 hc))) (sv rfl (gp rfl (T8 rfl) (fun _=>rfl) (gf rfl (vl rfl G_hit rfl) (gf rfl (fun w7=>(E5 (A3 w7))) (gf rfl (vb rfl rfl rfl) (sd rfl (A0u rfl rfl (fun hc=>A3 (L6 hc))) (sv rfl (gp rfl (T8 rfl) (fun _=>rfl) (gf rfl (vl rfl G_hit rfl) (gf rfl (fun w11=>(E5 (A3 w11))) (gf rfl (vb rfl rfl rfl) (sd rfl (A0u rfl rfl (fun hc=>A3 (L6 hc))) (A1 (cc rfl h (fun c3 h=> ?_) (fun c3 h=> ?_)))))))))))))))))))))))))))
 refine lr (fun u7 hu7=>sv rfl (A1 (B3 ?_)))
 cases h
 exact A7 (.inr rfl) (B6 (B4 rfl) E1) (.refl _)
 refine A9 (A6 (lr (fun u8 hu8=>sv rfl (A1 (js h fun z1 hz1 h=>E0 (fun s=> ∃(y1:Unit) (g1:Unit),z1= .inl y1∧Sb ⟨T [(1,(.ptr (1,u1) 0))],G [((1,u1),some (.box 33 (A0i p1)))]⟩ s) ?_ ?_)))))
 refine A8 (E7 (A2i p1) (fun (x1:Int) (g2:Unit)=>⟨T [(1,(.ptr (1,u1) 0)),(3,(di x1))],G [((1,u1),some (.box 33 (A0i p1)))]⟩) 0 () _ hz1 (sbr rfl rfl) ?_)
 intro x1 g2 z2 hz2 ez2
 unfold A2i at hz2
 refine A6 (lr (fun u9 hu9=>sv rfl (sp rfl rfl (sl rfl G_hit rfl (sd rfl (E5 rfl) (sv rfl (A1 (cc rfl hz2 (fun c4 hz2=> ?_) (fun c4 hz2=> ?_)))))))))
 refine A9 (A6 (A8 (lr (fun u10 hu10=>sd rfl (B2 rfl G_hit rfl rfl) (sv rfl (bs hz2 fun v2 hv2 hz2=>B1 rfl rfl A2 (B70 _ _ _ hv2) (.inl rfl) (sv rfl (A1 (lr (fun u11 hu11=>sv rfl (sv rfl (A1 (cc rfl hz2 (fun c5 hz2=> ?_) (fun c5 hz2=> ?_))))))))))))))
 refine lr (fun u12 hu12=>sv rfl (sv rfl (A1 (B3 ?_))))
 cases hz2
 obtain rfl:=ez2 _ rfl
 refine ⟨nofun,D7 ?_⟩
 rw [Sum.elim_inr]at h
 cases h
 exact A7 (.inr rfl) (B6 (B4 rfl) E1) (.refl _)
 refine A9 (F9 (D0 fun u13 hu13=>sv rfl (sv rfl (sv rfl (A1 (G3 ?_))))))
 cases hz2
 exact ⟨rfl,(),(sbr rfl rfl)⟩
 refine C3 rfl ?_
 cases hz2
 obtain rfl:=ez2 _ rfl
 refine ⟨nofun,C0 rfl (l_j ?_)⟩
 exact ⟨_,(),rfl,(sbr rfl rfl)⟩
 rintro _ ⟨y1,g1,rfl,q1⟩
 rw [Sum.elim_inl]at h
 refine B5 q1 (lr (fun u14 hu14=>sd rfl (B2 rfl G_hit rfl rfl) (bs h fun v3 hv3 h=>B1 rfl rfl A2 (B71 _ _ hv3) (.inl rfl) (sv rfl (A1 (A6 (lr (fun u15 hu15=>sv rfl (A1 (bs h fun y2 hy2 h=>E0 (fun s=> ∃g3:Unit,Sb ⟨T [(1,(.ptr (1,u1) 0)),(5,(di y2))],G [((1,u1),some (.box 33 (A0i p1)))]⟩ s) ?_ ?_))))))))))
 refine A8 (E7 (A3z p1) (fun (x2:(Int×Int)) (g4:Unit)=>⟨T [(1,(.ptr (1,u1) 0)),(5,(di x2.1)),(6,(di x2.2))],G [((1,u1),some (.box 33 (A0i p1)))]⟩) (v3,0) () _ hy2 (sbr rfl rfl) ?_)
 intro x2 g4 z3 hz3 ez3
 unfold A3z at hz3
 refine A6 (lr (fun u16 hu16=>sv rfl (sp rfl rfl (sl rfl G_hit rfl (sd rfl (E5 rfl) (sv rfl (sv rfl (gt rfl (fun _=>rfl) (gt rfl (vb rfl rfl rfl) (sa rfl rfl rfl (A1 (cc rfl hz3 (fun c6 hz3=> ?_) (fun c6 hz3=> ?_)))))))))))))
 refine A9 (A6 (A8 (I6 rfl fun u17 hu17=>sd rfl (B2 rfl G_hit rfl rfl) (sp rfl rfl (sl rfl G_hit rfl (sv rfl (bs hz3 fun v4 hv4 hz3=>sd rfl (E4 rfl rfl hv4 rfl) (sd rfl (C4 rfl hv4 rfl rfl) (bs hz3 fun v5 hv5 hz3=>B1 rfl rfl A2 (B4y _ _ _ hv5) (.inl rfl) (sv rfl (A1 (F9 (D0 fun u18 hu18=>sv rfl (sv rfl (sv rfl (A1 (G3 ?_)))))))))))))))))
 cases hz3
 exact ⟨rfl,(),(sbr rfl rfl)⟩
 refine C3 rfl ?_
 cases hz3
 obtain rfl:=ez3 _ rfl
 refine ⟨nofun,C0 rfl (l_j ?_)⟩
 exact ⟨(),(sbr rfl rfl)⟩
 rintro _ ⟨g3,q2⟩
 refine B5 q2 (A6 (lr (fun u19 hu19=>sv rfl (A1 (bs h fun y3 hy3 h=>E0 (fun s=> ∃g5:Unit,Sb ⟨T [(1,(.ptr (1,u1) 0)),(5,(di y3))],G [((1,u1),some (.box 33 (A0i p1)))]⟩ s) ?_ ?_)))))
 refine A8 (E7 (A3y p1) (fun (x3:(Int×Int)) (g6:Unit)=>⟨T [(1,(.ptr (1,u1) 0)),(5,(di x3.1)),(7,(di x3.2))],G [((1,u1),some (.box 33 (A0i p1)))]⟩) (y2,0) () _ hy3 (sbr rfl rfl) ?_)
 intro x3 g6 z4 hz4 ez4
 unfold A3y at hz4
 refine A6 (lr (fun u20 hu20=>sv rfl (sp rfl rfl (sl rfl G_hit rfl (sd rfl (E5 rfl) (sv rfl (sv rfl (gt rfl (fun _=>rfl) (gt rfl (vb rfl rfl rfl) (sa rfl rfl rfl (A1 (cc rfl hz4 (fun c7 hz4=> ?_) (fun c7 hz4=> ?_)))))))))))))
 refine A9 (A6 (A8 (I6 rfl fun u21 hu21=>sd rfl (B2 rfl G_hit rfl rfl) (sp rfl rfl (sl rfl G_hit rfl (sv rfl (bs hz4 fun v6 hv6 hz4=>sd rfl (E4 rfl rfl hv6 rfl) (sd rfl (C4 rfl hv6 rfl rfl) (bs hz4 fun v7 hv7 hz4=>B1 rfl rfl A2 (B72 _ _ _ hv7) (.inl rfl) (sv rfl (A1 (F9 (D0 fun u22 hu22=>sv rfl (sv rfl (sv rfl (A1 (G3 ?_)))))))))))))))))
 cases hz4
 exact ⟨rfl,(),(sbr rfl rfl)⟩
 refine C3 rfl ?_
 cases hz4
 obtain rfl:=ez4 _ rfl
 refine ⟨nofun,C0 rfl (l_j ?_)⟩
 exact ⟨(),(sbr rfl rfl)⟩
 rintro _ ⟨g5,q3⟩
 refine B5 q3 (A6 (lr (fun u23 hu23=>sv rfl (A1 (bs h fun y4 hy4 h=>E0 (fun s=> ∃g7:Unit,Sb ⟨T [(5,(di y4))],G []⟩ s) ?_ ?_)))))
 refine A8 (E7 (A3x p1) (fun (x4:(Int×Int)) (g8:Unit)=>⟨T [(1,(.ptr (1,u1) 0)),(5,(di x4.1)),(8,(di x4.2))],G [((1,u1),some (.box 33 (A0i p1)))]⟩) (y3,0) () _ hy4 (sbr rfl rfl) ?_)
 intro x4 g8 z5 hz5 ez5
 unfold A3x at hz5
 refine A6 (lr (fun u24 hu24=>sv rfl (sp rfl rfl (sl rfl G_hit rfl (sd rfl (E5 rfl) (sv rfl (sv rfl (gt rfl (fun _=>rfl) (gt rfl (vb rfl rfl rfl) (sa rfl rfl rfl (A1 (cc rfl hz5 (fun c8 hz5=> ?_) (fun c8 hz5=> ?_)))))))))))))
 refine A9 (A6 (A8 (I6 rfl fun u25 hu25=>sd rfl (B2 rfl G_hit rfl rfl) (sp rfl rfl (sl rfl G_hit rfl (sv rfl (bs hz5 fun v8 hv8 hz5=>sd rfl (E4 rfl rfl hv8 rfl) (sd rfl (C4 rfl hv8 rfl rfl) (bs hz5 fun v9 hv9 hz5=>B1 rfl rfl A2 (B73 _ _ _ hv9) (.inl rfl) (sv rfl (A1 (F9 (D0 fun u26 hu26=>sv rfl (sv rfl (sv rfl (A1 (G3 ?_)))))))))))))))))
 cases hz5
 exact ⟨rfl,(),(sbr rfl rfl)⟩
 refine C3 rfl ?_
 cases hz5
 obtain rfl:=ez5 _ rfl
 refine ⟨nofun,C0 rfl (l_j ?_)⟩
 exact ⟨(),(sbr rfl rfl)⟩
 rintro _ ⟨g7,q4⟩
 refine B5 q4 (lr (fun u27 hu27=>sv rfl (sv rfl (A1 (B3 ?_)))))
 cases h
 exact A7 (.inr rfl) (B6 (B4 rfl) E1) (.refl _)
noncomputable def A8s (p1:(List Int))(p2:Int)(x1:Int):Option (Stp Int (Sum Unit Bool)):=
  cond (decide (x1< (p1.length:Int))) ((D6 p1 x1).bind fun v1=>cond (v1==p2) (some (.out (.inr true))) (some (.go (w64 (x1+1))))) (some (.out (.inl ())))
noncomputable def B2m (p1:(List Int))(p2:Int):Option Bool:=
  thenS (loop (A8s p1 p2) 0) (fun _=>some false) (fun r=>some r)
theorem B8g (p1:(List Int))(p2:Int)(r:Bool)(h:B2m p1 p2=some r):PCall Tryz.prog 190 [(.list (List.map A5 p1)),(i64 p2)] (bo r):=by
 refine B8 (fk Tryz.func190 Tryz.ntmps190 m0 (by with_unfolding_all rfl)) (nl rfl) ?_
 unfold B2m at h
 refine B5 (s0:=⟨T [(0,(.d _)),(1,(.d _))],G []⟩) (sbr rfl rfl) ?_
 refine lr (fun u1 hu1=>sv rfl (A1 (A6 (lr (fun u2 hu2=>sv rfl (A1 (js h fun z1 hz1 h=>E0 (fun s=> ∃(y1:Unit) (g1:Unit),z1= .inl y1∧Sb ⟨T [],G []⟩ s) ?_ ?_)))))))
 refine A8 (E7 (A8s p1 p2) (fun (x1:Int) (g2:Unit)=>⟨T [(0,(dl A5 p1)),(1,(di p2)),(5,(di x1))],G []⟩) 0 () _ hz1 (sbr rfl rfl) ?_)
 intro x1 g2 z2 hz2 ez2
 unfold A8s at hz2
 refine A6 (lr (fun u3 hu3=>sv rfl (sv rfl (sd rfl (E5 rfl) (sv rfl (A1 (cc rfl hz2 (fun c1 hz2=> ?_) (fun c1 hz2=> ?_))))))))
 refine A9 (A6 (A8 (lr (fun u4 hu4=>sv rfl (sv rfl (bs hz2 fun v1 hv1 hz2=>sd rfl (E4 rfl rfl hv1 rfl) (sd rfl (F3 rfl hv1 rfl) (sv rfl (sv rfl (A1 (cc rfl hz2 (fun c2 hz2=> ?_) (fun c2 hz2=> ?_))))))))))))
 refine lr (fun u5 hu5=>sv rfl (A1 (B3 ?_)))
 cases hz2
 obtain rfl:=ez2 _ rfl
 refine ⟨nofun,D7 ?_⟩
 rw [Sum.elim_inr]at h
 cases h
 exact A7 (.inr rfl) (B6 (B4 rfl) E1) (.refl _)
 refine A9 (F9 (D0 fun u6 hu6=>sv rfl (sv rfl (sv rfl (A1 (G3 ?_))))))
 cases hz2
 exact ⟨rfl,(),(sbr rfl rfl)⟩
 refine C3 rfl ?_
 cases hz2
 obtain rfl:=ez2 _ rfl
 refine ⟨nofun,C0 rfl (l_j ?_)⟩
 exact ⟨_,(),rfl,(sbr rfl rfl)⟩
 rintro _ ⟨y1,g1,rfl,q1⟩
 rw [Sum.elim_inl]at h
 refine B5 q1 (lr (fun u7 hu7=>sv rfl (A1 (B3 ?_))))
 cases h
 exact A7 (.inr rfl) (B6 (B4 rfl) E1) (.refl _)
noncomputable def A4y (p1:Map)(p2:Int)(x1:((List Int)×Int)):Option (Stp ((List Int)×Int) (List Int)):=
  cond (decide (x1.2< (p1.Lanes.length:Int))) ((D6 p1.Lanes x1.2).bind fun v1=>(B2m v1.Next p2).bind fun v2=>cond v2 ((A8h x1.1 [x1.2]).bind fun v3=>some (.go (v3,(w64 (x1.2+1))))) (some (.go (x1.1,(w64 (x1.2+1)))))) (some (.out x1.1))
noncomputable def A8t (p1:Map)(p2:Int):Option (List Int):=
  (loop (A4y p1 p2) ([],0)).bind fun y1=>some y1
theorem C0j (p1:Map)(p2:Int)(r:(List Int))(h:A8t p1 p2=some r):PCall Tryz.prog 189 [(.agg (A4h p1)),(i64 p2)] (.list (List.map A5 r)):=by
 refine B8 (fk Tryz.func189 Tryz.ntmps189 (fun r=>if r==6 then [1002]else []) (by with_unfolding_all rfl)) (nl rfl) ?_
 unfold A8t at h
 refine B5 (s0:=⟨T [(0,(.d _)),(1,(.d _))],G []⟩) (sbr rfl rfl) ?_
 refine lr (fun u1 hu1=>sn rfl rfl (sv rfl (A1 (lr (fun u2 hu2=>sv rfl (A1 (A6 (lr (fun u3 hu3=>sv rfl (A1 (bs h fun y1 hy1 h=>E0 (fun s=> ∃g1:Nat,Sb ⟨T [(5,(oS y1 (25,g1)))],G [((25,g1),oB 3 1 A5 y1)]⟩ s) ?_ ?_)))))))))))
 refine A8 (E7 (A4y p1 p2) (fun (x1:((List Int)×Int)) (g2:Nat)=>⟨T [(1,(di p2)),(2,(.ptr (2,u1) 0)),(5,(oS x1.1 (25,g2))),(6,(di x1.2))],G [((2,u1),some (.box 33 (A0i p1))),((25,g2),oB 3 1 A5 x1.1)]⟩) ([],0) 0 _ hy1 (G8 ⟨.of rfl, .of rfl, .of rfl, .of rfl,trivial⟩ (B0 G_hit (.of rfl) (Y3 trivial))) ?_)
 intro x1 g2 z1 hz1 ez1
 unfold A4y at hz1
 refine A6 (lr (fun u4 hu4=>sv rfl (sp rfl rfl (sl rfl G_hit rfl (sd rfl (E5 rfl) (sv rfl (A1 (cc rfl hz1 (fun c1 hz1=> ?_) (fun c1 hz1=> ?_)))))))))
 refine A9 (A6 (A8 (lr (fun u5 hu5=>sp rfl rfl (sl rfl G_hit rfl (sv rfl (bs hz1 fun v1 hv1 hz1=>sd rfl (E4 rfl rfl hv1 rfl) (sv rfl (sd rfl (F3 rfl hv1 rfl) (sv rfl (bs hz1 fun v2 hv2 hz1=>B1 rfl rfl A2 (B8g _ _ _ hv2) (.inl rfl) (A1 (cc rfl hz1 (fun c2 hz1=> ?_) (fun c2 hz1=> ?_))))))))))))))
 refine D0 fun u6 hu6=>B9 (oS x1.1 (25,g2)) rfl rfl (sv rfl (B9 (dl A5 [x1.2]) rfl rfl (bs hz1 fun v3 hv3 hz1=>X0 A5 (25,g2) x1.1 x1.2 [] _ (O2 (fun _=>rfl)) rfl (gq rfl) hv3 (ss rfl (A1 (F9 (D0 fun u7 hu7=>sv rfl (sv rfl (sv rfl (A1 (G3 ?_)))))))))))
 cases hz1
 exact ⟨rfl,u6,(G8 ⟨.of rfl, .of rfl,(.of (A2r (A18 hv3)).symm), .of rfl,trivial⟩ (sg rfl (T1 G_hit trivial)))⟩
 refine A9 (F9 (D0 fun u8 hu8=>sv rfl (sv rfl (sv rfl (A1 (G3 ?_))))))
 cases hz1
 exact ⟨rfl,g2,(G8 ⟨.of rfl, .of rfl, .of rfl, .of rfl,trivial⟩ (B0 G_hit (.of rfl) (B7 (gq rfl) trivial)))⟩
 refine C3 rfl ?_
 cases hz1
 obtain rfl:=ez1 _ rfl
 refine ⟨nofun,C0 rfl (l_j ?_)⟩
 exact ⟨g2,(G8 ⟨.of rfl,trivial⟩ (B7 (gq rfl) trivial))⟩
 rintro _ ⟨g1,q1⟩
 refine B5 q1 (lr (fun u9 hu9=>B9 (oS y1 (25,g1)) rfl rfl (B9 (oS y1 (25,g1)) rfl rfl (A1 (B3 ?_)))))
 cases h
 exact A7 (.inr rfl) (B6 (B4 rfl) (A1x G_hit)) A1w
noncomputable def W9 (p1:Map)(p2:(List Int))(x1:Int):Option (Stp Int (Sum Unit Int)):=
  cond (decide (x1< (p2.length:Int))) ((D6 p2 (w64 (x1 - 1))).bind fun v6=>(D6 p1.Lanes v6).bind fun v7=>(D6 p2 x1).bind fun v8=>(B2m v7.Next v8).bind fun v9=>cond (!v9) (some (.out (.inr 13))) (some (.go (w64 (x1+1))))) (some (.out (.inl ())))
noncomputable def A0r (p1:Map)(p2:(List Int)):Option Int:=
  (A83 p1).bind fun v1=>cond (v1 !=0) (some v1) (((cond (!(((p2.length:Int)==0)||(decide ((p2.length:Int)>8)))) (D6 p2 0) (some default))).bind fun v2=>((cond (!((((p2.length:Int)==0)||(decide ((p2.length:Int)>8)))||(decide (v2<0)))) (D6 p2 0) (some default))).bind fun v3=>((cond (!(((((p2.length:Int)==0)||(decide ((p2.length:Int)>8)))||(decide (v2<0)))||(decide (v3≥(p1.Lanes.length:Int))))) (D6 p2 0) (some default))).bind fun v4=>((cond (!(((((p2.length:Int)==0)||(decide ((p2.length:Int)>8)))||(decide (v2<0)))||(decide (v3≥(p1.Lanes.length:Int))))) (A8t p1 v4) (some default))).bind fun v5=>cond ((((((p2.length:Int)==0)||(decide ((p2.length:Int)>8)))||(decide (v2<0)))||(decide (v3≥(p1.Lanes.length:Int))))||(decide ((v5.length:Int)>0))) (some 13) (thenS (loop (W9 p1 p2) 1) (fun _=>some 0) (fun r=>some r)))
theorem A6g (p1:Map)(p2:(List Int))(r:Int)(h:A0r p1 p2=some r):PCall Tryz.prog 102 [(.agg (A4h p1)),(.list (List.map A5 p2))] (i64 r):=by
 refine B8 (fk Tryz.func102 Tryz.ntmps102 m0 (by with_unfolding_all rfl)) (nl rfl) ?_
 unfold A0r at h
 refine B5 (s0:=⟨T [(0,(.d _)),(1,(.d _))],G []⟩) (sbr rfl rfl) ?_
 refine lr (fun u1 hu1=>sn rfl rfl (sv rfl (A1 (lr (fun u2 hu2=>sd rfl (B2 rfl G_hit rfl rfl) (bs h fun v1 hv1 h=>B1 rfl rfl A2 (B5c _ _ hv1) (.inl rfl) (sv rfl (A1 (A6 (lr (fun u3 hu3=>sv rfl (sv rfl (A1 (cc rfl h (fun c1 h=> ?_) (fun c1 h=> ?_)))))))))))))))
 refine lr (fun u4 hu4=>sv rfl (sv rfl (A1 (B3 ?_))))
 cases h
 exact A7 (.inr rfl) (B6 (B4 rfl) E1) (.refl _)
 refine A9 (A6 (A6 (I6 rfl fun u5 hu5=>sv rfl (sd rfl (E5 rfl) (sv rfl (sv rfl (gf rfl (fun _=>rfl) (gf rfl (fun w2=>(E5 (A3 w2))) (gf rfl (vb rfl rfl rfl) (sd rfl (A0u rfl rfl (fun hc=>A3 (L6 hc))) (sv rfl (gf rfl (fun _=>rfl) (bs h fun v2 hv2 h=>gf rfl (fun w5=>(E4 (A3 w5) rfl (C7 w5 hv2) rfl)) (gf rfl (fun w6=>(F3 (A3 w6) (C7 w6 hv2) rfl)) (gf rfl (vb rfl rfl rfl) (sd rfl (A0u rfl rfl (fun hc=>A3 (L6 hc))) (sv rfl (gf rfl (fun _=>rfl) (bs h fun v3 hv3 h=>gf rfl (fun w9=>(E4 (A3 w9) rfl (C7 w9 hv3) rfl)) (gf rfl (fun w10=>(F3 (A3 w10) (C7 w10 hv3) rfl)) (gp rfl (T8 rfl) (fun _=>rfl) (gf rfl (vl rfl G_hit rfl) (gf rfl (fun w13=>(E5 (A3 w13))) (gf rfl (fun w14=>(V8 (A3 w14) (A3 w14) rfl)) (sd rfl (A0u rfl rfl (fun hc=>A3 (L6 hc))) (sv rfl (gf rfl (fun w15=>(B2 rfl G_hit rfl rfl)) (gf rfl (fun _=>rfl) (bs h fun v4 hv4 h=>gf rfl (fun w17=>(E4 (A3 w17) rfl (C7 w17 hv4) rfl)) (gf rfl (fun w18=>(F3 (A3 w18) (C7 w18 hv4) rfl)) (bs h fun v5 hv5 h=> ?_)))))))))))))))))))))))))))))))
 refine U8 _ (.list (List.map A5 v5)) (T8 rfl) (fun w19=>⟨_,[(.d (.agg (A4h p1))),(di v4)],_,_,(by simp only [A3 w19];rfl),rfl,A2,C0j _ _ _ (C7 w19 hv5),(.inl rfl)⟩) ?_
 refine gf rfl (fun w20=>(E5 (A3 w20))) (gf rfl (vb rfl rfl rfl) (sd rfl (A0u rfl rfl (fun hc=>A3 (L6 hc))) (A1 (cc rfl h (fun c2 h=> ?_) (fun c2 h=> ?_)))))
 refine lr (fun u6 hu6=>sv rfl (A1 (B3 ?_)))
 cases h
 exact A7 (.inr rfl) (B6 (B4 rfl) E1) (.refl _)
 refine A9 (A6 (lr (fun u7 hu7=>sv rfl (A1 (js h fun z1 hz1 h=>E0 (fun s=> ∃(y1:Unit) (g1:Unit),z1= .inl y1∧Sb ⟨T [],G []⟩ s) ?_ ?_)))))
 refine A8 (E7 (W9 p1 p2) (fun (x1:Int) (g2:Unit)=>⟨T [(1,(dl A5 p2)),(2,(.ptr (2,u1) 0)),(6,(di x1))],G [((2,u1),some (.box 33 (A0i p1)))]⟩) 1 () _ hz1 (sbr rfl rfl) ?_)
 intro x1 g2 z2 hz2 ez2
 unfold W9 at hz2
 refine A6 (lr (fun u8 hu8=>sv rfl (sv rfl (sd rfl (E5 rfl) (sv rfl (A1 (cc rfl hz2 (fun c3 hz2=> ?_) (fun c3 hz2=> ?_))))))))
 refine A9 (A6 (A8 (A6 (I6 rfl fun u9 hu9=>sp rfl rfl (sl rfl G_hit rfl (sv rfl (sv rfl (sv rfl (bs hz2 fun v6 hv6 hz2=>sd rfl (E4 rfl rfl hv6 rfl) (sd rfl (F3 rfl hv6 rfl) (bs hz2 fun v7 hv7 hz2=>sd rfl (E4 rfl rfl hv7 rfl) (sv rfl (sd rfl (F3 rfl hv7 rfl) (sv rfl (sv rfl (bs hz2 fun v8 hv8 hz2=>sd rfl (E4 rfl rfl hv8 rfl) (sd rfl (F3 rfl hv8 rfl) (bs hz2 fun v9 hv9 hz2=>B1 rfl rfl A2 (B8g _ _ _ hv9) (.inl rfl) (B9 (.d (bo (!v9))) rfl rfl (A1 (cc rfl hz2 (fun c4 hz2=> ?_) (fun c4 hz2=> ?_))))))))))))))))))))))
 refine lr (fun u10 hu10=>sv rfl (A1 (B3 ?_)))
 cases hz2
 obtain rfl:=ez2 _ rfl
 refine ⟨nofun,D7 ?_⟩
 rw [Sum.elim_inr]at h
 cases h
 exact A7 (.inr rfl) (B6 (B4 rfl) E1) (.refl _)
 refine A9 (F9 (D0 fun u11 hu11=>sv rfl (sv rfl (sv rfl (A1 (G3 ?_))))))
 cases hz2
 exact ⟨rfl,(),(sbr rfl rfl)⟩
 refine C3 rfl ?_
 cases hz2
 obtain rfl:=ez2 _ rfl
 refine ⟨nofun,C0 rfl (l_j ?_)⟩
 exact ⟨_,(),rfl,(sbr rfl rfl)⟩
 rintro _ ⟨y1,g1,rfl,q1⟩
 rw [Sum.elim_inl]at h
 refine B5 q1 (lr (fun u12 hu12=>sv rfl (A1 (B3 ?_))))
 cases h
 exact A7 (.inr rfl) (B6 (B4 rfl) E1) (.refl _)
noncomputable def A8u (p1:Map)(p2:Int):Option Int:=
  (D6 p1.Lanes p2).bind fun v1=>(A38 v1.Curve_).bind fun v2=>some v2
theorem C0k (p1:Map)(p2:Int)(r:Int)(h:A8u p1 p2=some r):PCall Tryz.prog 195 [(.agg (A4h p1)),(i64 p2)] (i64 r):=by
 refine B8 (fk Tryz.func195 Tryz.ntmps195 m0 (by with_unfolding_all rfl)) (nl rfl) ?_
 unfold A8u at h
 refine B5 (s0:=⟨T [(0,(.d _)),(1,(.d _))],G []⟩) (sbr rfl rfl) ?_
 refine lr (fun u1 hu1=>sn rfl rfl (sv rfl (A1 (lr (fun u2 hu2=>sp rfl rfl (sl rfl G_hit rfl (sv rfl (bs h fun v1 hv1 h=>sd rfl (E4 rfl rfl hv1 rfl) (sv rfl (sd rfl (C4 rfl hv1 rfl rfl) (bs h fun v2 hv2 h=>B1 rfl rfl A2 (B0h _ _ hv2) (.inl rfl) (sv rfl (A1 (B3 ?_))))))))))))))
 cases h
 exact A7 (.inr rfl) (B6 (B4 rfl) E1) (.refl _)
noncomputable def A1h (p1:Map)(p2:(List Int))(x1:((List Int)×Int×Int)):Option (Stp ((List Int)×Int×Int) ((List Int)×Int)):=
  cond (decide (x1.2.2< (p2.length:Int))) ((A8h x1.1 [x1.2.1]).bind fun v1=>(D6 p2 x1.2.2).bind fun v2=>(A8u p1 v2).bind fun v3=>some (.go (v1,(w64 (x1.2.1+v3)),(w64 (x1.2.2+1))))) (some (.out (x1.1,x1.2.1)))
noncomputable def A6s (p1:Map)(p2:(List Int)):Option ((List Int)×Int):=
  (loop (A1h p1 p2) ([],0,0)).bind fun y1=>some (y1.1,y1.2)
theorem B46 (p1:Map)(p2:(List Int))(r:((List Int)×Int))(h:A6s p1 p2=some r):PCall Tryz.prog 186 [(.agg (A4h p1)),(.list (List.map A5 p2))] (.tup [(.list (List.map A5 r.1)),(i64 r.2)]):=by
 refine B8 (fk Tryz.func186 Tryz.ntmps186 (fun r=>if r==6 then [1002]else []) (by with_unfolding_all rfl)) (nl rfl) ?_
 unfold A6s at h
 refine B5 (s0:=⟨T [(0,(.d _)),(1,(.d _))],G []⟩) (sbr rfl rfl) ?_
 refine lr (fun u1 hu1=>sn rfl rfl (sv rfl (sv rfl (A1 (lr (fun u2 hu2=>sv rfl (A1 (lr (fun u3 hu3=>sv rfl (A1 (A6 (lr (fun u4 hu4=>sv rfl (A1 (bs h fun y1 hy1 h=>E0 (fun s=> ∃g1:Nat,Sb ⟨T [(6,(oS y1.1 (18,g1))),(7,(di y1.2))],G [((18,g1),oB 2 1 A5 y1.1)]⟩ s) ?_ ?_)))))))))))))))
 refine A8 (E7 (A1h p1 p2) (fun (x1:((List Int)×Int×Int)) (g2:Nat)=>⟨T [(1,(dl A5 p2)),(2,(.ptr (2,u1) 0)),(6,(oS x1.1 (18,g2))),(7,(di x1.2.1)),(8,(di x1.2.2))],G [((2,u1),some (.box 33 (A0i p1))),((18,g2),oB 2 1 A5 x1.1)]⟩) ([],0,0) 0 _ hy1 (G8 ⟨.of rfl, .of rfl, .of rfl, .of rfl, .of rfl,trivial⟩ (B0 G_hit (.of rfl) (Y3 trivial))) ?_)
 intro x1 g2 z1 hz1 ez1
 unfold A1h at hz1
 refine A6 (lr (fun u5 hu5=>sv rfl (sv rfl (sd rfl (E5 rfl) (sv rfl (A1 (cc rfl hz1 (fun c1 hz1=> ?_) (fun c1 hz1=> ?_))))))))
 refine A9 (A6 (A8 (lr (fun u6 hu6=>B9 (oS x1.1 (18,g2)) rfl rfl (sv rfl (B9 (dl A5 [x1.2.1]) rfl rfl (bs hz1 fun v1 hv1 hz1=>X0 A5 (18,g2) x1.1 x1.2.1 [] _ (O2 (fun _=>rfl)) rfl (gq rfl) hv1 (ss rfl (A1 (I6 rfl fun u7 hu7=>sv rfl (sd rfl (B2 rfl (gq rfl) rfl rfl) (sv rfl (sv rfl (bs hz1 fun v2 hv2 hz1=>sd rfl (E4 rfl rfl hv2 rfl) (sd rfl (F3 rfl hv2 rfl) (bs hz1 fun v3 hv3 hz1=>B1 rfl rfl A2 (C0k _ _ _ hv3) (.inl rfl) (sv rfl (sv rfl (A1 (F9 (D0 fun u8 hu8=>sv rfl (sv rfl (sv rfl (A1 (G3 ?_)))))))))))))))))))))))))
 cases hz1
 exact ⟨rfl,u6,(G8 ⟨.of rfl, .of rfl,(.of (A2r (A18 hv1)).symm), .of rfl, .of rfl,trivial⟩ (sg rfl (T1 G_hit trivial)))⟩
 refine C3 rfl ?_
 cases hz1
 obtain rfl:=ez1 _ rfl
 refine ⟨nofun,C0 rfl (l_j ?_)⟩
 exact ⟨g2,(G8 ⟨.of rfl, .of rfl,trivial⟩ (B7 (gq rfl) trivial))⟩
 rintro _ ⟨g1,q1⟩
 refine B5 q1 (lr (fun u9 hu9=>B9 (oS y1.1 (18,g1)) rfl rfl (sv rfl (B9 (oS y1.1 (18,g1)) rfl rfl (sv rfl (A1 (B3 ?_)))))))
 cases h
 exact A7 (.inr rfl) (B6j (B4 rfl) (B4 rfl) (A1x G_hit) E1) (.tup (.cons A1w A2))
noncomputable def A15 (p1:Map)(p2:(List Int)):Option Int:=
  (A0r p1 p2).bind fun v1=>cond (v1 !=0) (some 0) ((A6s p1 p2).bind fun v2=>some v2.2)
theorem A9g (p1:Map)(p2:(List Int))(r:Int)(h:A15 p1 p2=some r):PCall Tryz.prog 97 [(.agg (A4h p1)),(.list (List.map A5 p2))] (i64 r):=by
 refine B8 (fk Tryz.func97 Tryz.ntmps97 m0 (by with_unfolding_all rfl)) (nl rfl) ?_
 unfold A15 at h
 refine B5 (s0:=⟨T [(0,(.d _)),(1,(.d _))],G []⟩) (sbr rfl rfl) ?_
 refine lr (fun u1 hu1=>sn rfl rfl (sv rfl (A1 (A6 (lr (fun u2 hu2=>sd rfl (B2 rfl G_hit rfl rfl) (sv rfl (bs h fun v1 hv1 h=>B1 rfl rfl A2 (A6g _ _ _ hv1) (.inl rfl) (sv rfl (A1 (cc rfl h (fun c1 h=> ?_) (fun c1 h=> ?_))))))))))))
 refine lr (fun u3 hu3=>sv rfl (A1 (B3 ?_)))
 cases h
 exact A7 (.inr rfl) (B6 (B4 rfl) E1) (.refl _)
 refine A9 (lr (fun u4 hu4=>sd rfl (B2 rfl G_hit rfl rfl) (sv rfl (bs h fun v2 hv2 h=>B1 rfl rfl A2 (B46 _ _ _ hv2) (.inl rfl) (sv rfl (sv rfl (sv rfl (sv rfl (sv rfl (A1 (lr (fun u5 hu5=>sv rfl (sv rfl (A1 (B3 ?_)))))))))))))))
 cases h
 exact A7 (.inr rfl) (B6 (B4 rfl) E1) (.refl _)
noncomputable def A8v (p1:Map)(p2:(List Int)):Option (List Int):=
  (A0r p1 p2).bind fun v1=>cond (v1 !=0) (some []) ((A6s p1 p2).bind fun v2=>some v2.1)
theorem C0l (p1:Map)(p2:(List Int))(r:(List Int))(h:A8v p1 p2=some r):PCall Tryz.prog 96 [(.agg (A4h p1)),(.list (List.map A5 p2))] (.list (List.map A5 r)):=by
 refine B8 (fk Tryz.func96 Tryz.ntmps96 m0 (by with_unfolding_all rfl)) (nl rfl) ?_
 unfold A8v at h
 refine B5 (s0:=⟨T [(0,(.d _)),(1,(.d _))],G []⟩) (sbr rfl rfl) ?_
 refine lr (fun u1 hu1=>sn rfl rfl (sv rfl (A1 (A6 (lr (fun u2 hu2=>sd rfl (B2 rfl G_hit rfl rfl) (sv rfl (bs h fun v1 hv1 h=>B1 rfl rfl A2 (A6g _ _ _ hv1) (.inl rfl) (sv rfl (A1 (cc rfl h (fun c1 h=> ?_) (fun c1 h=> ?_))))))))))))
 refine lr (fun u3 hu3=>sv rfl (A1 (B3 ?_)))
 cases h
 exact A7 (.inr rfl) (B6 (B4 rfl) E1) DLe.nil
 refine A9 (lr (fun u4 hu4=>sd rfl (B2 rfl G_hit rfl rfl) (sv rfl (bs h fun v2 hv2 h=>B1 rfl rfl A2 (B46 _ _ _ hv2) (.inl rfl) (sv rfl (sv rfl (sv rfl (sv rfl (sv rfl (A1 (lr (fun u5 hu5=>sv rfl (sv rfl (A1 (B3 ?_)))))))))))))))
 cases h
 exact A7 (.inr rfl) (B6 (B4 rfl) E1) (.refl _)
noncomputable def A3k (p2:Agent)(v1:(List Int))(x1:(Int×Int)):Option (Stp (Int×Int) Int):=
  cond (decide (x1.2< (v1.length:Int))) ((D6 v1 x1.2).bind fun v2=>cond (decide (v2≤p2.S)) (some (.go (x1.2,(w64 (x1.2+1))))) (some (.go (x1.1,(w64 (x1.2+1)))))) (some (.out x1.1))
noncomputable def B2n (p1:Map)(p2:Agent):Option (Int×Int):=
  (A8v p1 p2.Route).bind fun v1=>(loop (A3k p2 v1) (0,0)).bind fun y1=>(D6 p2.Route y1).bind fun v3=>(D6 v1 y1).bind fun v4=>some (v3,(w64 (p2.S - v4)))
theorem C38 (p1:Map)(p2:Agent)(r:(Int×Int))(h:B2n p1 p2=some r):PCall Tryz.prog 168 [(.agg (A4h p1)),(.agg (D2 p2))] (.tup [(i64 r.1),(i64 r.2)]):=by
 refine B8 (fk Tryz.func168 Tryz.ntmps168 m0 (by with_unfolding_all rfl)) (nl rfl) ?_
 unfold B2n at h
 refine B5 (s0:=⟨T [(0,(.d _)),(1,(.d _))],G []⟩) (sbr rfl rfl) ?_
 refine lr (fun u1 hu1=>sn rfl rfl (sn rfl rfl (sv rfl (sv rfl (A1 (lr (fun u2 hu2=>sd rfl (B2 rfl (gq rfl) rfl rfl) (sp rfl rfl (sl rfl G_hit rfl (bs h fun v1 hv1 h=>B1 rfl rfl A2 (C0l _ _ _ hv1) (.inl rfl) (sv rfl (A1 (lr (fun u3 hu3=>sv rfl (A1 (A6 (lr (fun u4 hu4=>sv rfl (A1 (bs h fun y1 hy1 h=>E0 (fun s=> ∃g1:Unit,Sb ⟨T [(3,(.ptr (3,u1) 0)),(6,(dl A5 v1)),(7,(di y1))],G [((3,u1),some (.box 45 (A0h p2)))]⟩ s) ?_ ?_))))))))))))))))))))
 refine A8 (E7 (A3k p2 v1) (fun (x1:(Int×Int)) (g2:Unit)=>⟨T [(3,(.ptr (3,u1) 0)),(6,(dl A5 v1)),(7,(di x1.1)),(8,(di x1.2))],G [((3,u1),some (.box 45 (A0h p2)))]⟩) (0,0) () _ hy1 (sbr rfl rfl) ?_)
 intro x1 g2 z1 hz1 ez1
 unfold A3k at hz1
 refine A6 (lr (fun u5 hu5=>sv rfl (sv rfl (sd rfl (E5 rfl) (sv rfl (A1 (cc rfl hz1 (fun c1 hz1=> ?_) (fun c1 hz1=> ?_))))))))
 refine A9 (A6 (A8 (A6 (I6 rfl fun u6 hu6=>sv rfl (sv rfl (bs hz1 fun v2 hv2 hz1=>sd rfl (E4 rfl rfl hv2 rfl) (sd rfl (F3 rfl hv2 rfl) (sp rfl rfl (sl rfl G_hit rfl (sv rfl (A1 (cc rfl hz1 (fun c2 hz1=> ?_) (fun c2 hz1=> ?_)))))))))))))
 refine D0 fun u7 hu7=>sv rfl (sv rfl (A1 (F9 (D0 fun u8 hu8=>sv rfl (sv rfl (sv rfl (A1 (G3 ?_))))))))
 cases hz1
 exact ⟨rfl,(),(sbr rfl rfl)⟩
 refine A9 (F9 (D0 fun u9 hu9=>sv rfl (sv rfl (sv rfl (A1 (G3 ?_))))))
 cases hz1
 exact ⟨rfl,(),(sbr rfl rfl)⟩
 refine C3 rfl ?_
 cases hz1
 obtain rfl:=ez1 _ rfl
 refine ⟨nofun,C0 rfl (l_j ?_)⟩
 exact ⟨(),(sbr rfl rfl)⟩
 rintro _ ⟨g1,q1⟩
 refine B5 q1 (A6 (I6 rfl fun u10 hu10=>sp rfl rfl (sl rfl G_hit rfl (sv rfl (bs h fun v3 hv3 h=>sd rfl (E4 rfl rfl hv3 rfl) (sd rfl (F3 rfl hv3 rfl) (sp rfl rfl (sl rfl G_hit rfl (sv rfl (sv rfl (bs h fun v4 hv4 h=>sd rfl (E4 rfl rfl hv4 rfl) (sd rfl (F3 rfl hv4 rfl) (sv rfl (sv rfl (sv rfl (A1 (B3 ?_)))))))))))))))))
 cases h
 exact A7 (.inr rfl) (B6j (B4 rfl) (B4 rfl) E1 E1) (.refl _)
noncomputable def B2o (p1:Map)(p2:Agent):Option Bool:=
  (A15 p1 p2.Route).bind fun v1=>some (decide ((w64 (p2.S - p2.Len))>v1))
theorem C39 (p1:Map)(p2:Agent)(r:Bool)(h:B2o p1 p2=some r):PCall Tryz.prog 169 [(.agg (A4h p1)),(.agg (D2 p2))] (bo r):=by
 refine B8 (fk Tryz.func169 Tryz.ntmps169 m0 (by with_unfolding_all rfl)) (nl rfl) ?_
 unfold B2o at h
 refine B5 (s0:=⟨T [(0,(.d _)),(1,(.d _))],G []⟩) (sbr rfl rfl) ?_
 refine lr (fun u1 hu1=>sn rfl rfl (sn rfl rfl (sv rfl (A1 (A6 (I6 rfl fun u2 hu2=>sp rfl rfl (sl rfl G_hit rfl (sp rfl rfl (sl rfl G_hit rfl (sv rfl (sd rfl (B2 rfl (gq rfl) rfl rfl) (sp rfl rfl (sl rfl G_hit rfl (bs h fun v1 hv1 h=>B1 rfl rfl A2 (A9g _ _ _ hv1) (.inl rfl) (sv rfl (sv rfl (A1 (B3 ?_))))))))))))))))))
 cases h
 exact A7 (.inr rfl) (B6 (B4 rfl) E1) (.refl _)
noncomputable def A3s (p1:Map)(p2:State)(p3:Int):Option Int:=
  (D6 p2.Agents p3).bind fun v1=>(A0r p1 v1.Route).bind fun v2=>cond (v2 !=0) (some 13) (((cond (!(((((decide (v1.Len<300))||(decide (v1.Len>20000)))||(decide (v1.Begin<0)))||(decide (v1.Begin>1099511627776)))||(decide (v1.S<0)))) (A15 p1 v1.Route) (some default))).bind fun v3=>cond ((((((decide (v1.Len<300))||(decide (v1.Len>20000)))||(decide (v1.Begin<0)))||(decide (v1.Begin>1099511627776)))||(decide (v1.S<0)))||(decide (v1.S>(w64 ((w64 (v3+v1.Len))+2000))))) (some 2) ((B2n p1 v1).bind fun v4=>(D6 p1.Lanes v4.1).bind fun v5=>(A4t v5.Kind).bind fun v6=>cond ((decide (v1.V<0))||(decide (v1.V>v6.1))) (some 2) ((B2o p1 v1).bind fun v7=>cond (((!(v1.Gone==v7))||((decide (v1.Begin>p2.Tick))&& (v1.S !=0)))||((p3==0)&& (v1.Begin !=0))) (some 10) (some 0))))
theorem B5v (p1:Map)(p2:State)(p3:Int)(r:Int)(h:A3s p1 p2 p3=some r):PCall Tryz.prog 77 [(.agg (A4h p1)),(.agg (A2s p2)),(i64 p3)] (i64 r):=by
 refine B8 (fk Tryz.func77 Tryz.ntmps77 m0 (by with_unfolding_all rfl)) (nl rfl) ?_
 unfold A3s at h
 refine B5 (s0:=⟨T [(0,(.d _)),(1,(.d _)),(2,(.d _))],G []⟩) (sbr rfl rfl) ?_
 refine lr (fun u1 hu1=>sn rfl rfl (sn rfl rfl (sv rfl (A1 (lr (fun u2 hu2=>sp rfl rfl (sl rfl G_hit rfl (sv rfl (bs h fun v1 hv1 h=>sd rfl (E4 rfl rfl hv1 rfl) (sd rfl (C4 rfl hv1 rfl rfl) (sn rfl rfl (sst rfl G_hit (A0h v1) rfl (A1 (A6 (lr (fun u3 hu3=>sd rfl (B2 rfl (gq rfl) rfl rfl) (sp rfl rfl (sl rfl G_hit rfl (bs h fun v2 hv2 h=>B1 rfl rfl A2 (A6g _ _ _ hv2) (.inl rfl) (sv rfl (A1 (cc rfl h (fun c1 h=> ?_) (fun c1 h=> ?_)))))))))))))))))))))))
 refine lr (fun u4 hu4=>sv rfl (A1 (B3 ?_)))
 cases h
 exact A7 (.inr rfl) (B6 (B4 rfl) E1) (.refl _)
 refine A9 (A6 (A6 (I6 rfl fun u5 hu5=>sp rfl rfl (sl rfl G_hit rfl (sv rfl (sv rfl (gp rfl (T8 rfl) (fun _=>rfl) (gf rfl (vl rfl G_hit rfl) (gf rfl (vb rfl rfl rfl) (sd rfl (A0u rfl rfl (fun hc=>A3 (L6 hc))) (sv rfl (gp rfl (T8 rfl) (fun _=>rfl) (gf rfl (vl rfl G_hit rfl) (gf rfl (vb rfl rfl rfl) (sd rfl (A0u rfl rfl (fun hc=>A3 (L6 hc))) (sv rfl (gp rfl (T8 rfl) (fun _=>rfl) (gf rfl (vl rfl G_hit rfl) (gf rfl (vb rfl rfl rfl) (sd rfl (A0u rfl rfl (fun hc=>A3 (L6 hc))) (sv rfl (gp rfl (T8 rfl) (fun _=>rfl) (gf rfl (vl rfl G_hit rfl) (gf rfl (vb rfl rfl rfl) (sd rfl (A0u rfl rfl (fun hc=>A3 (L6 hc))) (sv rfl (gp rfl (T8 rfl) (fun _=>rfl) (gf rfl (vl rfl G_hit rfl) (gf rfl (fun w15=>(B2 rfl (gq rfl) rfl rfl)) (gp rfl (T8 rfl) (fun _=>rfl) (gf rfl (vl rfl G_hit rfl) (bs h fun v3 hv3 h=> ?_))))))))))))))))))))))))))))))))
 refine U8 _ (i64 v3) (T8 rfl) (fun w18=>⟨_,[(.d (.agg (A4h p1))),(dl A5 v1.Route)],_,_,(by simp only [A3 w18];rfl),rfl,A2,A9g _ _ _ (C7 w18 hv3),(.inl rfl)⟩) ?_
 refine gp rfl (T8 rfl) (fun _=>rfl) (gf rfl (vl rfl G_hit rfl) (gf rfl (fun w21=>(V8 (A3 w21) (A3 w21) rfl)) (gf rfl (vb rfl rfl rfl) (gf rfl (fun w23=>(V8 (A3 w23) (A3 w23) rfl)) (sd rfl (A0u rfl rfl (fun hc=>A3 (L6 hc))) (A1 (cc rfl h (fun c2 h=> ?_) (fun c2 h=> ?_))))))))
 refine lr (fun u6 hu6=>sv rfl (A1 (B3 ?_)))
 cases h
 exact A7 (.inr rfl) (B6 (B4 rfl) E1) (.refl _)
 refine A9 (lr (fun u7 hu7=>sd rfl (B2 rfl (gq rfl) rfl rfl) (sd rfl (B2 rfl G_hit rfl rfl) (bs h fun v4 hv4 h=>B1 rfl rfl A2 (C38 _ _ _ hv4) (.inl rfl) (sv rfl (sv rfl (sv rfl (sv rfl (sv rfl (A1 (lr (fun u8 hu8=>sp rfl rfl (sl rfl (gq rfl) rfl (sv rfl (bs h fun v5 hv5 h=>sd rfl (E4 rfl rfl hv5 rfl) (sv rfl (sd rfl (F3 rfl hv5 rfl) (bs h fun v6 hv6 h=>B1 rfl rfl A2 (B0g _ _ hv6) (.inl rfl) (sv rfl (sv rfl (sv rfl (sv rfl (sv rfl (sv rfl (sv rfl (A1 (A6 (lr (fun u9 hu9=>sp rfl rfl (sl rfl G_hit rfl (sv rfl (sv rfl (gp rfl (T8 rfl) (fun _=>rfl) (gf rfl (vl rfl G_hit rfl) (gf rfl (fun _=>rfl) (gf rfl (fun w27=>(V8 (A3 w27) (A3 w27) rfl)) (sd rfl (A0u rfl rfl (fun hc=>A3 (L6 hc))) (A1 (cc rfl h (fun c3 h=> ?_) (fun c3 h=> ?_))))))))))))))))))))))))))))))))))))))))
 refine A6 (B5 (s0:=⟨T [],G []⟩) (sbr rfl rfl) ?_)
 refine D0 fun u10 hu10=>sv rfl (A1 (B3 ?_))
 cases h
 exact A7 (.inr rfl) (B6 (B4 rfl) E1) (.refl _)
 refine A9 (A6 (A6 (B5 (s0:=⟨T [(2,(.d _)),(3,(.ptr _ _)),(4,(.ptr _ _)),(7,(.ptr _ _))],G [((3,u1),some (.box 33 _)),((4,u1),some (.box 25 _)),((7,u2),some (.box 45 _))]⟩) (sbr rfl rfl) ?_)))
 refine I6 rfl fun u11 hu11=>sp rfl rfl (sl rfl (gq rfl) rfl (sd rfl (B2 rfl G_hit rfl rfl) (sd rfl (B2 rfl (gq rfl) rfl rfl) (bs h fun v7 hv7 h=>B1 rfl rfl A2 (C39 _ _ _ hv7) (.inl rfl) (B9 (.d (bo (!(v1.Gone==v7)))) rfl rfl (sv rfl (gp rfl (T8 rfl) (fun _=>rfl) (gf rfl (vl rfl (gq rfl) rfl) (gp rfl (T8 rfl) (fun _=>rfl) (gf rfl (vl rfl (gq rfl) rfl) (gf rfl (fun w32=>(V8 (A3 w32) (A3 w32) rfl)) (gf rfl (fun w33=>(D60 (A3 w33))) (Z7 _ (.ptr _ _) rfl (A3q rfl) (fun _=>rfl) (gv rfl (A3q rfl) (vl rfl (gq rfl) rfl) (gv rfl (A3q rfl) (vb rfl rfl rfl) (gf rfl (fun w37=>(C5v (A3 w37) (fun hc=>A3 (C5w w37 hc)) rfl)) (sd rfl (A0u rfl rfl (fun hc=>A3 (L6 hc))) (sv rfl (gf rfl (fun _=>rfl) (gf rfl (vb rfl rfl rfl) (gf rfl (fun w40=>(D60 (A3 w40))) (Z7 _ (.ptr _ _) rfl (A3q rfl) (fun _=>rfl) (gv rfl (A3q rfl) (vl rfl (gq rfl) rfl) (gv rfl (A3q rfl) (vb rfl rfl rfl) (gf rfl (fun w44=>(C5v (A3 w44) (fun hc=>A3 (C5w w44 hc)) rfl)) (sd rfl (A0u rfl rfl (fun hc=>A3 (L6 hc))) (A1 (cc rfl h (fun c4 h=> ?_) (fun c4 h=> ?_)))))))))))))))))))))))))))))
 refine lr (fun u12 hu12=>sv rfl (A1 (B3 ?_)))
 cases h
 exact A7 (.inr rfl) (B6 (B4 rfl) E1) (.refl _)
 refine A9 (lr (fun u13 hu13=>sv rfl (A1 (B3 ?_))))
 cases h
 exact A7 (.inr rfl) (B6 (B4 rfl) E1) (.refl _)
noncomputable def A40 (p2:State)(x3:Int):Option (Stp Int (Sum Unit Int)):=
  cond (decide (x3< (p2.In.length:Int))) ((D6 p2.In x3).bind fun v7=>cond ((((decide (v7.Since<0))||(decide (v7.Since>p2.Tick)))||(decide (v7.Rank<0)))||(decide (v7.Rank>100))) (some (.out (.inr 2))) (some (.go (w64 (x3+1))))) (some (.out (.inl ())))
noncomputable def A41 (p1:Map)(p2:State)(x2:Int):Option (Stp Int (Sum Unit Int)):=
  cond (decide (x2< (p2.In.length:Int))) ((D6 p2.In x2).bind fun v3=>cond ((((decide (v3.Agent_<0))||(decide (v3.Agent_≥(p2.Agents.length:Int))))||(decide (v3.Zone_<0)))||(decide (v3.Zone_≥(p1.Zones.length:Int)))) (some (.out (.inr 11))) (((cond (decide (x2>0)) (D6 p2.In (w64 (x2 - 1))) (some default))).bind fun v4=>((cond ((decide (x2>0))&& (!(decide (v3.Agent_<v4.Agent_)))) (D6 p2.In (w64 (x2 - 1))) (some default))).bind fun v5=>((cond (((decide (x2>0))&& (!(decide (v3.Agent_<v4.Agent_))))&& (v3.Agent_==v5.Agent_)) (D6 p2.In (w64 (x2 - 1))) (some default))).bind fun v6=>cond ((decide (x2>0))&& ((decide (v3.Agent_<v4.Agent_))||((v3.Agent_==v5.Agent_)&& (decide (v3.Zone_≤v6.Zone_))))) (some (.out (.inr 11))) (some (.go (w64 (x2+1)))))) (some (.out (.inl ())))
noncomputable def A42 (p1:Map)(p2:State)(x1:Int):Option (Stp Int (Sum Unit Int)):=
  cond (decide (x1< (p2.Agents.length:Int))) ((A3s p1 p2 x1).bind fun v2=>cond (v2 !=0) (some (.out (.inr v2))) (some (.go (w64 (x1+1))))) (some (.out (.inl ())))
noncomputable def B0i (p1:Map)(p2:State):Option Int:=
  (A83 p1).bind fun v1=>cond (v1 !=0) (some v1) (cond ((decide (p2.Tick<0))||(decide (p2.Tick>1099511627776))) (some 2) (cond ((p2.Agents.length:Int)==0) (some 6) (cond (decide ((p2.Agents.length:Int)>8)) (some 8) (thenS (loop (A42 p1 p2) 0) (fun _=>thenS (loop (A41 p1 p2) 0) (fun _=>thenS (loop (A40 p2) 0) (fun _=>some 0) (fun r=>some r)) (fun r=>some r)) (fun r=>some r)))))
theorem C1j (p1:Map)(p2:State)(r:Int)(h:B0i p1 p2=some r):PCall Tryz.prog 25 [(.agg (A4h p1)),(.agg (A2s p2))] (i64 r):=by
 refine B8 (fk Tryz.func25 Tryz.ntmps25 m0 (by with_unfolding_all rfl)) (nl rfl) ?_
 unfold B0i at h
 refine B5 (s0:=⟨T [(0,(.d _)),(1,(.d _))],G []⟩) (sbr rfl rfl) ?_
 refine lr (fun u1 hu1=>sn rfl rfl (sn rfl rfl (sv rfl (A1 (lr (fun u2 hu2=>sd rfl (B2 rfl (gq rfl) rfl rfl) (bs h fun v1 hv1 h=>B1 rfl rfl A2 (B5c _ _ hv1) (.inl rfl) (sv rfl (A1 (A6 (lr (fun u3 hu3=>sv rfl (sv rfl (A1 (cc rfl h (fun c1 h=> ?_) (fun c1 h=> ?_))))))))))))))))
 refine lr (fun u4 hu4=>sv rfl (sv rfl (A1 (B3 ?_))))
 cases h
 exact A7 (.inr rfl) (B6 (B4 rfl) E1) (.refl _)
 refine A9 (A6 (lr (fun u5 hu5=>sp rfl rfl (sl rfl G_hit rfl (sv rfl (sv rfl (gp rfl (T8 rfl) (fun _=>rfl) (gf rfl (vl rfl G_hit rfl) (gf rfl (vb rfl rfl rfl) (sd rfl (A0u rfl rfl (fun hc=>A3 (L6 hc))) (A1 (cc rfl h (fun c2 h=> ?_) (fun c2 h=> ?_)))))))))))))
 refine lr (fun u6 hu6=>sv rfl (A1 (B3 ?_)))
 cases h
 exact A7 (.inr rfl) (B6 (B4 rfl) E1) (.refl _)
 refine A9 (A6 (lr (fun u7 hu7=>sp rfl rfl (sl rfl G_hit rfl (sd rfl (E5 rfl) (sv rfl (A1 (cc rfl h (fun c3 h=> ?_) (fun c3 h=> ?_)))))))))
 refine lr (fun u8 hu8=>sv rfl (A1 (B3 ?_)))
 cases h
 exact A7 (.inr rfl) (B6 (B4 rfl) E1) (.refl _)
 refine A9 (A6 (lr (fun u9 hu9=>sp rfl rfl (sl rfl G_hit rfl (sd rfl (E5 rfl) (sv rfl (A1 (cc rfl h (fun c4 h=> ?_) (fun c4 h=> ?_)))))))))
 refine lr (fun u10 hu10=>sv rfl (A1 (B3 ?_)))
 cases h
 exact A7 (.inr rfl) (B6 (B4 rfl) E1) (.refl _)
 refine A9 (A6 (lr (fun u11 hu11=>sv rfl (A1 (js h fun z1 hz1 h=>E0 (fun s=> ∃(y1:Unit) (g1:Unit),z1= .inl y1∧Sb ⟨T [(2,(.ptr (2,u1) 0)),(3,(.ptr (3,u1) 0))],G [((2,u1),some (.box 33 (A0i p1))),((3,u1),some (.box 25 (L5 p2)))]⟩ s) ?_ ?_)))))
 refine A8 (E7 (A42 p1 p2) (fun (x1:Int) (g2:Unit)=>⟨T [(2,(.ptr (2,u1) 0)),(3,(.ptr (3,u1) 0)),(6,(di x1))],G [((2,u1),some (.box 33 (A0i p1))),((3,u1),some (.box 25 (L5 p2)))]⟩) 0 () _ hz1 (sbr rfl rfl) ?_)
 intro x1 g2 z2 hz2 ez2
 unfold A42 at hz2
 refine A6 (lr (fun u12 hu12=>sv rfl (sp rfl rfl (sl rfl (gq rfl) rfl (sd rfl (E5 rfl) (sv rfl (A1 (cc rfl hz2 (fun c5 hz2=> ?_) (fun c5 hz2=> ?_)))))))))
 refine A9 (A6 (A8 (lr (fun u13 hu13=>sd rfl (B2 rfl G_hit rfl rfl) (sd rfl (B2 rfl (gq rfl) rfl rfl) (sv rfl (bs hz2 fun v2 hv2 hz2=>B1 rfl rfl A2 (B5v _ _ _ _ hv2) (.inl rfl) (sv rfl (A1 (lr (fun u14 hu14=>sv rfl (sv rfl (A1 (cc rfl hz2 (fun c6 hz2=> ?_) (fun c6 hz2=> ?_)))))))))))))))
 refine lr (fun u15 hu15=>sv rfl (sv rfl (A1 (B3 ?_))))
 cases hz2
 obtain rfl:=ez2 _ rfl
 refine ⟨nofun,D7 ?_⟩
 rw [Sum.elim_inr]at h
 cases h
 exact A7 (.inr rfl) (B6 (B4 rfl) E1) (.refl _)
 refine A9 (F9 (D0 fun u16 hu16=>sv rfl (sv rfl (sv rfl (A1 (G3 ?_))))))
 cases hz2
 exact ⟨rfl,(),(sbr rfl rfl)⟩
 refine C3 rfl ?_
 cases hz2
 obtain rfl:=ez2 _ rfl
 refine ⟨nofun,C0 rfl (l_j ?_)⟩
 exact ⟨_,(),rfl,(sbr rfl rfl)⟩
 rintro _ ⟨y1,g1,rfl,q1⟩
 rw [Sum.elim_inl]at h
 refine B5 q1 (A6 (lr (fun u17 hu17=>sv rfl (A1 (js h fun z3 hz3 h=>E0 (fun s=> ∃(y2:Unit) (g3:Unit),z3= .inl y2∧Sb ⟨T [(3,(.ptr (3,u1) 0))],G [((3,u1),some (.box 25 (L5 p2)))]⟩ s) ?_ ?_)))))
 refine A8 (E7 (A41 p1 p2) (fun (x2:Int) (g4:Unit)=>⟨T [(2,(.ptr (2,u1) 0)),(3,(.ptr (3,u1) 0)),(7,(di x2))],G [((2,u1),some (.box 33 (A0i p1))),((3,u1),some (.box 25 (L5 p2)))]⟩) 0 () _ hz3 (sbr rfl rfl) ?_)
 intro x2 g4 z4 hz4 ez4
 unfold A41 at hz4
 refine A6 (lr (fun u18 hu18=>sv rfl (sp rfl rfl (sl rfl (gq rfl) rfl (sd rfl (E5 rfl) (sv rfl (A1 (cc rfl hz4 (fun c7 hz4=> ?_) (fun c7 hz4=> ?_)))))))))
 refine A9 (A6 (A8 (lr (fun u19 hu19=>sp rfl rfl (sl rfl (gq rfl) rfl (sv rfl (bs hz4 fun v3 hv3 hz4=>sd rfl (E4 rfl rfl hv3 rfl) (sd rfl (C4 rfl hv3 rfl rfl) (sn rfl rfl (sst rfl G_hit (B8n v3) rfl (A1 (A6 (lr (fun u20 hu20=>sp rfl rfl (sl rfl G_hit rfl (sv rfl (sv rfl (gp rfl (T8 rfl) (fun _=>rfl) (gf rfl (vl rfl G_hit rfl) (gp rfl (T8 rfl) (fun _=>rfl) (gf rfl (vl rfl (gq rfl) rfl) (gf rfl (fun w8=>(E5 (A3 w8))) (gf rfl (fun w9=>(V8 (A3 w9) (A3 w9) rfl)) (sd rfl (A0u rfl rfl (fun hc=>A3 (L6 hc))) (sv rfl (gp rfl (T8 rfl) (fun _=>rfl) (gf rfl (vl rfl G_hit rfl) (gf rfl (vb rfl rfl rfl) (sd rfl (A0u rfl rfl (fun hc=>A3 (L6 hc))) (sv rfl (gp rfl (T8 rfl) (fun _=>rfl) (gf rfl (vl rfl G_hit rfl) (gp rfl (T8 rfl) (fun _=>rfl) (gf rfl (vl rfl (gq rfl) rfl) (gf rfl (fun w17=>(E5 (A3 w17))) (gf rfl (fun w18=>(V8 (A3 w18) (A3 w18) rfl)) (sd rfl (A0u rfl rfl (fun hc=>A3 (L6 hc))) (A1 (cc rfl hz4 (fun c8 hz4=> ?_) (fun c8 hz4=> ?_))))))))))))))))))))))))))))))))))))))))
 refine lr (fun u21 hu21=>sv rfl (A1 (B3 ?_)))
 cases hz4
 obtain rfl:=ez4 _ rfl
 refine ⟨nofun,D7 ?_⟩
 rw [Sum.elim_inr]at h
 cases h
 exact A7 (.inr rfl) (B6 (B4 rfl) E1) (.refl _)
 refine A9 (A6 (I6 rfl fun u22 hu22=>sv rfl (sv rfl (sv rfl (gp rfl (A19 rfl) (fun _=>rfl) (gt rfl (vl rfl G_hit rfl) (gp rfl (A19 rfl) (fun _=>rfl) (gt rfl (vl rfl (gq rfl) rfl) (gt rfl (fun _=>rfl) (gt rfl (vb rfl rfl rfl) (bs hz4 fun v4 hv4 hz4=>gt rfl (fun w25=>(E4 (A3 w25) (A3 w25) (C7 w25 hv4) rfl)) ?_)))))))))))
 refine gt rfl (fun w26=>(by simp only [A3 w26];rfl)) ?_
 refine gt rfl (fun w27=>(F3 (A3 w27) (C7 w27 hv4) rfl)) (gt rfl (fun w28=>(V8 (A3 w28) (A3 w28) rfl)) (gt rfl (fun w29=>(D60 (A3 w29))) (Z7 _ (.ptr _ _) rfl (B8l rfl) (fun _=>rfl) (gv rfl (B8l rfl) (vl rfl G_hit rfl) (Z7 _ (.ptr _ _) rfl (B8l rfl) (fun _=>rfl) (gv rfl (B8l rfl) (vl rfl (gq rfl) rfl) (gv rfl (B8l rfl) (fun _=>rfl) (gv rfl (B8l rfl) (vb rfl rfl rfl) (bs hz4 fun v5 hv5 hz4=>gv rfl (B8l rfl) (fun w36=>(E4 (A3 w36) (A3 w36) (C7 w36 hv5) rfl)) ?_)))))))))
 refine gv rfl (B8l rfl) (fun w37=>(by simp only [A3 w37];rfl)) ?_
 refine gv rfl (B8l rfl) (fun w38=>(F3 (A3 w38) (C7 w38 hv5) rfl)) (gv rfl (B8l rfl) (fun w39=>(V8 (A3 w39) (A3 w39) rfl)) (gv rfl (B8l rfl) (fun w40=>(D60 (A3 w40))) (Z7 _ (.ptr _ _) rfl (A3q rfl) (fun _=>rfl) (gv rfl (A3q rfl) (vl rfl G_hit rfl) (Z7 _ (.ptr _ _) rfl (A3q rfl) (fun _=>rfl) (gv rfl (A3q rfl) (vl rfl (gq rfl) rfl) (gv rfl (A3q rfl) (fun _=>rfl) (gv rfl (A3q rfl) (vb rfl rfl rfl) (bs hz4 fun v6 hv6 hz4=>gv rfl (A3q rfl) (fun w47=>(E4 (A3 w47) (A3 w47) (C7 w47 hv6) rfl)) ?_)))))))))
 refine gv rfl (A3q rfl) (fun w48=>(by simp only [A3 w48];rfl)) ?_
 refine gv rfl (A3q rfl) (fun w49=>(F3 (A3 w49) (C7 w49 hv6) rfl)) (gv rfl (A3q rfl) (fun w50=>(V8 (A3 w50) (A3 w50) rfl)) (gv rfl (B8l rfl) (fun w51=>(C5v (A3 w51) (fun hc=>A3 (C5w w51 hc)) rfl)) (gt rfl (fun w52=>(A0u (A3 w52) rfl (fun hc=>A3 (C5w w52 (L6 hc))))) (sa rfl rfl rfl (A1 (cc rfl hz4 (fun c9 hz4=> ?_) (fun c9 hz4=> ?_)))))))
 refine lr (fun u23 hu23=>sv rfl (A1 (B3 ?_)))
 cases hz4
 obtain rfl:=ez4 _ rfl
 refine ⟨nofun,D7 ?_⟩
 rw [Sum.elim_inr]at h
 cases h
 exact A7 (.inr rfl) (B6 (B4 rfl) E1) (.refl _)
 refine A9 (F9 (D0 fun u24 hu24=>sv rfl (sv rfl (sv rfl (A1 (G3 ?_))))))
 cases hz4
 exact ⟨rfl,(),(sbr rfl rfl)⟩
 refine C3 rfl ?_
 cases hz4
 obtain rfl:=ez4 _ rfl
 refine ⟨nofun,C0 rfl (l_j ?_)⟩
 exact ⟨_,(),rfl,(sbr rfl rfl)⟩
 rintro _ ⟨y2,g3,rfl,q2⟩
 rw [Sum.elim_inl]at h
 refine B5 q2 (A6 (lr (fun u25 hu25=>sv rfl (A1 (js h fun z5 hz5 h=>E0 (fun s=> ∃(y3:Unit) (g5:Unit),z5= .inl y3∧Sb ⟨T [],G []⟩ s) ?_ ?_)))))
 refine A8 (E7 (A40 p2) (fun (x3:Int) (g6:Unit)=>⟨T [(3,(.ptr (3,u1) 0)),(9,(di x3))],G [((3,u1),some (.box 25 (L5 p2)))]⟩) 0 () _ hz5 (sbr rfl rfl) ?_)
 intro x3 g6 z6 hz6 ez6
 unfold A40 at hz6
 refine A6 (lr (fun u26 hu26=>sv rfl (sp rfl rfl (sl rfl G_hit rfl (sd rfl (E5 rfl) (sv rfl (A1 (cc rfl hz6 (fun c10 hz6=> ?_) (fun c10 hz6=> ?_)))))))))
 refine A9 (A6 (A8 (lr (fun u27 hu27=>sp rfl rfl (sl rfl G_hit rfl (sv rfl (bs hz6 fun v7 hv7 hz6=>sd rfl (E4 rfl rfl hv7 rfl) (sd rfl (C4 rfl hv7 rfl rfl) (sn rfl rfl (sst rfl G_hit (B8n v7) rfl (A1 (lr (fun u28 hu28=>sp rfl rfl (sl rfl G_hit rfl (sv rfl (sv rfl (gp rfl (T8 rfl) (fun _=>rfl) (gf rfl (vl rfl G_hit rfl) (gp rfl (T8 rfl) (fun _=>rfl) (gf rfl (vl rfl (gq rfl) rfl) (gf rfl (fun w57=>(V8 (A3 w57) (A3 w57) rfl)) (sd rfl (A0u rfl rfl (fun hc=>A3 (L6 hc))) (sv rfl (gp rfl (T8 rfl) (fun _=>rfl) (gf rfl (vl rfl G_hit rfl) (gf rfl (vb rfl rfl rfl) (sd rfl (A0u rfl rfl (fun hc=>A3 (L6 hc))) (sv rfl (gp rfl (T8 rfl) (fun _=>rfl) (gf rfl (vl rfl G_hit rfl) (gf rfl (vb rfl rfl rfl) (sd rfl (A0u rfl rfl (fun hc=>A3 (L6 hc))) (A1 (cc rfl hz6 (fun c11 hz6=> ?_) (fun c11 hz6=> ?_)))))))))))))))))))))))))))))))))))
 refine lr (fun u29 hu29=>sv rfl (A1 (B3 ?_)))
 cases hz6
 obtain rfl:=ez6 _ rfl
 refine ⟨nofun,D7 ?_⟩
 rw [Sum.elim_inr]at h
 cases h
 exact A7 (.inr rfl) (B6 (B4 rfl) E1) (.refl _)
 refine A9 (F9 (D0 fun u30 hu30=>sv rfl (sv rfl (sv rfl (A1 (G3 ?_))))))
 cases hz6
 exact ⟨rfl,(),(sbr rfl rfl)⟩
 refine C3 rfl ?_
 cases hz6
 obtain rfl:=ez6 _ rfl
 refine ⟨nofun,C0 rfl (l_j ?_)⟩
 exact ⟨_,(),rfl,(sbr rfl rfl)⟩
 rintro _ ⟨y3,g5,rfl,q3⟩
 rw [Sum.elim_inl]at h
 refine B5 q3 (lr (fun u31 hu31=>sv rfl (A1 (B3 ?_))))
 cases h
 exact A7 (.inr rfl) (B6 (B4 rfl) E1) (.refl _)
noncomputable def A5i (p1:State)(p2:State)(x3:Int):Option (Stp Int (Sum Unit Bool)):=
  cond (decide (x3< (p1.In.length:Int))) ((D6 p1.In x3).bind fun v5=>(D6 p2.In x3).bind fun v6=>cond (!(v5.Agent_==v6.Agent_&& (v5.Zone_==v6.Zone_&& (v5.Since==v6.Since&& (v5.Rank==v6.Rank&&true))))) (some (.out (.inr false))) (some (.go (w64 (x3+1))))) (some (.out (.inl ())))
noncomputable def A3l (v1:Agent)(v2:Agent)(x2:Int):Option (Stp Int (Sum Unit Bool)):=
  cond (decide (x2< (v1.Route.length:Int))) ((D6 v1.Route x2).bind fun v3=>(D6 v2.Route x2).bind fun v4=>cond (v3 !=v4) (some (.out (.inr false))) (some (.go (w64 (x2+1))))) (some (.out (.inl ())))
noncomputable def A5j (p1:State)(p2:State)(x1:Int):Option (Stp Int (Sum Unit Bool)):=
  cond (decide (x1< (p1.Agents.length:Int))) ((D6 p1.Agents x1).bind fun v1=>(D6 p2.Agents x1).bind fun v2=>cond ((((((((v1.Route.length:Int) !=(v2.Route.length:Int))||(v1.S !=v2.S))||(v1.V !=v2.V))||(v1.Len !=v2.Len))||(v1.Begin !=v2.Begin))||(!(v1.Obey==v2.Obey)))||(!(v1.Gone==v2.Gone))) (some (.out (.inr false))) (thenS (loop (A3l v1 v2) 0) (fun _=>some (.go (w64 (x1+1)))) (fun r=>some (.out (.inr r))))) (some (.out (.inl ())))
noncomputable def B2p (p1:State)(p2:State):Option Bool:=
  cond (((p1.Tick !=p2.Tick)||((p1.Agents.length:Int) !=(p2.Agents.length:Int)))||((p1.In.length:Int) !=(p2.In.length:Int))) (some false) (thenS (loop (A5j p1 p2) 0) (fun _=>thenS (loop (A5i p1 p2) 0) (fun _=>some true) (fun r=>some r)) (fun r=>some r))
theorem C3a (p1:State)(p2:State)(r:Bool)(h:B2p p1 p2=some r):PCall Tryz.prog 26 [(.agg (A2s p1)),(.agg (A2s p2))] (bo r):=by
 refine B8 (fk Tryz.func26 Tryz.ntmps26 m0 (by with_unfolding_all rfl)) (nl rfl) ?_
 unfold B2p at h
 refine B5 (s0:=⟨T [(0,(.d _)),(1,(.d _))],G []⟩) (sbr rfl rfl) ?_
 refine lr (fun u1 hu1=>sn rfl rfl (sn rfl rfl (sv rfl (A1 (A6 (lr (fun u2 hu2=>sp rfl rfl (sl rfl (gq rfl) rfl (sp rfl rfl (sl rfl G_hit rfl (sv rfl (sv rfl (gp rfl (T8 rfl) (fun _=>rfl) (gf rfl (vl rfl (gq rfl) rfl) (gf rfl (fun w3=>(E5 (A3 w3))) (gp rfl (T8 rfl) (fun _=>rfl) (gf rfl (vl rfl G_hit rfl) (gf rfl (fun w6=>(E5 (A3 w6))) (gf rfl (fun w7=>(V8 (A3 w7) (A3 w7) rfl)) (sd rfl (A0u rfl rfl (fun hc=>A3 (L6 hc))) (sv rfl (gp rfl (T8 rfl) (fun _=>rfl) (gf rfl (vl rfl (gq rfl) rfl) (gf rfl (fun w10=>(E5 (A3 w10))) (gp rfl (T8 rfl) (fun _=>rfl) (gf rfl (vl rfl G_hit rfl) (gf rfl (fun w13=>(E5 (A3 w13))) (gf rfl (fun w14=>(V8 (A3 w14) (A3 w14) rfl)) (sd rfl (A0u rfl rfl (fun hc=>A3 (L6 hc))) (A1 (cc rfl h (fun c1 h=> ?_) (fun c1 h=> ?_))))))))))))))))))))))))))))))))
 refine lr (fun u3 hu3=>sv rfl (A1 (B3 ?_)))
 cases h
 exact A7 (.inr rfl) (B6 (B4 rfl) E1) (.refl _)
 refine A9 (A6 (lr (fun u4 hu4=>sv rfl (A1 (js h fun z1 hz1 h=>E0 (fun s=> ∃(y1:Unit) (g1:Unit),z1= .inl y1∧Sb ⟨T [(2,(.ptr (2,u1) 0)),(3,(.ptr (3,u1) 0))],G [((2,u1),some (.box 25 (L5 p1))),((3,u1),some (.box 25 (L5 p2)))]⟩ s) ?_ ?_)))))
 refine A8 (E7 (A5j p1 p2) (fun (x1:Int) (g2:Unit)=>⟨T [(2,(.ptr (2,u1) 0)),(3,(.ptr (3,u1) 0)),(5,(di x1))],G [((2,u1),some (.box 25 (L5 p1))),((3,u1),some (.box 25 (L5 p2)))]⟩) 0 () _ hz1 (sbr rfl rfl) ?_)
 intro x1 g2 z2 hz2 ez2
 unfold A5j at hz2
 refine A6 (lr (fun u5 hu5=>sv rfl (sp rfl rfl (sl rfl G_hit rfl (sd rfl (E5 rfl) (sv rfl (A1 (cc rfl hz2 (fun c2 hz2=> ?_) (fun c2 hz2=> ?_)))))))))
 refine A9 (A6 (A8 (A6 (B7m fun u6 hu6=>A1y (.ptr _ _) rfl rfl (A1y (.d _) rfl (X1 rfl G_hit rfl) (A1y (.d _) rfl rfl (bs hz2 fun v1 hv1 hz2=>A1y (.d _) rfl (E4 rfl rfl hv1 rfl) (A1y (.d _) rfl (C4 rfl hv1 rfl rfl) (A1y (.ptr _ _) rfl rfl (A1y (.d _) rfl (X1 rfl (gq rfl) rfl) (A1y (.d _) rfl rfl (bs hz2 fun v2 hv2 hz2=>A1y (.d _) rfl (E4 rfl rfl hv2 rfl) (A1y (.d _) rfl (C4 rfl hv2 rfl rfl) (D0l (.ptr _ _) (.box _ _) rfl rfl (D0l (.ptr _ _) (.box _ _) rfl rfl (B9w _ _ _ _ _ rfl rfl rfl (gq rfl) (nl rfl) (A0h v1) rfl (B9w _ _ _ _ _ rfl rfl rfl (gq rfl) (nl rfl) (A0h v2) rfl (C8r ⟨rfl,?_⟩))))))))))))))))))
 refine A6 (lr (fun u7 hu7=>sp rfl rfl (sl rfl (gq rfl) rfl (sd rfl (E5 rfl) (sp rfl rfl (sl rfl G_hit rfl (sd rfl (E5 rfl) (sv rfl (sv rfl (gp rfl (T8 rfl) (fun _=>rfl) (gf rfl (vl rfl (gq rfl) rfl) (gp rfl (T8 rfl) (fun _=>rfl) (gf rfl (vl rfl G_hit rfl) (gf rfl (fun w19=>(V8 (A3 w19) (A3 w19) rfl)) (sd rfl (A0u rfl rfl (fun hc=>A3 (L6 hc))) (sv rfl (gp rfl (T8 rfl) (fun _=>rfl) (gf rfl (vl rfl (gq rfl) rfl) (gp rfl (T8 rfl) (fun _=>rfl) (gf rfl (vl rfl G_hit rfl) (gf rfl (fun w24=>(V8 (A3 w24) (A3 w24) rfl)) (sd rfl (A0u rfl rfl (fun hc=>A3 (L6 hc))) (sv rfl (gp rfl (T8 rfl) (fun _=>rfl) (gf rfl (vl rfl (gq rfl) rfl) (gp rfl (T8 rfl) (fun _=>rfl) (gf rfl (vl rfl G_hit rfl) (gf rfl (fun w29=>(V8 (A3 w29) (A3 w29) rfl)) (sd rfl (A0u rfl rfl (fun hc=>A3 (L6 hc))) (sv rfl (gp rfl (T8 rfl) (fun _=>rfl) (gf rfl (vl rfl (gq rfl) rfl) (gp rfl (T8 rfl) (fun _=>rfl) (gf rfl (vl rfl G_hit rfl) (gf rfl (fun w34=>(V8 (A3 w34) (A3 w34) rfl)) (sd rfl (A0u rfl rfl (fun hc=>A3 (L6 hc))) (sv rfl (gp rfl (T8 rfl) (fun _=>rfl) (gf rfl (vl rfl (gq rfl) rfl) (gp rfl (T8 rfl) (fun _=>rfl) (gf rfl (vl rfl G_hit rfl) ?_)))))))))))))))))))))))))))))))))))))))))
 refine Z7 _ (.d (bo (!(v1.Obey==v2.Obey)))) rfl (T8 rfl) (fun w39=>(by simp only [A3 w39];rfl)) ?_
 refine sd rfl (A0u rfl rfl (fun hc=>A3 (L6 hc))) (sv rfl (gp rfl (T8 rfl) (fun _=>rfl) (gf rfl (vl rfl (gq rfl) rfl) (gp rfl (T8 rfl) (fun _=>rfl) (gf rfl (vl rfl G_hit rfl) ?_)))))
 refine Z7 _ (.d (bo (!(v1.Gone==v2.Gone)))) rfl (T8 rfl) (fun w44=>(by simp only [A3 w44];rfl)) ?_
 refine sd rfl (A0u rfl rfl (fun hc=>A3 (L6 hc))) (A1 (cc rfl hz2 (fun c3 hz2=> ?_) (fun c3 hz2=> ?_)))
 refine lr (fun u8 hu8=>sv rfl (A1 (B3 ?_)))
 cases hz2
 obtain rfl:=ez2 _ rfl
 refine ⟨nofun,D7 ?_⟩
 rw [Sum.elim_inr]at h
 cases h
 exact A7 (.inr rfl) (B6 (B4 rfl) E1) (.refl _)
 refine A9 (lr (fun u9 hu9=>sv rfl (A1 (js hz2 fun z3 hz3 hz2=>E0 (fun s=> ∃(y2:Unit) (g3:Unit),z3= .inl y2∧Sb ⟨T [(2,(.ptr (2,u1) 0)),(3,(.ptr (3,u1) 0)),(5,(di x1))],G [((2,u1),some (.box 25 (L5 p1))),((3,u1),some (.box 25 (L5 p2)))]⟩ s) ?_ ?_))))
 refine A8 (E7 (A3l v1 v2) (fun (x2:Int) (g4:Unit)=>⟨T [(2,(.ptr (2,u1) 0)),(3,(.ptr (3,u1) 0)),(5,(di x1)),(6,(.ptr (6,u6) 0)),(7,(.ptr (7,u6) 0)),(8,(di x2))],G [((2,u1),some (.box 25 (L5 p1))),((3,u1),some (.box 25 (L5 p2))),((6,u6),some (.box 45 (A0h v1))),((7,u6),some (.box 45 (A0h v2)))]⟩) 0 () _ hz3 (sbr rfl rfl) ?_)
 intro x2 g4 z4 hz4 ez4
 unfold A3l at hz4
 refine A6 (lr (fun u10 hu10=>sv rfl (sp rfl rfl (sl rfl (gq rfl) rfl (sd rfl (E5 rfl) (sv rfl (A1 (cc rfl hz4 (fun c4 hz4=> ?_) (fun c4 hz4=> ?_)))))))))
 refine A9 (A6 (A8 (A6 (I6 rfl fun u11 hu11=>sp rfl rfl (sl rfl (gq rfl) rfl (sv rfl (bs hz4 fun v3 hv3 hz4=>sd rfl (E4 rfl rfl hv3 rfl) (sd rfl (F3 rfl hv3 rfl) (sp rfl rfl (sl rfl (gq rfl) rfl (sv rfl (bs hz4 fun v4 hv4 hz4=>sd rfl (E4 rfl rfl hv4 rfl) (sd rfl (F3 rfl hv4 rfl) (sv rfl (A1 (cc rfl hz4 (fun c5 hz4=> ?_) (fun c5 hz4=> ?_)))))))))))))))))
 refine lr (fun u12 hu12=>sv rfl (A1 (B3 ?_)))
 cases hz4
 obtain rfl:=ez4 _ rfl
 refine ⟨nofun,D7 ?_⟩
 rw [Sum.elim_inr]at hz2
 cases hz2
 obtain rfl:=ez2 _ rfl
 refine ⟨nofun,D7 ?_⟩
 rw [Sum.elim_inr]at h
 cases h
 exact A7 (.inr rfl) (B6 (B4 rfl) E1) (.refl _)
 refine A9 (F9 (D0 fun u13 hu13=>sv rfl (sv rfl (sv rfl (A1 (G3 ?_))))))
 cases hz4
 exact ⟨rfl,(),(sbr rfl rfl)⟩
 refine C3 rfl ?_
 cases hz4
 obtain rfl:=ez4 _ rfl
 refine ⟨nofun,C0 rfl (l_j ?_)⟩
 exact ⟨_,(),rfl,(sbr rfl rfl)⟩
 rintro _ ⟨y2,g3,rfl,q1⟩
 rw [Sum.elim_inl]at hz2
 refine F9 (B5 q1 (D0 fun u14 hu14=>sv rfl (sv rfl (sv rfl (A1 (G3 ?_))))))
 cases hz2
 exact ⟨rfl,(),(sbr rfl rfl)⟩
 refine C3 rfl ?_
 cases hz2
 obtain rfl:=ez2 _ rfl
 refine ⟨nofun,C0 rfl (l_j ?_)⟩
 exact ⟨_,(),rfl,(sbr rfl rfl)⟩
 rintro _ ⟨y1,g1,rfl,q2⟩
 rw [Sum.elim_inl]at h
 refine B5 q2 (A6 (lr (fun u15 hu15=>sv rfl (A1 (js h fun z5 hz5 h=>E0 (fun s=> ∃(y3:Unit) (g5:Unit),z5= .inl y3∧Sb ⟨T [],G []⟩ s) ?_ ?_)))))
 refine A8 (E7 (A5i p1 p2) (fun (x3:Int) (g6:Unit)=>⟨T [(2,(.ptr (2,u1) 0)),(3,(.ptr (3,u1) 0)),(9,(di x3))],G [((2,u1),some (.box 25 (L5 p1))),((3,u1),some (.box 25 (L5 p2)))]⟩) 0 () _ hz5 (sbr rfl rfl) ?_)
 intro x3 g6 z6 hz6 ez6
 unfold A5i at hz6
 refine A6 (lr (fun u16 hu16=>sv rfl (sp rfl rfl (sl rfl G_hit rfl (sd rfl (E5 rfl) (sv rfl (A1 (cc rfl hz6 (fun c6 hz6=> ?_) (fun c6 hz6=> ?_)))))))))
 refine A9 (A6 (A8 (A6 (I6 rfl fun u17 hu17=>sp rfl rfl (sl rfl G_hit rfl (sv rfl (bs hz6 fun v5 hv5 hz6=>sd rfl (E4 rfl rfl hv5 rfl) (sd rfl (C4 rfl hv5 rfl rfl) (sp rfl rfl (sl rfl (gq rfl) rfl (sv rfl (bs hz6 fun v6 hv6 hz6=>sd rfl (E4 rfl rfl hv6 rfl) (sd rfl (C4 rfl hv6 rfl rfl) (B9 (.d (bo (!(v5.Agent_==v6.Agent_&& (v5.Zone_==v6.Zone_&& (v5.Since==v6.Since&& (v5.Rank==v6.Rank&&true))))))) rfl rfl (A1 (cc rfl hz6 (fun c7 hz6=> ?_) (fun c7 hz6=> ?_)))))))))))))))))
 refine lr (fun u18 hu18=>sv rfl (A1 (B3 ?_)))
 cases hz6
 obtain rfl:=ez6 _ rfl
 refine ⟨nofun,D7 ?_⟩
 rw [Sum.elim_inr]at h
 cases h
 exact A7 (.inr rfl) (B6 (B4 rfl) E1) (.refl _)
 refine A9 (F9 (D0 fun u19 hu19=>sv rfl (sv rfl (sv rfl (A1 (G3 ?_))))))
 cases hz6
 exact ⟨rfl,(),(sbr rfl rfl)⟩
 refine C3 rfl ?_
 cases hz6
 obtain rfl:=ez6 _ rfl
 refine ⟨nofun,C0 rfl (l_j ?_)⟩
 exact ⟨_,(),rfl,(sbr rfl rfl)⟩
 rintro _ ⟨y3,g5,rfl,q3⟩
 rw [Sum.elim_inl]at h
 refine B5 q3 (lr (fun u20 hu20=>sv rfl (A1 (B3 ?_))))
 cases h
 exact A7 (.inr rfl) (B6 (B4 rfl) E1) (.refl _)
noncomputable def A5k (p1:Int)(p2:State):Option Bool:=
  (B03 p2).bind fun v1=>cond (!v1) ((A6e).bind fun v2=>some v2) ((B7x p1).bind fun v3=>(B2l p2).bind fun v4=>(A2d v3 v4).bind fun v5=>(B0i v3 p2).bind fun v6=>((cond (v5==v6) (B2p v4 p2) (some default))).bind fun v7=>((cond ((v5==v6)&&v7) (A6e) (some default))).bind fun v8=>some (((v5==v6)&&v7)&&v8))
theorem B4z (p1:Int)(p2:State)(r:Bool)(h:A5k p1 p2=some r):PCall Tryz.prog 3 [(i64 p1),(.agg (A2s p2))] (bo r):=by
 refine B8 (fk Tryz.func3 Tryz.ntmps3 m0 (by with_unfolding_all rfl)) (nl rfl) ?_
 unfold A5k at h
 refine B5 (s0:=⟨T [(0,(.d _)),(1,(.d _))],G []⟩) (sbr rfl rfl) ?_
 refine lr (fun u1 hu1=>sn rfl rfl (sv rfl (A1 (A6 (lr (fun u2 hu2=>sd rfl (B2 rfl G_hit rfl rfl) (bs h fun v1 hv1 h=>B1 rfl rfl A2 (C1d _ _ hv1) (.inl rfl) (B9 (.d (bo (!v1))) rfl rfl (A1 (cc rfl h (fun c1 h=> ?_) (fun c1 h=> ?_)))))))))))
 refine lr (fun u3 hu3=>bs h fun v2 hv2 h=>B1 rfl rfl A2 (B5a _ hv2) (.inl rfl) (sv rfl (A1 (B3 ?_))))
 cases h
 exact A7 (.inr rfl) (B6 (B4 rfl) E1) (.refl _)
 refine A9 (lr (fun u4 hu4=>sv rfl (bs h fun v3 hv3 h=>B1 rfl rfl A2 (C8w _ _ hv3) (.inl rfl) (sn rfl rfl (sst rfl G_hit (A0i v3) rfl (A1 (lr (fun u5 hu5=>sd rfl (B2 rfl (gq rfl) rfl rfl) (bs h fun v4 hv4 h=>B1 rfl rfl A2 (C37 _ _ hv4) (.inl rfl) (sn rfl rfl (sst rfl G_hit (L5 v4) rfl (A1 (A6 (I6 rfl fun u6 hu6=>sd rfl (B2 rfl (gq rfl) rfl rfl) (sd rfl (B2 rfl G_hit rfl rfl) (bs h fun v5 hv5 h=>B1 rfl rfl A2 (A89 _ _ _ hv5) (.inl rfl) (sd rfl (B2 rfl (gq rfl) rfl rfl) (sd rfl (B2 rfl (gq rfl) rfl rfl) (bs h fun v6 hv6 h=>B1 rfl rfl A2 (C1j _ _ _ hv6) (.inl rfl) (sv rfl (sv rfl (gt rfl (fun w1=>(B2 rfl G_hit rfl rfl)) (gt rfl (fun w2=>(B2 rfl (gq rfl) rfl rfl)) (bs h fun v7 hv7 h=> ?_))))))))))))))))))))))))
 refine U8 _ (bo v7) (A19 rfl) (fun w3=>⟨_,[(.d (.agg (A2s v4))),(.d (.agg (A2s p2)))],_,_,(by simp only [A3 w3];rfl),rfl,A2,C3a _ _ _ (C7 w3 hv7),(.inl rfl)⟩) ?_
 refine sa rfl rfl rfl (sv rfl (bs h fun v8 hv8 h=>U8 _ (bo v8) (A19 rfl) (fun w4=>⟨_,_,_,_,rfl,rfl,A2,B5a _ (C7 w4 hv8),(.inl rfl)⟩) (sa rfl rfl rfl (sv rfl (A1 (B3 ?_))))))
 cases h
 exact A7 (.inr rfl) (B6 (B4 rfl) E1) (.refl _)
end Go.Abs.World
