/-
  The functions, part 2.
-/
import Derived.Test.YtdkgjoilcfoclaaGreatFns1
set_option maxRecDepth 20000
set_option maxHeartbeats 4000000
set_option linter.unusedVariables false
namespace Go.Abs.Convoyz
open Go Go.Abs Go.Proofs
attribute [local irreducible] regW regT AWL

noncomputable def convoy_Notes_l1 (p1 : Convoy) (x1 : ((List Note) × Int)) : Option (Stp ((List Note) × Int) (List Note)) :=
  cond (decide (x1.2 < (p1.Mates.length : Int))) ((geti p1.Mates x1.2).bind fun v2 => (convoy_rear v2).bind fun v3 => (appc x1.1 [(Note.mk 1 v2.ID 0 p1.Tick v3 v2.V 0)]).bind fun v4 => (cond (decide ((w64 (x1.2 + 1)) < (p1.Mates.length : Int))) ((geti p1.Mates (w64 (x1.2 + 1))).bind fun v5 => (appc v4 [(Note.mk 4 v2.ID v5.ID p1.Tick v3 v2.V 0)]).bind fun v6 => some (v6, (Note.mk 4 v2.ID v5.ID p1.Tick v3 v2.V 0))) (some (v4, (Note.mk 1 v2.ID 0 p1.Tick v3 v2.V 0)))).bind fun y2 => cond ((v2.Until != 0) && (decide (v2.Until ≥ p1.Tick))) ((appc y2.1 [(Note.mk 3 y2.2.From v2.Ward y2.2.Stamp y2.2.R y2.2.V v2.Until)]).bind fun v7 => some (.go (v7, (w64 (x1.2 + 1))))) (some (.go (y2.1, (w64 (x1.2 + 1)))))) (some (.out x1.1))
noncomputable def convoy_Notes (p1 : Convoy) : Option (List Note) :=
  (convoy_Check p1).bind fun v1 => cond (v1 != 0) (some []) ((loop (convoy_Notes_l1 p1) ([], 0)).bind fun y1 => cond (p1.Guest_.ID != 0) ((convoy_beside p1).bind fun v8 => cond (decide (v8.2 ≥ 0)) ((geti p1.Mates v8.2).bind fun v9 => (appc y1 [(Note.mk 2 p1.Guest_.ID v9.ID p1.Tick (w64 (p1.Guest_.S - p1.Guest_.Len)) p1.Guest_.V 0)]).bind fun v10 => some v10) (some y1)) (some y1))

theorem convoy_Notes_ok (p1 : Convoy) (r : (List Note)) (h : convoy_Notes p1 = some r) : PCall Tryz.prog 9 [(.agg (eConvoy p1))] (.list (List.map eNote r)) := by
 refine l_call (fk Tryz.func9 Tryz.ntmps9 (fun r => if r == 8 then [1002] else if r == 11 then [1002] else if r == 14 then [1002] else if r == 20 then [1019] else []) (by with_unfolding_all rfl)) (nl rfl) ?_
 unfold convoy_Notes at h
 refine l_sub (s0 := ⟨T [(0, (.d _))], G []⟩) (sbr rfl rfl) ?_
 refine lr (fun u1 hu1 => sn rfl rfl (sv rfl (s_nil (l_seq (lr (fun u2 hu2 => sd rfl (v_loadG rfl G_hit rfl rfl) (bs h fun v1 hv1 h => s_call rfl rfl all2_refl (convoy_Check_ok _  _ hv1) (.inl rfl) (sv rfl (s_nil (cc rfl h (fun c1 h => ?_) (fun c1 h => ?_)))))))))))
 refine lr (fun u3 hu3 => sv rfl (s_nil (l_ret ?_)))
 cases h
 exact fin_ok (.inr rfl) (resD1 (res_t rfl) rf_d) DLe.nil
 refine l_skip (lr (fun u4 hu4 => sv rfl (s_nil (l_seq (lr (fun u5 hu5 => sp rfl rfl (sl rfl G_hit rfl (sd rfl (v_len rfl) (sv rfl (s_nil (bs h fun y1 hy1 h => l_join (fun s => ∃ g1 : ({d : Nat // d ∈ [33, 52, 73]} × Nat), Sb ⟨T [(1, (.ptr (1, u1) 0)), (3, (oS y1 (g1.1.val, g1.2)))], G [((1, u1), some (.box 32 (dConvoy p1))), ((g1.1.val, g1.2), oB 43 7 eNote y1)]⟩ s) ?_ ?_)))))))))))
 refine l_block (l_loop (convoy_Notes_l1 p1) (fun (x1 : ((List Note) × Int)) (g2 : ({d : Nat // d ∈ [33, 52, 73]} × Nat)) => ⟨T [(1, (.ptr (1, u1) 0)), (3, (oS x1.1 (g2.1.val, g2.2))), (14, (dl eMate p1.Mates)), (15, (di (p1.Mates.length : Int))), (16, (di x1.2))], G [((1, u1), some (.box 32 (dConvoy p1))), ((g2.1.val, g2.2), oB 43 7 eNote x1.1)]⟩) ([], 0) (⟨33, .head _⟩, 0) _ hy1 (sb_of ⟨.of rfl, .of rfl, .of rfl, .of rfl, .of rfl, trivial⟩ (sbG_some G_hit (.of rfl) (sbG_nil trivial))) ?_)
 intro x1 g2 z1 hz1 ez1
 unfold convoy_Notes_l1 at hz1
 refine lr (fun u6 hu6 => sv rfl (s_nil (l_seq (cc rfl hz1 (fun c2 hz1 => ?_) (fun c2 hz1 => ?_)))))
 refine l_skip (l_seq (l_block (lr (fun u7 hu7 => sv rfl (bs hz1 fun v2 hv2 hz1 => sd rfl (v_idx rfl rfl hv2 rfl) (sd rfl (v_loadLG rfl hv2 rfl rfl) (sn rfl rfl (sv rfl (sst rfl G_hit (dMate v2) rfl (s_nil (l_seq (l_draw rfl fun u8 hu8 => sp rfl rfl (sl rfl G_hit rfl (sp rfl rfl (sl rfl (gq rfl) rfl (sd rfl (v_loadG rfl G_hit rfl rfl) (bs hz1 fun v3 hv3 hz1 => s_call rfl rfl all2_refl (convoy_rear_ok _  _ hv3) (.inl rfl) (sp rfl rfl (sl rfl G_hit rfl (sv rfl (sn rfl rfl (sst rfl G_hit [(di 1), (di v2.ID), (di 0), (di p1.Tick), (di v3), (di v2.V), (di 0)] rfl (s_nil (l_seq (l_sub (s0 := ⟨T [(1, (.ptr (1, u1) 0)), (3, (oS x1.1 (g2.1.val, g2.2))), (4, (di x1.2)), (5, (.ptr (5, u7) 0)), (6, (.ptr (6, u8) 0)), (14, (dl eMate p1.Mates)), (15, (di (p1.Mates.length : Int))), (16, (di x1.2))], G [((1, u1), some (.box 32 (dConvoy p1))), ((g2.1.val, g2.2), oB 43 7 eNote x1.1), ((5, u7), some (.box 51 (dMate v2))), ((6, u8), some (.box 43 [(di 1), (di v2.ID), (di 0), (di p1.Tick), (di v3), (di v2.V), (di 0)]))]⟩) (sb_of ⟨.of rfl, .of rfl, .of rfl, .of rfl, .of rfl, .of rfl, .of rfl, .of rfl, trivial⟩ (sg rfl (sbG_oB (G_skip (neL g2.1.property rfl) (G_skip (neL g2.1.property rfl) (G_skip (neL g2.1.property rfl) (G_skip (neL g2.1.property rfl) (G_skip (neL g2.1.property rfl) G_hit))))) (sg rfl (sbG_some G_hit (.of rfl) trivial))))) ?_)))))))))))))))))))))))))
 refine l_reg fun u9 hu9 => s_val (oS x1.1 (g2.1.val, g2.2)) rfl rfl (sd rfl (v_loadG rfl (G_skip rfl (G_skip (neR g2.1.property rfl) (gq rfl))) rfl rfl) (s_val (dl eNote [(Note.mk 1 v2.ID 0 p1.Tick v3 v2.V 0)]) rfl rfl (bs hz1 fun v4 hv4 hz1 => s_appendO eNote (g2.1.val, g2.2) x1.1 (Note.mk 1 v2.ID 0 p1.Tick v3 v2.V 0) [] _ (elems_list (fun _ => rfl)) rfl (G_skip (neL g2.1.property rfl) G_hit) hv4 (ss rfl (s_nil (l_seq (lr (fun u10 hu10 => sv rfl (sv rfl (sp rfl rfl (sd rfl (v_load rfl (G_skip rfl (G_skip (neR g2.1.property rfl) G_hit)) rfl) (sd rfl (v_len rfl) (sv rfl (s_nil (bs hz1 fun y2 hy2 hz1 => l_join (fun s => ∃ g3 : ({d : Nat // d ∈ [33, 52]} × Nat), Sb ⟨T [(1, (.ptr (1, u1) 0)), (3, (oS y2.1 (g3.1.val, g3.2))), (5, (.ptr (5, u7) 0)), (6, (.ptr (6, u8) 0)), (14, (dl eMate p1.Mates)), (15, (di (p1.Mates.length : Int))), (16, (di x1.2))], G [((1, u1), some (.box 32 (dConvoy p1))), ((5, u7), some (.box 51 (dMate v2))), ((6, u8), some (.box 43 (dNote y2.2))), ((g3.1.val, g3.2), oB 43 7 eNote y2.1)]⟩ s) ?_ ?_)))))))))))))))
 refine cc rfl hy2 (fun c3 hy2 => ?_) (fun c3 hy2 => ?_)
 refine l_seq (l_sub (s0 := ⟨T [(1, (.ptr (1, u1) 0)), (3, (.sl (33, u9))), (4, (di x1.2)), (5, (.ptr (5, u7) 0)), (6, (.ptr (6, u8) 0)), (14, (dl eMate p1.Mates)), (15, (di (p1.Mates.length : Int))), (16, (di x1.2))], G [((1, u1), some (.box 32 (dConvoy p1))), ((33, u9), some (.arr 43 7 (List.map eNote v4))), ((5, u7), some (.box 51 (dMate v2))), ((6, u8), some (.box 43 [(di 1), (di v2.ID), (di 0), (di p1.Tick), (di v3), (di v2.V), (di 0)]))]⟩) (sb_of ⟨.of rfl, .of rfl, .of rfl, .of rfl, .of rfl, .of rfl, .of rfl, .of rfl, trivial⟩ (sbG_some (G_skip rfl (G_skip (neR g2.1.property rfl) G_hit)) (.of rfl) (sbG_some G_hit (.of rfl) (sbG_some (G_skip rfl (G_skip (neR g2.1.property rfl) (G_skip rfl (G_skip (neR g2.1.property rfl) G_hit)))) (.of rfl) (sbG_some (G_skip rfl (G_skip (neR g2.1.property rfl) (G_skip rfl (G_skip (neR g2.1.property rfl) (gq rfl))))) (.of rfl) trivial))))) ?_)
 refine l_drawT fun u11 hu11 => t_val (.ptr _ _) rfl rfl (t_val (.d _) rfl (v_load rfl G_hit rfl) (t_val (.d _) rfl rfl (t_val (.d _) rfl rfl (bs hy2 fun v5 hv5 hy2 => t_val (.d _) rfl (v_idx rfl rfl hv5 rfl) (t_val (.d _) rfl rfl (t_val (.d _) rfl (v_loadL rfl hv5 rfl) (t_val (.ptr _ _) rfl rfl (t_store _ _ _ _ _ rfl rfl rfl (gq rfl) (nl rfl) [(di 4), (di v2.ID), (di 0), (di p1.Tick), (di v3), (di v2.V), (di 0)] rfl (t_val (.ptr _ _) rfl rfl (t_store _ _ _ _ _ rfl rfl rfl G_hit (nl rfl) [(di 4), (di v2.ID), (di v5.ID), (di p1.Tick), (di v3), (di v2.V), (di 0)] rfl (t_nil ⟨rfl, ?_⟩)))))))))))
 refine l_sub (s0 := ⟨T [(1, (.ptr _ _)), (3, (.sl _)), (5, (.ptr _ _)), (6, (.ptr _ _)), (14, (.d _)), (15, (.d _)), (16, (.d _))], G [((1, u1), some (.box 32 _)), ((33, u9), some _), ((5, u7), some (.box 51 _)), ((6, u8), some (.box 43 _))]⟩) (sbr rfl rfl) ?_
 refine l_reg fun u12 hu12 => ss rfl (sd rfl (v_loadG rfl (gq rfl) rfl rfl) (s_val (dl eNote [(Note.mk 4 v2.ID v5.ID p1.Tick v3 v2.V 0)]) rfl rfl (bs hy2 fun v6 hv6 hy2 => s_append eNote _ _ _ _ (elems_list (fun _ => rfl)) rfl (gq rfl) hv6 (ss rfl (s_nil ?_)))))
 cases hy2
 exact l_j ⟨(⟨52, .tail _ (.head _)⟩, u12), (sb_of ⟨.of rfl, (.of (oS_ne (appc_ne hv6)).symm), .of rfl, .of rfl, .of rfl, .of rfl, .of rfl, trivial⟩ (sg rfl (sg rfl (sg rfl (sbG_own G_hit trivial)))))⟩
 refine l_skip ?_
 cases hy2
 exact l_j ⟨(⟨33, .head _⟩, u9), (sb_of ⟨.of rfl, (.of (oS_ne (appc_ne hv4)).symm), .of rfl, .of rfl, .of rfl, .of rfl, .of rfl, trivial⟩ (sbG_some (G_skip rfl (G_skip (neR g2.1.property rfl) G_hit)) (.of rfl) (sbG_some (G_skip rfl (G_skip (neR g2.1.property rfl) (G_skip rfl (G_skip (neR g2.1.property rfl) G_hit)))) (.of rfl) (sbG_some (G_skip rfl (G_skip (neR g2.1.property rfl) (G_skip rfl (G_skip (neR g2.1.property rfl) (gq rfl))))) (.of rfl) (sbG_own G_hit trivial)))))⟩
 rintro _ ⟨g3, q1⟩
 refine l_sub q1 (lr (fun u13 hu13 => sp rfl rfl (sl rfl (gq rfl) rfl (sv rfl (sv rfl (gp rfl (gw_t rfl) (fun _ => rfl) (gt rfl (vl rfl (gq rfl) rfl) (gp rfl (gw_t rfl) (fun _ => rfl) (gt rfl (vl rfl G_hit rfl) (gt rfl (fun w5 => (v_bin (gd_pos w5) (gd_pos w5) rfl)) (sa rfl rfl rfl (s_nil (cc rfl hz1 (fun c4 hz1 => ?_) (fun c4 hz1 => ?_))))))))))))))
 refine l_seq (l_drawT fun u14 hu14 => t_val (.ptr _ _) rfl rfl (t_val (.d _) rfl (v_load rfl (gq rfl) rfl) (t_val (.ptr _ _) rfl rfl (t_val (.d _) rfl (v_load rfl (gq rfl) rfl) (t_val (.ptr _ _) rfl rfl (t_store _ _ _ _ _ rfl rfl rfl (gq rfl) (nl rfl) ((dNote y2.2).set 0 (di 3)) rfl (t_val (.ptr _ _) rfl rfl (t_store _ _ _ _ _ rfl rfl rfl G_hit (nl rfl) (((dNote y2.2).set 0 (di 3)).set 2 (di v2.Ward)) rfl (t_val (.ptr _ _) rfl rfl (t_store _ _ _ _ _ rfl rfl rfl G_hit (nl rfl) ((((dNote y2.2).set 0 (di 3)).set 2 (di v2.Ward)).set 6 (di v2.Until)) rfl (t_nil ⟨by first | rfl | ((generalize g3.1 = q0; rcases q0 with ⟨d0, _ | ⟨_, _ | ⟨_, h0⟩⟩⟩) <;> (generalize y2.1 = z3; cases z3) <;> first | rfl | contradiction), ?_⟩)))))))))))
 refine l_sub (s0 := ⟨T [(1, (.ptr (1, u1) 0)), (3, (oS y2.1 (g3.1.val, g3.2))), (6, (.ptr (6, u8) 0)), (14, (dl eMate p1.Mates)), (15, (di (p1.Mates.length : Int))), (16, (di x1.2))], G [((1, u1), some (.box 32 (dConvoy p1))), ((g3.1.val, g3.2), oB 43 7 eNote y2.1), ((6, u8), some (.box 43 ((((dNote y2.2).set 0 (di 3)).set 2 (di v2.Ward)).set 6 (di v2.Until))))]⟩) (sb_of ⟨.of rfl, .of rfl, .of rfl, .of rfl, .of rfl, .of rfl, trivial⟩ (sg rfl (sbG_oB (G_skip (neL g3.1.property rfl) (G_skip (neL g3.1.property rfl) (G_skip (neL g3.1.property rfl) (G_skip (neL g3.1.property rfl) (G_skip (neL g3.1.property rfl) (G_skip (neL g3.1.property rfl) G_hit)))))) (sbG_some G_hit (.of rfl) trivial)))) ?_
 refine l_reg fun u15 hu15 => s_val (oS y2.1 (g3.1.val, g3.2)) rfl rfl (sd rfl (v_loadG rfl (G_skip rfl (G_skip (neR g3.1.property rfl) G_hit)) rfl rfl) (s_val (dl eNote [(Note.mk 3 y2.2.From v2.Ward y2.2.Stamp y2.2.R y2.2.V v2.Until)]) rfl rfl (bs hz1 fun v7 hv7 hz1 => s_appendO eNote (g3.1.val, g3.2) y2.1 (Note.mk 3 y2.2.From v2.Ward y2.2.Stamp y2.2.R y2.2.V v2.Until) [] _ (elems_list (fun _ => rfl)) rfl (G_skip (neL g3.1.property rfl) G_hit) hv7 (ss rfl (s_nil (l_end (l_reg fun u16 hu16 => sv rfl (sv rfl (s_nil (l_nil ?_))))))))))
 cases hz1
 exact ⟨rfl, (⟨73, .tail _ (.tail _ (.head _))⟩, u15), (sb_of ⟨.of rfl, (.of (oS_ne (appc_ne hv7)).symm), .of rfl, .of rfl, .of rfl, trivial⟩ (sbG_some (G_skip rfl (G_skip (neR g3.1.property rfl) G_hit)) (.of rfl) (sbG_own G_hit trivial)))⟩
 refine l_skip (l_end (l_reg fun u17 hu17 => sv rfl (sv rfl (s_nil (l_nil ?_)))))
 cases hz1
 exact ⟨rfl, (⟨g3.1.val, memL g3.1.property rfl⟩, g3.2), (sb_of ⟨.of rfl, .of rfl, .of rfl, .of rfl, .of rfl, trivial⟩ (sbG_some G_hit (.of rfl) (sbG_oB (G_skip (neL g3.1.property rfl) (G_skip (neL g3.1.property rfl) (G_skip (neL g3.1.property rfl) G_hit))) trivial)))⟩
 refine l_exitN rfl ?_
 cases hz1
 obtain rfl := ez1 _ rfl
 refine ⟨nofun, awl_pop rfl (l_j ?_)⟩
 exact ⟨(g2.1, g2.2), (sb_of ⟨.of rfl, .of rfl, trivial⟩ (sbG_some G_hit (.of rfl) (sbG_oB (G_skip (neL g2.1.property rfl) G_hit) trivial)))⟩
 rintro _ ⟨g1, q2⟩
 refine l_sub q2 (l_seq (lr (fun u18 hu18 => sp rfl rfl (sd rfl (v_loadG rfl G_hit rfl rfl) (sn rfl rfl (sst rfl G_hit (dGuest p1.Guest_) rfl (s_nil (lr (fun u19 hu19 => sp rfl rfl (sl rfl G_hit rfl (sv rfl (s_nil (cc rfl h (fun c5 h => ?_) (fun c5 h => ?_))))))))))))))
 refine lr (fun u20 hu20 => sd rfl (v_loadG rfl (gq rfl) rfl rfl) (bs h fun v8 hv8 h => s_call rfl rfl all2_refl (convoy_beside_ok _  _ hv8) (.inl rfl) (sv rfl (sv rfl (sv rfl (sv rfl (sv rfl (s_nil (lr (fun u21 hu21 => sv rfl (sv rfl (s_nil (cc rfl h (fun c6 h => ?_) (fun c6 h => ?_))))))))))))))
 refine l_draw rfl fun u22 hu22 => s_val (oS y1 (g1.1.val, g1.2)) rfl rfl (sp rfl rfl (sl rfl G_hit rfl (sp rfl rfl (sl rfl (gq rfl) rfl (sv rfl (bs h fun v9 hv9 h => sd rfl (v_idx rfl rfl hv9 rfl) (sv rfl (sd rfl (v_loadL rfl hv9 rfl) (sp rfl rfl (sl rfl (gq rfl) rfl (sp rfl rfl (sl rfl G_hit rfl (sp rfl rfl (sl rfl G_hit rfl (sv rfl (sp rfl rfl (sl rfl G_hit rfl (sv rfl (s_val (dl eNote [(Note.mk 2 p1.Guest_.ID v9.ID p1.Tick (w64 (p1.Guest_.S - p1.Guest_.Len)) p1.Guest_.V 0)]) rfl rfl (bs h fun v10 hv10 h => s_appendO eNote (g1.1.val, g1.2) y1 (Note.mk 2 p1.Guest_.ID v9.ID p1.Tick (w64 (p1.Guest_.S - p1.Guest_.Len)) p1.Guest_.V 0) [] _ (elems_list (fun _ => rfl)) rfl (G_skip (neL g1.1.property rfl) (G_skip (neL g1.1.property rfl) (G_skip (neL g1.1.property rfl) G_hit))) hv10 (ss rfl (s_nil (l_seq (l_sub (s0 := ⟨T [(3, (.sl _))], G [((107, u22), some _)]⟩) (sbr rfl rfl) ?_))))))))))))))))))))))))
 refine l_reg fun u23 hu23 => ss rfl (ss rfl (s_nil (l_ret ?_)))
 cases h
 exact fin_ok (.inr rfl) (resD1 (res_t rfl) (rf_sl G_hit)) (.refl _)
 refine l_skip (lr (fun u24 hu24 => s_val (oS y1 (g1.1.val, g1.2)) rfl rfl (s_val (oS y1 (g1.1.val, g1.2)) rfl rfl (s_nil (l_ret ?_)))))
 cases h
 exact fin_ok (.inr rfl) (resD1 (res_t rfl) (rf_oS (G_skip (neL g1.1.property rfl) (G_skip (neL g1.1.property rfl) (G_skip (neL g1.1.property rfl) G_hit))))) oD_le
 refine l_skip (lr (fun u25 hu25 => s_val (oS y1 (g1.1.val, g1.2)) rfl rfl (s_val (oS y1 (g1.1.val, g1.2)) rfl rfl (s_nil (l_ret ?_)))))
 cases h
 exact fin_ok (.inr rfl) (resD1 (res_t rfl) (rf_oS (G_skip (neL g1.1.property rfl) (G_skip (neL g1.1.property rfl) (G_skip (neL g1.1.property rfl) G_hit))))) oD_le

noncomputable def kit_SameNotes_l1 (p1 : (List Note)) (p2 : (List Note)) (x1 : Int) : Option (Stp Int (Sum Unit Bool)) :=
  cond (decide (x1 < (p1.length : Int))) ((geti p1 x1).bind fun v1 => (geti p2 x1).bind fun v2 => cond (!(v1.Kind == v2.Kind && (v1.From == v2.From && (v1.To == v2.To && (v1.Stamp == v2.Stamp && (v1.R == v2.R && (v1.V == v2.V && (v1.Until == v2.Until && true)))))))) (some (.out (.inr false))) (some (.go (w64 (x1 + 1))))) (some (.out (.inl ())))
noncomputable def kit_SameNotes (p1 : (List Note)) (p2 : (List Note)) : Option Bool :=
  cond ((p1.length : Int) != (p2.length : Int)) (some false) (thenS (loop (kit_SameNotes_l1 p1 p2) 0) (fun _ => some true) (fun r => some r))

theorem kit_SameNotes_ok (p1 : (List Note)) (p2 : (List Note)) (r : Bool) (h : kit_SameNotes p1 p2 = some r) : PCall Tryz.prog 8 [(.list (List.map eNote p1)), (.list (List.map eNote p2))] (bo r) := by
 refine l_call (fk Tryz.func8 Tryz.ntmps8 m0 (by with_unfolding_all rfl)) (nl rfl) ?_
 unfold kit_SameNotes at h
 refine l_sub (s0 := ⟨T [(0, (.d _)), (1, (.d _))], G []⟩) (sbr rfl rfl) ?_
 refine lr (fun u1 hu1 => sv rfl (s_nil (l_seq (lr (fun u2 hu2 => sv rfl (sd rfl (v_len rfl) (sv rfl (sd rfl (v_len rfl) (sv rfl (s_nil (cc rfl h (fun c1 h => ?_) (fun c1 h => ?_))))))))))))
 refine lr (fun u3 hu3 => sv rfl (s_nil (l_ret ?_)))
 cases h
 exact fin_ok (.inr rfl) (resD1 (res_t rfl) rf_d) (.refl _)
 refine l_skip (l_seq (lr (fun u4 hu4 => sv rfl (s_nil (js h fun z1 hz1 h => l_join (fun s => ∃ (y1 : Unit) (g1 : Unit), z1 = .inl y1 ∧ Sb ⟨T [], G []⟩ s) ?_ ?_)))))
 refine l_block (l_loop (kit_SameNotes_l1 p1 p2) (fun (x1 : Int) (g2 : Unit) => ⟨T [(0, (dl eNote p1)), (1, (dl eNote p2)), (5, (di x1))], G []⟩) 0 () _ hz1 (sbr rfl rfl) ?_)
 intro x1 g2 z2 hz2 ez2
 unfold kit_SameNotes_l1 at hz2
 refine l_seq (lr (fun u5 hu5 => sv rfl (sv rfl (sd rfl (v_len rfl) (sv rfl (s_nil (cc rfl hz2 (fun c2 hz2 => ?_) (fun c2 hz2 => ?_))))))))
 refine l_skip (l_seq (l_block (l_seq (l_draw rfl fun u6 hu6 => sv rfl (sv rfl (bs hz2 fun v1 hv1 hz2 => sd rfl (v_idx rfl rfl hv1 rfl) (sd rfl (v_loadLG rfl hv1 rfl rfl) (sv rfl (sv rfl (bs hz2 fun v2 hv2 hz2 => sd rfl (v_idx rfl rfl hv2 rfl) (sd rfl (v_loadLG rfl hv2 rfl rfl) (s_val (.d (bo (!(v1.Kind == v2.Kind && (v1.From == v2.From && (v1.To == v2.To && (v1.Stamp == v2.Stamp && (v1.R == v2.R && (v1.V == v2.V && (v1.Until == v2.Until && true)))))))))) rfl rfl (s_nil (cc rfl hz2 (fun c3 hz2 => ?_) (fun c3 hz2 => ?_)))))))))))))))
 refine lr (fun u7 hu7 => sv rfl (s_nil (l_ret ?_)))
 cases hz2
 obtain rfl := ez2 _ rfl
 refine ⟨nofun, awl_ret ?_⟩
 rw [Sum.elim_inr] at h
 cases h
 exact fin_ok (.inr rfl) (resD1 (res_t rfl) rf_d) (.refl _)
 refine l_skip (l_end (l_reg fun u8 hu8 => sv rfl (sv rfl (sv rfl (s_nil (l_nil ?_))))))
 cases hz2
 exact ⟨rfl, (), (sbr rfl rfl)⟩
 refine l_exitN rfl ?_
 cases hz2
 obtain rfl := ez2 _ rfl
 refine ⟨nofun, awl_pop rfl (l_j ?_)⟩
 exact ⟨_, (), rfl, (sbr rfl rfl)⟩
 rintro _ ⟨y1, g1, rfl, q1⟩
 rw [Sum.elim_inl] at h
 refine l_sub q1 (lr (fun u9 hu9 => sv rfl (s_nil (l_ret ?_))))
 cases h
 exact fin_ok (.inr rfl) (resD1 (res_t rfl) rf_d) (.refl _)

noncomputable def kit_Post_Send_o_l1 (p1 : KitPost) (p3 : Int) (x1 : ((List Note) × Int)) : Option (Stp ((List Note) × Int) (List Note)) :=
  cond (decide (x1.2 < (p1.sent.length : Int))) ((geti p1.sent x1.2).bind fun v1 => cond (decide (v1.Stamp ≥ (w64 ((w64 (p3 - 20)) - 1)))) ((geti p1.sent x1.2).bind fun v2 => (appc x1.1 [v2]).bind fun v3 => some (.go (v3, (w64 (x1.2 + 1))))) (some (.go (x1.1, (w64 (x1.2 + 1)))))) (some (.out x1.1))
noncomputable def kit_Post_Send_o (p1 : KitPost) (p2 : (List Note)) (p3 : Int) : Option KitPost :=
  (loop (kit_Post_Send_o_l1 p1 p3) ([], 0)).bind fun y1 => (appc y1 p2).bind fun v4 => some (KitPost.mk v4)

theorem kit_Post_Send_o_ok (p1 : KitPost) (p2 : (List Note)) (p3 : Int) (r : KitPost) (h : kit_Post_Send_o p1 p2 p3 = some r) : MCall Tryz.prog 10 [(.ptr (900000, 0) 0), (dl eNote p2), (di p3)] [(.box 35 [(dl eNote p1.sent)])] (.d (.tup [])) [some (.box 35 [(dl eNote r.sent)])] [] := by
 refine m_callF (fk Tryz.func10 Tryz.ntmps10 (fun r => if r == 5 then [1008] else []) (by with_unfolding_all rfl)) rfl (nl rfl) ?_
 unfold kit_Post_Send_o at h
 refine l_sub (s0 := ⟨T [(0, (.ptr _ _)), (1, (.d _)), (2, (.d _))], G [((900000, 0), some (.box 35 _))]⟩) (sbr rfl rfl) ?_
 refine lr (fun u1 hu1 => sv rfl (s_nil (l_seq (lr (fun u2 hu2 => sv rfl (s_nil (bs h fun y1 hy1 h => l_join (fun s => ∃ g1 : Nat, Sb ⟨T [(0, (.ptr (900000, 0) 0)), (1, (dl eNote p2)), (6, (oS y1 (38, g1)))], G [((900000, 0), some (.box 35 [(dl eNote p1.sent)])), ((38, g1), oB 43 7 eNote y1)]⟩ s) ?_ ?_)))))))
 refine l_block (l_loop (kit_Post_Send_o_l1 p1 p3) (fun (x1 : ((List Note) × Int)) (g2 : Nat) => ⟨T [(0, (.ptr (900000, 0) 0)), (1, (dl eNote p2)), (2, (di p3)), (6, (oS x1.1 (38, g2))), (7, (di x1.2))], G [((900000, 0), some (.box 35 [(dl eNote p1.sent)])), ((38, g2), oB 43 7 eNote x1.1)]⟩) ([], 0) 0 _ hy1 (sb_of ⟨.of rfl, .of rfl, .of rfl, .of rfl, .of rfl, trivial⟩ (sbG_some G_hit (.of rfl) (sbG_nil trivial))) ?_)
 intro x1 g2 z1 hz1 ez1
 unfold kit_Post_Send_o_l1 at hz1
 refine l_seq (lr (fun u3 hu3 => sv rfl (sp rfl rfl (sp rfl rfl (sp rfl rfl (sl rfl G_hit rfl (sd rfl (v_len rfl) (sv rfl (s_nil (cc rfl hz1 (fun c1 hz1 => ?_) (fun c1 hz1 => ?_)))))))))))
 refine l_skip (l_seq (l_block (lr (fun u4 hu4 => sp rfl rfl (sp rfl rfl (sp rfl rfl (sl rfl G_hit rfl (sv rfl (bs hz1 fun v1 hv1 hz1 => sd rfl (v_idx rfl rfl hv1 rfl) (sv rfl (sd rfl (v_loadL rfl hv1 rfl) (sv rfl (sv rfl (sv rfl (sv rfl (s_nil (cc rfl hz1 (fun c2 hz1 => ?_) (fun c2 hz1 => ?_))))))))))))))))))
 refine l_sub (s0 := ⟨T [(0, (.ptr (900000, 0) 0)), (1, (dl eNote p2)), (2, (di p3)), (6, (oS x1.1 (38, g2))), (7, (di x1.2))], G [((900000, 0), some (.box 35 [(dl eNote p1.sent)])), ((38, g2), oB 43 7 eNote x1.1)]⟩) (sb_of ⟨.of rfl, .of rfl, .of rfl, .of rfl, .of rfl, trivial⟩ (sbG_some G_hit (.of rfl) (sbG_oB (gq rfl) trivial))) ?_
 refine l_reg fun u5 hu5 => s_val (oS x1.1 (38, g2)) rfl rfl (sp rfl rfl (sp rfl rfl (sp rfl rfl (sl rfl G_hit rfl (sv rfl (bs hz1 fun v2 hv2 hz1 => sd rfl (v_idx rfl rfl hv2 rfl) (sd rfl (v_loadLG rfl hv2 rfl rfl) (s_val (dl eNote [v2]) rfl rfl (bs hz1 fun v3 hv3 hz1 => s_appendO eNote (38, g2) x1.1 v2 [] _ (elems_list (fun _ => rfl)) rfl (gq rfl) hv3 (ss rfl (s_nil (l_end (l_reg fun u6 hu6 => sv rfl (sv rfl (sv rfl (s_nil (l_nil ?_)))))))))))))))))
 cases hz1
 exact ⟨rfl, u5, (sb_of ⟨.of rfl, .of rfl, .of rfl, (.of (oS_ne (appc_ne hv3)).symm), .of rfl, trivial⟩ (sg rfl (sbG_own G_hit trivial)))⟩
 refine l_skip (l_end (l_sub (s0 := ⟨T [(0, (.ptr (900000, 0) 0)), (1, (dl eNote p2)), (2, (di p3)), (6, (oS x1.1 (38, g2))), (7, (di x1.2))], G [((900000, 0), some (.box 35 [(dl eNote p1.sent)])), ((38, g2), oB 43 7 eNote x1.1)]⟩) (sb_of ⟨.of rfl, .of rfl, .of rfl, .of rfl, .of rfl, trivial⟩ (sbG_some G_hit (.of rfl) (sbG_oB (gq rfl) trivial))) ?_))
 refine l_reg fun u7 hu7 => sv rfl (sv rfl (sv rfl (s_nil (l_nil ?_))))
 cases hz1
 exact ⟨rfl, g2, (sb_of ⟨.of rfl, .of rfl, .of rfl, .of rfl, .of rfl, trivial⟩ (sbG_some G_hit (.of rfl) (sbG_oB (gq rfl) trivial)))⟩
 refine l_exitN rfl ?_
 cases hz1
 obtain rfl := ez1 _ rfl
 refine ⟨nofun, awl_pop rfl (l_j ?_)⟩
 exact ⟨g2, (sb_of ⟨.of rfl, .of rfl, .of rfl, trivial⟩ (sbG_some G_hit (.of rfl) (sbG_oB (gq rfl) trivial)))⟩
 rintro _ ⟨g1, q1⟩
 refine l_sub q1 (l_reg fun u8 hu8 => sp rfl rfl (s_val (oS y1 (38, g1)) rfl rfl (sv rfl (bs h fun v4 hv4 h => s_appendG eNote (38, g1) y1 p2 _ (elems_list (fun _ => rfl)) rfl (gq rfl) hv4 (fresh_none hu8) (sp rfl rfl (sp rfl rfl (s_store _ _ _ _ _ (cellsV_oS _ _) rfl rfl (gq rfl) (nl rfl) [(oS v4 (42, u8))] rfl (s_nil (l_nil ?_)))))))))
 cases h
 exact fin_mf (.inl rfl) [(42, u8)] resDF0 (.refl _) ⟨⟨_, _, _, G_hit, (old_notin rfl old_notin_nil), (rfL_cons (rf_oS (rs_in (.head _) (gq rfl))) rfL_nil), (.cons oD_le .nil), rfl⟩, trivial⟩

noncomputable def kit_Post_Deliver_o_o_l1 (p1 : KitPost) (p3 : Int) (v1 : (Int × KitRing)) (x1 : ((List Note) × Int × KitRing)) : Option (Stp ((List Note) × Int × KitRing) ((List Note) × KitRing)) :=
  cond ((decide (x1.2.1 ≥ 0)) && (decide ((x1.1.length : Int) < 40))) (((cond (decide (v1.1 > 0)) (geti p1.sent x1.2.1) (some default))).bind fun v2 => ((cond ((decide (v1.1 > 0)) && (!((v2.Stamp == p3) && (decide (v1.1 > 1))))) (kit_Ring_Next_o x1.2.2 5) (some default))).bind fun v3 => cond ((decide (v1.1 > 0)) && (((v2.Stamp == p3) && (decide (v1.1 > 1))) || (v3.1 == 0))) ((geti p1.sent x1.2.1).bind fun v4 => (appc x1.1 [v4]).bind fun v5 => some (.go (v5, (w64 (x1.2.1 - 1)), (KitRing.mk ((cond ((decide (v1.1 > 0)) && (!((v2.Stamp == p3) && (decide (v1.1 > 1))))) v3.2 x1.2.2).l) ((cond ((decide (v1.1 > 0)) && (!((v2.Stamp == p3) && (decide (v1.1 > 1))))) v3.2 x1.2.2).at_))))) (some (.go (x1.1, (w64 (x1.2.1 - 1)), (KitRing.mk ((cond ((decide (v1.1 > 0)) && (!((v2.Stamp == p3) && (decide (v1.1 > 1))))) v3.2 x1.2.2).l) ((cond ((decide (v1.1 > 0)) && (!((v2.Stamp == p3) && (decide (v1.1 > 1))))) v3.2 x1.2.2).at_)))))) (some (.out (x1.1, x1.2.2)))
noncomputable def kit_Post_Deliver_o_o (p1 : KitPost) (p2 : KitRing) (p3 : Int) : Option ((List Note) × KitRing) :=
  (kit_Ring_Next_o p2 4).bind fun v1 => (loop (kit_Post_Deliver_o_o_l1 p1 p3 v1) ([], (w64 ((p1.sent.length : Int) - 1)), v1.2)).bind fun y1 => cond ((decide ((y1.1.length : Int) > 1)) && (v1.1 == 3)) ((kit_Ring_Next_o y1.2 (y1.1.length : Int)).bind fun v6 => (geti y1.1 v6.1).bind fun v7 => (geti y1.1 0).bind fun v8 => (geti y1.1 0).bind fun v9 => (geti (seti y1.1 0 v7) v6.1).bind fun v10 => (geti (seti (seti y1.1 0 v7) v6.1 v8) 0).bind fun v11 => (appc (seti (seti y1.1 0 v7) v6.1 v8) [v11]).bind fun v12 => some (v12, v6.2)) (some (y1.1, y1.2))

theorem kit_Post_Deliver_o_o_ok (p1 : KitPost) (p2 : KitRing) (p3 : Int) (r : ((List Note) × KitRing)) (h : kit_Post_Deliver_o_o p1 p2 p3 = some r) : MCall Tryz.prog 11 [(.ptr (900000, 0) 0), (.ptr (900001, 0) 0), (di p3)] [(.box 35 [(dl eNote p1.sent)]), (.box 60 [(dl eInt_i64 p2.l), (di p2.at_)])] (dl eNote r.1) [some (.box 35 [(dl eNote p1.sent)]), some (.box 60 [(dl eInt_i64 r.2.l), (di r.2.at_)])] [] := by
 refine m_callF (fk Tryz.func11 Tryz.ntmps11 (fun r => if r == 2 then [1002001] else if r == 6 then [1006019] else if r == 7 then [1008] else if r == 9 then [1009003] else if r == 11 then [1004] else []) (by with_unfolding_all rfl)) rfl (nl rfl) ?_
 unfold kit_Post_Deliver_o_o at h
 refine l_sub (s0 := ⟨T [(0, (.ptr _ _)), (1, (.ptr _ _)), (2, (.d _))], G [((900000, 0), some (.box 35 _)), ((900001, 0), some (.box 60 _))]⟩) (sbr rfl rfl) ?_
 refine lr (fun u1 hu1 => sv rfl (s_nil (lr (fun u2 hu2 => sv rfl (s_nil (lr (fun u3 hu3 => sp rfl rfl (bs h fun v1 hv1 h => s_oc (v := .d (i64 v1.1)) (us := [(900001, 0)]) (oc_m (kit_Ring_Next_o_ok _ _ _ hv1) [(900001, 0)] [(900001, 0)] _ (((900001, 0), some (.box 60 [(dl eInt_i64 v1.2.l), (di v1.2.at_)])) :: _) rfl all2_av (kl_cons (kr_ptr (G_skip rfl G_hit) rfl) (kl_cons kr_d kl_nil)) (live_cons (G_skip rfl G_hit) live_nil) ⟨⟨_, (G_skip rfl G_hit), .of rfl⟩, trivial⟩ (fun _ h => h) nd1 rfl rfl rfl) (sv rfl (s_nil (l_seq (lr (fun u4 hu4 => sp rfl rfl (sp rfl rfl (sp rfl rfl (sl rfl (gq rfl) rfl (sd rfl (v_len rfl) (sv rfl (sv rfl (s_nil (bs h fun y1 hy1 h => l_join (fun s => ∃ g1 : Nat, Sb ⟨T [(0, (.ptr (900000, 0) 0)), (1, (.ptr (900001, 0) 0)), (7, (oS y1.1 (60, g1))), (8, (di v1.1))], G [((900000, 0), some (.box 35 [(dl eNote p1.sent)])), ((900001, 0), some (.box 60 [(dl eInt_i64 y1.2.l), (di y1.2.at_)])), ((60, g1), oB 43 7 eNote y1.1)]⟩ s) ?_ ?_)))))))))))))))))))))
 refine l_block (l_loop (kit_Post_Deliver_o_o_l1 p1 p3 v1) (fun (x1 : ((List Note) × Int × KitRing)) (g2 : Nat) => ⟨T [(0, (.ptr (900000, 0) 0)), (1, (.ptr (900001, 0) 0)), (2, (di p3)), (7, (oS x1.1 (60, g2))), (8, (di v1.1)), (9, (di x1.2.1))], G [((900000, 0), some (.box 35 [(dl eNote p1.sent)])), ((900001, 0), some (.box 60 [(dl eInt_i64 x1.2.2.l), (di x1.2.2.at_)])), ((60, g2), oB 43 7 eNote x1.1)]⟩) ([], (w64 ((p1.sent.length : Int) - 1)), v1.2) 0 _ hy1 (sb_of ⟨.of rfl, .of rfl, .of rfl, .of rfl, .of rfl, .of rfl, trivial⟩ (sg rfl (sbG_some G_hit (.of rfl) (sbG_nil trivial)))) ?_)
 intro x1 g2 z1 hz1 ez1
 unfold kit_Post_Deliver_o_o_l1 at hz1
 refine l_seq (lr (fun u5 hu5 => sv rfl (sv rfl (sv rfl (g_val _ (oS x1.1 (60, g2)) rfl (gw_t rfl) (fun _ => rfl) (gt rfl (fun w2 => (v_lenO (f := eNote) (gd_pos w2) (gq rfl))) (gt rfl (vb rfl rfl rfl) (sa rfl rfl rfl (s_nil (cc rfl hz1 (fun c1 hz1 => ?_) (fun c1 hz1 => ?_)))))))))))
 refine l_skip (l_seq (l_block (lr (fun u6 hu6 => sv rfl (sv rfl (sv rfl (gp rfl (gw_t rfl) (fun _ => rfl) ?_)))))))
 refine g_val _ (.ptr _ _) rfl (gw_t rfl) (fun w5 => (by simp only [gd_pos w5]; rfl)) ?_
 refine g_val _ (.ptr _ _) rfl (gw_t rfl) (fun w6 => (by simp only [gd_pos w6]; rfl)) ?_
 refine gt rfl (vl rfl G_hit rfl) (gt rfl (fun _ => rfl) (bs hz1 fun v2 hv2 hz1 => gt rfl (fun w9 => (v_idx (gd_pos w9) (gd_pos w9) (cond_t w9 hv2) rfl)) ?_))
 refine gt rfl (fun w10 => (by simp only [gd_pos w10]; rfl)) ?_
 refine gt rfl (fun w11 => (v_loadL (gd_pos w11) (cond_t w11 hv2) rfl)) (gt rfl (fun _ => rfl) (gt rfl (fun w13 => (v_bin (gd_pos w13) (gd_pos w13) rfl)) (gt rfl (fun w14 => (v_mv (gd_pos w14))) (gv rfl (gw_gt rfl) (fun _ => rfl) (gv rfl (gw_gt rfl) (vb rfl rfl rfl) (gt rfl (fun w17 => (v_and (gd_pos w17) (fun hc => gd_pos (and_i w17 hc)) rfl)) (gt rfl (fun w18 => (v_mv (gd_pos w18))) (g_val _ (.ptr _ _) rfl (gw_gf rfl) (fun _ => rfl) (bs hz1 fun v3 hv3 hz1 => ?_)))))))))
 refine g_oc ((decide (v1.1 > 0)) && (!((v2.Stamp == p3) && (decide (v1.1 > 1))))) (v := .d (i64 v3.1)) (us := [(900001, 0)]) (g' := (((900001, 0), some (.box 60 [(dl eInt_i64 ((cond ((decide (v1.1 > 0)) && (!((v2.Stamp == p3) && (decide (v1.1 > 1))))) v3.2 x1.2.2).l)), (di ((cond ((decide (v1.1 > 0)) && (!((v2.Stamp == p3) && (decide (v1.1 > 1))))) v3.2 x1.2.2).at_))])) :: _)) (gw_gf rfl) (fun w20 => oc_m (avs := [(.ptr (900001, 0) 0), (di 5)]) (kit_Ring_Next_o_ok _ _ _ (cond_t w20 hv3)) [(900001, 0)] [(900001, 0)] _ (((900001, 0), some (.box 60 [(dl eInt_i64 v3.2.l), (di v3.2.at_)])) :: _) (by simp only [gd_pos w20]; rfl) all2_av (kl_cons (kr_ptr (G_skip rfl G_hit) rfl) (kl_cons kr_d kl_nil)) (live_cons (G_skip rfl G_hit) live_nil) ⟨⟨_, (G_skip rfl G_hit), .of rfl⟩, trivial⟩ (fun _ h => h) nd1 rfl rfl rfl) (fun w20 => by rw [w20]; rfl) (fun w20 => by rw [w20]; exact (G_put (G_skip rfl G_hit))) ?_
 refine gv rfl (gw_gf rfl) (vb rfl rfl rfl) (gt rfl (fun w22 => (v_or (gd_pos w22) rfl (fun hc => gd_pos (and_i w22 (not_t hc))))) (sa rfl rfl rfl (s_nil (cc rfl hz1 (fun c2 hz1 => ?_) (fun c2 hz1 => ?_)))))
 refine l_sub (s0 := ⟨T [(0, (.ptr (900000, 0) 0)), (1, (.ptr (900001, 0) 0)), (2, (di p3)), (7, (oS x1.1 (60, g2))), (8, (di v1.1)), (9, (di x1.2.1))], G [((900000, 0), some (.box 35 [(dl eNote p1.sent)])), ((900001, 0), some (.box 60 [(dl eInt_i64 ((cond ((decide (v1.1 > 0)) && (!((v2.Stamp == p3) && (decide (v1.1 > 1))))) v3.2 x1.2.2).l)), (di ((cond ((decide (v1.1 > 0)) && (!((v2.Stamp == p3) && (decide (v1.1 > 1))))) v3.2 x1.2.2).at_))])), ((60, g2), oB 43 7 eNote x1.1)]⟩) (sb_of ⟨.of rfl, .of rfl, .of rfl, .of rfl, .of rfl, .of rfl, trivial⟩ (sg rfl (sbG_some G_hit (.of rfl) (sbG_oB (gq rfl) trivial)))) ?_
 refine l_reg fun u7 hu7 => s_val (oS x1.1 (60, g2)) rfl rfl (sp rfl rfl (sp rfl rfl (sp rfl rfl (sl rfl G_hit rfl (sv rfl (bs hz1 fun v4 hv4 hz1 => sd rfl (v_idx rfl rfl hv4 rfl) (sd rfl (v_loadLG rfl hv4 rfl rfl) (s_val (dl eNote [v4]) rfl rfl (bs hz1 fun v5 hv5 hz1 => s_appendO eNote (60, g2) x1.1 v4 [] _ (elems_list (fun _ => rfl)) rfl (gq rfl) hv5 (ss rfl (s_nil (l_end (l_reg fun u8 hu8 => sv rfl (sv rfl (sv rfl (s_nil (l_nil ?_)))))))))))))))))
 cases hz1
 exact ⟨rfl, u7, (sb_of ⟨.of rfl, .of rfl, .of rfl, (.of (oS_ne (appc_ne hv5)).symm), .of rfl, .of rfl, trivial⟩ (sg rfl (sg rfl (sbG_own G_hit trivial))))⟩
 refine l_skip (l_end (l_sub (s0 := ⟨T [(0, (.ptr (900000, 0) 0)), (1, (.ptr (900001, 0) 0)), (2, (di p3)), (7, (oS x1.1 (60, g2))), (8, (di v1.1)), (9, (di x1.2.1))], G [((900000, 0), some (.box 35 [(dl eNote p1.sent)])), ((900001, 0), some (.box 60 [(dl eInt_i64 ((cond ((decide (v1.1 > 0)) && (!((v2.Stamp == p3) && (decide (v1.1 > 1))))) v3.2 x1.2.2).l)), (di ((cond ((decide (v1.1 > 0)) && (!((v2.Stamp == p3) && (decide (v1.1 > 1))))) v3.2 x1.2.2).at_))])), ((60, g2), oB 43 7 eNote x1.1)]⟩) (sb_of ⟨.of rfl, .of rfl, .of rfl, .of rfl, .of rfl, .of rfl, trivial⟩ (sg rfl (sbG_some G_hit (.of rfl) (sbG_oB (gq rfl) trivial)))) ?_))
 refine l_reg fun u9 hu9 => sv rfl (sv rfl (sv rfl (s_nil (l_nil ?_))))
 cases hz1
 exact ⟨rfl, g2, (sb_of ⟨.of rfl, .of rfl, .of rfl, .of rfl, .of rfl, .of rfl, trivial⟩ (sbG_some G_hit (.of rfl) (sg rfl (sbG_oB (gq rfl) trivial))))⟩
 refine l_exitN rfl ?_
 cases hz1
 obtain rfl := ez1 _ rfl
 refine ⟨nofun, awl_pop rfl (l_j ?_)⟩
 exact ⟨g2, (sb_of ⟨.of rfl, .of rfl, .of rfl, .of rfl, trivial⟩ (sbG_some G_hit (.of rfl) (sg rfl (sbG_oB (gq rfl) trivial))))⟩
 rintro _ ⟨g1, q1⟩
 refine l_sub q1 (l_seq (lr (fun u10 hu10 => s_val (oS y1.1 (60, g1)) rfl rfl (sd rfl (v_lenO (f := eNote) rfl (gq rfl)) (sv rfl (sv rfl (gt rfl (fun _ => rfl) (gt rfl (vb rfl rfl rfl) (sa rfl rfl rfl (s_nil (cc rfl h (fun c3 h => ?_) (fun c3 h => ?_))))))))))))
 refine lr (fun u11 hu11 => sp rfl rfl (s_val (oS y1.1 (60, g1)) rfl rfl (sd rfl (v_lenO (f := eNote) rfl (gq rfl)) (bs h fun v6 hv6 h => s_oc (v := .d (i64 v6.1)) (us := [(900001, 0)]) (oc_m (kit_Ring_Next_o_ok _ _ _ hv6) [(900001, 0)] [(900001, 0)] _ (((900001, 0), some (.box 60 [(dl eInt_i64 v6.2.l), (di v6.2.at_)])) :: _) rfl all2_av (kl_cons (kr_ptr (G_skip rfl G_hit) rfl) (kl_cons kr_d kl_nil)) (live_cons (G_skip rfl G_hit) live_nil) ⟨⟨_, (G_skip rfl G_hit), .of rfl⟩, trivial⟩ (fun _ h => h) nd1 rfl rfl rfl) (sv rfl (s_nil (l_seq (l_draw rfl fun u12 hu12 => s_val (oS y1.1 (60, g1)) rfl rfl (s_val (oS y1.1 (60, g1)) rfl rfl (sv rfl (s_val (oS y1.1 (60, g1)) rfl rfl (sv rfl (bs h fun v7 hv7 h => s_val (.aptr _ _ _ _) rfl (v_idxO rfl rfl (gq rfl) hv7) (sd rfl (v_loadAG rfl (look_oB (gq rfl) (geti_ne hv7)) hv7 rfl rfl) (s_val (oS y1.1 (60, g1)) rfl rfl (bs h fun v8 hv8 h => s_val (.aptr _ _ _ _) rfl (v_idxO rfl rfl (gq rfl) hv8) (sd rfl (v_loadAG rfl (look_oB (gq rfl) (geti_ne hv8)) hv8 rfl rfl) (bs h fun v9 hv9 h => s_val (.aptr _ _ _ _) rfl (v_idxO rfl rfl (gq rfl) hv9) ?_))))))))))))))))))
 rw [oS_ne (geti_ne hv9)]
 refine s_storeA eNote _ _ _ (0) _ v7 (eNote v7) rfl rfl rfl (look_oB (gq rfl) (geti_ne hv9)) hv9 (nl rfl) rfl (bs h fun v10 hv10 h => s_val (.aptr _ _ _ _) rfl (v_idxA rfl rfl G_hit hv10) (s_storeA eNote _ _ _ (v6.1) _ v8 (eNote v8) rfl rfl rfl G_hit hv10 (nl rfl) rfl (s_nil (l_sub (s0 := ⟨T [(0, (.ptr _ _)), (1, (.ptr _ _)), (7, (.sl _))], G [((900000, 0), some (.box 35 _)), ((900001, 0), some (.box 60 _)), ((60, g1), some _)]⟩) (sbr rfl rfl) ?_))))
 refine l_reg fun u13 hu13 => ss rfl (ss rfl (bs h fun v11 hv11 h => s_val (.aptr _ _ _ _) rfl (v_idxA rfl rfl (gq rfl) hv11) (sd rfl (v_loadAG rfl (gq rfl) hv11 rfl rfl) (s_val (dl eNote [v11]) rfl rfl (bs h fun v12 hv12 h => s_append eNote _ _ _ _ (elems_list (fun _ => rfl)) rfl (gq rfl) hv12 (ss rfl (s_nil (lr (fun u14 hu14 => ss rfl (ss rfl (s_nil (l_ret ?_))))))))))))
 cases h
 exact fin_mf (.inr rfl) [(89, u13)] (resDF1 (res_t rfl) (rf_sl (rs_in (.head _) G_hit))) (.refl _) ⟨⟨_, _, _, (gq rfl), (old_notin rfl old_notin_nil), rfl, all2_d, rfl⟩, ⟨_, _, _, (gq rfl), (old_notin rfl old_notin_nil), rfl, all2_d, rfl⟩, trivial⟩
 refine l_skip (lr (fun u15 hu15 => s_val (oS y1.1 (60, g1)) rfl rfl (s_val (oS y1.1 (60, g1)) rfl rfl (s_nil (l_ret ?_)))))
 cases h
 exact fin_mf (.inr rfl) [(60, g1)] (resDF1 (res_t rfl) (rf_oS (rs_in (.head _) (gq rfl)))) oD_le ⟨⟨_, _, _, G_hit, (old_notin rfl old_notin_nil), rfl, all2_d, rfl⟩, ⟨_, _, _, (gq rfl), (old_notin rfl old_notin_nil), rfl, all2_d, rfl⟩, trivial⟩

noncomputable def kit_Post_Deliver_o_ok_l1 (p1 : KitPost) (p3 : Int) (v1 : (Int × KitRing)) (x1 : ((List Note) × Int × KitRing)) : Option (Stp ((List Note) × Int × KitRing) ((List Note) × KitRing)) :=
  cond ((decide (x1.2.1 ≥ 0)) && (decide ((x1.1.length : Int) < 40))) (((cond (decide (v1.1 > 0)) (geti p1.sent x1.2.1) (some default))).bind fun v2 => ((cond ((decide (v1.1 > 0)) && (!((v2.Stamp == p3) && (decide (v1.1 > 1))))) (kit_Ring_Next_o x1.2.2 5) (some default))).bind fun v3 => cond ((decide (v1.1 > 0)) && (((v2.Stamp == p3) && (decide (v1.1 > 1))) || (v3.1 == 0))) ((geti p1.sent x1.2.1).bind fun v4 => (appc x1.1 [v4]).bind fun v5 => some (.go (v5, (w64 (x1.2.1 - 1)), (KitRing.mk ((cond ((decide (v1.1 > 0)) && (!((v2.Stamp == p3) && (decide (v1.1 > 1))))) v3.2 x1.2.2).l) ((cond ((decide (v1.1 > 0)) && (!((v2.Stamp == p3) && (decide (v1.1 > 1))))) v3.2 x1.2.2).at_))))) (some (.go (x1.1, (w64 (x1.2.1 - 1)), (KitRing.mk ((cond ((decide (v1.1 > 0)) && (!((v2.Stamp == p3) && (decide (v1.1 > 1))))) v3.2 x1.2.2).l) ((cond ((decide (v1.1 > 0)) && (!((v2.Stamp == p3) && (decide (v1.1 > 1))))) v3.2 x1.2.2).at_)))))) (some (.out (x1.1, x1.2.2)))
noncomputable def kit_Post_Deliver_o_ok (p1 : KitPost) (p2 : KitRing) (p3 : Int) : Option ((List Note) × KitRing) :=
  (kit_Ring_Next_o p2 4).bind fun v1 => (loop (kit_Post_Deliver_o_ok_l1 p1 p3 v1) ([], (w64 ((p1.sent.length : Int) - 1)), v1.2)).bind fun y1 => cond ((decide ((y1.1.length : Int) > 1)) && (v1.1 == 3)) ((kit_Ring_Next_o y1.2 (y1.1.length : Int)).bind fun v6 => (geti y1.1 v6.1).bind fun v7 => (geti y1.1 0).bind fun v8 => (geti y1.1 0).bind fun v9 => (geti (seti y1.1 0 v7) v6.1).bind fun v10 => (geti (seti (seti y1.1 0 v7) v6.1 v8) 0).bind fun v11 => (appc (seti (seti y1.1 0 v7) v6.1 v8) [v11]).bind fun v12 => some (v12, v6.2)) (some (y1.1, y1.2))

theorem kit_Post_Deliver_o_ok_ok (p1 : KitPost) (p2 : KitRing) (p3 : Int) (r : ((List Note) × KitRing)) (h : kit_Post_Deliver_o_ok p1 p2 p3 = some r) : MCall Tryz.prog 11 [(.ptr (900000, 0) 0), (.ptr (900001, 0) 0), (di p3)] [(.box 35 [(dl eNote p1.sent)]), (.box 60 [(dl eInt_i64 p2.l), (di p2.at_)])] (oS r.1 (800000, 0)) [some (.box 35 [(dl eNote p1.sent)]), some (.box 60 [(dl eInt_i64 r.2.l), (di r.2.at_)])] [oB 43 7 eNote r.1] := by
 refine m_callT (fk Tryz.func11 Tryz.ntmps11 (fun r => if r == 2 then [1002001] else if r == 6 then [1006019] else if r == 7 then [1008] else if r == 9 then [1009003] else if r == 11 then [1004] else []) (by with_unfolding_all rfl)) (by generalize r.1 = x1; cases x1 <;> rfl) (nl rfl) ?_
 unfold kit_Post_Deliver_o_ok at h
 refine l_sub (s0 := ⟨T [(0, (.ptr _ _)), (1, (.ptr _ _)), (2, (.d _))], G [((900000, 0), some (.box 35 _)), ((900001, 0), some (.box 60 _))]⟩) (sbr rfl rfl) ?_
 refine lr (fun u1 hu1 => sv rfl (s_nil (lr (fun u2 hu2 => sv rfl (s_nil (lr (fun u3 hu3 => sp rfl rfl (bs h fun v1 hv1 h => s_oc (v := .d (i64 v1.1)) (us := [(900001, 0)]) (oc_m (kit_Ring_Next_o_ok _ _ _ hv1) [(900001, 0)] [(900001, 0)] _ (((900001, 0), some (.box 60 [(dl eInt_i64 v1.2.l), (di v1.2.at_)])) :: _) rfl all2_av (kl_cons (kr_ptr (G_skip rfl G_hit) rfl) (kl_cons kr_d kl_nil)) (live_cons (G_skip rfl G_hit) live_nil) ⟨⟨_, (G_skip rfl G_hit), .of rfl⟩, trivial⟩ (fun _ h => h) nd1 rfl rfl rfl) (sv rfl (s_nil (l_seq (lr (fun u4 hu4 => sp rfl rfl (sp rfl rfl (sp rfl rfl (sl rfl (gq rfl) rfl (sd rfl (v_len rfl) (sv rfl (sv rfl (s_nil (bs h fun y1 hy1 h => l_join (fun s => ∃ g1 : Nat, Sb ⟨T [(0, (.ptr (900000, 0) 0)), (1, (.ptr (900001, 0) 0)), (7, (oS y1.1 (60, g1))), (8, (di v1.1))], G [((900000, 0), some (.box 35 [(dl eNote p1.sent)])), ((900001, 0), some (.box 60 [(dl eInt_i64 y1.2.l), (di y1.2.at_)])), ((60, g1), oB 43 7 eNote y1.1)]⟩ s) ?_ ?_)))))))))))))))))))))
 refine l_block (l_loop (kit_Post_Deliver_o_ok_l1 p1 p3 v1) (fun (x1 : ((List Note) × Int × KitRing)) (g2 : Nat) => ⟨T [(0, (.ptr (900000, 0) 0)), (1, (.ptr (900001, 0) 0)), (2, (di p3)), (7, (oS x1.1 (60, g2))), (8, (di v1.1)), (9, (di x1.2.1))], G [((900000, 0), some (.box 35 [(dl eNote p1.sent)])), ((900001, 0), some (.box 60 [(dl eInt_i64 x1.2.2.l), (di x1.2.2.at_)])), ((60, g2), oB 43 7 eNote x1.1)]⟩) ([], (w64 ((p1.sent.length : Int) - 1)), v1.2) 0 _ hy1 (sb_of ⟨.of rfl, .of rfl, .of rfl, .of rfl, .of rfl, .of rfl, trivial⟩ (sg rfl (sbG_some G_hit (.of rfl) (sbG_nil trivial)))) ?_)
 intro x1 g2 z1 hz1 ez1
 unfold kit_Post_Deliver_o_ok_l1 at hz1
 refine l_seq (lr (fun u5 hu5 => sv rfl (sv rfl (sv rfl (g_val _ (oS x1.1 (60, g2)) rfl (gw_t rfl) (fun _ => rfl) (gt rfl (fun w2 => (v_lenO (f := eNote) (gd_pos w2) (gq rfl))) (gt rfl (vb rfl rfl rfl) (sa rfl rfl rfl (s_nil (cc rfl hz1 (fun c1 hz1 => ?_) (fun c1 hz1 => ?_)))))))))))
 refine l_skip (l_seq (l_block (lr (fun u6 hu6 => sv rfl (sv rfl (sv rfl (gp rfl (gw_t rfl) (fun _ => rfl) ?_)))))))
 refine g_val _ (.ptr _ _) rfl (gw_t rfl) (fun w5 => (by simp only [gd_pos w5]; rfl)) ?_
 refine g_val _ (.ptr _ _) rfl (gw_t rfl) (fun w6 => (by simp only [gd_pos w6]; rfl)) ?_
 refine gt rfl (vl rfl G_hit rfl) (gt rfl (fun _ => rfl) (bs hz1 fun v2 hv2 hz1 => gt rfl (fun w9 => (v_idx (gd_pos w9) (gd_pos w9) (cond_t w9 hv2) rfl)) ?_))
 refine gt rfl (fun w10 => (by simp only [gd_pos w10]; rfl)) ?_
 refine gt rfl (fun w11 => (v_loadL (gd_pos w11) (cond_t w11 hv2) rfl)) (gt rfl (fun _ => rfl) (gt rfl (fun w13 => (v_bin (gd_pos w13) (gd_pos w13) rfl)) (gt rfl (fun w14 => (v_mv (gd_pos w14))) (gv rfl (gw_gt rfl) (fun _ => rfl) (gv rfl (gw_gt rfl) (vb rfl rfl rfl) (gt rfl (fun w17 => (v_and (gd_pos w17) (fun hc => gd_pos (and_i w17 hc)) rfl)) (gt rfl (fun w18 => (v_mv (gd_pos w18))) (g_val _ (.ptr _ _) rfl (gw_gf rfl) (fun _ => rfl) (bs hz1 fun v3 hv3 hz1 => ?_)))))))))
 refine g_oc ((decide (v1.1 > 0)) && (!((v2.Stamp == p3) && (decide (v1.1 > 1))))) (v := .d (i64 v3.1)) (us := [(900001, 0)]) (g' := (((900001, 0), some (.box 60 [(dl eInt_i64 ((cond ((decide (v1.1 > 0)) && (!((v2.Stamp == p3) && (decide (v1.1 > 1))))) v3.2 x1.2.2).l)), (di ((cond ((decide (v1.1 > 0)) && (!((v2.Stamp == p3) && (decide (v1.1 > 1))))) v3.2 x1.2.2).at_))])) :: _)) (gw_gf rfl) (fun w20 => oc_m (avs := [(.ptr (900001, 0) 0), (di 5)]) (kit_Ring_Next_o_ok _ _ _ (cond_t w20 hv3)) [(900001, 0)] [(900001, 0)] _ (((900001, 0), some (.box 60 [(dl eInt_i64 v3.2.l), (di v3.2.at_)])) :: _) (by simp only [gd_pos w20]; rfl) all2_av (kl_cons (kr_ptr (G_skip rfl G_hit) rfl) (kl_cons kr_d kl_nil)) (live_cons (G_skip rfl G_hit) live_nil) ⟨⟨_, (G_skip rfl G_hit), .of rfl⟩, trivial⟩ (fun _ h => h) nd1 rfl rfl rfl) (fun w20 => by rw [w20]; rfl) (fun w20 => by rw [w20]; exact (G_put (G_skip rfl G_hit))) ?_
 refine gv rfl (gw_gf rfl) (vb rfl rfl rfl) (gt rfl (fun w22 => (v_or (gd_pos w22) rfl (fun hc => gd_pos (and_i w22 (not_t hc))))) (sa rfl rfl rfl (s_nil (cc rfl hz1 (fun c2 hz1 => ?_) (fun c2 hz1 => ?_)))))
 refine l_sub (s0 := ⟨T [(0, (.ptr (900000, 0) 0)), (1, (.ptr (900001, 0) 0)), (2, (di p3)), (7, (oS x1.1 (60, g2))), (8, (di v1.1)), (9, (di x1.2.1))], G [((900000, 0), some (.box 35 [(dl eNote p1.sent)])), ((900001, 0), some (.box 60 [(dl eInt_i64 ((cond ((decide (v1.1 > 0)) && (!((v2.Stamp == p3) && (decide (v1.1 > 1))))) v3.2 x1.2.2).l)), (di ((cond ((decide (v1.1 > 0)) && (!((v2.Stamp == p3) && (decide (v1.1 > 1))))) v3.2 x1.2.2).at_))])), ((60, g2), oB 43 7 eNote x1.1)]⟩) (sb_of ⟨.of rfl, .of rfl, .of rfl, .of rfl, .of rfl, .of rfl, trivial⟩ (sg rfl (sbG_some G_hit (.of rfl) (sbG_oB (gq rfl) trivial)))) ?_
 refine l_reg fun u7 hu7 => s_val (oS x1.1 (60, g2)) rfl rfl (sp rfl rfl (sp rfl rfl (sp rfl rfl (sl rfl G_hit rfl (sv rfl (bs hz1 fun v4 hv4 hz1 => sd rfl (v_idx rfl rfl hv4 rfl) (sd rfl (v_loadLG rfl hv4 rfl rfl) (s_val (dl eNote [v4]) rfl rfl (bs hz1 fun v5 hv5 hz1 => s_appendO eNote (60, g2) x1.1 v4 [] _ (elems_list (fun _ => rfl)) rfl (gq rfl) hv5 (ss rfl (s_nil (l_end (l_reg fun u8 hu8 => sv rfl (sv rfl (sv rfl (s_nil (l_nil ?_)))))))))))))))))
 cases hz1
 exact ⟨rfl, u7, (sb_of ⟨.of rfl, .of rfl, .of rfl, (.of (oS_ne (appc_ne hv5)).symm), .of rfl, .of rfl, trivial⟩ (sg rfl (sg rfl (sbG_own G_hit trivial))))⟩
 refine l_skip (l_end (l_sub (s0 := ⟨T [(0, (.ptr (900000, 0) 0)), (1, (.ptr (900001, 0) 0)), (2, (di p3)), (7, (oS x1.1 (60, g2))), (8, (di v1.1)), (9, (di x1.2.1))], G [((900000, 0), some (.box 35 [(dl eNote p1.sent)])), ((900001, 0), some (.box 60 [(dl eInt_i64 ((cond ((decide (v1.1 > 0)) && (!((v2.Stamp == p3) && (decide (v1.1 > 1))))) v3.2 x1.2.2).l)), (di ((cond ((decide (v1.1 > 0)) && (!((v2.Stamp == p3) && (decide (v1.1 > 1))))) v3.2 x1.2.2).at_))])), ((60, g2), oB 43 7 eNote x1.1)]⟩) (sb_of ⟨.of rfl, .of rfl, .of rfl, .of rfl, .of rfl, .of rfl, trivial⟩ (sg rfl (sbG_some G_hit (.of rfl) (sbG_oB (gq rfl) trivial)))) ?_))
 refine l_reg fun u9 hu9 => sv rfl (sv rfl (sv rfl (s_nil (l_nil ?_))))
 cases hz1
 exact ⟨rfl, g2, (sb_of ⟨.of rfl, .of rfl, .of rfl, .of rfl, .of rfl, .of rfl, trivial⟩ (sbG_some G_hit (.of rfl) (sg rfl (sbG_oB (gq rfl) trivial))))⟩
 refine l_exitN rfl ?_
 cases hz1
 obtain rfl := ez1 _ rfl
 refine ⟨nofun, awl_pop rfl (l_j ?_)⟩
 exact ⟨g2, (sb_of ⟨.of rfl, .of rfl, .of rfl, .of rfl, trivial⟩ (sbG_some G_hit (.of rfl) (sg rfl (sbG_oB (gq rfl) trivial))))⟩
 rintro _ ⟨g1, q1⟩
 refine l_sub q1 (l_seq (lr (fun u10 hu10 => s_val (oS y1.1 (60, g1)) rfl rfl (sd rfl (v_lenO (f := eNote) rfl (gq rfl)) (sv rfl (sv rfl (gt rfl (fun _ => rfl) (gt rfl (vb rfl rfl rfl) (sa rfl rfl rfl (s_nil (cc rfl h (fun c3 h => ?_) (fun c3 h => ?_))))))))))))
 refine lr (fun u11 hu11 => sp rfl rfl (s_val (oS y1.1 (60, g1)) rfl rfl (sd rfl (v_lenO (f := eNote) rfl (gq rfl)) (bs h fun v6 hv6 h => s_oc (v := .d (i64 v6.1)) (us := [(900001, 0)]) (oc_m (kit_Ring_Next_o_ok _ _ _ hv6) [(900001, 0)] [(900001, 0)] _ (((900001, 0), some (.box 60 [(dl eInt_i64 v6.2.l), (di v6.2.at_)])) :: _) rfl all2_av (kl_cons (kr_ptr (G_skip rfl G_hit) rfl) (kl_cons kr_d kl_nil)) (live_cons (G_skip rfl G_hit) live_nil) ⟨⟨_, (G_skip rfl G_hit), .of rfl⟩, trivial⟩ (fun _ h => h) nd1 rfl rfl rfl) (sv rfl (s_nil (l_seq (l_draw rfl fun u12 hu12 => s_val (oS y1.1 (60, g1)) rfl rfl (s_val (oS y1.1 (60, g1)) rfl rfl (sv rfl (s_val (oS y1.1 (60, g1)) rfl rfl (sv rfl (bs h fun v7 hv7 h => s_val (.aptr _ _ _ _) rfl (v_idxO rfl rfl (gq rfl) hv7) (sd rfl (v_loadAG rfl (look_oB (gq rfl) (geti_ne hv7)) hv7 rfl rfl) (s_val (oS y1.1 (60, g1)) rfl rfl (bs h fun v8 hv8 h => s_val (.aptr _ _ _ _) rfl (v_idxO rfl rfl (gq rfl) hv8) (sd rfl (v_loadAG rfl (look_oB (gq rfl) (geti_ne hv8)) hv8 rfl rfl) (bs h fun v9 hv9 h => s_val (.aptr _ _ _ _) rfl (v_idxO rfl rfl (gq rfl) hv9) ?_))))))))))))))))))
 rw [oS_ne (geti_ne hv9)]
 refine s_storeA eNote _ _ _ (0) _ v7 (eNote v7) rfl rfl rfl (look_oB (gq rfl) (geti_ne hv9)) hv9 (nl rfl) rfl (bs h fun v10 hv10 h => s_val (.aptr _ _ _ _) rfl (v_idxA rfl rfl G_hit hv10) (s_storeA eNote _ _ _ (v6.1) _ v8 (eNote v8) rfl rfl rfl G_hit hv10 (nl rfl) rfl (s_nil (l_sub (s0 := ⟨T [(0, (.ptr _ _)), (1, (.ptr _ _)), (7, (.sl _))], G [((900000, 0), some (.box 35 _)), ((900001, 0), some (.box 60 _)), ((60, g1), some _)]⟩) (sbr rfl rfl) ?_))))
 refine l_reg fun u13 hu13 => ss rfl (ss rfl (bs h fun v11 hv11 h => s_val (.aptr _ _ _ _) rfl (v_idxA rfl rfl (gq rfl) hv11) (sd rfl (v_loadAG rfl (gq rfl) hv11 rfl rfl) (s_val (dl eNote [v11]) rfl rfl (bs h fun v12 hv12 h => s_append eNote _ _ _ _ (elems_list (fun _ => rfl)) rfl (gq rfl) hv12 (ss rfl (s_nil (lr (fun u14 hu14 => ss rfl (ss rfl (s_nil (l_ret ?_))))))))))))
 cases h
 exact fin_m (v1 := (oS v12 (89, u13))) (.inr rfl) (resA1 (res_t rfl)) (.of (oS_ne (appc_ne hv12)).symm) [((900000, 0), some (.box 35 [(dl eNote p1.sent)])), ((900001, 0), some (.box 60 [(dl eInt_i64 v6.2.l), (di v6.2.at_)])), ((89, u13), oB 43 7 eNote v12)] (sg rfl (sg rfl (sbG_own G_hit trivial))) (mpost_o [(89, u13)] (by generalize v12 = x1; cases x1 <;> rfl) ⟨G_hit, (gq rfl), trivial⟩ ⟨((gq rfl)).trans oB_ren.symm, trivial⟩ rfl (List.forall_mem_cons.2 ⟨fun i hi => old_far rfl hi, (fun _ h => nomatch h)⟩) nd1)
 refine l_skip (lr (fun u15 hu15 => s_val (oS y1.1 (60, g1)) rfl rfl (s_val (oS y1.1 (60, g1)) rfl rfl (s_nil (l_ret ?_)))))
 cases h
 exact fin_m (v1 := (oS y1.1 (60, g1))) (.inr rfl) (resA1 (res_t rfl)) (.of rfl) [((900000, 0), some (.box 35 [(dl eNote p1.sent)])), ((900001, 0), some (.box 60 [(dl eInt_i64 y1.2.l), (di y1.2.at_)])), ((60, g1), oB 43 7 eNote y1.1)] (sbG_some G_hit (.of rfl) (sg rfl (sbG_oB (gq rfl) trivial))) (mpost_o [(60, g1)] (by generalize y1.1 = x1; cases x1 <;> rfl) ⟨G_hit, (gq rfl), trivial⟩ ⟨((gq rfl)).trans oB_ren.symm, trivial⟩ rfl (List.forall_mem_cons.2 ⟨fun i hi => old_far rfl hi, (fun _ h => nomatch h)⟩) nd1)

noncomputable def ref09_find_l1 (p1 : Convoy) (p2 : Int) (x1 : Int) : Option (Stp Int (Sum Unit Int)) :=
  cond (decide (x1 < (p1.Mates.length : Int))) ((geti p1.Mates x1).bind fun v1 => cond (v1.ID == p2) (some (.out (.inr x1))) (some (.go (w64 (x1 + 1))))) (some (.out (.inl ())))
noncomputable def ref09_find (p1 : Convoy) (p2 : Int) : Option Int :=
  thenS (loop (ref09_find_l1 p1 p2) 0) (fun _ => some (-1)) (fun r => some r)

theorem ref09_find_ok (p1 : Convoy) (p2 : Int) (r : Int) (h : ref09_find p1 p2 = some r) : PCall Tryz.prog 28 [(.agg (eConvoy p1)), (i64 p2)] (i64 r) := by
 refine l_call (fk Tryz.func28 Tryz.ntmps28 m0 (by with_unfolding_all rfl)) (nl rfl) ?_
 unfold ref09_find at h
 refine l_sub (s0 := ⟨T [(0, (.d _)), (1, (.d _))], G []⟩) (sbr rfl rfl) ?_
 refine lr (fun u1 hu1 => sn rfl rfl (sv rfl (s_nil (l_seq (lr (fun u2 hu2 => sv rfl (s_nil (js h fun z1 hz1 h => l_join (fun s => ∃ (y1 : Unit) (g1 : Unit), z1 = .inl y1 ∧ Sb ⟨T [], G []⟩ s) ?_ ?_))))))))
 refine l_block (l_loop (ref09_find_l1 p1 p2) (fun (x1 : Int) (g2 : Unit) => ⟨T [(1, (di p2)), (2, (.ptr (2, u1) 0)), (5, (di x1))], G [((2, u1), some (.box 32 (dConvoy p1)))]⟩) 0 () _ hz1 (sbr rfl rfl) ?_)
 intro x1 g2 z2 hz2 ez2
 unfold ref09_find_l1 at hz2
 refine l_seq (lr (fun u3 hu3 => sv rfl (sp rfl rfl (sl rfl G_hit rfl (sd rfl (v_len rfl) (sv rfl (s_nil (cc rfl hz2 (fun c1 hz2 => ?_) (fun c1 hz2 => ?_)))))))))
 refine l_skip (l_seq (l_block (lr (fun u4 hu4 => sp rfl rfl (sl rfl G_hit rfl (sv rfl (bs hz2 fun v1 hv1 hz2 => sd rfl (v_idx rfl rfl hv1 rfl) (sv rfl (sd rfl (v_loadL rfl hv1 rfl) (sv rfl (sv rfl (s_nil (cc rfl hz2 (fun c2 hz2 => ?_) (fun c2 hz2 => ?_))))))))))))))
 refine lr (fun u5 hu5 => sv rfl (sv rfl (s_nil (l_ret ?_))))
 cases hz2
 obtain rfl := ez2 _ rfl
 refine ⟨nofun, awl_ret ?_⟩
 rw [Sum.elim_inr] at h
 cases h
 exact fin_ok (.inr rfl) (resD1 (res_t rfl) rf_d) (.refl _)
 refine l_skip (l_end (l_reg fun u6 hu6 => sv rfl (sv rfl (sv rfl (s_nil (l_nil ?_))))))
 cases hz2
 exact ⟨rfl, (), (sbr rfl rfl)⟩
 refine l_exitN rfl ?_
 cases hz2
 obtain rfl := ez2 _ rfl
 refine ⟨nofun, awl_pop rfl (l_j ?_)⟩
 exact ⟨_, (), rfl, (sbr rfl rfl)⟩
 rintro _ ⟨y1, g1, rfl, q1⟩
 rw [Sum.elim_inl] at h
 refine l_sub q1 (lr (fun u7 hu7 => sv rfl (s_nil (l_ret ?_))))
 cases h
 exact fin_ok (.inr rfl) (resD1 (res_t rfl) rf_d) (.refl _)

noncomputable def ref09_mod (p1 : Int) (p2 : Int) : Option Int :=
  (remc p1 p2).bind fun v1 => cond (decide (v1 < 0)) (some (w64 (v1 + p2))) (some v1)

theorem ref09_mod_ok (p1 : Int) (p2 : Int) (r : Int) (h : ref09_mod p1 p2 = some r) : PCall Tryz.prog 29 [(i64 p1), (i64 p2)] (i64 r) := by
 refine l_call (fk Tryz.func29 Tryz.ntmps29 m0 (by with_unfolding_all rfl)) (nl rfl) ?_
 unfold ref09_mod at h
 refine l_sub (s0 := ⟨T [(0, (.d _)), (1, (.d _))], G []⟩) (sbr rfl rfl) ?_
 refine lr (fun u1 hu1 => sv rfl (s_nil (lr (fun u2 hu2 => sv rfl (sv rfl (bs h fun v1 hv1 h => sd rfl (v_rem rfl rfl hv1) (sv rfl (s_nil (l_seq (lr (fun u3 hu3 => sv rfl (sv rfl (s_nil (cc rfl h (fun c1 h => ?_) (fun c1 h => ?_)))))))))))))))
 refine l_reg fun u4 hu4 => sv rfl (sv rfl (sv rfl (sv rfl (s_nil (lr (fun u5 hu5 => sv rfl (sv rfl (s_nil (l_ret ?_)))))))))
 cases h
 exact fin_ok (.inr rfl) (resD1 (res_t rfl) rf_d) (.refl _)
 refine l_skip (lr (fun u6 hu6 => sv rfl (sv rfl (s_nil (l_ret ?_)))))
 cases h
 exact fin_ok (.inr rfl) (resD1 (res_t rfl) rf_d) (.refl _)

noncomputable def ref09_Look (p1 : Convoy) (p2 : Int) (p3 : (List Int)) : Option (Sight × Int) :=
  (ref09_Check p1).bind fun v1 => cond (v1 != 0) (some ((Sight.mk 0 0 0 0 0), v1)) ((ref09_find p1 p2).bind fun v2 => (cond ((p2 != 0) && (p2 == p1.Guest_.ID)) ((ref09_beside p1).bind fun v3 => some v3.1) (some (w64 (v2 - 1)))).bind fun y1 => cond (decide (y1 < 0)) (some ((Sight.mk 0 0 0 0 0), 7)) ((cond (true && (decide (0 < (p3.length : Int)))) ((geti p3 0).bind fun v4 => cond (true && (decide (1 < (p3.length : Int)))) ((geti p3 1).bind fun v5 => cond (true && (decide (2 < (p3.length : Int)))) ((geti p3 2).bind fun v6 => cond (true && (decide (3 < (p3.length : Int)))) ((geti p3 3).bind fun v7 => some (v4, v5, v6, v7)) (some (v4, v5, v6, 0))) (some (v4, v5, 0, 0))) (some (v4, 0, 0, 0))) (some (0, 0, 0, 0))).bind fun y2 => (geti p1.Mates y1).bind fun v8 => (ref09_rear v8).bind fun v9 => (geti p1.Mates y1).bind fun v10 => (ref09_mod y2.1 101).bind fun v11 => (ref09_mod y2.2.1 101).bind fun v12 => (ref09_mod y2.2.2.1 6).bind fun v13 => (ref09_mod y2.2.2.2 6).bind fun v14 => some ((Sight.mk p2 (w64 (v9 - v11)) (w64 (v9 + v12)) (mm2 true 0 (w64 (v10.V - v13))) (mm2 false 2000 (w64 (v10.V + v14)))), 0)))

theorem ref09_Look_ok (p1 : Convoy) (p2 : Int) (p3 : (List Int)) (r : (Sight × Int)) (h : ref09_Look p1 p2 p3 = some r) : PCall Tryz.prog 13 [(.agg (eConvoy p1)), (i64 p2), (.list (List.map eInt_i64 p3))] (.tup [(.agg (eSight r.1)), (i64 r.2)]) := by
 refine l_call (fk Tryz.func13 Tryz.ntmps13 m0 (by with_unfolding_all rfl)) (nl rfl) ?_
 unfold ref09_Look at h
 refine l_sub (s0 := ⟨T [(0, (.d _)), (1, (.d _)), (2, (.d _))], G []⟩) (sbr rfl rfl) ?_
 refine lr (fun u1 hu1 => sn rfl rfl (sn rfl rfl (sv rfl (s_nil (l_seq (lr (fun u2 hu2 => sd rfl (v_loadG rfl (gq rfl) rfl rfl) (bs h fun v1 hv1 h => s_call rfl rfl all2_refl (ref09_Check_ok _  _ hv1) (.inl rfl) (sv rfl (s_nil (lr (fun u3 hu3 => sv rfl (sv rfl (s_nil (cc rfl h (fun c1 h => ?_) (fun c1 h => ?_))))))))))))))))
 refine lr (fun u4 hu4 => sv rfl (sv rfl (sst rfl G_hit (zs 5) rfl (sv rfl (s_nil (l_ret ?_))))))
 cases h
 exact fin_ok (.inr rfl) (resD2 (res_cellG rfl G_hit (nl rfl) rfl) (res_t rfl) rf_d rf_d) (.refl _)
 refine l_skip (lr (fun u5 hu5 => sd rfl (v_loadG rfl (gq rfl) rfl rfl) (sv rfl (bs h fun v2 hv2 h => s_call rfl rfl all2_refl (ref09_find_ok _ _  _ hv2) (.inl rfl) (sv rfl (sv rfl (s_nil (l_seq (lr (fun u6 hu6 => sv rfl (sv rfl (sv rfl (gt rfl (fun _ => rfl) (gp rfl (gw_t rfl) (fun _ => rfl) ?_))))))))))))))
 refine g_val _ (.ptr _ _) rfl (gw_t rfl) (fun w3 => (by simp only [gd_pos w3]; rfl)) ?_
 refine gt rfl (vl rfl (gq rfl) rfl) (gt rfl (fun w5 => (v_bin (gd_pos w5) (gd_pos w5) rfl)) (sa rfl rfl rfl (s_nil (bs h fun y1 hy1 h => l_join (fun s => ∃ g1 : Unit, Sb ⟨T [(1, (di p2)), (2, (dl eInt_i64 p3)), (3, (.ptr (3, u1) 0)), (6, (.ptr (6, u1) 0)), (9, (di y1))], G [((3, u1), some (.box 32 (dConvoy p1))), ((6, u1), some (.box 46 (zs 5)))]⟩ s) ?_ ?_))))
 refine cc rfl hy1 (fun c2 hy1 => ?_) (fun c2 hy1 => ?_)
 refine l_sub (s0 := ⟨T [(1, (.d _)), (2, (.d _)), (3, (.ptr _ _)), (6, (.ptr _ _))], G [((3, u1), some (.box 32 _)), ((6, u1), some (.box 46 _))]⟩) (sbr rfl rfl) ?_
 refine l_reg fun u7 hu7 => sd rfl (v_loadG rfl G_hit rfl rfl) (bs hy1 fun v3 hv3 hy1 => s_call rfl rfl all2_refl (ref09_beside_ok _  _ hv3) (.inl rfl) (sv rfl (sv rfl (sv rfl (sv rfl (s_nil ?_))))))
 cases hy1
 exact l_j ⟨(), (sbr rfl rfl)⟩
 refine l_skip ?_
 cases hy1
 exact l_j ⟨(), (sbr rfl rfl)⟩
 rintro _ ⟨g1, q1⟩
 refine l_sub q1 (l_seq (lr (fun u8 hu8 => sv rfl (sv rfl (s_nil (cc rfl h (fun c3 h => ?_) (fun c3 h => ?_)))))))
 refine lr (fun u9 hu9 => sv rfl (sst rfl (gq rfl) (zs 5) rfl (sv rfl (s_nil (l_ret ?_)))))
 cases h
 exact fin_ok (.inr rfl) (resD2 (res_cellG rfl G_hit (nl rfl) rfl) (res_t rfl) rf_d rf_d) (.refl _)
 refine l_skip (lr (fun u10 hu10 => sn rfl rfl (s_nil (l_seq (lr (fun u11 hu11 => sv rfl (s_nil (bs h fun y2 hy2 h => l_join (fun s => ∃ g2 : Unit, Sb ⟨T [(1, (di p2)), (3, (.ptr (3, u1) 0)), (6, (.ptr (6, u1) 0)), (9, (di y1)), (10, (.ptr (10, u10) 0))], G [((3, u1), some (.box 32 (dConvoy p1))), ((6, u1), some (.box 46 (zs 5))), ((10, u10), some (.box 70 [(di y2.1), (di y2.2.1), (di y2.2.2.1), (di y2.2.2.2)]))]⟩ s) ?_ ?_))))))))
 refine l_block (l_unroll (l_seq (lr (fun u12 hu12 => sv rfl (sv rfl (sv rfl (gt rfl (fun _ => rfl) (gt rfl (fun _ => rfl) (gt rfl (fun w8 => (v_len (gd_pos w8))) (gt rfl (fun w9 => (v_bin (gd_pos w9) (gd_pos w9) rfl)) (sa rfl rfl rfl (s_nil (cc rfl hy2 (fun c4 hy2 => ?_) (fun c4 hy2 => ?_))))))))))))))
 refine l_skip (l_seq (l_block (l_reg fun u13 hu13 => sv rfl (sv rfl (sv rfl (bs hy2 fun v4 hv4 hy2 => sd rfl (v_idx rfl rfl hv4 rfl) (sd rfl (v_loadL rfl hv4 rfl) (sp rfl rfl (sst rfl G_hit [(di v4), (di 0), (di 0), (di 0)] rfl (s_nil (l_end (l_sub (s0 := ⟨T [(1, (.d _)), (2, (.d _)), (3, (.ptr _ _)), (6, (.ptr _ _)), (9, (.d _)), (10, (.ptr _ _)), (11, (.d _))], G [((3, u1), some (.box 32 _)), ((6, u1), some (.box 46 _)), ((10, u10), some (.box 70 _))]⟩) (sbr rfl rfl) ?_))))))))))))
 refine l_reg fun u14 hu14 => sv rfl (sv rfl (sv rfl (s_nil (l_unroll (l_seq (lr (fun u15 hu15 => sv rfl (sv rfl (sv rfl (gt rfl (fun _ => rfl) (gt rfl (fun _ => rfl) (gt rfl (fun w12 => (v_len (gd_pos w12))) (gt rfl (fun w13 => (v_bin (gd_pos w13) (gd_pos w13) rfl)) (sa rfl rfl rfl (s_nil (cc rfl hy2 (fun c5 hy2 => ?_) (fun c5 hy2 => ?_)))))))))))))))))
 refine l_skip (l_seq (l_block (l_reg fun u16 hu16 => sv rfl (sv rfl (sv rfl (bs hy2 fun v5 hv5 hy2 => sd rfl (v_idx rfl rfl hv5 rfl) (sd rfl (v_loadL rfl hv5 rfl) (sp rfl rfl (sst rfl (gq rfl) [(di v4), (di v5), (di 0), (di 0)] rfl (s_nil (l_end (l_sub (s0 := ⟨T [(1, (.d _)), (2, (.d _)), (3, (.ptr _ _)), (6, (.ptr _ _)), (9, (.d _)), (10, (.ptr _ _)), (11, (.d _))], G [((3, u1), some (.box 32 _)), ((6, u1), some (.box 46 _)), ((10, u10), some (.box 70 _))]⟩) (sbr rfl rfl) ?_))))))))))))
 refine l_reg fun u17 hu17 => sv rfl (sv rfl (sv rfl (s_nil (l_unroll (l_seq (lr (fun u18 hu18 => sv rfl (sv rfl (sv rfl (gt rfl (fun _ => rfl) (gt rfl (fun _ => rfl) (gt rfl (fun w16 => (v_len (gd_pos w16))) (gt rfl (fun w17 => (v_bin (gd_pos w17) (gd_pos w17) rfl)) (sa rfl rfl rfl (s_nil (cc rfl hy2 (fun c6 hy2 => ?_) (fun c6 hy2 => ?_)))))))))))))))))
 refine l_skip (l_seq (l_block (l_reg fun u19 hu19 => sv rfl (sv rfl (sv rfl (bs hy2 fun v6 hv6 hy2 => sd rfl (v_idx rfl rfl hv6 rfl) (sd rfl (v_loadL rfl hv6 rfl) (sp rfl rfl (sst rfl (gq rfl) [(di v4), (di v5), (di v6), (di 0)] rfl (s_nil (l_end (l_sub (s0 := ⟨T [(1, (.d _)), (2, (.d _)), (3, (.ptr _ _)), (6, (.ptr _ _)), (9, (.d _)), (10, (.ptr _ _)), (11, (.d _))], G [((3, u1), some (.box 32 _)), ((6, u1), some (.box 46 _)), ((10, u10), some (.box 70 _))]⟩) (sbr rfl rfl) ?_))))))))))))
 refine l_reg fun u20 hu20 => sv rfl (sv rfl (sv rfl (s_nil (l_unroll (l_seq (lr (fun u21 hu21 => sv rfl (sv rfl (sv rfl (gt rfl (fun _ => rfl) (gt rfl (fun _ => rfl) (gt rfl (fun w20 => (v_len (gd_pos w20))) (gt rfl (fun w21 => (v_bin (gd_pos w21) (gd_pos w21) rfl)) (sa rfl rfl rfl (s_nil (cc rfl hy2 (fun c7 hy2 => ?_) (fun c7 hy2 => ?_)))))))))))))))))
 refine l_skip (l_seq (l_block (l_reg fun u22 hu22 => sv rfl (sv rfl (sv rfl (bs hy2 fun v7 hv7 hy2 => sd rfl (v_idx rfl rfl hv7 rfl) (sd rfl (v_loadL rfl hv7 rfl) (sp rfl rfl (sst rfl (gq rfl) [(di v4), (di v5), (di v6), (di v7)] rfl (s_nil (l_end (l_sub (s0 := ⟨T [(1, (.d _)), (2, (.d _)), (3, (.ptr _ _)), (6, (.ptr _ _)), (9, (.d _)), (10, (.ptr _ _)), (11, (.d _))], G [((3, u1), some (.box 32 _)), ((6, u1), some (.box 46 _)), ((10, u10), some (.box 70 _))]⟩) (sbr rfl rfl) ?_))))))))))))
 refine l_reg fun u23 hu23 => sv rfl (sv rfl (sv rfl (s_nil (l_unroll (l_seq (lr (fun u24 hu24 => sv rfl (sv rfl (sv rfl (g_val _ (.d (.tup [])) rfl (gw_t rfl) nofun (g_val _ (.d (.tup [])) rfl (gw_t rfl) nofun (g_val _ (.d (.tup [])) rfl (gw_t rfl) nofun (g_val _ (.d (.tup [])) rfl (gw_t rfl) nofun (sd rfl (v_and (q := false) rfl nofun rfl) (s_nil (l_condF rfl (l_exit rfl ?_)))))))))))))))))
 cases hy2
 exact l_j ⟨(), (sbr rfl rfl)⟩
 refine l_exit rfl ?_
 cases hy2
 exact l_j ⟨(), (sbr rfl rfl)⟩
 refine l_exit rfl ?_
 cases hy2
 exact l_j ⟨(), (sbr rfl rfl)⟩
 refine l_exit rfl ?_
 cases hy2
 exact l_j ⟨(), (sbr rfl rfl)⟩
 refine l_exit rfl ?_
 cases hy2
 exact l_j ⟨(), (sbr rfl rfl)⟩
 rintro _ ⟨g2, q2⟩
 refine l_sub q2 (l_seq (l_draw rfl fun u25 hu25 => sp rfl rfl (sl rfl G_hit rfl (sv rfl (bs h fun v8 hv8 h => sd rfl (v_idx rfl rfl hv8 rfl) (sd rfl (v_loadLG rfl hv8 rfl rfl) (bs h fun v9 hv9 h => s_call rfl rfl all2_refl (ref09_rear_ok _  _ hv9) (.inl rfl) (sp rfl rfl (sl rfl G_hit rfl (sv rfl (bs h fun v10 hv10 h => sd rfl (v_idx rfl rfl hv10 rfl) (sv rfl (sd rfl (v_loadL rfl hv10 rfl) (sv rfl (sv rfl (s_nil (l_seq (l_draw rfl fun u26 hu26 => sv rfl (sv rfl (sp rfl rfl (sl rfl (gq rfl) rfl (bs h fun v11 hv11 h => s_call rfl rfl all2_refl (ref09_mod_ok _ _  _ hv11) (.inl rfl) (sv rfl (sv rfl (sp rfl rfl (sl rfl (gq rfl) rfl (bs h fun v12 hv12 h => s_call rfl rfl all2_refl (ref09_mod_ok _ _  _ hv12) (.inl rfl) (sv rfl (sv rfl (sp rfl rfl (sl rfl (gq rfl) rfl (bs h fun v13 hv13 h => s_call rfl rfl all2_refl (ref09_mod_ok _ _  _ hv13) (.inl rfl) (sv rfl (sv rfl (sv rfl (sp rfl rfl (sl rfl (gq rfl) rfl (bs h fun v14 hv14 h => s_call rfl rfl all2_refl (ref09_mod_ok _ _  _ hv14) (.inl rfl) (sv rfl (sv rfl (sv rfl (sst rfl (gq rfl) [(di p2), (di (w64 (v9 - v11))), (di (w64 (v9 + v12))), (di (mm2 true 0 (w64 (v10.V - v13)))), (di (mm2 false 2000 (w64 (v10.V + v14))))] rfl (sv rfl (s_nil (l_ret ?_)))))))))))))))))))))))))))))))))))))))))))))
 cases h
 exact fin_ok (.inr rfl) (resD2 (res_cellG rfl G_hit (nl rfl) rfl) (res_t rfl) rf_d rf_d) (.refl _)

noncomputable def law09_wanted_o_l1 (p2 : Int) (x1 : ((List Int) × Int × KitRing)) : Option (Stp ((List Int) × Int × KitRing) ((List Int) × KitRing)) :=
  cond (decide (x1.2.1 < p2)) ((kit_Ring_Next_o x1.2.2 150).bind fun v1 => (appc x1.1 [(w64 (v1.1 - 100))]).bind fun v2 => some (.go (v2, (w64 (x1.2.1 + 1)), v1.2))) (some (.out (x1.1, x1.2.2)))
noncomputable def law09_wanted_o (p1 : KitRing) (p2 : Int) : Option ((List Int) × KitRing) :=
  (loop (law09_wanted_o_l1 p2) ([], 0, p1)).bind fun y1 => some (y1.1, y1.2)

theorem law09_wanted_o_ok (p1 : KitRing) (p2 : Int) (r : ((List Int) × KitRing)) (h : law09_wanted_o p1 p2 = some r) : MCall Tryz.prog 14 [(.ptr (900000, 0) 0), (di p2)] [(.box 60 [(dl eInt_i64 p1.l), (di p1.at_)])] (dl eInt_i64 r.1) [some (.box 60 [(dl eInt_i64 r.2.l), (di r.2.at_)])] [] := by
 refine m_callF (fk Tryz.func14 Tryz.ntmps14 (fun r => if r == 5 then [1005002, 1004] else []) (by with_unfolding_all rfl)) rfl (nl rfl) ?_
 unfold law09_wanted_o at h
 refine l_sub (s0 := ⟨T [(0, (.ptr _ _)), (1, (.d _))], G [((900000, 0), some (.box 60 _))]⟩) (sbr rfl rfl) ?_
 refine lr (fun u1 hu1 => sv rfl (s_nil (lr (fun u2 hu2 => sv rfl (s_nil (l_seq (lr (fun u3 hu3 => sv rfl (s_nil (bs h fun y1 hy1 h => l_join (fun s => ∃ g1 : Nat, Sb ⟨T [(0, (.ptr (900000, 0) 0)), (5, (oS y1.1 (17, g1)))], G [((900000, 0), some (.box 60 [(dl eInt_i64 y1.2.l), (di y1.2.at_)])), ((17, g1), oB 2 1 eInt_i64 y1.1)]⟩ s) ?_ ?_))))))))))
 refine l_block (l_loop (law09_wanted_o_l1 p2) (fun (x1 : ((List Int) × Int × KitRing)) (g2 : Nat) => ⟨T [(0, (.ptr (900000, 0) 0)), (1, (di p2)), (5, (oS x1.1 (17, g2))), (6, (di x1.2.1))], G [((900000, 0), some (.box 60 [(dl eInt_i64 x1.2.2.l), (di x1.2.2.at_)])), ((17, g2), oB 2 1 eInt_i64 x1.1)]⟩) ([], 0, p1) 0 _ hy1 (sb_of ⟨.of rfl, .of rfl, .of rfl, .of rfl, trivial⟩ (sbG_some G_hit (.of rfl) (sbG_nil trivial))) ?_)
 intro x1 g2 z1 hz1 ez1
 unfold law09_wanted_o_l1 at hz1
 refine l_seq (lr (fun u4 hu4 => sv rfl (sv rfl (sv rfl (s_nil (cc rfl hz1 (fun c1 hz1 => ?_) (fun c1 hz1 => ?_)))))))
 refine l_skip (l_seq (l_block (l_reg fun u5 hu5 => s_val (oS x1.1 (17, g2)) rfl rfl (sp rfl rfl (bs hz1 fun v1 hv1 hz1 => s_oc (v := .d (i64 v1.1)) (us := [(900000, 0)]) (oc_m (kit_Ring_Next_o_ok _ _ _ hv1) [(900000, 0)] [(900000, 0)] _ (((900000, 0), some (.box 60 [(dl eInt_i64 v1.2.l), (di v1.2.at_)])) :: _) rfl all2_av (kl_cons (kr_ptr G_hit rfl) (kl_cons kr_d kl_nil)) (live_cons G_hit live_nil) ⟨⟨_, G_hit, .of rfl⟩, trivial⟩ (fun _ h => h) nd1 rfl rfl rfl) (sv rfl (s_val (dl eInt_i64 [(w64 (v1.1 - 100))]) rfl rfl (bs hz1 fun v2 hv2 hz1 => s_appendO eInt_i64 (17, g2) x1.1 (w64 (v1.1 - 100)) [] _ (elems_list (fun _ => rfl)) rfl (gq rfl) hv2 (ss rfl (s_nil (l_end (l_reg fun u6 hu6 => sv rfl (sv rfl (sv rfl (s_nil (l_nil ?_))))))))))))))))
 cases hz1
 exact ⟨rfl, u5, (sb_of ⟨.of rfl, .of rfl, (.of (oS_ne (appc_ne hv2)).symm), .of rfl, trivial⟩ (sg rfl (sbG_own G_hit trivial)))⟩
 refine l_exitN rfl ?_
 cases hz1
 obtain rfl := ez1 _ rfl
 refine ⟨nofun, awl_pop rfl (l_j ?_)⟩
 exact ⟨g2, (sb_of ⟨.of rfl, .of rfl, trivial⟩ (sbG_some G_hit (.of rfl) (sbG_oB (gq rfl) trivial)))⟩
 rintro _ ⟨g1, q1⟩
 refine l_sub q1 (lr (fun u7 hu7 => s_val (oS y1.1 (17, g1)) rfl rfl (s_val (oS y1.1 (17, g1)) rfl rfl (s_nil (l_ret ?_)))))
 cases h
 exact fin_mf (.inr rfl) [(17, g1)] (resDF1 (res_t rfl) (rf_oS (rs_in (.head _) (gq rfl)))) oD_le ⟨⟨_, _, _, G_hit, (old_notin rfl old_notin_nil), rfl, all2_d, rfl⟩, trivial⟩

noncomputable def convoy_Step_1 (p1 : Mate) : Option Bool :=
  some (decide (p1.S > 1099511625776))

theorem convoy_Step_1_ok (p1 : Mate) (r : Bool) (h : convoy_Step_1 p1 = some r) : PCall Tryz.prog 30 [(.agg (eMate p1))] (bo r) := by
 refine l_call (fk Tryz.func30 Tryz.ntmps30 m0 (by with_unfolding_all rfl)) (nl rfl) ?_
 unfold convoy_Step_1 at h
 refine l_sub (s0 := ⟨T [(0, (.d _))], G []⟩) (sbr rfl rfl) ?_
 refine lr (fun u1 hu1 => sn rfl rfl (sv rfl (s_nil (lr (fun u2 hu2 => sp rfl rfl (sl rfl G_hit rfl (sv rfl (sv rfl (s_nil (l_ret ?_))))))))))
 cases h
 exact fin_ok (.inr rfl) (resD1 (res_t rfl) rf_d) (.refl _)

noncomputable def slices_IndexFunc_Mate_Mate_convoy_Step_1_l1 (p1 : (List Mate)) (x1 : Int) : Option (Stp Int (Sum Unit Int)) :=
  cond (decide (x1 < (p1.length : Int))) ((geti p1 x1).bind fun v1 => (convoy_Step_1 v1).bind fun v2 => cond v2 (some (.out (.inr x1))) (some (.go (w64 (x1 + 1))))) (some (.out (.inl ())))
noncomputable def slices_IndexFunc_Mate_Mate_convoy_Step_1 (p1 : (List Mate)) : Option Int :=
  thenS (loop (slices_IndexFunc_Mate_Mate_convoy_Step_1_l1 p1) 0) (fun _ => some (-1)) (fun r => some r)

theorem slices_IndexFunc_Mate_Mate_convoy_Step_1_ok (p1 : (List Mate)) (r : Int) (h : slices_IndexFunc_Mate_Mate_convoy_Step_1 p1 = some r) : PCall Tryz.prog 62 [(.list (List.map eMate p1)), (.fn (.func 30) [] [])] (i64 r) := by
 refine l_call (fk Tryz.func62 Tryz.ntmps62 m0 (by with_unfolding_all rfl)) (nl rfl) ?_
 unfold slices_IndexFunc_Mate_Mate_convoy_Step_1 at h
 refine l_sub (s0 := ⟨T [(0, (.d _)), (1, (.d _))], G []⟩) (sbr rfl rfl) ?_
 refine lr (fun u1 hu1 => sv rfl (s_nil (l_seq (lr (fun u2 hu2 => sv rfl (sd rfl (v_len rfl) (sv rfl (s_nil (js h fun z1 hz1 h => l_join (fun s => ∃ (y1 : Unit) (g1 : Unit), z1 = .inl y1 ∧ Sb ⟨T [], G []⟩ s) ?_ ?_)))))))))
 refine l_block (l_loop (slices_IndexFunc_Mate_Mate_convoy_Step_1_l1 p1) (fun (x1 : Int) (g2 : Unit) => ⟨T [(0, (dl eMate p1)), (1, (.d (.fn (.func 30) [] []))), (7, (di (p1.length : Int))), (8, (di x1))], G []⟩) 0 () _ hz1 (sbr rfl rfl) ?_)
 intro x1 g2 z2 hz2 ez2
 unfold slices_IndexFunc_Mate_Mate_convoy_Step_1_l1 at hz2
 refine lr (fun u3 hu3 => sv rfl (s_nil (l_seq (cc rfl hz2 (fun c1 hz2 => ?_) (fun c1 hz2 => ?_)))))
 refine l_skip (l_seq (l_block (lr (fun u4 hu4 => sv rfl (sv rfl (s_nil (lr (fun u5 hu5 => sv rfl (sv rfl (sv rfl (bs hz2 fun v1 hv1 hz2 => sd rfl (v_idx rfl rfl hv1 rfl) (sd rfl (v_loadLG rfl hv1 rfl rfl) (bs hz2 fun v2 hv2 hz2 => s_call rfl rfl all2_refl (convoy_Step_1_ok _  _ hv2) (.inl rfl) (s_nil (cc rfl hz2 (fun c2 hz2 => ?_) (fun c2 hz2 => ?_))))))))))))))))
 refine lr (fun u6 hu6 => sv rfl (sv rfl (s_nil (l_ret ?_))))
 cases hz2
 obtain rfl := ez2 _ rfl
 refine ⟨nofun, awl_ret ?_⟩
 rw [Sum.elim_inr] at h
 cases h
 exact fin_ok (.inr rfl) (resD1 (res_t rfl) rf_d) (.refl _)
 refine l_skip (l_end (l_reg fun u7 hu7 => sv rfl (sv rfl (s_nil (l_nil ?_)))))
 cases hz2
 exact ⟨rfl, (), (sbr rfl rfl)⟩
 refine l_exitN rfl ?_
 cases hz2
 obtain rfl := ez2 _ rfl
 refine ⟨nofun, awl_pop rfl (l_j ?_)⟩
 exact ⟨_, (), rfl, (sbr rfl rfl)⟩
 rintro _ ⟨y1, g1, rfl, q1⟩
 rw [Sum.elim_inl] at h
 refine l_sub q1 (lr (fun u8 hu8 => sv rfl (s_nil (l_ret ?_))))
 cases h
 exact fin_ok (.inr rfl) (resD1 (res_t rfl) rf_d) (.refl _)

noncomputable def slices_ContainsFunc_Mate_Mate_convoy_Step_1 (p1 : (List Mate)) : Option Bool :=
  (slices_IndexFunc_Mate_Mate_convoy_Step_1 p1).bind fun v1 => some (decide (v1 ≥ 0))

theorem slices_ContainsFunc_Mate_Mate_convoy_Step_1_ok (p1 : (List Mate)) (r : Bool) (h : slices_ContainsFunc_Mate_Mate_convoy_Step_1 p1 = some r) : PCall Tryz.prog 31 [(.list (List.map eMate p1)), (.fn (.func 30) [] [])] (bo r) := by
 refine l_call (fk Tryz.func31 Tryz.ntmps31 m0 (by with_unfolding_all rfl)) (nl rfl) ?_
 unfold slices_ContainsFunc_Mate_Mate_convoy_Step_1 at h
 refine l_sub (s0 := ⟨T [(0, (.d _)), (1, (.d _))], G []⟩) (sbr rfl rfl) ?_
 refine lr (fun u1 hu1 => sv rfl (s_nil (lr (fun u2 hu2 => sv rfl (sv rfl (bs h fun v1 hv1 h => s_call rfl rfl all2_refl (slices_IndexFunc_Mate_Mate_convoy_Step_1_ok _  _ hv1) (.inl rfl) (sv rfl (sv rfl (s_nil (l_ret ?_))))))))))
 cases h
 exact fin_ok (.inr rfl) (resD1 (res_t rfl) rf_d) (.refl _)

noncomputable def convoy_counts (p1 : Note) (p2 : Int) : Option Bool :=
  ((cond ((((decide (p1.Kind ≥ 1)) && (decide (p1.Kind ≤ 4))) && (decide (p1.From ≥ 1))) && (decide (p1.From ≤ 99))) (convoy_within p1.Stamp (mm2 true 0 (w64 (p2 - 20))) p2) (some default))).bind fun v1 => ((cond (((((decide (p1.Kind ≥ 1)) && (decide (p1.Kind ≤ 4))) && (decide (p1.From ≥ 1))) && (decide (p1.From ≤ 99))) && v1) (convoy_fairGuess (Guess.mk p1.R p1.V)) (some default))).bind fun v2 => ((cond ((((((decide (p1.Kind ≥ 1)) && (decide (p1.Kind ≤ 4))) && (decide (p1.From ≥ 1))) && (decide (p1.From ≤ 99))) && v1) && v2) (convoy_within p1.Until 0 2199023255552) (some default))).bind fun v3 => some (((((((decide (p1.Kind ≥ 1)) && (decide (p1.Kind ≤ 4))) && (decide (p1.From ≥ 1))) && (decide (p1.From ≤ 99))) && v1) && v2) && v3)

theorem convoy_counts_ok (p1 : Note) (p2 : Int) (r : Bool) (h : convoy_counts p1 p2 = some r) : PCall Tryz.prog 64 [(.agg (eNote p1)), (i64 p2)] (bo r) := by
 refine l_call (fk Tryz.func64 Tryz.ntmps64 m0 (by with_unfolding_all rfl)) (nl rfl) ?_
 unfold convoy_counts at h
 refine l_sub (s0 := ⟨T [(0, (.d _)), (1, (.d _))], G []⟩) (sbr rfl rfl) ?_
 refine lr (fun u1 hu1 => sn rfl rfl (sv rfl (s_nil (lr (fun u2 hu2 => sp rfl rfl (sl rfl G_hit rfl (sv rfl (sv rfl (gp rfl (gw_t rfl) (fun _ => rfl) (gt rfl (vl rfl G_hit rfl) (gt rfl (vb rfl rfl rfl) (sa rfl rfl rfl (sv rfl (gp rfl (gw_t rfl) (fun _ => rfl) (gt rfl (vl rfl G_hit rfl) (gt rfl (vb rfl rfl rfl) (sa rfl rfl rfl (sv rfl (gp rfl (gw_t rfl) (fun _ => rfl) (gt rfl (vl rfl G_hit rfl) (gt rfl (vb rfl rfl rfl) (sa rfl rfl rfl (sv rfl (gp rfl (gw_t rfl) (fun _ => rfl) (gt rfl (vl rfl G_hit rfl) (gt rfl (fun _ => rfl) (gt rfl (vb rfl rfl rfl) ?_)))))))))))))))))))))))))))
 refine gt rfl (fun w14 => (by simp only [gd_pos w14]; rfl)) ?_
 refine gt rfl (fun _ => rfl) (bs h fun v1 hv1 h => ?_)
 refine g_call _ (bo v1) (gw_t rfl) (fun w16 => ⟨_, [(di p1.Stamp), (di (mm2 true 0 (w64 (p2 - 20)))), (di p2)], _, _, (by simp only [gd_pos w16]; rfl), rfl, all2_refl, convoy_within_ok _ _ _  _ (cond_t w16 hv1), (.inl rfl)⟩) ?_
 refine sa rfl rfl rfl (sv rfl (gp rfl (gw_t rfl) (fun _ => rfl) (gt rfl (vl rfl G_hit rfl) (gp rfl (gw_t rfl) (fun _ => rfl) (gt rfl (vl rfl G_hit rfl) ?_)))))
 refine gt rfl (fun w21 => (by simp only [gd_pos w21]; rfl)) ?_
 refine bs h fun v2 hv2 h => ?_
 refine g_call _ (bo v2) (gw_t rfl) (fun w22 => ⟨_, [(.d (.agg [(i64 p1.R), (i64 p1.V)]))], _, _, (by simp only [gd_pos w22]; rfl), rfl, all2_refl, convoy_fairGuess_ok _  _ (cond_t w22 hv2), (.inl rfl)⟩) ?_
 refine sa rfl rfl rfl (sv rfl (gp rfl (gw_t rfl) (fun _ => rfl) (gt rfl (vl rfl G_hit rfl) (bs h fun v3 hv3 h => ?_))))
 refine g_call _ (bo v3) (gw_t rfl) (fun w25 => ⟨_, [(di p1.Until), (di 0), (di 2199023255552)], _, _, (by simp only [gd_pos w25]; rfl), rfl, all2_refl, convoy_within_ok _ _ _  _ (cond_t w25 hv3), (.inl rfl)⟩) ?_
 refine sa rfl rfl rfl (sv rfl (s_nil (l_ret ?_)))
 cases h
 exact fin_ok (.inr rfl) (resD1 (res_t rfl) rf_d) (.refl _)

noncomputable def convoy_Age_l1 (p2 : Int) (x1 : (Int × Guess)) : Option (Stp (Int × Guess) Guess) :=
  cond (decide (x1.1 < (mm2 true 0 (mm2 false p2 30)))) (some (.go ((w64 (x1.1 + 1)), (Guess.mk (w64 (x1.2.R + (mm2 true 0 (w64 (x1.2.V - 90))))) (mm2 true 0 (w64 (x1.2.V - 90))))))) (some (.out x1.2))
noncomputable def convoy_Age (p1 : Guess) (p2 : Int) : Option Guess :=
  (convoy_sane [p1.R, p1.V]).bind fun v1 => cond (!v1) (some (Guess.mk 0 0)) ((loop (convoy_Age_l1 p2) (0, p1)).bind fun y1 => some y1)

theorem convoy_Age_ok (p1 : Guess) (p2 : Int) (r : Guess) (h : convoy_Age p1 p2 = some r) : PCall Tryz.prog 48 [(.agg [(i64 p1.R), (i64 p1.V)]), (i64 p2)] (.agg [(i64 r.R), (i64 r.V)]) := by
 refine l_call (fk Tryz.func48 Tryz.ntmps48 (fun r => if r == 1 then [1004] else []) (by with_unfolding_all rfl)) (nl rfl) ?_
 unfold convoy_Age at h
 refine l_sub (s0 := ⟨T [(0, (.d _)), (1, (.d _))], G []⟩) (sbr rfl rfl) ?_
 refine lr (fun u1 hu1 => sn rfl rfl (sn rfl rfl (s_nil (l_seq (lr (fun u2 hu2 => sp rfl rfl (sl rfl (gq rfl) rfl (sp rfl rfl (sl rfl (gq rfl) rfl (s_val (dl eInt_i64 [p1.R, p1.V]) rfl rfl (bs h fun v1 hv1 h => s_call rfl rfl all2_refl (convoy_sane_ok _  _ hv1) (.inl rfl) (s_val (.d (bo (!v1))) rfl rfl (s_nil (cc rfl h (fun c1 h => ?_) (fun c1 h => ?_)))))))))))))))
 refine lr (fun u3 hu3 => sv rfl (sst rfl G_hit [(di 0), (di 0)] rfl (s_nil (l_ret ?_))))
 cases h
 exact fin_ok (.inr rfl) (resD1 (res_cellG rfl G_hit (nl rfl) rfl) rf_d) (.refl _)
 refine l_skip (l_seq (lr (fun u4 hu4 => sv rfl (sv rfl (sv rfl (sv rfl (s_nil (bs h fun y1 hy1 h => l_join (fun s => ∃ g1 : Unit, Sb ⟨T [(2, (.ptr (2, u1) 0)), (4, (.ptr (4, u1) 0))], G [((2, u1), some (.box 28 [(di y1.R), (di y1.V)])), ((4, u1), some (.box 28 [(di 0), (di 0)]))]⟩ s) ?_ ?_))))))))
 refine l_block (l_loop (convoy_Age_l1 p2) (fun (x1 : (Int × Guess)) (g2 : Unit) => ⟨T [(2, (.ptr (2, u1) 0)), (4, (.ptr (4, u1) 0)), (15, (di (mm2 true 0 (mm2 false p2 30)))), (16, (di x1.1))], G [((2, u1), some (.box 28 [(di x1.2.R), (di x1.2.V)])), ((4, u1), some (.box 28 [(di 0), (di 0)]))]⟩) (0, p1) () _ hy1 (sbr rfl rfl) ?_)
 intro x1 g2 z1 hz1 ez1
 unfold convoy_Age_l1 at hz1
 refine lr (fun u5 hu5 => sv rfl (s_nil (l_seq (cc rfl hz1 (fun c2 hz1 => ?_) (fun c2 hz1 => ?_)))))
 refine l_skip (l_seq (l_block (lr (fun u6 hu6 => sp rfl rfl (sl rfl G_hit rfl (sv rfl (sv rfl (sp rfl rfl (sst rfl G_hit [(di x1.2.R), (di (mm2 true 0 (w64 (x1.2.V - 90))))] rfl (s_nil (l_reg fun u7 hu7 => sp rfl rfl (sl rfl G_hit rfl (sp rfl rfl (sl rfl G_hit rfl (sv rfl (sp rfl rfl (sst rfl G_hit [(di (w64 (x1.2.R + (mm2 true 0 (w64 (x1.2.V - 90)))))), (di (mm2 true 0 (w64 (x1.2.V - 90))))] rfl (s_nil (l_end (l_reg fun u8 hu8 => sv rfl (sv rfl (s_nil (l_nil ?_)))))))))))))))))))))))
 cases hz1
 exact ⟨rfl, (), (sbr rfl rfl)⟩
 refine l_exitN rfl ?_
 cases hz1
 obtain rfl := ez1 _ rfl
 refine ⟨nofun, awl_pop rfl (l_j ?_)⟩
 exact ⟨(), (sbr rfl rfl)⟩
 rintro _ ⟨g1, q1⟩
 refine l_sub q1 (lr (fun u9 hu9 => sd rfl (v_loadG rfl G_hit rfl rfl) (sst rfl (gq rfl) [(di y1.R), (di y1.V)] rfl (s_nil (l_ret ?_)))))
 cases h
 exact fin_ok (.inr rfl) (resD1 (res_cellG rfl G_hit (nl rfl) rfl) rf_d) (.refl _)

noncomputable def convoy_post_l1 (p1 : (List Note)) (p2 : Int) (x1 : ((List ConvoyLetter) × Int)) : Option (Stp ((List ConvoyLetter) × Int) (List ConvoyLetter)) :=
  cond (decide (x1.2 < (p1.length : Int))) ((geti p1 x1.2).bind fun v1 => (convoy_counts v1 p2).bind fun v2 => cond v2 ((convoy_Age (Guess.mk v1.R v1.V) (w64 (p2 - v1.Stamp))).bind fun v3 => (appc x1.1 [(ConvoyLetter.mk v1 v3)]).bind fun v4 => some (.go (v4, (w64 (x1.2 + 1))))) (some (.go (x1.1, (w64 (x1.2 + 1)))))) (some (.out x1.1))
noncomputable def convoy_post (p1 : (List Note)) (p2 : Int) : Option (List ConvoyLetter) :=
  (loop (convoy_post_l1 p1 p2) ([], 0)).bind fun y1 => some y1

theorem convoy_post_ok (p1 : (List Note)) (p2 : Int) (r : (List ConvoyLetter)) (h : convoy_post p1 p2 = some r) : PCall Tryz.prog 33 [(.list (List.map eNote p1)), (i64 p2)] (.list (List.map eConvoyLetter r)) := by
 refine l_call (fk Tryz.func33 Tryz.ntmps33 (fun r => if r == 6 then [1013] else []) (by with_unfolding_all rfl)) (nl rfl) ?_
 unfold convoy_post at h
 refine l_sub (s0 := ⟨T [(0, (.d _)), (1, (.d _))], G []⟩) (sbr rfl rfl) ?_
 refine lr (fun u1 hu1 => sv rfl (s_nil (lr (fun u2 hu2 => sv rfl (s_nil (l_seq (lr (fun u3 hu3 => sv rfl (sd rfl (v_len rfl) (sv rfl (s_nil (bs h fun y1 hy1 h => l_join (fun s => ∃ g1 : Nat, Sb ⟨T [(5, (oS y1 (31, g1)))], G [((31, g1), oB 105 9 eConvoyLetter y1)]⟩ s) ?_ ?_))))))))))))
 refine l_block (l_loop (convoy_post_l1 p1 p2) (fun (x1 : ((List ConvoyLetter) × Int)) (g2 : Nat) => ⟨T [(1, (di p2)), (5, (oS x1.1 (31, g2))), (8, (dl eNote p1)), (9, (di (p1.length : Int))), (10, (di x1.2))], G [((31, g2), oB 105 9 eConvoyLetter x1.1)]⟩) ([], 0) 0 _ hy1 (sb_of ⟨.of rfl, .of rfl, .of rfl, .of rfl, .of rfl, trivial⟩ (sbG_nil trivial)) ?_)
 intro x1 g2 z1 hz1 ez1
 unfold convoy_post_l1 at hz1
 refine lr (fun u4 hu4 => sv rfl (s_nil (l_seq (cc rfl hz1 (fun c1 hz1 => ?_) (fun c1 hz1 => ?_)))))
 refine l_skip (l_seq (l_block (lr (fun u5 hu5 => bs hz1 fun v1 hv1 hz1 => sd rfl (v_idx rfl rfl hv1 rfl) (sd rfl (v_loadLG rfl hv1 rfl rfl) (sn rfl rfl (sst rfl G_hit (dNote v1) rfl (s_nil (lr (fun u6 hu6 => sd rfl (v_loadG rfl G_hit rfl rfl) (sv rfl (bs hz1 fun v2 hv2 hz1 => s_call rfl rfl all2_refl (convoy_counts_ok _ _  _ hv2) (.inl rfl) (s_nil (cc rfl hz1 (fun c2 hz1 => ?_) (fun c2 hz1 => ?_)))))))))))))))
 refine l_draw rfl fun u7 hu7 => s_val (oS x1.1 (31, g2)) rfl rfl (sd rfl (v_loadG rfl G_hit rfl rfl) (sp rfl rfl (sl rfl G_hit rfl (sp rfl rfl (sl rfl G_hit rfl (sv rfl (sv rfl (sp rfl rfl (sl rfl G_hit rfl (sv rfl (bs hz1 fun v3 hv3 hz1 => s_call rfl rfl all2_refl (convoy_Age_ok _ _  _ hv3) (.inl rfl) (sv rfl (s_val (dl eConvoyLetter [(ConvoyLetter.mk v1 v3)]) rfl (v_dsliceN eConvoyLetter ([(ConvoyLetter.mk v1 v3)] : List ConvoyLetter) (fun _ => rfl) rfl rfl ⟨rfl, rfl, rfl, trivial⟩) (bs hz1 fun v4 hv4 hz1 => s_appendO eConvoyLetter (31, g2) x1.1 (ConvoyLetter.mk v1 v3) [] _ (elems_list (fun _ => rfl)) rfl (gq rfl) hv4 (ss rfl (s_nil (l_end (l_sub (s0 := ⟨T [(1, (.d _)), (5, (.sl _)), (8, (.d _)), (9, (.d _)), (10, (.d _))], G [((31, u7), some _)]⟩) (sbr rfl rfl) ?_))))))))))))))))))
 refine l_reg fun u8 hu8 => sv rfl (sv rfl (s_nil (l_nil ?_)))
 cases hz1
 exact ⟨rfl, u7, (sb_of ⟨.of rfl, (.of (oS_ne (appc_ne hv4)).symm), .of rfl, .of rfl, .of rfl, trivial⟩ (sbG_own G_hit trivial))⟩
 refine l_skip (l_end (l_reg fun u9 hu9 => sv rfl (sv rfl (s_nil (l_nil ?_)))))
 cases hz1
 exact ⟨rfl, g2, (sb_of ⟨.of rfl, .of rfl, .of rfl, .of rfl, .of rfl, trivial⟩ (sbG_oB (gq rfl) trivial))⟩
 refine l_exitN rfl ?_
 cases hz1
 obtain rfl := ez1 _ rfl
 refine ⟨nofun, awl_pop rfl (l_j ?_)⟩
 exact ⟨g2, (sb_of ⟨.of rfl, trivial⟩ (sbG_oB G_hit trivial))⟩
 rintro _ ⟨g1, q1⟩
 refine l_sub q1 (lr (fun u10 hu10 => s_val (oS y1 (31, g1)) rfl rfl (s_val (oS y1 (31, g1)) rfl rfl (s_nil (l_ret ?_)))))
 cases h
 exact fin_ok (.inr rfl) (resD1 (res_t rfl) (rf_oS G_hit)) oD_le

noncomputable def convoy_look_1_b (p1 : Sight) (p2 : Int) : Option Bool :=
  some (((((((p1.By == p2) && (decide (p1.Lo ≤ p1.Hi))) && (decide (p1.VLo ≤ p1.VHi))) && (decide (p1.Lo ≥ (-20000)))) && (decide (p1.Hi ≤ 2199023255552))) && (decide (p1.VLo ≥ 0))) && (decide (p1.VHi ≤ 2000)))

theorem convoy_look_1_b_ok (p1 : Sight) (p2 : Int) (r : Bool) (h : convoy_look_1_b p1 p2 = some r) : PCall Tryz.prog 66 [(.agg (eSight p1)), (.bp [(i64 p2)] 0)] (bo r) := by
 refine l_call (fk Tryz.func66 Tryz.ntmps66 m0 (by with_unfolding_all rfl)) (nl rfl) ?_
 unfold convoy_look_1_b at h
 refine l_sub (s0 := ⟨T [(0, (.d _)), (1, (.d _))], G []⟩) (sbr rfl rfl) ?_
 refine lr (fun u1 hu1 => sn rfl rfl (sv rfl (s_nil (lr (fun u2 hu2 => sp rfl rfl (sl rfl G_hit rfl (sv rfl (sv rfl (sv rfl (gp rfl (gw_t rfl) (fun _ => rfl) (gt rfl (vl rfl G_hit rfl) (gp rfl (gw_t rfl) (fun _ => rfl) (gt rfl (vl rfl G_hit rfl) (gt rfl (fun w5 => (v_bin (gd_pos w5) (gd_pos w5) rfl)) (sa rfl rfl rfl (sv rfl (gp rfl (gw_t rfl) (fun _ => rfl) (gt rfl (vl rfl G_hit rfl) (gp rfl (gw_t rfl) (fun _ => rfl) (gt rfl (vl rfl G_hit rfl) (gt rfl (fun w10 => (v_bin (gd_pos w10) (gd_pos w10) rfl)) (sa rfl rfl rfl (sv rfl (gp rfl (gw_t rfl) (fun _ => rfl) (gt rfl (vl rfl G_hit rfl) (gt rfl (vb rfl rfl rfl) (sa rfl rfl rfl (sv rfl (gp rfl (gw_t rfl) (fun _ => rfl) (gt rfl (vl rfl G_hit rfl) (gt rfl (vb rfl rfl rfl) (sa rfl rfl rfl (sv rfl (gp rfl (gw_t rfl) (fun _ => rfl) (gt rfl (vl rfl G_hit rfl) (gt rfl (vb rfl rfl rfl) (sa rfl rfl rfl (sv rfl (gp rfl (gw_t rfl) (fun _ => rfl) (gt rfl (vl rfl G_hit rfl) (gt rfl (vb rfl rfl rfl) (sa rfl rfl rfl (sv rfl (s_nil (l_ret ?_)))))))))))))))))))))))))))))))))))))))))))))
 cases h
 exact fin_ok (.inr rfl) (resD1 (res_t rfl) rf_d) (.refl _)

noncomputable def slices_IndexFunc_Sight_Sight_convoy_look_1b_l1 (p1 : (List Sight)) (p2 : Int) (x1 : Int) : Option (Stp Int (Sum Unit Int)) :=
  cond (decide (x1 < (p1.length : Int))) ((geti p1 x1).bind fun v1 => (convoy_look_1_b v1 p2).bind fun v2 => cond v2 (some (.out (.inr x1))) (some (.go (w64 (x1 + 1))))) (some (.out (.inl ())))
noncomputable def slices_IndexFunc_Sight_Sight_convoy_look_1b (p1 : (List Sight)) (p2 : Int) : Option Int :=
  thenS (loop (slices_IndexFunc_Sight_Sight_convoy_look_1b_l1 p1 p2) 0) (fun _ => some (-1)) (fun r => some r)

theorem slices_IndexFunc_Sight_Sight_convoy_look_1b_ok (p1 : (List Sight)) (p2 : Int) (r : Int) (h : slices_IndexFunc_Sight_Sight_convoy_look_1b p1 p2 = some r) : PCall Tryz.prog 65 [(.list (List.map eSight p1)), (.fn (.func 66) [] [(.bp [(i64 p2)] 0)])] (i64 r) := by
 refine l_call (fk Tryz.func65 Tryz.ntmps65 m0 (by with_unfolding_all rfl)) (nl rfl) ?_
 unfold slices_IndexFunc_Sight_Sight_convoy_look_1b at h
 refine l_sub (s0 := ⟨T [(0, (.d _)), (1, (.d _))], G []⟩) (sbr rfl rfl) ?_
 refine lr (fun u1 hu1 => sv rfl (s_nil (l_seq (lr (fun u2 hu2 => sv rfl (sd rfl (v_len rfl) (sv rfl (s_nil (js h fun z1 hz1 h => l_join (fun s => ∃ (y1 : Unit) (g1 : Unit), z1 = .inl y1 ∧ Sb ⟨T [], G []⟩ s) ?_ ?_)))))))))
 refine l_block (l_loop (slices_IndexFunc_Sight_Sight_convoy_look_1b_l1 p1 p2) (fun (x1 : Int) (g2 : Unit) => ⟨T [(0, (dl eSight p1)), (1, (.d (.fn (.func 66) [] [(.bp [(i64 p2)] 0)]))), (7, (di (p1.length : Int))), (8, (di x1))], G []⟩) 0 () _ hz1 (sbr rfl rfl) ?_)
 intro x1 g2 z2 hz2 ez2
 unfold slices_IndexFunc_Sight_Sight_convoy_look_1b_l1 at hz2
 refine lr (fun u3 hu3 => sv rfl (s_nil (l_seq (cc rfl hz2 (fun c1 hz2 => ?_) (fun c1 hz2 => ?_)))))
 refine l_skip (l_seq (l_block (lr (fun u4 hu4 => sv rfl (sv rfl (s_nil (lr (fun u5 hu5 => sv rfl (sv rfl (sv rfl (bs hz2 fun v1 hv1 hz2 => sd rfl (v_idx rfl rfl hv1 rfl) (sd rfl (v_loadLG rfl hv1 rfl rfl) (bs hz2 fun v2 hv2 hz2 => s_call rfl rfl all2_refl (convoy_look_1_b_ok _ _  _ hv2) (.inl rfl) (s_nil (cc rfl hz2 (fun c2 hz2 => ?_) (fun c2 hz2 => ?_))))))))))))))))
 refine lr (fun u6 hu6 => sv rfl (sv rfl (s_nil (l_ret ?_))))
 cases hz2
 obtain rfl := ez2 _ rfl
 refine ⟨nofun, awl_ret ?_⟩
 rw [Sum.elim_inr] at h
 cases h
 exact fin_ok (.inr rfl) (resD1 (res_t rfl) rf_d) (.refl _)
 refine l_skip (l_end (l_reg fun u7 hu7 => sv rfl (sv rfl (s_nil (l_nil ?_)))))
 cases hz2
 exact ⟨rfl, (), (sbr rfl rfl)⟩
 refine l_exitN rfl ?_
 cases hz2
 obtain rfl := ez2 _ rfl
 refine ⟨nofun, awl_pop rfl (l_j ?_)⟩
 exact ⟨_, (), rfl, (sbr rfl rfl)⟩
 rintro _ ⟨y1, g1, rfl, q1⟩
 rw [Sum.elim_inl] at h
 refine l_sub q1 (lr (fun u8 hu8 => sv rfl (s_nil (l_ret ?_))))
 cases h
 exact fin_ok (.inr rfl) (resD1 (res_t rfl) rf_d) (.refl _)

noncomputable def convoy_look (p1 : (List Sight)) (p2 : Int) : Option (Sight × Bool) :=
  (slices_IndexFunc_Sight_Sight_convoy_look_1b p1 p2).bind fun v1 => cond (decide (v1 < 0)) (some ((Sight.mk 0 0 0 0 0), false)) ((geti p1 v1).bind fun v2 => some (v2, true))

theorem convoy_look_ok (p1 : (List Sight)) (p2 : Int) (r : (Sight × Bool)) (h : convoy_look p1 p2 = some r) : PCall Tryz.prog 34 [(.list (List.map eSight p1)), (i64 p2)] (.tup [(.agg (eSight r.1)), (bo r.2)]) := by
 refine l_call (fk Tryz.func34 Tryz.ntmps34 m0 (by with_unfolding_all rfl)) (nl rfl) ?_
 unfold convoy_look at h
 refine l_sub (s0 := ⟨T [(0, (.d _)), (1, (.d _))], G []⟩) (sbr rfl rfl) ?_
 refine lr (fun u1 hu1 => sn rfl rfl (sn rfl rfl (sv rfl (s_nil (lr (fun u2 hu2 => sv rfl (s_val (.fn _ _ _) rfl rfl (bs h fun v1 hv1 h => s_call rfl (rD (rfL_cons (rf_fn rfL_nil (rfL_cons (rf_ptr (gq rfl) (rD rfL_nil)) rfL_nil)) rfL_nil)) all2_refl (slices_IndexFunc_Sight_Sight_convoy_look_1b_ok _ _  _ hv1) (.inr rfl) (sv rfl (s_nil (l_seq (lr (fun u3 hu3 => sv rfl (sv rfl (s_nil (cc rfl h (fun c1 h => ?_) (fun c1 h => ?_)))))))))))))))))
 refine lr (fun u4 hu4 => sv rfl (sst rfl G_hit (zs 5) rfl (sv rfl (s_nil (l_ret ?_)))))
 cases h
 exact fin_ok (.inr rfl) (resD2 (res_cellG rfl G_hit (nl rfl) rfl) (res_t rfl) rf_d rf_d) (.refl _)
 refine l_skip (lr (fun u5 hu5 => sv rfl (sv rfl (bs h fun v2 hv2 h => sd rfl (v_idx rfl rfl hv2 rfl) (sd rfl (v_loadLG rfl hv2 rfl rfl) (sst rfl G_hit (dSight v2) rfl (sv rfl (s_nil (l_ret ?_)))))))))
 cases h
 exact fin_ok (.inr rfl) (resD2 (res_cellG rfl G_hit (nl rfl) rfl) (res_t rfl) rf_d rf_d) (.refl _)

noncomputable def convoy_hears (p1 : Int) : Option Nat :=
  (getf [none, some 105, some 106, some 107, some 108] p1).bind fun v1 => some v1

theorem convoy_hears_ok (p1 : Int) (r : Nat) (h : convoy_hears p1 = some r) : PCall Tryz.prog 67 [(i64 p1)] (.fn (.func r) [] []) := by
 refine l_call (fk Tryz.func67 Tryz.ntmps67 m0 (by with_unfolding_all rfl)) (nl rfl) ?_
 unfold convoy_hears at h
 refine l_sub (s0 := ⟨T [(0, (.d _))], G []⟩) (sbr rfl rfl) ?_
 refine lr (fun u1 hu1 => sv rfl (s_nil (lr (fun u2 hu2 => sv rfl (sv rfl (bs h fun v1 hv1 h => sd rfl (v_idxF (fs := [none, some 105, some 106, some 107, some 108]) rfl rfl rfl hv1) (sv rfl (s_nil (l_ret ?_)))))))))
 cases h
 exact fin_ok (.inr rfl) (resD1 (res_t rfl) rf_d) (.refl _)

noncomputable def convoy_Better (p1 : Guess) (p2 : Guess) : Option Guess :=
  (convoy_sane [p1.R, p1.V, p2.R, p2.V]).bind fun v1 => cond (!v1) (some (Guess.mk 0 0)) (((cond (decide (p2.R ≥ p1.R)) (convoy_end p2) (some default))).bind fun v2 => ((cond (decide (p2.R ≥ p1.R)) (convoy_end p1) (some default))).bind fun v3 => cond ((decide (p2.R ≥ p1.R)) && (decide (v2 ≥ v3))) (some p2) (some p1))

theorem convoy_Better_ok (p1 : Guess) (p2 : Guess) (r : Guess) (h : convoy_Better p1 p2 = some r) : PCall Tryz.prog 71 [(.agg [(i64 p1.R), (i64 p1.V)]), (.agg [(i64 p2.R), (i64 p2.V)])] (.agg [(i64 r.R), (i64 r.V)]) := by
 refine l_call (fk Tryz.func71 Tryz.ntmps71 (fun r => if r == 1 then [1008] else []) (by with_unfolding_all rfl)) (nl rfl) ?_
 unfold convoy_Better at h
 refine l_sub (s0 := ⟨T [(0, (.d _)), (1, (.d _))], G []⟩) (sbr rfl rfl) ?_
 refine lr (fun u1 hu1 => sn rfl rfl (sn rfl rfl (sn rfl rfl (s_nil (l_seq (l_block (lr (fun u2 hu2 => sp rfl rfl (sl rfl (gq rfl) rfl (sp rfl rfl (sl rfl (gq rfl) rfl (sp rfl rfl (sl rfl (gq rfl) rfl (sp rfl rfl (sl rfl (gq rfl) rfl (s_val (dl eInt_i64 [p1.R, p1.V, p2.R, p2.V]) rfl rfl (bs h fun v1 hv1 h => s_call rfl rfl all2_refl (convoy_sane_ok _  _ hv1) (.inl rfl) (s_val (.d (bo (!v1))) rfl rfl (sv rfl (s_nil (cc rfl h (fun c1 h => ?_) (fun c1 h => ?_))))))))))))))))))))))
 refine lr (fun u3 hu3 => sv rfl (sst rfl G_hit [(di 0), (di 0)] rfl (s_nil (l_ret ?_))))
 cases h
 exact fin_ok (.inr rfl) (resD1 (res_cellG rfl G_hit (nl rfl) rfl) rf_d) (.refl _)
 refine l_seq (l_draw rfl fun u4 hu4 => sp rfl rfl (sl rfl (gq rfl) rfl (sp rfl rfl (sl rfl (gq rfl) rfl (sv rfl (sv rfl (gt rfl (fun w1 => (v_loadG rfl (gq rfl) rfl rfl)) (bs h fun v2 hv2 h => ?_))))))))
 refine g_call _ (i64 v2) (gw_t rfl) (fun w2 => ⟨_, [(.d (.agg [(i64 p2.R), (i64 p2.V)]))], _, _, (by simp only [gd_pos w2]; rfl), rfl, all2_refl, convoy_end_ok _  _ (cond_t w2 hv2), (.inl rfl)⟩) ?_
 refine gt rfl (fun w3 => (v_loadG rfl (gq rfl) rfl rfl)) (bs h fun v3 hv3 h => ?_)
 refine g_call _ (i64 v3) (gw_t rfl) (fun w4 => ⟨_, [(.d (.agg [(i64 p1.R), (i64 p1.V)]))], _, _, (by simp only [gd_pos w4]; rfl), rfl, all2_refl, convoy_end_ok _  _ (cond_t w4 hv3), (.inl rfl)⟩) ?_
 refine gt rfl (fun w5 => (v_bin (gd_pos w5) (gd_pos w5) rfl)) (sa rfl rfl rfl (sv rfl (s_nil (cc rfl h (fun c2 h => ?_) (fun c2 h => ?_)))))
 refine l_seq (l_sub (s0 := ⟨T [(3, (.ptr _ _)), (4, (.ptr _ _))], G [((3, u1), some (.box 28 _)), ((4, u1), some (.box 28 _))]⟩) (sbr rfl rfl) ?_)
 refine l_reg fun u5 hu5 => sd rfl (v_loadG rfl G_hit rfl rfl) (sst rfl (gq rfl) [(di p2.R), (di p2.V)] rfl (s_nil (l_ret ?_)))
 cases h
 exact fin_ok (.inr rfl) (resD1 (res_cellG rfl G_hit (nl rfl) rfl) rf_d) (.refl _)
 refine l_skip (l_end (l_seq (l_sub (s0 := ⟨T [(2, (.ptr _ _)), (4, (.ptr _ _))], G [((2, u1), some (.box 28 _)), ((4, u1), some (.box 28 _))]⟩) (sbr rfl rfl) ?_)))
 refine l_reg fun u6 hu6 => sd rfl (v_loadG rfl G_hit rfl rfl) (sst rfl (gq rfl) [(di p1.R), (di p1.V)] rfl (s_nil (l_ret ?_)))
 cases h
 exact fin_ok (.inr rfl) (resD1 (res_cellG rfl G_hit (nl rfl) rfl) rf_d) (.refl _)

noncomputable def convoy_mind_hail_oa (p1 : ConvoyMind) (p2 : ConvoyLetter) : Option ConvoyMind :=
  (cond ((p1.Mate_.Until != 0) && (p2.Note_.From == p1.Mate_.Ward)) ((convoy_Better p1.Mate_.WardGuess p2.guess).bind fun v1 => some (ConvoyMind.mk (Mate.mk p1.Mate_.ID p1.Mate_.S p1.Mate_.V p1.Mate_.Len p1.Mate_.Ahead p1.Mate_.Guess_ p1.Mate_.Trust p1.Mate_.Ward v1 p1.Mate_.Until) p1.tick p1.gap p1.sight p1.sees)) (some p1)).bind fun y1 => cond ((y1.Mate_.Ahead == 0) || (p2.Note_.From != y1.Mate_.Ahead)) (some y1) (((cond (y1.sees && (p2.Note_.Stamp == y1.tick)) (convoy_within p2.Note_.R y1.sight.Lo y1.sight.Hi) (some default))).bind fun v2 => ((cond ((y1.sees && (p2.Note_.Stamp == y1.tick)) && (!(!v2))) (convoy_within p2.Note_.V y1.sight.VLo y1.sight.VHi) (some default))).bind fun v3 => cond ((y1.sees && (p2.Note_.Stamp == y1.tick)) && ((!v2) || (!v3))) (some (ConvoyMind.mk (Mate.mk y1.Mate_.ID y1.Mate_.S y1.Mate_.V y1.Mate_.Len y1.Mate_.Ahead y1.Mate_.Guess_ false y1.Mate_.Ward y1.Mate_.WardGuess y1.Mate_.Until) y1.tick y1.gap y1.sight y1.sees)) (cond ((!y1.sees) && y1.Mate_.Trust) ((convoy_Better y1.Mate_.Guess_ p2.guess).bind fun v4 => some (ConvoyMind.mk (Mate.mk y1.Mate_.ID y1.Mate_.S y1.Mate_.V y1.Mate_.Len y1.Mate_.Ahead v4 y1.Mate_.Trust y1.Mate_.Ward y1.Mate_.WardGuess y1.Mate_.Until) y1.tick y1.gap y1.sight y1.sees)) (some y1)))

theorem convoy_mind_hail_oa_ok (p1 : ConvoyMind) (p2 : ConvoyLetter) (r : ConvoyMind) (h : convoy_mind_hail_oa p1 p2 = some r) : MCall Tryz.prog 105 [(.ptr (900000, 0) 0), (.d (.agg (eConvoyLetter p2)))] [(.box 79 (dConvoyMind p1))] (.d (.tup [])) [some (.box 79 (dConvoyMind r))] [] := by
 refine m_callF (fk Tryz.func105 Tryz.ntmps105 m0 (by with_unfolding_all rfl)) rfl (nl rfl) ?_
 unfold convoy_mind_hail_oa at h
 refine l_sub (s0 := ⟨T [(0, (.ptr _ _)), (1, (.d _))], G [((900000, 0), some (.box 79 _))]⟩) (sbr rfl rfl) ?_
 refine lr (fun u1 hu1 => sn rfl rfl (s_nil (l_seq (l_seq (l_draw rfl fun u2 hu2 => sp rfl rfl (sp rfl rfl (sp rfl rfl (sp rfl rfl (sl rfl (gq rfl) rfl (sv rfl (sv rfl (gp rfl (gw_t rfl) (fun _ => rfl) ?_))))))))))))
 refine g_val _ (.ptr _ _) rfl (gw_t rfl) (fun w2 => (by simp only [gd_pos w2]; rfl)) ?_
 refine gt rfl (vl rfl G_hit rfl) (gp rfl (gw_t rfl) (fun _ => rfl) ?_)
 refine g_val _ (.ptr _ _) rfl (gw_t rfl) (fun w5 => (by simp only [gd_pos w5]; rfl)) ?_
 refine g_val _ (.ptr _ _) rfl (gw_t rfl) (fun w6 => (by simp only [gd_pos w6]; rfl)) ?_
 refine g_val _ (.ptr _ _) rfl (gw_t rfl) (fun w7 => (by simp only [gd_pos w7]; rfl)) ?_
 refine gt rfl (vl rfl (gq rfl) rfl) (gt rfl (fun w9 => (v_bin (gd_pos w9) (gd_pos w9) rfl)) (sa rfl rfl rfl (s_nil (bs h fun y1 hy1 h => l_join (fun s => ∃ g1 : Unit, Sb ⟨T [(0, (.ptr (900000, 0) 0)), (3, (.ptr (3, u1) 0))], G [((900000, 0), some (.box 79 (dConvoyMind y1))), ((3, u1), some (.box 105 (dConvoyLetter p2)))]⟩ s) ?_ ?_))))
 refine cc rfl hy1 (fun c1 hy1 => ?_) (fun c1 hy1 => ?_)
 refine l_draw rfl fun u3 hu3 => sp rfl rfl (sp rfl rfl (sp rfl rfl (sp rfl rfl (sp rfl rfl (sd rfl (v_loadG rfl (gq rfl) rfl rfl) (sp rfl rfl (sd rfl (v_loadG rfl G_hit rfl rfl) (bs hy1 fun v1 hv1 hy1 => s_call rfl rfl all2_refl (convoy_Better_ok _ _  _ hv1) (.inl rfl) (sp rfl rfl (sp rfl rfl (sp rfl rfl (sst rfl (gq rfl) (((dConvoyMind p1).set 9 (di v1.R)).set 10 (di v1.V)) rfl (s_nil ?_)))))))))))))
 cases hy1
 exact l_j ⟨(), (sbr rfl rfl)⟩
 refine l_skip ?_
 cases hy1
 exact l_j ⟨(), (sbr rfl rfl)⟩
 rintro _ ⟨g1, q1⟩
 refine l_sub q1 (l_seq (l_seq (l_draw rfl fun u4 hu4 => sp rfl rfl (sp rfl rfl (sp rfl rfl (sp rfl rfl (sl rfl G_hit rfl (sv rfl (sv rfl (gp rfl (gw_f rfl) (fun _ => rfl) ?_))))))))))
 refine g_val _ (.ptr _ _) rfl (gw_f rfl) (fun w11 => (by simp only [gd_pos w11]; rfl)) ?_
 refine gf rfl (vl rfl (gq rfl) rfl) (gp rfl (gw_f rfl) (fun _ => rfl) ?_)
 refine g_val _ (.ptr _ _) rfl (gw_f rfl) (fun w14 => (by simp only [gd_pos w14]; rfl)) ?_
 refine g_val _ (.ptr _ _) rfl (gw_f rfl) (fun w15 => (by simp only [gd_pos w15]; rfl)) ?_
 refine g_val _ (.ptr _ _) rfl (gw_f rfl) (fun w16 => (by simp only [gd_pos w16]; rfl)) ?_
 refine gf rfl (vl rfl G_hit rfl) (gf rfl (fun w18 => (v_bin (gd_pos w18) (gd_pos w18) rfl)) (sd rfl (v_or rfl rfl (fun hc => gd_pos (not_t hc))) (s_nil (cc rfl h (fun c2 h => ?_) (fun c2 h => ?_)))))
 refine l_ret ?_
 cases h
 exact fin_mf (.inr rfl) [] resDF0 (.refl _) ⟨⟨_, _, _, G_hit, old_notin_nil, rfl, all2_d, rfl⟩, trivial⟩
 refine l_skip (lr (fun u5 hu5 => sp rfl rfl (sp rfl rfl (sp rfl rfl (sd rfl (v_loadG rfl G_hit rfl rfl) (sn rfl rfl (sst rfl G_hit (dSight y1.sight) rfl (s_nil (l_block (l_seq (l_sub (s0 := ⟨T [(0, (.ptr _ _)), (3, (.ptr _ _)), (4, (.ptr _ _))], G [((900000, 0), some (.box 79 _)), ((3, u1), some (.box 105 _)), ((4, u5), some (.box 46 _))]⟩) (sbr rfl rfl) ?_)))))))))))
 refine l_draw rfl fun u6 hu6 => sp rfl rfl (sp rfl rfl (sp rfl rfl (sl rfl G_hit rfl (sv rfl (gp rfl (gw_t rfl) (fun _ => rfl) ?_)))))
 refine g_val _ (.ptr _ _) rfl (gw_t rfl) (fun w20 => (by simp only [gd_pos w20]; rfl)) ?_
 refine gt rfl (vl rfl (gq rfl) rfl) (gp rfl (gw_t rfl) (fun _ => rfl) ?_)
 refine g_val _ (.ptr _ _) rfl (gw_t rfl) (fun w23 => (by simp only [gd_pos w23]; rfl)) ?_
 refine g_val _ (.ptr _ _) rfl (gw_t rfl) (fun w24 => (by simp only [gd_pos w24]; rfl)) ?_
 refine gt rfl (vl rfl G_hit rfl) (gt rfl (fun w26 => (v_bin (gd_pos w26) (gd_pos w26) rfl)) (sa rfl rfl rfl (sv rfl (gp rfl (gw_t rfl) (fun _ => rfl) ?_))))
 refine g_val _ (.ptr _ _) rfl (gw_t rfl) (fun w28 => (by simp only [gd_pos w28]; rfl)) ?_
 refine gt rfl (vl rfl (gq rfl) rfl) (gp rfl (gw_t rfl) (fun _ => rfl) (gt rfl (vl rfl (gq rfl) rfl) (gp rfl (gw_t rfl) (fun _ => rfl) (gt rfl (vl rfl (gq rfl) rfl) (bs h fun v2 hv2 h => ?_)))))
 refine g_call _ (bo v2) (gw_t rfl) (fun w34 => ⟨_, [(di p2.Note_.R), (di y1.sight.Lo), (di y1.sight.Hi)], _, _, (by simp only [gd_pos w34]; rfl), rfl, all2_refl, convoy_within_ok _ _ _  _ (cond_t w34 hv2), (.inl rfl)⟩) ?_
 refine g_val _ (.d (bo (!v2))) rfl (gw_t rfl) (fun w35 => (by simp only [gd_pos w35]; rfl)) ?_
 refine gt rfl (fun w36 => (v_mv (gd_pos w36))) (g_val _ (.ptr _ _) rfl (gw_gf rfl) (fun _ => rfl) ?_)
 refine g_val _ (.ptr _ _) rfl (gw_gf rfl) (fun w38 => (by simp only [gd_pos w38]; rfl)) ?_
 refine gv rfl (gw_gf rfl) (vl rfl (gq rfl) rfl) (g_val _ (.ptr _ _) rfl (gw_gf rfl) (fun _ => rfl) (gv rfl (gw_gf rfl) (vl rfl (gq rfl) rfl) (g_val _ (.ptr _ _) rfl (gw_gf rfl) (fun _ => rfl) (gv rfl (gw_gf rfl) (vl rfl (gq rfl) rfl) (bs h fun v3 hv3 h => ?_)))))
 refine g_call _ (bo v3) (gw_gf rfl) (fun w44 => ⟨_, [(di p2.Note_.V), (di y1.sight.VLo), (di y1.sight.VHi)], _, _, (by simp only [gd_pos w44]; rfl), rfl, all2_refl, convoy_within_ok _ _ _  _ (cond_t w44 hv3), (.inl rfl)⟩) ?_
 refine g_val _ (.d (bo (!v3))) rfl (gw_gf rfl) (fun w45 => (by simp only [gd_pos w45]; rfl)) ?_
 refine gt rfl (fun w46 => (v_or (gd_pos w46) rfl (fun hc => gd_pos (and_i w46 (not_t hc))))) (sa rfl rfl rfl (sv rfl (s_nil (cc rfl h (fun c3 h => ?_) (fun c3 h => ?_)))))
 refine l_sub (s0 := ⟨T [(0, (.ptr _ _))], G [((900000, 0), some (.box 79 _))]⟩) (sbr rfl rfl) ?_
 refine l_reg fun u7 hu7 => sp rfl rfl (sp rfl rfl (sp rfl rfl (sp rfl rfl (sst rfl G_hit ((dConvoyMind y1).set 7 (.d (bo false))) rfl (s_nil (l_end (l_nil ?_)))))))
 cases h
 exact fin_mf (.inl rfl) [] resDF0 (.refl _) ⟨⟨_, _, _, G_hit, old_notin_nil, rfl, all2_d, rfl⟩, trivial⟩
 refine l_seq (l_sub (s0 := ⟨T [(0, (.ptr _ _)), (3, (.ptr _ _))], G [((900000, 0), some (.box 79 _)), ((3, u1), some (.box 105 _))]⟩) (sbr rfl rfl) ?_)
 refine l_reg fun u8 hu8 => sp rfl rfl (sp rfl rfl (sp rfl rfl (sl rfl G_hit rfl (s_val (.d (bo (!y1.sees))) rfl rfl (sv rfl (gp rfl (gw_t rfl) (fun _ => rfl) ?_))))))
 refine g_val _ (.ptr _ _) rfl (gw_t rfl) (fun w48 => (by simp only [gd_pos w48]; rfl)) ?_
 refine g_val _ (.ptr _ _) rfl (gw_t rfl) (fun w49 => (by simp only [gd_pos w49]; rfl)) ?_
 refine g_val _ (.ptr _ _) rfl (gw_t rfl) (fun w50 => (by simp only [gd_pos w50]; rfl)) ?_
 refine gt rfl (vl rfl G_hit rfl) (sa rfl rfl rfl (sv rfl (s_nil (cc rfl h (fun c4 h => ?_) (fun c4 h => ?_)))))
 refine l_draw rfl fun u9 hu9 => sp rfl rfl (sp rfl rfl (sp rfl rfl (sp rfl rfl (sp rfl rfl (sd rfl (v_loadG rfl G_hit rfl rfl) (sp rfl rfl (sd rfl (v_loadG rfl (gq rfl) rfl rfl) (bs h fun v4 hv4 h => s_call rfl rfl all2_refl (convoy_Better_ok _ _  _ hv4) (.inl rfl) (sp rfl rfl (sp rfl rfl (sp rfl rfl (sst rfl G_hit (((dConvoyMind y1).set 5 (di v4.R)).set 6 (di v4.V)) rfl (s_nil (l_end (l_nil ?_)))))))))))))))
 cases h
 exact fin_mf (.inl rfl) [] resDF0 (.refl _) ⟨⟨_, _, _, G_hit, old_notin_nil, rfl, all2_d, rfl⟩, trivial⟩
 refine l_skip (l_end (l_nil ?_))
 cases h
 exact fin_mf (.inl rfl) [] resDF0 (.refl _) ⟨⟨_, _, _, G_hit, old_notin_nil, rfl, all2_d, rfl⟩, trivial⟩

noncomputable def convoy_mind_ask_oa (p1 : ConvoyMind) (p2 : ConvoyLetter) : Option ConvoyMind :=
  cond (p2.Note_.To != p1.Mate_.ID) (some p1) (cond ((p1.Mate_.Ward == 0) || (((p2.Note_.From == p1.Mate_.Ward) && (p1.Mate_.Until != 0)) && (decide (p2.Note_.Stamp > p1.Mate_.Until)))) (some (ConvoyMind.mk (Mate.mk p1.Mate_.ID p1.Mate_.S p1.Mate_.V p1.Mate_.Len p1.Mate_.Ahead p1.Mate_.Guess_ p1.Mate_.Trust p2.Note_.From p2.guess 0) p1.tick p1.gap p1.sight p1.sees)) (cond (p2.Note_.From == p1.Mate_.Ward) ((convoy_Better p1.Mate_.WardGuess p2.guess).bind fun v1 => some (ConvoyMind.mk (Mate.mk p1.Mate_.ID p1.Mate_.S p1.Mate_.V p1.Mate_.Len p1.Mate_.Ahead p1.Mate_.Guess_ p1.Mate_.Trust p1.Mate_.Ward v1 p1.Mate_.Until) p1.tick p1.gap p1.sight p1.sees)) (some p1)))

theorem convoy_mind_ask_oa_ok (p1 : ConvoyMind) (p2 : ConvoyLetter) (r : ConvoyMind) (h : convoy_mind_ask_oa p1 p2 = some r) : MCall Tryz.prog 106 [(.ptr (900000, 0) 0), (.d (.agg (eConvoyLetter p2)))] [(.box 79 (dConvoyMind p1))] (.d (.tup [])) [some (.box 79 (dConvoyMind r))] [] := by
 refine m_callF (fk Tryz.func106 Tryz.ntmps106 m0 (by with_unfolding_all rfl)) rfl (nl rfl) ?_
 unfold convoy_mind_ask_oa at h
 refine l_sub (s0 := ⟨T [(0, (.ptr _ _)), (1, (.d _))], G [((900000, 0), some (.box 79 _))]⟩) (sbr rfl rfl) ?_
 refine lr (fun u1 hu1 => sn rfl rfl (s_nil (l_block (l_seq (l_draw rfl fun u2 hu2 => sp rfl rfl (sp rfl rfl (sl rfl G_hit rfl (sp rfl rfl (sp rfl rfl (sp rfl rfl (sp rfl rfl (sl rfl (gq rfl) rfl (sv rfl (sv rfl (s_nil (cc rfl h (fun c1 h => ?_) (fun c1 h => ?_)))))))))))))))))
 refine l_skip (l_end (l_nil ?_))
 cases h
 exact fin_mf (.inl rfl) [] resDF0 (.refl _) ⟨⟨_, _, _, (gq rfl), old_notin_nil, rfl, all2_d, rfl⟩, trivial⟩
 refine l_seq (l_draw rfl fun u3 hu3 => sp rfl rfl (sp rfl rfl (sp rfl rfl (sp rfl rfl (sl rfl (gq rfl) rfl (sv rfl (sv rfl (gp rfl (gw_f rfl) (fun _ => rfl) ?_))))))))
 refine g_val _ (.ptr _ _) rfl (gw_f rfl) (fun w2 => (by simp only [gd_pos w2]; rfl)) ?_
 refine gf rfl (vl rfl G_hit rfl) (gp rfl (gw_f rfl) (fun _ => rfl) ?_)
 refine g_val _ (.ptr _ _) rfl (gw_f rfl) (fun w5 => (by simp only [gd_pos w5]; rfl)) ?_
 refine g_val _ (.ptr _ _) rfl (gw_f rfl) (fun w6 => (by simp only [gd_pos w6]; rfl)) ?_
 refine g_val _ (.ptr _ _) rfl (gw_f rfl) (fun w7 => (by simp only [gd_pos w7]; rfl)) ?_
 refine gf rfl (vl rfl (gq rfl) rfl) (gf rfl (fun w9 => (v_bin (gd_pos w9) (gd_pos w9) rfl)) (gf rfl (fun w10 => (v_mv (gd_pos w10))) (g_val _ (.ptr _ _) rfl (gw_gt rfl) (fun _ => rfl) ?_)))
 refine g_val _ (.ptr _ _) rfl (gw_gt rfl) (fun w12 => (by simp only [gd_pos w12]; rfl)) ?_
 refine g_val _ (.ptr _ _) rfl (gw_gt rfl) (fun w13 => (by simp only [gd_pos w13]; rfl)) ?_
 refine g_val _ (.ptr _ _) rfl (gw_gt rfl) (fun w14 => (by simp only [gd_pos w14]; rfl)) ?_
 refine gv rfl (gw_gt rfl) (vl rfl (gq rfl) rfl) (gv rfl (gw_gt rfl) (vb rfl rfl rfl) (gf rfl (fun w17 => (v_and (gd_pos w17) (fun hc => gd_pos (and_i w17 hc)) rfl)) (gf rfl (fun w18 => (v_mv (gd_pos w18))) (g_val _ (.ptr _ _) rfl (gw_gt rfl) (fun _ => rfl) ?_))))
 refine g_val _ (.ptr _ _) rfl (gw_gt rfl) (fun w20 => (by simp only [gd_pos w20]; rfl)) ?_
 refine gv rfl (gw_gt rfl) (vl rfl G_hit rfl) (g_val _ (.ptr _ _) rfl (gw_gt rfl) (fun _ => rfl) ?_)
 refine g_val _ (.ptr _ _) rfl (gw_gt rfl) (fun w23 => (by simp only [gd_pos w23]; rfl)) ?_
 refine g_val _ (.ptr _ _) rfl (gw_gt rfl) (fun w24 => (by simp only [gd_pos w24]; rfl)) ?_
 refine g_val _ (.ptr _ _) rfl (gw_gt rfl) (fun w25 => (by simp only [gd_pos w25]; rfl)) ?_
 refine gv rfl (gw_gt rfl) (vl rfl (gq rfl) rfl) (gv rfl (gw_gt rfl) (fun w27 => (v_bin (gd_pos w27) (gd_pos w27) rfl)) (gf rfl (fun w28 => (v_and (gd_pos w28) (fun hc => gd_pos (and_i w28 hc)) rfl)) (sd rfl (v_or rfl rfl (fun hc => gd_pos (not_t hc))) (sv rfl (s_nil (cc rfl h (fun c2 h => ?_) (fun c2 h => ?_)))))))
 refine l_sub (s0 := ⟨T [(0, (.ptr _ _)), (3, (.ptr _ _))], G [((900000, 0), some (.box 79 _)), ((3, u1), some (.box 105 _))]⟩) (sbr rfl rfl) ?_
 refine l_drawT fun u4 hu4 => t_val (.ptr _ _) rfl rfl (t_val (.ptr _ _) rfl rfl (t_val (.ptr _ _) rfl rfl (t_val (.ptr _ _) rfl rfl (t_val (.ptr _ _) rfl rfl (t_val (.d _) rfl (v_load rfl (gq rfl) rfl) (t_val (.ptr _ _) rfl rfl (t_val (.d _) rfl (v_loadG rfl (gq rfl) rfl rfl) (t_val (.ptr _ _) rfl rfl (t_val (.ptr _ _) rfl rfl (t_val (.ptr _ _) rfl rfl (t_store _ _ _ _ _ rfl rfl rfl G_hit (nl rfl) ((dConvoyMind p1).set 8 (di p2.Note_.From)) rfl (t_val (.ptr _ _) rfl rfl (t_val (.ptr _ _) rfl rfl (t_val (.ptr _ _) rfl rfl (t_store _ _ _ _ _ rfl rfl rfl G_hit (nl rfl) ((((dConvoyMind p1).set 8 (di p2.Note_.From)).set 9 (di p2.guess.R)).set 10 (di p2.guess.V)) rfl (t_val (.ptr _ _) rfl rfl (t_val (.ptr _ _) rfl rfl (t_val (.ptr _ _) rfl rfl (t_store _ _ _ _ _ rfl rfl rfl G_hit (nl rfl) (((((dConvoyMind p1).set 8 (di p2.Note_.From)).set 9 (di p2.guess.R)).set 10 (di p2.guess.V)).set 11 (di 0)) rfl (t_nil ⟨rfl, ?_⟩))))))))))))))))))))
 refine l_end (l_nil ?_)
 cases h
 exact fin_mf (.inl rfl) [] resDF0 (.refl _) ⟨⟨_, _, _, G_hit, old_notin_nil, rfl, all2_d, rfl⟩, trivial⟩
 refine l_seq (l_sub (s0 := ⟨T [(0, (.ptr _ _)), (3, (.ptr _ _))], G [((900000, 0), some (.box 79 _)), ((3, u1), some (.box 105 _))]⟩) (sbr rfl rfl) ?_)
 refine l_draw rfl fun u5 hu5 => sp rfl rfl (sp rfl rfl (sl rfl (gq rfl) rfl (sp rfl rfl (sp rfl rfl (sp rfl rfl (sp rfl rfl (sl rfl G_hit rfl (sv rfl (sv rfl (s_nil (cc rfl h (fun c3 h => ?_) (fun c3 h => ?_))))))))))))
 refine l_draw rfl fun u6 hu6 => sp rfl rfl (sp rfl rfl (sp rfl rfl (sp rfl rfl (sp rfl rfl (sd rfl (v_loadG rfl G_hit rfl rfl) (sp rfl rfl (sd rfl (v_loadG rfl (gq rfl) rfl rfl) (bs h fun v1 hv1 h => s_call rfl rfl all2_refl (convoy_Better_ok _ _  _ hv1) (.inl rfl) (sp rfl rfl (sp rfl rfl (sp rfl rfl (sst rfl G_hit (((dConvoyMind p1).set 9 (di v1.R)).set 10 (di v1.V)) rfl (s_nil (l_end (l_nil ?_)))))))))))))))
 cases h
 exact fin_mf (.inl rfl) [] resDF0 (.refl _) ⟨⟨_, _, _, G_hit, old_notin_nil, rfl, all2_d, rfl⟩, trivial⟩
 refine l_skip (l_end (l_nil ?_))
 cases h
 exact fin_mf (.inl rfl) [] resDF0 (.refl _) ⟨⟨_, _, _, G_hit, old_notin_nil, rfl, all2_d, rfl⟩, trivial⟩

noncomputable def convoy_mind_grant_oa (p1 : ConvoyMind) (p2 : ConvoyLetter) : Option ConvoyMind :=
  some p1

theorem convoy_mind_grant_oa_ok (p1 : ConvoyMind) (p2 : ConvoyLetter) (r : ConvoyMind) (h : convoy_mind_grant_oa p1 p2 = some r) : MCall Tryz.prog 107 [(.ptr (900000, 0) 0), (.d (.agg (eConvoyLetter p2)))] [(.box 79 (dConvoyMind p1))] (.d (.tup [])) [some (.box 79 (dConvoyMind r))] [] := by
 refine m_callF (fk Tryz.func107 Tryz.ntmps107 m0 (by with_unfolding_all rfl)) rfl (nl rfl) ?_
 unfold convoy_mind_grant_oa at h
 refine l_sub (s0 := ⟨T [(0, (.ptr _ _)), (1, (.d _))], G [((900000, 0), some (.box 79 _))]⟩) (sbr rfl rfl) ?_
 refine l_reg fun u1 hu1 => sn rfl rfl (s_nil (l_nil ?_))
 cases h
 exact fin_mf (.inl rfl) [] resDF0 (.refl _) ⟨⟨_, _, _, (gq rfl), old_notin_nil, rfl, all2_d, rfl⟩, trivial⟩

noncomputable def convoy_mind_forget_o (p1 : ConvoyMind) : Option ConvoyMind :=
  some (ConvoyMind.mk (Mate.mk p1.Mate_.ID p1.Mate_.S p1.Mate_.V p1.Mate_.Len p1.Mate_.Ahead p1.Mate_.Guess_ p1.Mate_.Trust 0 (Guess.mk 0 0) 0) p1.tick p1.gap p1.sight p1.sees)

theorem convoy_mind_forget_o_ok (p1 : ConvoyMind) (r : ConvoyMind) (h : convoy_mind_forget_o p1 = some r) : MCall Tryz.prog 70 [(.ptr (900000, 0) 0)] [(.box 79 (dConvoyMind p1))] (.d (.tup [])) [some (.box 79 (dConvoyMind r))] [] := by
 refine m_callF (fk Tryz.func70 Tryz.ntmps70 m0 (by with_unfolding_all rfl)) rfl (nl rfl) ?_
 unfold convoy_mind_forget_o at h
 refine l_sub (s0 := ⟨T [(0, (.ptr _ _))], G [((900000, 0), some (.box 79 _))]⟩) (sbr rfl rfl) ?_
 refine l_reg fun u1 hu1 => sp rfl rfl (sp rfl rfl (sp rfl rfl (sv rfl (sp rfl rfl (sp rfl rfl (sp rfl rfl (sst rfl G_hit ((dConvoyMind p1).set 8 (di 0)) rfl (sp rfl rfl (sp rfl rfl (sp rfl rfl (sst rfl G_hit ((((dConvoyMind p1).set 8 (di 0)).set 9 (di 0)).set 10 (di 0)) rfl (sp rfl rfl (sp rfl rfl (sp rfl rfl (sst rfl G_hit (((((dConvoyMind p1).set 8 (di 0)).set 9 (di 0)).set 10 (di 0)).set 11 (di 0)) rfl (s_nil (l_nil ?_)))))))))))))))))
 cases h
 exact fin_mf (.inl rfl) [] resDF0 (.refl _) ⟨⟨_, _, _, G_hit, old_notin_nil, rfl, all2_d, rfl⟩, trivial⟩

noncomputable def convoy_mind_done_oa (p1 : ConvoyMind) (p2 : ConvoyLetter) : Option ConvoyMind :=
  cond (((p2.Note_.To != p1.Mate_.ID) || (p1.Mate_.Until == 0)) || (p2.Note_.From != p1.Mate_.Ward)) (some p1) ((cond (!p1.sees) ((convoy_Better p1.Mate_.WardGuess p2.guess).bind fun v1 => some (ConvoyMind.mk (Mate.mk p1.Mate_.ID p1.Mate_.S p1.Mate_.V p1.Mate_.Len p1.Mate_.Ward v1 true p1.Mate_.Ward p1.Mate_.WardGuess p1.Mate_.Until) p1.tick p1.gap p1.sight p1.sees)) (some (ConvoyMind.mk (Mate.mk p1.Mate_.ID p1.Mate_.S p1.Mate_.V p1.Mate_.Len p1.Mate_.Ward p1.Mate_.WardGuess true p1.Mate_.Ward p1.Mate_.WardGuess p1.Mate_.Until) p1.tick p1.gap p1.sight p1.sees))).bind fun y1 => (convoy_mind_forget_o y1).bind fun v2 => some v2)

theorem convoy_mind_done_oa_ok (p1 : ConvoyMind) (p2 : ConvoyLetter) (r : ConvoyMind) (h : convoy_mind_done_oa p1 p2 = some r) : MCall Tryz.prog 108 [(.ptr (900000, 0) 0), (.d (.agg (eConvoyLetter p2)))] [(.box 79 (dConvoyMind p1))] (.d (.tup [])) [some (.box 79 (dConvoyMind r))] [] := by
 refine m_callF (fk Tryz.func108 Tryz.ntmps108 (fun r => if r == 5 then [1005001] else []) (by with_unfolding_all rfl)) rfl (nl rfl) ?_
 unfold convoy_mind_done_oa at h
 refine l_sub (s0 := ⟨T [(0, (.ptr _ _)), (1, (.d _))], G [((900000, 0), some (.box 79 _))]⟩) (sbr rfl rfl) ?_
 refine lr (fun u1 hu1 => sn rfl rfl (s_nil (l_seq (l_seq (l_draw rfl fun u2 hu2 => sp rfl rfl (sp rfl rfl (sl rfl G_hit rfl (sp rfl rfl (sp rfl rfl (sp rfl rfl (sp rfl rfl (sl rfl (gq rfl) rfl (sv rfl (sv rfl (gp rfl (gw_f rfl) (fun _ => rfl) ?_)))))))))))))))
 refine g_val _ (.ptr _ _) rfl (gw_f rfl) (fun w2 => (by simp only [gd_pos w2]; rfl)) ?_
 refine g_val _ (.ptr _ _) rfl (gw_f rfl) (fun w3 => (by simp only [gd_pos w3]; rfl)) ?_
 refine g_val _ (.ptr _ _) rfl (gw_f rfl) (fun w4 => (by simp only [gd_pos w4]; rfl)) ?_
 refine gf rfl (vl rfl (gq rfl) rfl) (gf rfl (vb rfl rfl rfl) (sd rfl (v_or rfl rfl (fun hc => gd_pos (not_t hc))) (sv rfl (gp rfl (gw_f rfl) (fun _ => rfl) ?_))))
 refine g_val _ (.ptr _ _) rfl (gw_f rfl) (fun w8 => (by simp only [gd_pos w8]; rfl)) ?_
 refine gf rfl (vl rfl G_hit rfl) (gp rfl (gw_f rfl) (fun _ => rfl) ?_)
 refine g_val _ (.ptr _ _) rfl (gw_f rfl) (fun w11 => (by simp only [gd_pos w11]; rfl)) ?_
 refine g_val _ (.ptr _ _) rfl (gw_f rfl) (fun w12 => (by simp only [gd_pos w12]; rfl)) ?_
 refine g_val _ (.ptr _ _) rfl (gw_f rfl) (fun w13 => (by simp only [gd_pos w13]; rfl)) ?_
 refine gf rfl (vl rfl (gq rfl) rfl) (gf rfl (fun w15 => (v_bin (gd_pos w15) (gd_pos w15) rfl)) (sd rfl (v_or rfl rfl (fun hc => gd_pos (not_t hc))) (s_nil (cc rfl h (fun c1 h => ?_) (fun c1 h => ?_)))))
 refine l_ret ?_
 cases h
 exact fin_mf (.inr rfl) [] resDF0 (.refl _) ⟨⟨_, _, _, (gq rfl), old_notin_nil, rfl, all2_d, rfl⟩, trivial⟩
 refine l_skip (l_seq (l_sub (s0 := ⟨T [(0, (.ptr _ _)), (3, (.ptr _ _))], G [((900000, 0), some (.box 79 _)), ((3, u1), some (.box 105 _))]⟩) (sbr rfl rfl) ?_))
 refine l_draw rfl fun u3 hu3 => sp rfl rfl (sp rfl rfl (sp rfl rfl (sp rfl rfl (sp rfl rfl (sp rfl rfl (sp rfl rfl (sl rfl G_hit rfl (sp rfl rfl (sp rfl rfl (sp rfl rfl (sp rfl rfl (sd rfl (v_loadG rfl G_hit rfl rfl) (sp rfl rfl (sp rfl rfl (sp rfl rfl (sst rfl G_hit ((dConvoyMind p1).set 4 (di p1.Mate_.Ward)) rfl (sp rfl rfl (sp rfl rfl (sp rfl rfl (sst rfl G_hit ((((dConvoyMind p1).set 4 (di p1.Mate_.Ward)).set 5 (di p1.Mate_.WardGuess.R)).set 6 (di p1.Mate_.WardGuess.V)) rfl (sp rfl rfl (sp rfl rfl (sp rfl rfl (sst rfl G_hit (((((dConvoyMind p1).set 4 (di p1.Mate_.Ward)).set 5 (di p1.Mate_.WardGuess.R)).set 6 (di p1.Mate_.WardGuess.V)).set 7 (.d (bo true))) rfl (s_nil (l_seq (l_seq (l_sub (s0 := ⟨T [(0, (.ptr _ _)), (3, (.ptr _ _))], G [((900000, 0), some (.box 79 _)), ((3, u1), some (.box 105 _))]⟩) (sbr rfl rfl) ?_))))))))))))))))))))))))))))
 refine l_reg fun u4 hu4 => sp rfl rfl (sp rfl rfl (sp rfl rfl (sl rfl G_hit rfl (s_val (.d (bo (!p1.sees))) rfl rfl (s_nil (bs h fun y1 hy1 h => l_join (fun s => ∃ g1 : Unit, Sb ⟨T [(0, (.ptr (900000, 0) 0))], G [((900000, 0), some (.box 79 (dConvoyMind y1)))]⟩ s) ?_ ?_))))))
 refine cc rfl hy1 (fun c2 hy1 => ?_) (fun c2 hy1 => ?_)
 refine l_draw rfl fun u5 hu5 => sp rfl rfl (sp rfl rfl (sp rfl rfl (sp rfl rfl (sp rfl rfl (sd rfl (v_loadG rfl G_hit rfl rfl) (sp rfl rfl (sd rfl (v_loadG rfl (gq rfl) rfl rfl) (bs hy1 fun v1 hv1 hy1 => s_call rfl rfl all2_refl (convoy_Better_ok _ _  _ hv1) (.inl rfl) (sp rfl rfl (sp rfl rfl (sp rfl rfl (sst rfl G_hit (((((dConvoyMind p1).set 4 (di p1.Mate_.Ward)).set 5 (di v1.R)).set 6 (di v1.V)).set 7 (.d (bo true))) rfl (s_nil ?_)))))))))))))
 cases hy1
 exact l_j ⟨(), (sbr rfl rfl)⟩
 refine l_skip ?_
 cases hy1
 exact l_j ⟨(), (sbr rfl rfl)⟩
 rintro _ ⟨g1, q1⟩
 refine l_sub q1 (l_reg fun u6 hu6 => sp rfl rfl (bs h fun v2 hv2 h => s_oc (v := .d (.tup [])) (us := [(900000, 0)]) (oc_m (convoy_mind_forget_o_ok _ _ hv2) [(900000, 0)] [(900000, 0)] _ (((900000, 0), some (.box 79 (dConvoyMind v2))) :: _) rfl all2_av (kl_cons (kr_ptr G_hit rfl) kl_nil) (live_cons G_hit live_nil) ⟨⟨_, G_hit, .of rfl⟩, trivial⟩ (fun _ h => h) nd1 rfl rfl rfl) (s_nil (l_nil ?_))))
 cases h
 exact fin_mf (.inl rfl) [] resDF0 (.refl _) ⟨⟨_, _, _, G_hit, old_notin_nil, rfl, all2_d, rfl⟩, trivial⟩

noncomputable def choose_convoy_mind_hail_oa (v : Nat) (p1 : ConvoyMind) (p2 : ConvoyLetter) : Option ConvoyMind :=
  cond (Nat.beq v 105) (convoy_mind_hail_oa p1 p2) (cond (Nat.beq v 106) (convoy_mind_ask_oa p1 p2) (cond (Nat.beq v 107) (convoy_mind_grant_oa p1 p2) (cond (Nat.beq v 108) (convoy_mind_done_oa p1 p2) (none))))

theorem choose_convoy_mind_hail_oa_ok (v : Nat) (p1 : ConvoyMind) (p2 : ConvoyLetter) (r : ConvoyMind) (h : choose_convoy_mind_hail_oa v p1 p2 = some r) : MCall Tryz.prog v [(.ptr (900000, 0) 0), (.d (.agg [(i64 p2.Note_.Kind), (i64 p2.Note_.From), (i64 p2.Note_.To), (i64 p2.Note_.Stamp), (i64 p2.Note_.R), (i64 p2.Note_.V), (i64 p2.Note_.Until), (i64 p2.guess.R), (i64 p2.guess.V)]))] [(.box 79 [(.d (i64 p1.Mate_.ID)), (.d (i64 p1.Mate_.S)), (.d (i64 p1.Mate_.V)), (.d (i64 p1.Mate_.Len)), (.d (i64 p1.Mate_.Ahead)), (.d (i64 p1.Mate_.Guess_.R)), (.d (i64 p1.Mate_.Guess_.V)), (.d (bo p1.Mate_.Trust)), (.d (i64 p1.Mate_.Ward)), (.d (i64 p1.Mate_.WardGuess.R)), (.d (i64 p1.Mate_.WardGuess.V)), (.d (i64 p1.Mate_.Until)), (.d (i64 p1.tick)), (.d (i64 p1.gap)), (.d (i64 p1.sight.By)), (.d (i64 p1.sight.Lo)), (.d (i64 p1.sight.Hi)), (.d (i64 p1.sight.VLo)), (.d (i64 p1.sight.VHi)), (.d (bo p1.sees))])] (.d (.tup [])) [some (.box 79 [(.d (i64 r.Mate_.ID)), (.d (i64 r.Mate_.S)), (.d (i64 r.Mate_.V)), (.d (i64 r.Mate_.Len)), (.d (i64 r.Mate_.Ahead)), (.d (i64 r.Mate_.Guess_.R)), (.d (i64 r.Mate_.Guess_.V)), (.d (bo r.Mate_.Trust)), (.d (i64 r.Mate_.Ward)), (.d (i64 r.Mate_.WardGuess.R)), (.d (i64 r.Mate_.WardGuess.V)), (.d (i64 r.Mate_.Until)), (.d (i64 r.tick)), (.d (i64 r.gap)), (.d (i64 r.sight.By)), (.d (i64 r.sight.Lo)), (.d (i64 r.sight.Hi)), (.d (i64 r.sight.VLo)), (.d (i64 r.sight.VHi)), (.d (bo r.sees))])] [] := by
  unfold choose_convoy_mind_hail_oa at h
  rcases disp_t h with ⟨rfl, h⟩ | ⟨_, h⟩
  · exact convoy_mind_hail_oa_ok _ _ r h
  rcases disp_t h with ⟨rfl, h⟩ | ⟨_, h⟩
  · exact convoy_mind_ask_oa_ok _ _ r h
  rcases disp_t h with ⟨rfl, h⟩ | ⟨_, h⟩
  · exact convoy_mind_grant_oa_ok _ _ r h
  rcases disp_t h with ⟨rfl, h⟩ | ⟨_, h⟩
  · exact convoy_mind_done_oa_ok _ _ r h
  cases h

noncomputable def convoy_mind_thinks_1_bb (p1 : ConvoyLetter) (p2 : ConvoyMind) : Option Bool :=
  some ((((p1.Note_.Kind == 2) && (p1.Note_.To == p2.Mate_.ID)) && (p1.Note_.From == p2.Mate_.Ward)) && (p1.Note_.From != p2.Mate_.ID))

theorem convoy_mind_thinks_1_bb_ok (p1 : ConvoyLetter) (p2 : ConvoyMind) (r : Bool) (h : convoy_mind_thinks_1_bb p1 p2 = some r) : PCall Tryz.prog 68 [(.agg (eConvoyLetter p1)), (.bp [(.bp (eConvoyMind p2) 0)] 0)] (bo r) := by
 refine l_call (fk Tryz.func68 Tryz.ntmps68 m0 (by with_unfolding_all rfl)) (nl rfl) ?_
 unfold convoy_mind_thinks_1_bb at h
 refine l_sub (s0 := ⟨T [(0, (.d _)), (1, (.d _))], G []⟩) (sbr rfl rfl) ?_
 refine lr (fun u1 hu1 => sn rfl rfl (sv rfl (s_nil (l_seq (l_draw rfl fun u2 hu2 => sp rfl rfl (sp rfl rfl (sl rfl G_hit rfl (sv rfl (sv rfl (gp rfl (gw_t rfl) (fun _ => rfl) ?_))))))))))
 refine g_val _ (.ptr _ _) rfl (gw_t rfl) (fun w2 => (by simp only [gd_pos w2]; rfl)) ?_
 refine gt rfl (vl rfl G_hit rfl) (gt rfl (fun _ => rfl) ?_)
 refine gt rfl (fun w5 => (by simp only [gd_pos w5]; rfl)) ?_
 refine gt rfl (fun w6 => (by simp only [gd_pos w6]; rfl)) ?_
 refine gt rfl (fun w7 => (by simp only [gd_pos w7]; rfl)) ?_
 refine gt rfl (fun w8 => (by simp only [gd_pos w8]; rfl)) ?_
 refine gt rfl (fun w9 => (v_bin (gd_pos w9) (gd_pos w9) rfl)) (sa rfl rfl rfl (sv rfl (gp rfl (gw_t rfl) (fun _ => rfl) ?_)))
 refine g_val _ (.ptr _ _) rfl (gw_t rfl) (fun w11 => (by simp only [gd_pos w11]; rfl)) ?_
 refine gt rfl (vl rfl G_hit rfl) (gt rfl (fun _ => rfl) ?_)
 refine gt rfl (fun w14 => (by simp only [gd_pos w14]; rfl)) ?_
 refine gt rfl (fun w15 => (by simp only [gd_pos w15]; rfl)) ?_
 refine gt rfl (fun w16 => (by simp only [gd_pos w16]; rfl)) ?_
 refine gt rfl (fun w17 => (by simp only [gd_pos w17]; rfl)) ?_
 refine gt rfl (fun w18 => (v_bin (gd_pos w18) (gd_pos w18) rfl)) (sa rfl rfl rfl (sv rfl (gp rfl (gw_t rfl) (fun _ => rfl) ?_)))
 refine g_val _ (.ptr _ _) rfl (gw_t rfl) (fun w20 => (by simp only [gd_pos w20]; rfl)) ?_
 refine gt rfl (vl rfl G_hit rfl) (gt rfl (fun _ => rfl) ?_)
 refine gt rfl (fun w23 => (by simp only [gd_pos w23]; rfl)) ?_
 refine gt rfl (fun w24 => (by simp only [gd_pos w24]; rfl)) ?_
 refine gt rfl (fun w25 => (by simp only [gd_pos w25]; rfl)) ?_
 refine gt rfl (fun w26 => (by simp only [gd_pos w26]; rfl)) ?_
 refine gt rfl (fun w27 => (v_bin (gd_pos w27) (gd_pos w27) rfl)) (sa rfl rfl rfl (sv rfl (s_nil (l_ret ?_))))
 cases h
 exact fin_ok (.inr rfl) (resD1 (res_t rfl) rf_d) (.refl _)

noncomputable def slices_IndexFunc_letter_letter_convoy_mind_thinks_1bb_l1 (p1 : (List ConvoyLetter)) (p2 : ConvoyMind) (x1 : Int) : Option (Stp Int (Sum Unit Int)) :=
  cond (decide (x1 < (p1.length : Int))) ((geti p1 x1).bind fun v1 => (convoy_mind_thinks_1_bb v1 p2).bind fun v2 => cond v2 (some (.out (.inr x1))) (some (.go (w64 (x1 + 1))))) (some (.out (.inl ())))
noncomputable def slices_IndexFunc_letter_letter_convoy_mind_thinks_1bb (p1 : (List ConvoyLetter)) (p2 : ConvoyMind) : Option Int :=
  thenS (loop (slices_IndexFunc_letter_letter_convoy_mind_thinks_1bb_l1 p1 p2) 0) (fun _ => some (-1)) (fun r => some r)

theorem slices_IndexFunc_letter_letter_convoy_mind_thinks_1bb_ok (p1 : (List ConvoyLetter)) (p2 : ConvoyMind) (r : Int) (h : slices_IndexFunc_letter_letter_convoy_mind_thinks_1bb p1 p2 = some r) : PCall Tryz.prog 109 [(.list (List.map eConvoyLetter p1)), (.fn (.func 68) [] [(.bp [(.bp (eConvoyMind p2) 0)] 0)])] (i64 r) := by
 refine l_call (fk Tryz.func109 Tryz.ntmps109 m0 (by with_unfolding_all rfl)) (nl rfl) ?_
 unfold slices_IndexFunc_letter_letter_convoy_mind_thinks_1bb at h
 refine l_sub (s0 := ⟨T [(0, (.d _)), (1, (.d _))], G []⟩) (sbr rfl rfl) ?_
 refine lr (fun u1 hu1 => sv rfl (s_nil (l_seq (lr (fun u2 hu2 => sv rfl (sd rfl (v_len rfl) (sv rfl (s_nil (js h fun z1 hz1 h => l_join (fun s => ∃ (y1 : Unit) (g1 : Unit), z1 = .inl y1 ∧ Sb ⟨T [], G []⟩ s) ?_ ?_)))))))))
 refine l_block (l_loop (slices_IndexFunc_letter_letter_convoy_mind_thinks_1bb_l1 p1 p2) (fun (x1 : Int) (g2 : Unit) => ⟨T [(0, (dl eConvoyLetter p1)), (1, (.d (.fn (.func 68) [] [(.bp [(.bp (eConvoyMind p2) 0)] 0)]))), (7, (di (p1.length : Int))), (8, (di x1))], G []⟩) 0 () _ hz1 (sbr rfl rfl) ?_)
 intro x1 g2 z2 hz2 ez2
 unfold slices_IndexFunc_letter_letter_convoy_mind_thinks_1bb_l1 at hz2
 refine lr (fun u3 hu3 => sv rfl (s_nil (l_seq (cc rfl hz2 (fun c1 hz2 => ?_) (fun c1 hz2 => ?_)))))
 refine l_skip (l_seq (l_block (lr (fun u4 hu4 => sv rfl (sv rfl (s_nil (lr (fun u5 hu5 => sv rfl (sv rfl (sv rfl (bs hz2 fun v1 hv1 hz2 => sd rfl (v_idx rfl rfl hv1 rfl) (sd rfl (v_loadLG rfl hv1 rfl rfl) (bs hz2 fun v2 hv2 hz2 => s_call rfl rfl all2_refl (convoy_mind_thinks_1_bb_ok _ _  _ hv2) (.inl rfl) (s_nil (cc rfl hz2 (fun c2 hz2 => ?_) (fun c2 hz2 => ?_))))))))))))))))
 refine lr (fun u6 hu6 => sv rfl (sv rfl (s_nil (l_ret ?_))))
 cases hz2
 obtain rfl := ez2 _ rfl
 refine ⟨nofun, awl_ret ?_⟩
 rw [Sum.elim_inr] at h
 cases h
 exact fin_ok (.inr rfl) (resD1 (res_t rfl) rf_d) (.refl _)
 refine l_skip (l_end (l_reg fun u7 hu7 => sv rfl (sv rfl (s_nil (l_nil ?_)))))
 cases hz2
 exact ⟨rfl, (), (sbr rfl rfl)⟩
 refine l_exitN rfl ?_
 cases hz2
 obtain rfl := ez2 _ rfl
 refine ⟨nofun, awl_pop rfl (l_j ?_)⟩
 exact ⟨_, (), rfl, (sbr rfl rfl)⟩
 rintro _ ⟨y1, g1, rfl, q1⟩
 rw [Sum.elim_inl] at h
 refine l_sub q1 (lr (fun u8 hu8 => sv rfl (s_nil (l_ret ?_))))
 cases h
 exact fin_ok (.inr rfl) (resD1 (res_t rfl) rf_d) (.refl _)

noncomputable def slices_ContainsFunc_letter_letter_convoy_mind_thinks_1bb (p1 : (List ConvoyLetter)) (p2 : ConvoyMind) : Option Bool :=
  (slices_IndexFunc_letter_letter_convoy_mind_thinks_1bb p1 p2).bind fun v1 => some (decide (v1 ≥ 0))

theorem slices_ContainsFunc_letter_letter_convoy_mind_thinks_1bb_ok (p1 : (List ConvoyLetter)) (p2 : ConvoyMind) (r : Bool) (h : slices_ContainsFunc_letter_letter_convoy_mind_thinks_1bb p1 p2 = some r) : PCall Tryz.prog 69 [(.list (List.map eConvoyLetter p1)), (.fn (.func 68) [] [(.bp [(.bp (eConvoyMind p2) 0)] 0)])] (bo r) := by
 refine l_call (fk Tryz.func69 Tryz.ntmps69 m0 (by with_unfolding_all rfl)) (nl rfl) ?_
 unfold slices_ContainsFunc_letter_letter_convoy_mind_thinks_1bb at h
 refine l_sub (s0 := ⟨T [(0, (.d _)), (1, (.d _))], G []⟩) (sbr rfl rfl) ?_
 refine lr (fun u1 hu1 => sv rfl (s_nil (lr (fun u2 hu2 => sv rfl (sv rfl (bs h fun v1 hv1 h => s_call rfl rfl all2_refl (slices_IndexFunc_letter_letter_convoy_mind_thinks_1bb_ok _ _  _ hv1) (.inl rfl) (sv rfl (sv rfl (s_nil (l_ret ?_))))))))))
 cases h
 exact fin_ok (.inr rfl) (resD1 (res_t rfl) rf_d) (.refl _)

noncomputable def convoy_mind_thinks_o_l1 (p2 : (List ConvoyLetter)) (x1 : (Int × ConvoyMind)) : Option (Stp (Int × ConvoyMind) ConvoyMind) :=
  cond (decide (x1.1 < (p2.length : Int))) ((geti p2 x1.1).bind fun v1 => cond (v1.Note_.From != x1.2.Mate_.ID) ((convoy_hears v1.Note_.Kind).bind fun v2 => (choose_convoy_mind_hail_oa v2 x1.2 v1).bind fun v3 => some (.go ((w64 (x1.1 + 1)), v3))) (some (.go ((w64 (x1.1 + 1)), x1.2)))) (some (.out x1.2))
noncomputable def convoy_mind_thinks_o (p1 : ConvoyMind) (p2 : (List ConvoyLetter)) : Option ConvoyMind :=
  (loop (convoy_mind_thinks_o_l1 p2) (0, p1)).bind fun y1 => ((cond ((y1.Mate_.Ward != 0) && (y1.Mate_.Until == 0)) (slices_ContainsFunc_letter_letter_convoy_mind_thinks_1bb p2 y1) (some default))).bind fun v4 => (cond (((y1.Mate_.Ward != 0) && (y1.Mate_.Until == 0)) && (!v4)) ((convoy_mind_forget_o y1).bind fun v5 => some v5) (some y1)).bind fun y2 => (cond (y2.sees && (y2.Mate_.Ahead != 0)) ((convoy_Better y2.Mate_.Guess_ (Guess.mk y2.sight.Lo y2.sight.VLo)).bind fun v6 => some (ConvoyMind.mk (Mate.mk y2.Mate_.ID y2.Mate_.S y2.Mate_.V y2.Mate_.Len y2.Mate_.Ahead v6 y2.Mate_.Trust y2.Mate_.Ward y2.Mate_.WardGuess y2.Mate_.Until) y2.tick y2.gap y2.sight y2.sees)) (some y2)).bind fun y3 => ((cond ((y3.Mate_.Ward != 0) && (y3.Mate_.Until == 0)) (convoy_Safe y3.Mate_.S y3.Mate_.V y3.gap y3.Mate_.WardGuess) (some default))).bind fun v7 => cond (((y3.Mate_.Ward != 0) && (y3.Mate_.Until == 0)) && v7) (some (ConvoyMind.mk (Mate.mk y3.Mate_.ID y3.Mate_.S y3.Mate_.V y3.Mate_.Len y3.Mate_.Ahead y3.Mate_.Guess_ y3.Mate_.Trust y3.Mate_.Ward y3.Mate_.WardGuess (w64 (y3.tick + 30))) y3.tick y3.gap y3.sight y3.sees)) (some y3)

theorem convoy_mind_thinks_o_ok (p1 : ConvoyMind) (p2 : (List ConvoyLetter)) (r : ConvoyMind) (h : convoy_mind_thinks_o p1 p2 = some r) : MCall Tryz.prog 35 [(.ptr (900000, 0) 0), (dl eConvoyLetter p2)] [(.box 79 (dConvoyMind p1))] (.d (.tup [])) [some (.box 79 (dConvoyMind r))] [] := by
 refine m_callF (fk Tryz.func35 Tryz.ntmps35 (fun r => if r == 5 then [1005006] else if r == 9 then [1009001] else []) (by with_unfolding_all rfl)) rfl (nl rfl) ?_
 unfold convoy_mind_thinks_o at h
 refine l_sub (s0 := ⟨T [(0, (.ptr _ _)), (1, (.d _))], G [((900000, 0), some (.box 79 _))]⟩) (sbr rfl rfl) ?_
 refine lr (fun u1 hu1 => sn rfl rfl (s_nil (l_seq (lr (fun u2 hu2 => sv rfl (sd rfl (v_len rfl) (sv rfl (s_nil (bs h fun y1 hy1 h => l_join (fun s => ∃ g1 : Unit, Sb ⟨T [(0, (.ptr (900000, 0) 0)), (1, (dl eConvoyLetter p2)), (2, (.ptr (2, u1) 0))], G [((900000, 0), some (.box 79 (dConvoyMind y1))), ((2, u1), some (.box 77 [(.ptr (900000, 0) 0)]))]⟩ s) ?_ ?_)))))))))
 refine l_block (l_loop (convoy_mind_thinks_o_l1 p2) (fun (x1 : (Int × ConvoyMind)) (g2 : Unit) => ⟨T [(0, (.ptr (900000, 0) 0)), (1, (dl eConvoyLetter p2)), (2, (.ptr (2, u1) 0)), (7, (dl eConvoyLetter p2)), (8, (di (p2.length : Int))), (9, (di x1.1))], G [((900000, 0), some (.box 79 (dConvoyMind x1.2))), ((2, u1), some (.box 77 [(.ptr (900000, 0) 0)]))]⟩) (0, p1) () _ hy1 (sbr rfl rfl) ?_)
 intro x1 g2 z1 hz1 ez1
 unfold convoy_mind_thinks_o_l1 at hz1
 refine lr (fun u3 hu3 => sv rfl (s_nil (l_seq (cc rfl hz1 (fun c1 hz1 => ?_) (fun c1 hz1 => ?_)))))
 refine l_skip (l_seq (l_block (lr (fun u4 hu4 => bs hz1 fun v1 hv1 hz1 => sd rfl (v_idx rfl rfl hv1 rfl) (sd rfl (v_loadLG rfl hv1 rfl rfl) (sn rfl rfl (sst rfl G_hit (dConvoyLetter v1) rfl (s_nil (l_seq (l_draw rfl fun u5 hu5 => sp rfl rfl (sp rfl rfl (sl rfl G_hit rfl (sp rfl (v_load rfl (gq rfl) rfl) (sp rfl rfl (sp rfl rfl (sp rfl rfl (sl rfl (gq rfl) rfl (sv rfl (s_nil (cc rfl hz1 (fun c2 hz1 => ?_) (fun c2 hz1 => ?_)))))))))))))))))))))
 refine l_sub (s0 := ⟨T [(0, (.ptr _ _)), (1, (.d _)), (2, (.ptr _ _)), (5, (.ptr _ _)), (7, (.d _)), (8, (.d _)), (9, (.d _))], G [((900000, 0), some (.box 79 _)), ((2, u1), some (.box 77 _)), ((5, u4), some (.box 105 _))]⟩) (sbr rfl rfl) ?_
 refine l_draw rfl fun u6 hu6 => sp rfl rfl (sp rfl rfl (sl rfl (gq rfl) rfl (bs hz1 fun v2 hv2 hz1 => s_call rfl rfl all2_refl (convoy_hears_ok _  _ hv2) (.inl rfl) (sp rfl (v_load rfl (gq rfl) rfl) (sd rfl (v_loadG rfl (gq rfl) rfl rfl) (bs hz1 fun v3 hv3 hz1 => s_oc (v := .d (.tup [])) (us := [(900000, 0)]) (oc_m (choose_convoy_mind_hail_oa_ok _ _ _ _ hv3) [(900000, 0)] [(900000, 0)] _ (((900000, 0), some (.box 79 (dConvoyMind v3))) :: _) rfl all2_av (kl_cons (kr_ptr G_hit rfl) (kl_cons kr_d kl_nil)) (live_cons G_hit live_nil) ⟨⟨_, G_hit, .of rfl⟩, trivial⟩ (fun _ h => h) nd1 rfl rfl rfl) (s_nil (l_end (l_reg fun u7 hu7 => sv rfl (sv rfl (s_nil (l_nil ?_))))))))))))
 cases hz1
 exact ⟨rfl, (), (sbr rfl rfl)⟩
 refine l_skip (l_end (l_sub (s0 := ⟨T [(0, (.ptr _ _)), (1, (.d _)), (2, (.ptr _ _)), (7, (.d _)), (8, (.d _)), (9, (.d _))], G [((900000, 0), some (.box 79 _)), ((2, u1), some (.box 77 _))]⟩) (sbr rfl rfl) ?_))
 refine l_reg fun u8 hu8 => sv rfl (sv rfl (s_nil (l_nil ?_)))
 cases hz1
 exact ⟨rfl, (), (sbr rfl rfl)⟩
 refine l_exitN rfl ?_
 cases hz1
 obtain rfl := ez1 _ rfl
 refine ⟨nofun, awl_pop rfl (l_j ?_)⟩
 exact ⟨(), (sbr rfl rfl)⟩
 rintro _ ⟨g1, q1⟩
 refine l_sub q1 (lr (fun u9 hu9 => s_val (.fn _ _ _) rfl rfl (s_val (.fn _ _ _) rfl rfl (s_nil (l_seq (lr (fun u10 hu10 => sp rfl (v_load rfl (gq rfl) rfl) (sp rfl rfl (sp rfl rfl (sp rfl rfl (sl rfl G_hit rfl (sv rfl (sv rfl (g_val _ (.ptr _ _) rfl (gw_t rfl) (fun w1 => (v_load rfl (gq rfl) rfl)) ?_))))))))))))))
 refine g_val _ (.ptr _ _) rfl (gw_t rfl) (fun w2 => (by simp only [gd_pos w2]; rfl)) ?_
 refine g_val _ (.ptr _ _) rfl (gw_t rfl) (fun w3 => (by simp only [gd_pos w3]; rfl)) ?_
 refine g_val _ (.ptr _ _) rfl (gw_t rfl) (fun w4 => (by simp only [gd_pos w4]; rfl)) ?_
 refine gt rfl (vl rfl G_hit rfl) (gt rfl (vb rfl rfl rfl) (sa rfl rfl rfl (sv rfl (gt rfl (fun _ => rfl) (g_val _ (.fn _ _ _) rfl (gw_t rfl) (fun _ => rfl) (bs h fun v4 hv4 h => ?_))))))
 refine g_call _ (bo v4) (gw_t rfl) (fun w9 => ⟨_, [(dl eConvoyLetter p2), (.fn (.func 68) [] [(.ptr (2, u1) 0)])], _, _, (by simp only [gd_pos w9]; rfl), (rD (rfL_cons (rf_fn rfL_nil (rfL_cons (rf_ptr (gq rfl) (rfL_cons (rf_ptr G_hit (rD (rD (rD (rD (rD (rD (rD (rD (rD (rD (rD (rD (rD (rD (rD (rD (rD (rD (rD (rD rfL_nil))))))))))))))))))))) rfL_nil)) rfL_nil)) rfL_nil)), all2_refl, slices_ContainsFunc_letter_letter_convoy_mind_thinks_1bb_ok _ _  _ (cond_t w9 hv4), (.inr rfl)⟩) ?_
 refine g_val _ (.d (bo (!v4))) rfl (gw_t rfl) (fun w10 => (by simp only [gd_pos w10]; rfl)) ?_
 refine sa rfl rfl rfl (s_nil (bs h fun y2 hy2 h => l_join (fun s => ∃ g3 : Unit, Sb ⟨T [(0, (.ptr (900000, 0) 0)), (2, (.ptr (2, u1) 0))], G [((900000, 0), some (.box 79 (dConvoyMind y2))), ((2, u1), some (.box 77 [(.ptr (900000, 0) 0)]))]⟩ s) ?_ ?_))
 refine cc rfl hy2 (fun c3 hy2 => ?_) (fun c3 hy2 => ?_)
 refine l_sub (s0 := ⟨T [(0, (.ptr _ _)), (2, (.ptr _ _))], G [((900000, 0), some (.box 79 _)), ((2, u1), some (.box 77 _))]⟩) (sbr rfl rfl) ?_
 refine l_reg fun u11 hu11 => sp rfl (v_load rfl (gq rfl) rfl) (bs hy2 fun v5 hv5 hy2 => s_oc (v := .d (.tup [])) (us := [(900000, 0)]) (oc_m (convoy_mind_forget_o_ok _ _ hv5) [(900000, 0)] [(900000, 0)] _ (((900000, 0), some (.box 79 (dConvoyMind v5))) :: _) rfl all2_av (kl_cons (kr_ptr G_hit rfl) kl_nil) (live_cons G_hit live_nil) ⟨⟨_, G_hit, .of rfl⟩, trivial⟩ (fun _ h => h) nd1 rfl rfl rfl) (s_nil ?_))
 cases hy2
 exact l_j ⟨(), (sbr rfl rfl)⟩
 refine l_skip ?_
 cases hy2
 exact l_j ⟨(), (sbr rfl rfl)⟩
 rintro _ ⟨g3, q2⟩
 refine l_sub q2 (l_seq (lr (fun u12 hu12 => sp rfl (v_load rfl (gq rfl) rfl) (sp rfl rfl (sp rfl rfl (sl rfl G_hit rfl (sv rfl (g_val _ (.ptr _ _) rfl (gw_t rfl) (fun w11 => (v_load rfl (gq rfl) rfl)) ?_))))))))
 refine g_val _ (.ptr _ _) rfl (gw_t rfl) (fun w12 => (by simp only [gd_pos w12]; rfl)) ?_
 refine g_val _ (.ptr _ _) rfl (gw_t rfl) (fun w13 => (by simp only [gd_pos w13]; rfl)) ?_
 refine g_val _ (.ptr _ _) rfl (gw_t rfl) (fun w14 => (by simp only [gd_pos w14]; rfl)) ?_
 refine gt rfl (vl rfl G_hit rfl) (gt rfl (vb rfl rfl rfl) (sa rfl rfl rfl (s_nil (bs h fun y3 hy3 h => l_join (fun s => ∃ g4 : Unit, Sb ⟨T [(0, (.ptr (900000, 0) 0)), (2, (.ptr (2, u1) 0))], G [((900000, 0), some (.box 79 (dConvoyMind y3))), ((2, u1), some (.box 77 [(.ptr (900000, 0) 0)]))]⟩ s) ?_ ?_))))
 refine cc rfl hy3 (fun c4 hy3 => ?_) (fun c4 hy3 => ?_)
 refine l_draw rfl fun u13 hu13 => sp rfl (v_load rfl (gq rfl) rfl) (sp rfl (v_load rfl (gq rfl) rfl) (sp rfl rfl (sp rfl rfl (sp rfl rfl (sd rfl (v_loadG rfl G_hit rfl rfl) (sp rfl (v_load rfl (gq rfl) rfl) (sp rfl rfl (sp rfl rfl (sp rfl rfl (sl rfl G_hit rfl (sp rfl (v_load rfl (gq rfl) rfl) (sp rfl rfl (sp rfl rfl (sp rfl rfl (sl rfl G_hit rfl (sv rfl (bs hy3 fun v6 hv6 hy3 => s_call rfl rfl all2_refl (convoy_Better_ok _ _  _ hv6) (.inl rfl) (sp rfl rfl (sp rfl rfl (sp rfl rfl (sst rfl G_hit (((dConvoyMind y2).set 5 (di v6.R)).set 6 (di v6.V)) rfl (s_nil ?_))))))))))))))))))))))
 cases hy3
 exact l_j ⟨(), (sbr rfl rfl)⟩
 refine l_skip ?_
 cases hy3
 exact l_j ⟨(), (sbr rfl rfl)⟩
 rintro _ ⟨g4, q3⟩
 refine l_sub q3 (l_seq (l_draw rfl fun u14 hu14 => sp rfl (v_load rfl (gq rfl) rfl) (sp rfl rfl (sp rfl rfl (sp rfl rfl (sl rfl G_hit rfl (sv rfl (sv rfl (g_val _ (.ptr _ _) rfl (gw_t rfl) (fun w17 => (v_load rfl (gq rfl) rfl)) ?_)))))))))
 refine g_val _ (.ptr _ _) rfl (gw_t rfl) (fun w18 => (by simp only [gd_pos w18]; rfl)) ?_
 refine g_val _ (.ptr _ _) rfl (gw_t rfl) (fun w19 => (by simp only [gd_pos w19]; rfl)) ?_
 refine g_val _ (.ptr _ _) rfl (gw_t rfl) (fun w20 => (by simp only [gd_pos w20]; rfl)) ?_
 refine gt rfl (vl rfl G_hit rfl) (gt rfl (vb rfl rfl rfl) (sa rfl rfl rfl (sv rfl (g_val _ (.ptr _ _) rfl (gw_t rfl) (fun w23 => (v_load rfl (gq rfl) rfl)) ?_))))
 refine g_val _ (.ptr _ _) rfl (gw_t rfl) (fun w24 => (by simp only [gd_pos w24]; rfl)) ?_
 refine g_val _ (.ptr _ _) rfl (gw_t rfl) (fun w25 => (by simp only [gd_pos w25]; rfl)) ?_
 refine g_val _ (.ptr _ _) rfl (gw_t rfl) (fun w26 => (by simp only [gd_pos w26]; rfl)) ?_
 refine gt rfl (vl rfl G_hit rfl) (g_val _ (.ptr _ _) rfl (gw_t rfl) (fun w28 => (v_load rfl (gq rfl) rfl)) ?_)
 refine g_val _ (.ptr _ _) rfl (gw_t rfl) (fun w29 => (by simp only [gd_pos w29]; rfl)) ?_
 refine g_val _ (.ptr _ _) rfl (gw_t rfl) (fun w30 => (by simp only [gd_pos w30]; rfl)) ?_
 refine g_val _ (.ptr _ _) rfl (gw_t rfl) (fun w31 => (by simp only [gd_pos w31]; rfl)) ?_
 refine gt rfl (vl rfl G_hit rfl) (g_val _ (.ptr _ _) rfl (gw_t rfl) (fun w33 => (v_load rfl (gq rfl) rfl)) ?_)
 refine g_val _ (.ptr _ _) rfl (gw_t rfl) (fun w34 => (by simp only [gd_pos w34]; rfl)) ?_
 refine g_val _ (.ptr _ _) rfl (gw_t rfl) (fun w35 => (by simp only [gd_pos w35]; rfl)) ?_
 refine gt rfl (vl rfl G_hit rfl) (g_val _ (.ptr _ _) rfl (gw_t rfl) (fun w37 => (v_load rfl (gq rfl) rfl)) ?_)
 refine g_val _ (.ptr _ _) rfl (gw_t rfl) (fun w38 => (by simp only [gd_pos w38]; rfl)) ?_
 refine g_val _ (.ptr _ _) rfl (gw_t rfl) (fun w39 => (by simp only [gd_pos w39]; rfl)) ?_
 refine g_val _ (.ptr _ _) rfl (gw_t rfl) (fun w40 => (by simp only [gd_pos w40]; rfl)) ?_
 refine gt rfl (fun w41 => (v_loadG (gd_pos w41) G_hit rfl rfl)) (bs h fun v7 hv7 h => ?_)
 refine g_call _ (bo v7) (gw_t rfl) (fun w42 => ⟨_, [(di y3.Mate_.S), (di y3.Mate_.V), (di y3.gap), (.d (.agg [(i64 y3.Mate_.WardGuess.R), (i64 y3.Mate_.WardGuess.V)]))], _, _, (by simp only [gd_pos w42]; rfl), rfl, all2_refl, convoy_Safe_ok _ _ _ _  _ (cond_t w42 hv7), (.inl rfl)⟩) ?_
 refine sa rfl rfl rfl (s_nil (cc rfl h (fun c5 h => ?_) (fun c5 h => ?_)))
 refine l_sub (s0 := ⟨T [(0, (.ptr _ _)), (2, (.ptr _ _))], G [((900000, 0), some (.box 79 _)), ((2, u1), some (.box 77 _))]⟩) (sbr rfl rfl) ?_
 refine l_draw rfl fun u15 hu15 => sp rfl (v_load rfl (gq rfl) rfl) (sp rfl (v_load rfl (gq rfl) rfl) (sp rfl rfl (sp rfl rfl (sl rfl G_hit rfl (sv rfl (sp rfl rfl (sp rfl rfl (sp rfl rfl (sst rfl G_hit ((dConvoyMind y3).set 11 (di (w64 (y3.tick + 30)))) rfl (s_nil (l_nil ?_)))))))))))
 cases h
 exact fin_mf (.inl rfl) [] resDF0 (.refl _) ⟨⟨_, _, _, G_hit, old_notin_nil, rfl, all2_d, rfl⟩, trivial⟩
 refine l_skip (l_nil ?_)
 cases h
 exact fin_mf (.inl rfl) [] resDF0 (.refl _) ⟨⟨_, _, _, G_hit, old_notin_nil, rfl, all2_d, rfl⟩, trivial⟩

noncomputable def convoy_Step_2_b (p1 : Int) (p2 : (List Int)) : Option Int :=
  cond (decide (p1 < (p2.length : Int))) ((geti p2 p1).bind fun v1 => some v1) (some 0)

theorem convoy_Step_2_b_ok (p1 : Int) (p2 : (List Int)) (r : Int) (h : convoy_Step_2_b p1 p2 = some r) : PCall Tryz.prog 32 [(i64 p1), (.bp [(.list (List.map eInt_i64 p2))] 0)] (i64 r) := by
 refine l_call (fk Tryz.func32 Tryz.ntmps32 m0 (by with_unfolding_all rfl)) (nl rfl) ?_
 unfold convoy_Step_2_b at h
 refine l_sub (s0 := ⟨T [(0, (.d _)), (1, (.d _))], G []⟩) (sbr rfl rfl) ?_
 refine lr (fun u1 hu1 => sv rfl (s_nil (l_seq (lr (fun u2 hu2 => sv rfl (sv rfl (sd rfl (v_len rfl) (sv rfl (s_nil (cc rfl h (fun c1 h => ?_) (fun c1 h => ?_)))))))))))
 refine lr (fun u3 hu3 => sv rfl (sv rfl (bs h fun v1 hv1 h => sd rfl (v_idx rfl rfl hv1 rfl) (sd rfl (v_loadL rfl hv1 rfl) (sv rfl (s_nil (l_ret ?_)))))))
 cases h
 exact fin_ok (.inr rfl) (resD1 (res_t rfl) rf_d) (.refl _)
 refine l_skip (lr (fun u4 hu4 => sv rfl (s_nil (l_ret ?_))))
 cases h
 exact fin_ok (.inr rfl) (resD1 (res_t rfl) rf_d) (.refl _)

noncomputable def convoy_moved (p1 : Int) (p2 : Int) (p3 : Int) : Option (Int × Int) :=
  some ((w64 (p1 + (mm2 true 0 (mm2 false (w64 (p2 + p3)) 2000)))), (mm2 true 0 (mm2 false (w64 (p2 + p3)) 2000)))

theorem convoy_moved_ok (p1 : Int) (p2 : Int) (p3 : Int) (r : (Int × Int)) (h : convoy_moved p1 p2 p3 = some r) : PCall Tryz.prog 74 [(i64 p1), (i64 p2), (i64 p3)] (.tup [(i64 r.1), (i64 r.2)]) := by
 refine l_call (fk Tryz.func74 Tryz.ntmps74 m0 (by with_unfolding_all rfl)) (nl rfl) ?_
 unfold convoy_moved at h
 refine l_sub (s0 := ⟨T [(0, (.d _)), (1, (.d _)), (2, (.d _))], G []⟩) (sbr rfl rfl) ?_
 refine lr (fun u1 hu1 => sv rfl (sv rfl (s_nil (lr (fun u2 hu2 => sv rfl (sv rfl (sv rfl (sv rfl (sv rfl (sv rfl (s_nil (lr (fun u3 hu3 => sv rfl (sv rfl (sv rfl (sv rfl (sv rfl (sv rfl (s_nil (l_ret ?_))))))))))))))))))))
 cases h
 exact fin_ok (.inr rfl) (resD2 (res_t rfl) (res_t rfl) rf_d rf_d) (.refl _)

noncomputable def convoy_mind_drives_1_bb_b_b (p1 : Int) (p2 : Int) (p3 : ConvoyMind) (p4 : Guess) (p5 : Guess) : Option Bool :=
  (convoy_keeps p3.gap p3.Mate_ p1 p2 p4 p5).bind fun v1 => some v1

theorem convoy_mind_drives_1_bb_b_b_ok (p1 : Int) (p2 : Int) (p3 : ConvoyMind) (p4 : Guess) (p5 : Guess) (r : Bool) (h : convoy_mind_drives_1_bb_b_b p1 p2 p3 p4 p5 = some r) : PCall Tryz.prog 73 [(i64 p1), (i64 p2), (.bp [(.bp (eConvoyMind p3) 0)] 0), (.bp [(i64 p4.R), (i64 p4.V)] 0), (.bp [(i64 p5.R), (i64 p5.V)] 0)] (bo r) := by
 refine l_call (fk Tryz.func73 Tryz.ntmps73 m0 (by with_unfolding_all rfl)) (nl rfl) ?_
 unfold convoy_mind_drives_1_bb_b_b at h
 refine l_sub (s0 := ⟨T [(0, (.d _)), (1, (.d _)), (2, (.d _)), (3, (.d _)), (4, (.d _))], G []⟩) (sbr rfl rfl) ?_
 refine lr (fun u1 hu1 => sv rfl (s_nil (l_seq (l_draw rfl fun u2 hu2 => sv rfl (sv rfl (sv rfl (sv rfl (sv rfl (sv rfl (sv rfl (sv rfl (sv rfl (sv rfl (sv rfl (sv rfl (bs h fun v1 hv1 h => s_call rfl rfl all2_refl (convoy_keeps_ok _ _ _ _ _ _  _ hv1) (.inl rfl) (sv rfl (s_nil (l_ret ?_)))))))))))))))))))
 cases h
 exact fin_ok (.inr rfl) (resD1 (res_t rfl) rf_d) (.refl _)

noncomputable def convoy_greatest_convoy_mind_drives_1bbbb_l1 (p1 : Int) (p2 : Int) (p4 : ConvoyMind) (p5 : Guess) (p6 : Guess) (x1 : Int) : Option (Stp Int Int) :=
  cond (decide (x1 > (-90))) ((convoy_moved p1 p2 x1).bind fun v1 => (convoy_mind_drives_1_bb_b_b v1.1 v1.2 p4 p5 p6).bind fun v2 => cond v2 (some (.out x1)) (some (.go (w64 (x1 - 1))))) (some (.out x1))
noncomputable def convoy_greatest_convoy_mind_drives_1bbbb (p1 : Int) (p2 : Int) (p3 : Int) (p4 : ConvoyMind) (p5 : Guess) (p6 : Guess) : Option Int :=
  (loop (convoy_greatest_convoy_mind_drives_1bbbb_l1 p1 p2 p4 p5 p6) (mm2 true (-90) (mm2 false p3 30))).bind fun y1 => some y1

theorem convoy_greatest_convoy_mind_drives_1bbbb_ok (p1 : Int) (p2 : Int) (p3 : Int) (p4 : ConvoyMind) (p5 : Guess) (p6 : Guess) (r : Int) (h : convoy_greatest_convoy_mind_drives_1bbbb p1 p2 p3 p4 p5 p6 = some r) : PCall Tryz.prog 72 [(i64 p1), (i64 p2), (i64 p3), (.fn (.func 73) [] [(.bp [(.bp (eConvoyMind p4) 0)] 0), (.bp [(i64 p5.R), (i64 p5.V)] 0), (.bp [(i64 p6.R), (i64 p6.V)] 0)])] (i64 r) := by
 refine l_call (fk Tryz.func72 Tryz.ntmps72 m0 (by with_unfolding_all rfl)) (nl rfl) ?_
 unfold convoy_greatest_convoy_mind_drives_1bbbb at h
 refine l_sub (s0 := ⟨T [(0, (.d _)), (1, (.d _)), (2, (.d _)), (3, (.d _))], G []⟩) (sbr rfl rfl) ?_
 refine lr (fun u1 hu1 => sv rfl (s_nil (lr (fun u2 hu2 => sv rfl (sv rfl (sv rfl (sv rfl (s_nil (l_seq (bs h fun y1 hy1 h => l_join (fun s => ∃ g1 : Unit, Sb ⟨T [(9, (di y1))], G []⟩ s) ?_ ?_))))))))))
 refine l_block (l_loop (convoy_greatest_convoy_mind_drives_1bbbb_l1 p1 p2 p4 p5 p6) (fun (x1 : Int) (g2 : Unit) => ⟨T [(0, (di p1)), (1, (di p2)), (3, (.d (.fn (.func 73) [] [(.bp [(.bp (eConvoyMind p4) 0)] 0), (.bp [(i64 p5.R), (i64 p5.V)] 0), (.bp [(i64 p6.R), (i64 p6.V)] 0)]))), (9, (di x1))], G []⟩) (mm2 true (-90) (mm2 false p3 30)) () _ hy1 (sbr rfl rfl) ?_)
 intro x1 g2 z1 hz1 ez1
 unfold convoy_greatest_convoy_mind_drives_1bbbb_l1 at hz1
 refine l_seq (lr (fun u3 hu3 => sv rfl (sv rfl (s_nil (cc rfl hz1 (fun c1 hz1 => ?_) (fun c1 hz1 => ?_))))))
 refine l_skip (l_seq (l_block (lr (fun u4 hu4 => sv rfl (sv rfl (sv rfl (sv rfl (bs hz1 fun v1 hv1 hz1 => s_call rfl rfl all2_refl (convoy_moved_ok _ _ _  _ hv1) (.inl rfl) (sv rfl (sv rfl (bs hz1 fun v2 hv2 hz1 => s_call rfl rfl all2_refl (convoy_mind_drives_1_bb_b_b_ok _ _ _ _ _  _ hv2) (.inl rfl) (s_nil (cc rfl hz1 (fun c2 hz1 => ?_) (fun c2 hz1 => ?_))))))))))))))
 refine l_exitN rfl ?_
 cases hz1
 obtain rfl := ez1 _ rfl
 refine ⟨nofun, awl_pop rfl (l_j ?_)⟩
 exact ⟨(), (sbr rfl rfl)⟩
 refine l_skip (l_end (l_reg fun u5 hu5 => sv rfl (sv rfl (sv rfl (s_nil (l_nil ?_))))))
 cases hz1
 exact ⟨rfl, (), (sbr rfl rfl)⟩
 refine l_exitN rfl ?_
 cases hz1
 obtain rfl := ez1 _ rfl
 refine ⟨nofun, awl_pop rfl (l_j ?_)⟩
 exact ⟨(), (sbr rfl rfl)⟩
 rintro _ ⟨g1, q1⟩
 refine l_sub q1 (lr (fun u6 hu6 => sv rfl (sv rfl (s_nil (l_ret ?_)))))
 cases h
 exact fin_ok (.inr rfl) (resD1 (res_t rfl) rf_d) (.refl _)

noncomputable def convoy_mind_drives_b (p1 : ConvoyMind) (p2 : Int) : Option Mate :=
  (cond ((p1.Mate_.Ward != 0) && (p1.Mate_.Until == 0)) (some (mm2 false p2 (-20))) (some p2)).bind fun y1 => (convoy_Age p1.Mate_.Guess_ 1).bind fun v1 => (convoy_Age p1.Mate_.WardGuess 1).bind fun v2 => (convoy_greatest_convoy_mind_drives_1bbbb p1.Mate_.S p1.Mate_.V y1 p1 v1 v2).bind fun v3 => (convoy_moved p1.Mate_.S p1.Mate_.V v3).bind fun v4 => (cond (p1.Mate_.Ahead != 0) (some (Mate.mk p1.Mate_.ID v4.1 v4.2 p1.Mate_.Len p1.Mate_.Ahead v1 p1.Mate_.Trust p1.Mate_.Ward p1.Mate_.WardGuess p1.Mate_.Until)) (some (Mate.mk p1.Mate_.ID v4.1 v4.2 p1.Mate_.Len p1.Mate_.Ahead p1.Mate_.Guess_ p1.Mate_.Trust p1.Mate_.Ward p1.Mate_.WardGuess p1.Mate_.Until))).bind fun y2 => cond (p1.Mate_.Ward != 0) (some (Mate.mk y2.ID y2.S y2.V y2.Len y2.Ahead y2.Guess_ y2.Trust y2.Ward v2 y2.Until)) (some y2)

theorem convoy_mind_drives_b_ok (p1 : ConvoyMind) (p2 : Int) (r : Mate) (h : convoy_mind_drives_b p1 p2 = some r) : PCall Tryz.prog 36 [(.bp (eConvoyMind p1) 0), (i64 p2)] (.agg (eMate r)) := by
 refine l_call (fk Tryz.func36 Tryz.ntmps36 m0 (by with_unfolding_all rfl)) (nl rfl) ?_
 unfold convoy_mind_drives_b at h
 refine l_sub (s0 := ⟨T [(0, (.d _)), (1, (.d _))], G []⟩) (sbr rfl rfl) ?_
 refine lr (fun u1 hu1 => sn rfl rfl (sn rfl rfl (s_nil (l_seq (lr (fun u2 hu2 => sl rfl (gq rfl) rfl (sv rfl (sv rfl (sv rfl (sv rfl (sv rfl (sv rfl (gt rfl (fun w1 => (v_load rfl (gq rfl) rfl)) ?_)))))))))))))
 refine gt rfl (fun w2 => (by simp only [gd_pos w2]; rfl)) ?_
 refine gt rfl (fun w3 => (by simp only [gd_pos w3]; rfl)) ?_
 refine gt rfl (fun w4 => (by simp only [gd_pos w4]; rfl)) ?_
 refine gt rfl (fun w5 => (by simp only [gd_pos w5]; rfl)) ?_
 refine gt rfl (vb rfl rfl rfl) (sa rfl rfl rfl (s_nil (bs h fun y1 hy1 h => l_join (fun s => ∃ g1 : Unit, Sb ⟨T [(1, (di y1)), (2, (.ptr (2, u1) 0)), (4, (.ptr (4, u1) 0))], G [((2, u1), some (.box 77 [(.d (.bp (eConvoyMind p1) 0))])), ((4, u1), some (.box 51 ((zs 12).set 7 (.d (bo false)))))]⟩ s) ?_ ?_)))
 refine cc rfl hy1 (fun c1 hy1 => ?_) (fun c1 hy1 => ?_)
 refine l_reg fun u3 hu3 => sv rfl (sv rfl (sv rfl (s_nil ?_)))
 cases hy1
 exact l_j ⟨(), (sbr rfl rfl)⟩
 refine l_skip ?_
 cases hy1
 exact l_j ⟨(), (sbr rfl rfl)⟩
 rintro _ ⟨g1, q1⟩
 refine l_sub q1 (l_seq (l_draw rfl fun u4 hu4 => sl rfl G_hit rfl (sv rfl (sv rfl (sv rfl (sv rfl (bs h fun v1 hv1 h => s_call rfl rfl all2_refl (convoy_Age_ok _ _  _ hv1) (.inl rfl) (sl rfl G_hit rfl (sv rfl (sv rfl (sv rfl (sv rfl (bs h fun v2 hv2 h => s_call rfl rfl all2_refl (convoy_Age_ok _ _  _ hv2) (.inl rfl) (sn rfl rfl (sn rfl rfl (sst rfl (gq rfl) [(di v1.R), (di v1.V)] rfl (sst rfl (gq rfl) [(di v2.R), (di v2.V)] rfl (s_nil (l_seq (l_sub (s0 := ⟨T [(1, (.d _)), (2, (.ptr _ _)), (4, (.ptr _ _)), (5, (.ptr _ _)), (6, (.ptr _ _))], G [((2, u1), some (.box 77 _)), ((4, u1), some (.box 51 _)), ((5, u4), some (.box 28 _)), ((6, u4), some (.box 28 _))]⟩) (sbr rfl rfl) ?_))))))))))))))))))))
 refine l_draw rfl fun u5 hu5 => sl rfl G_hit rfl (sv rfl (sv rfl (sv rfl (sv rfl (sl rfl G_hit rfl (sv rfl (sv rfl (sv rfl (sv rfl (sv rfl (s_val (.fn _ _ _) rfl rfl (bs h fun v3 hv3 h => s_call rfl (rD (rD (rD (rfL_cons (rf_fn rfL_nil (rfL_cons (rf_ptr G_hit (rD rfL_nil)) (rfL_cons (rf_ptr (gq rfl) (rD (rD rfL_nil))) (rfL_cons (rf_ptr (gq rfl) (rD (rD rfL_nil))) rfL_nil)))) rfL_nil)))) all2_refl (convoy_greatest_convoy_mind_drives_1bbbb_ok _ _ _ _ _ _  _ hv3) (.inr rfl) (sv rfl (s_nil (l_seq (l_sub (s0 := ⟨T [(2, (.ptr _ _)), (4, (.ptr _ _)), (5, (.ptr _ _)), (6, (.ptr _ _)), (7, (.d _))], G [((2, u1), some (.box 77 _)), ((4, u1), some (.box 51 _)), ((5, u4), some (.box 28 _)), ((6, u4), some (.box 28 _))]⟩) (sbr rfl rfl) ?_))))))))))))))))
 refine l_reg fun u6 hu6 => sl rfl G_hit rfl (sv rfl (sv rfl (sv rfl (sn rfl rfl (sst rfl G_hit (dMate p1.Mate_) rfl (s_nil (l_seq (l_draw rfl fun u7 hu7 => sl rfl (gq rfl) rfl (sv rfl (sv rfl (sv rfl (sv rfl (sl rfl (gq rfl) rfl (sv rfl (sv rfl (sv rfl (sv rfl (sv rfl (bs h fun v4 hv4 h => s_call rfl rfl all2_refl (convoy_moved_ok _ _ _  _ hv4) (.inl rfl) (sv rfl (sv rfl (sv rfl (sp rfl rfl (sst rfl G_hit ((dMate p1.Mate_).set 1 (di v4.1)) rfl (sp rfl rfl (sst rfl G_hit (((dMate p1.Mate_).set 1 (di v4.1)).set 2 (di v4.2)) rfl (s_nil (l_seq (l_seq (l_sub (s0 := ⟨T [(2, (.ptr _ _)), (4, (.ptr _ _)), (5, (.ptr _ _)), (6, (.ptr _ _)), (8, (.ptr _ _))], G [((2, u1), some (.box 77 _)), ((4, u1), some (.box 51 _)), ((5, u4), some (.box 28 _)), ((6, u4), some (.box 28 _)), ((8, u6), some (.box 51 _))]⟩) (sbr rfl rfl) ?_))))))))))))))))))))))))))))))
 refine l_reg fun u8 hu8 => sl rfl G_hit rfl (sv rfl (sv rfl (sv rfl (sv rfl (sv rfl (s_nil (bs h fun y2 hy2 h => l_join (fun s => ∃ g2 : Unit, Sb ⟨T [(2, (.ptr (2, u1) 0)), (4, (.ptr (4, u1) 0)), (6, (.ptr (6, u4) 0)), (8, (.ptr (8, u6) 0))], G [((2, u1), some (.box 77 [(.d (.bp (eConvoyMind p1) 0))])), ((4, u1), some (.box 51 ((zs 12).set 7 (.d (bo false))))), ((6, u4), some (.box 28 [(di v2.R), (di v2.V)])), ((8, u6), some (.box 51 (dMate y2)))]⟩ s) ?_ ?_)))))))
 refine cc rfl hy2 (fun c2 hy2 => ?_) (fun c2 hy2 => ?_)
 refine l_reg fun u9 hu9 => sd rfl (v_loadG rfl (gq rfl) rfl rfl) (sp rfl rfl (sst rfl (gq rfl) (((((dMate p1.Mate_).set 1 (di v4.1)).set 2 (di v4.2)).set 5 (di v1.R)).set 6 (di v1.V)) rfl (s_nil ?_)))
 cases hy2
 exact l_j ⟨(), (sbr rfl rfl)⟩
 refine l_skip ?_
 cases hy2
 exact l_j ⟨(), (sbr rfl rfl)⟩
 rintro _ ⟨g2, q2⟩
 refine l_sub q2 (l_seq (lr (fun u10 hu10 => sl rfl G_hit rfl (sv rfl (sv rfl (sv rfl (sv rfl (sv rfl (s_nil (cc rfl h (fun c3 h => ?_) (fun c3 h => ?_)))))))))))
 refine l_reg fun u11 hu11 => sd rfl (v_loadG rfl (gq rfl) rfl rfl) (sp rfl rfl (sst rfl (gq rfl) (((dMate y2).set 9 (di v2.R)).set 10 (di v2.V)) rfl (s_nil (lr (fun u12 hu12 => sd rfl (v_loadG rfl G_hit rfl rfl) (sst rfl (gq rfl) (((dMate y2).set 9 (di v2.R)).set 10 (di v2.V)) rfl (s_nil (l_ret ?_))))))))
 cases h
 exact fin_ok (.inr rfl) (resD1 (res_cellG rfl G_hit (nl rfl) rfl) rf_d) (.refl _)
 refine l_skip (lr (fun u13 hu13 => sd rfl (v_loadG rfl (gq rfl) rfl rfl) (sst rfl (gq rfl) (dMate y2) rfl (s_nil (l_ret ?_)))))
 cases h
 exact fin_ok (.inr rfl) (resD1 (res_cellG rfl G_hit (nl rfl) rfl) rf_d) (.refl _)

noncomputable def convoy_nearer_o (p1 : Guest) (p2 : Int) (p3 : Guess) : Option Guest :=
  (cond (p1.Ahead != 0) ((convoy_Better p1.Guess_ p3).bind fun v1 => some v1) (some p3)).bind fun y1 => some (Guest.mk p1.ID p1.S p1.V p1.Len p1.End p2 y1 p1.From p1.Until)

theorem convoy_nearer_o_ok (p1 : Guest) (p2 : Int) (p3 : Guess) (r : Guest) (h : convoy_nearer_o p1 p2 p3 = some r) : MCall Tryz.prog 75 [(.ptr (900000, 0) 0), (di p2), (.d (.agg [(i64 p3.R), (i64 p3.V)]))] [(.box 30 (dGuest p1))] (.d (.tup [])) [some (.box 30 (dGuest r))] [] := by
 refine m_callF (fk Tryz.func75 Tryz.ntmps75 m0 (by with_unfolding_all rfl)) rfl (nl rfl) ?_
 unfold convoy_nearer_o at h
 refine l_sub (s0 := ⟨T [(0, (.ptr _ _)), (1, (.d _)), (2, (.d _))], G [((900000, 0), some (.box 30 _))]⟩) (sbr rfl rfl) ?_
 refine lr (fun u1 hu1 => sn rfl rfl (s_nil (l_seq (lr (fun u2 hu2 => sp rfl rfl (sp rfl rfl (sp rfl rfl (sl rfl (gq rfl) rfl (sv rfl (s_nil (bs h fun y1 hy1 h => l_join (fun s => ∃ g1 : Unit, Sb ⟨T [(0, (.ptr (900000, 0) 0)), (1, (di p2)), (5, (.ptr (5, u1) 0))], G [((900000, 0), some (.box 30 (dGuest p1))), ((5, u1), some (.box 28 [(di y1.R), (di y1.V)]))]⟩ s) ?_ ?_)))))))))))
 refine cc rfl hy1 (fun c1 hy1 => ?_) (fun c1 hy1 => ?_)
 refine l_draw rfl fun u3 hu3 => sp rfl rfl (sp rfl rfl (sp rfl rfl (sd rfl (v_loadG rfl (gq rfl) rfl rfl) (sd rfl (v_loadG rfl G_hit rfl rfl) (bs hy1 fun v1 hv1 hy1 => s_call rfl rfl all2_refl (convoy_Better_ok _ _  _ hv1) (.inl rfl) (sst rfl G_hit [(di v1.R), (di v1.V)] rfl (s_nil ?_)))))))
 cases hy1
 exact l_j ⟨(), (sbr rfl rfl)⟩
 refine l_skip ?_
 cases hy1
 exact l_j ⟨(), (sbr rfl rfl)⟩
 rintro _ ⟨g1, q1⟩
 refine l_sub q1 (l_drawT fun u4 hu4 => t_val (.ptr _ _) rfl rfl (t_val (.ptr _ _) rfl rfl (t_val (.d _) rfl rfl (t_val (.d _) rfl (v_loadG rfl (gq rfl) rfl rfl) (t_val (.ptr _ _) rfl rfl (t_val (.ptr _ _) rfl rfl (t_store _ _ _ _ _ rfl rfl rfl G_hit (nl rfl) ((dGuest p1).set 5 (di p2)) rfl (t_val (.ptr _ _) rfl rfl (t_val (.ptr _ _) rfl rfl (t_store _ _ _ _ _ rfl rfl rfl G_hit (nl rfl) ((((dGuest p1).set 5 (di p2)).set 6 (di y1.R)).set 7 (di y1.V)) rfl (t_nil ⟨rfl, ?_⟩)))))))))))
 refine l_nil ?_
 cases h
 exact fin_mf (.inl rfl) [] resDF0 (.refl _) ⟨⟨_, _, _, G_hit, old_notin_nil, rfl, all2_d, rfl⟩, trivial⟩

noncomputable def convoy_arrives_l1 (p1 : Convoy) (p2 : (List ConvoyLetter)) (y1 : Int) (y2 : Int) (x1 : (Int × Guest)) : Option (Stp (Int × Guest) Guest) :=
  cond (decide (x1.1 < (p2.length : Int))) ((geti p2 x1.1).bind fun v4 => cond ((v4.Note_.Kind == 1) && (v4.Note_.From == y1)) ((convoy_nearer_o x1.2 y1 v4.guess).bind fun v5 => some (.go ((w64 (x1.1 + 1)), v5))) (cond ((((v4.Note_.Kind == 3) && (v4.Note_.To == x1.2.ID)) && (v4.Note_.From == y2)) && (decide (v4.Note_.Until ≥ p1.Tick))) (some (.go ((w64 (x1.1 + 1)), (Guest.mk x1.2.ID x1.2.S x1.2.V x1.2.Len x1.2.End x1.2.Ahead x1.2.Guess_ y2 v4.Note_.Until)))) (some (.go ((w64 (x1.1 + 1)), x1.2))))) (some (.out x1.2))
noncomputable def convoy_arrives (p1 : Convoy) (p2 : (List ConvoyLetter)) (p3 : (List Sight)) : Option (Guest × Bool) :=
  (convoy_beside p1).bind fun v1 => (cond (decide (v1.1 ≥ 0)) ((geti p1.Mates v1.1).bind fun v2 => some v2.ID) (some 0)).bind fun y1 => (cond (decide (v1.2 ≥ 0)) ((geti p1.Mates v1.2).bind fun v3 => some v3.ID) (some 0)).bind fun y2 => (cond (p1.Guest_.Ahead != y1) (some (Guest.mk p1.Guest_.ID p1.Guest_.S p1.Guest_.V p1.Guest_.Len p1.Guest_.End 0 (Guess.mk 0 0) p1.Guest_.From p1.Guest_.Until)) (some p1.Guest_)).bind fun y3 => (loop (convoy_arrives_l1 p1 p2 y1 y2) (0, y3)).bind fun y4 => (convoy_look p3 y4.ID).bind fun v6 => (cond (v6.2 && (y1 != 0)) ((convoy_nearer_o y4 y1 (Guess.mk v6.1.Lo v6.1.VLo)).bind fun v7 => some v7) (some y4)).bind fun y5 => ((cond ((!(y1 == 0)) && (y5.Ahead == y1)) (convoy_Safe y5.S y5.V p1.Gap y5.Guess_) (some default))).bind fun v8 => some (y5, (((y1 == 0) || ((y5.Ahead == y1) && v8)) && ((y2 == 0) || ((y5.From == y2) && (decide (p1.Tick ≤ y5.Until))))))

theorem convoy_arrives_ok (p1 : Convoy) (p2 : (List ConvoyLetter)) (p3 : (List Sight)) (r : (Guest × Bool)) (h : convoy_arrives p1 p2 p3 = some r) : PCall Tryz.prog 37 [(.agg (eConvoy p1)), (.list (List.map eConvoyLetter p2)), (.list (List.map eSight p3))] (.tup [(.agg (eGuest r.1)), (bo r.2)]) := by
 refine l_call (fk Tryz.func37 Tryz.ntmps37 (fun r => if r == 14 then [1014003] else if r == 20 then [1020006] else []) (by with_unfolding_all rfl)) (nl rfl) ?_
 unfold convoy_arrives at h
 refine l_sub (s0 := ⟨T [(0, (.d _)), (1, (.d _)), (2, (.d _))], G []⟩) (sbr rfl rfl) ?_
 refine lr (fun u1 hu1 => sn rfl rfl (sn rfl rfl (sv rfl (s_nil (lr (fun u2 hu2 => sp rfl rfl (sd rfl (v_loadG rfl (gq rfl) rfl rfl) (sn rfl rfl (sst rfl G_hit (dGuest p1.Guest_) rfl (s_nil (lr (fun u3 hu3 => sv rfl (sv rfl (s_nil (lr (fun u4 hu4 => sd rfl (v_loadG rfl (gq rfl) rfl rfl) (bs h fun v1 hv1 h => s_call rfl rfl all2_refl (convoy_beside_ok _  _ hv1) (.inl rfl) (sv rfl (sv rfl (sv rfl (sv rfl (sv rfl (s_nil (l_seq (lr (fun u5 hu5 => sv rfl (sv rfl (s_nil (bs h fun y1 hy1 h => l_join (fun s => ∃ g1 : Unit, Sb ⟨T [(1, (dl eConvoyLetter p2)), (2, (dl eSight p3)), (3, (.ptr (3, u1) 0)), (6, (.ptr (6, u1) 0)), (8, (.ptr (8, u2) 0)), (9, (di y1)), (10, (di 0)), (12, (di v1.2))], G [((3, u1), some (.box 32 (dConvoy p1))), ((6, u1), some (.box 30 (zs 10))), ((8, u2), some (.box 30 (dGuest p1.Guest_)))]⟩ s) ?_ ?_)))))))))))))))))))))))))))))
 refine cc rfl hy1 (fun c1 hy1 => ?_) (fun c1 hy1 => ?_)
 refine l_sub (s0 := ⟨T [(1, (.d _)), (2, (.d _)), (3, (.ptr _ _)), (6, (.ptr _ _)), (8, (.ptr _ _)), (10, (.d _)), (11, (.d _)), (12, (.d _))], G [((3, u1), some (.box 32 _)), ((6, u1), some (.box 30 _)), ((8, u2), some (.box 30 _))]⟩) (sbr rfl rfl) ?_
 refine l_reg fun u6 hu6 => sp rfl rfl (sl rfl G_hit rfl (sv rfl (bs hy1 fun v2 hv2 hy1 => sd rfl (v_idx rfl rfl hv2 rfl) (sv rfl (sd rfl (v_loadL rfl hv2 rfl) (sv rfl (s_nil ?_)))))))
 cases hy1
 exact l_j ⟨(), (sbr rfl rfl)⟩
 refine l_skip ?_
 cases hy1
 exact l_j ⟨(), (sbr rfl rfl)⟩
 rintro _ ⟨g1, q1⟩
 refine l_sub q1 (l_seq (lr (fun u7 hu7 => sv rfl (sv rfl (s_nil (bs h fun y2 hy2 h => l_join (fun s => ∃ g2 : Unit, Sb ⟨T [(1, (dl eConvoyLetter p2)), (2, (dl eSight p3)), (3, (.ptr (3, u1) 0)), (6, (.ptr (6, u1) 0)), (8, (.ptr (8, u2) 0)), (9, (di y1)), (10, (di y2))], G [((3, u1), some (.box 32 (dConvoy p1))), ((6, u1), some (.box 30 (zs 10))), ((8, u2), some (.box 30 (dGuest p1.Guest_)))]⟩ s) ?_ ?_))))))
 refine cc rfl hy2 (fun c2 hy2 => ?_) (fun c2 hy2 => ?_)
 refine l_reg fun u8 hu8 => sp rfl rfl (sl rfl G_hit rfl (sv rfl (bs hy2 fun v3 hv3 hy2 => sd rfl (v_idx rfl rfl hv3 rfl) (sv rfl (sd rfl (v_loadL rfl hv3 rfl) (sv rfl (s_nil ?_)))))))
 cases hy2
 exact l_j ⟨(), (sbr rfl rfl)⟩
 refine l_skip ?_
 cases hy2
 exact l_j ⟨(), (sbr rfl rfl)⟩
 rintro _ ⟨g2, q2⟩
 refine l_sub q2 (l_seq (lr (fun u9 hu9 => sp rfl rfl (sl rfl (gq rfl) rfl (sv rfl (sv rfl (s_nil (bs h fun y3 hy3 h => l_join (fun s => ∃ g3 : Unit, Sb ⟨T [(1, (dl eConvoyLetter p2)), (2, (dl eSight p3)), (3, (.ptr (3, u1) 0)), (6, (.ptr (6, u1) 0)), (8, (.ptr (8, u2) 0)), (9, (di y1)), (10, (di y2))], G [((3, u1), some (.box 32 (dConvoy p1))), ((6, u1), some (.box 30 (zs 10))), ((8, u2), some (.box 30 (dGuest y3)))]⟩ s) ?_ ?_))))))))
 refine cc rfl hy3 (fun c3 hy3 => ?_) (fun c3 hy3 => ?_)
 refine l_reg fun u10 hu10 => sv rfl (sp rfl rfl (sst rfl (gq rfl) ((dGuest p1.Guest_).set 5 (di 0)) rfl (sp rfl rfl (sst rfl G_hit ((((dGuest p1.Guest_).set 5 (di 0)).set 6 (di 0)).set 7 (di 0)) rfl (s_nil ?_)))))
 cases hy3
 exact l_j ⟨(), (sbr rfl rfl)⟩
 refine l_skip ?_
 cases hy3
 exact l_j ⟨(), (sbr rfl rfl)⟩
 rintro _ ⟨g3, q3⟩
 refine l_sub q3 (l_seq (lr (fun u11 hu11 => sv rfl (sd rfl (v_len rfl) (sv rfl (s_nil (bs h fun y4 hy4 h => l_join (fun s => ∃ g4 : Unit, Sb ⟨T [(2, (dl eSight p3)), (3, (.ptr (3, u1) 0)), (6, (.ptr (6, u1) 0)), (8, (.ptr (8, u2) 0)), (9, (di y1)), (10, (di y2))], G [((3, u1), some (.box 32 (dConvoy p1))), ((6, u1), some (.box 30 (zs 10))), ((8, u2), some (.box 30 (dGuest y4)))]⟩ s) ?_ ?_)))))))
 refine l_block (l_loop (convoy_arrives_l1 p1 p2 y1 y2) (fun (x1 : (Int × Guest)) (g5 : Unit) => ⟨T [(2, (dl eSight p3)), (3, (.ptr (3, u1) 0)), (6, (.ptr (6, u1) 0)), (8, (.ptr (8, u2) 0)), (9, (di y1)), (10, (di y2)), (49, (dl eConvoyLetter p2)), (50, (di (p2.length : Int))), (51, (di x1.1))], G [((3, u1), some (.box 32 (dConvoy p1))), ((6, u1), some (.box 30 (zs 10))), ((8, u2), some (.box 30 (dGuest x1.2)))]⟩) (0, y3) () _ hy4 (sbr rfl rfl) ?_)
 intro x1 g5 z1 hz1 ez1
 unfold convoy_arrives_l1 at hz1
 refine lr (fun u12 hu12 => sv rfl (s_nil (l_seq (cc rfl hz1 (fun c4 hz1 => ?_) (fun c4 hz1 => ?_)))))
 refine l_skip (l_seq (l_block (lr (fun u13 hu13 => bs hz1 fun v4 hv4 hz1 => sd rfl (v_idx rfl rfl hv4 rfl) (sd rfl (v_loadLG rfl hv4 rfl rfl) (sn rfl rfl (sst rfl G_hit (dConvoyLetter v4) rfl (s_nil (l_block (lr (fun u14 hu14 => sp rfl rfl (sp rfl rfl (sl rfl G_hit rfl (sv rfl (sv rfl (gp rfl (gw_t rfl) (fun _ => rfl) ?_))))))))))))))))
 refine g_val _ (.ptr _ _) rfl (gw_t rfl) (fun w2 => (by simp only [gd_pos w2]; rfl)) ?_
 refine gt rfl (vl rfl G_hit rfl) (gt rfl (fun _ => rfl) (gt rfl (fun w5 => (v_bin (gd_pos w5) (gd_pos w5) rfl)) (sa rfl rfl rfl (sv rfl (s_nil (cc rfl hz1 (fun c5 hz1 => ?_) (fun c5 hz1 => ?_)))))))
 refine l_sub (s0 := ⟨T [(2, (.d _)), (3, (.ptr _ _)), (6, (.ptr _ _)), (8, (.ptr _ _)), (9, (.d _)), (10, (.d _)), (14, (.ptr _ _)), (49, (.d _)), (50, (.d _)), (51, (.d _))], G [((3, u1), some (.box 32 _)), ((6, u1), some (.box 30 _)), ((8, u2), some (.box 30 _)), ((14, u13), some (.box 105 _))]⟩) (sbr rfl rfl) ?_
 refine l_reg fun u15 hu15 => sv rfl (sp rfl rfl (sd rfl (v_loadG rfl (gq rfl) rfl rfl) (bs hz1 fun v5 hv5 hz1 => s_oc (v := .d (.tup [])) (us := [(8, u2)]) (oc_m (convoy_nearer_o_ok _ _ _ _ hv5) [(8, u2)] [(8, u2)] _ (((8, u2), some (.box 30 (dGuest v5))) :: _) rfl all2_av (kl_cons (kr_ptr (G_skip rfl (G_skip rfl G_hit)) rfl) (kl_cons kr_d (kl_cons kr_d kl_nil))) (live_cons (G_skip rfl (G_skip rfl G_hit)) live_nil) ⟨⟨_, (G_skip rfl (G_skip rfl G_hit)), .of rfl⟩, trivial⟩ (fun _ h => h) nd1 rfl rfl rfl) (s_nil (l_end (l_end (l_reg fun u16 hu16 => sv rfl (sv rfl (s_nil (l_nil ?_))))))))))
 cases hz1
 exact ⟨rfl, (), (sbr rfl rfl)⟩
 refine l_seq (l_sub (s0 := ⟨T [(2, (.d _)), (3, (.ptr _ _)), (6, (.ptr _ _)), (8, (.ptr _ _)), (9, (.d _)), (10, (.d _)), (14, (.ptr _ _)), (49, (.d _)), (50, (.d _)), (51, (.d _))], G [((3, u1), some (.box 32 _)), ((6, u1), some (.box 30 _)), ((8, u2), some (.box 30 _)), ((14, u13), some (.box 105 _))]⟩) (sbr rfl rfl) ?_)
 refine l_reg fun u17 hu17 => sp rfl rfl (sp rfl rfl (sl rfl (gq rfl) rfl (sv rfl (sv rfl (gp rfl (gw_t rfl) (fun _ => rfl) ?_)))))
 refine g_val _ (.ptr _ _) rfl (gw_t rfl) (fun w7 => (by simp only [gd_pos w7]; rfl)) ?_
 refine gt rfl (vl rfl (gq rfl) rfl) (gp rfl (gw_t rfl) (fun _ => rfl) (gt rfl (vl rfl (gq rfl) rfl) (gt rfl (fun w11 => (v_bin (gd_pos w11) (gd_pos w11) rfl)) (sa rfl rfl rfl (sv rfl (gp rfl (gw_t rfl) (fun _ => rfl) ?_))))))
 refine g_val _ (.ptr _ _) rfl (gw_t rfl) (fun w13 => (by simp only [gd_pos w13]; rfl)) ?_
 refine gt rfl (vl rfl (gq rfl) rfl) (gt rfl (fun _ => rfl) (gt rfl (fun w16 => (v_bin (gd_pos w16) (gd_pos w16) rfl)) (sa rfl rfl rfl (sv rfl (gp rfl (gw_t rfl) (fun _ => rfl) ?_)))))
 refine g_val _ (.ptr _ _) rfl (gw_t rfl) (fun w18 => (by simp only [gd_pos w18]; rfl)) ?_
 refine gt rfl (vl rfl (gq rfl) rfl) (gp rfl (gw_t rfl) (fun _ => rfl) (gt rfl (vl rfl G_hit rfl) (gt rfl (fun w22 => (v_bin (gd_pos w22) (gd_pos w22) rfl)) (sa rfl rfl rfl (sv rfl (s_nil (cc rfl hz1 (fun c6 hz1 => ?_) (fun c6 hz1 => ?_))))))))
 refine l_sub (s0 := ⟨T [(2, (.d _)), (3, (.ptr _ _)), (6, (.ptr _ _)), (8, (.ptr _ _)), (9, (.d _)), (10, (.d _)), (14, (.ptr _ _)), (49, (.d _)), (50, (.d _)), (51, (.d _))], G [((3, u1), some (.box 32 _)), ((6, u1), some (.box 30 _)), ((8, u2), some (.box 30 _)), ((14, u13), some (.box 105 _))]⟩) (sbr rfl rfl) ?_
 refine l_drawT fun u18 hu18 => t_val (.d _) rfl rfl (t_val (.ptr _ _) rfl rfl (t_val (.ptr _ _) rfl rfl (t_val (.d _) rfl (v_load rfl (gq rfl) rfl) (t_val (.ptr _ _) rfl rfl (t_store _ _ _ _ _ rfl rfl rfl (gq rfl) (nl rfl) ((dGuest x1.2).set 8 (di y2)) rfl (t_val (.ptr _ _) rfl rfl (t_store _ _ _ _ _ rfl rfl rfl G_hit (nl rfl) (((dGuest x1.2).set 8 (di y2)).set 9 (di v4.Note_.Until)) rfl (t_nil ⟨rfl, ?_⟩))))))))
 refine l_end (l_end (l_reg fun u19 hu19 => sv rfl (sv rfl (s_nil (l_nil ?_)))))
 cases hz1
 exact ⟨rfl, (), (sbr rfl rfl)⟩
 refine l_skip (l_end (l_end (l_sub (s0 := ⟨T [(2, (.d _)), (3, (.ptr _ _)), (6, (.ptr _ _)), (8, (.ptr _ _)), (9, (.d _)), (10, (.d _)), (49, (.d _)), (50, (.d _)), (51, (.d _))], G [((3, u1), some (.box 32 _)), ((6, u1), some (.box 30 _)), ((8, u2), some (.box 30 _))]⟩) (sbr rfl rfl) ?_)))
 refine l_reg fun u20 hu20 => sv rfl (sv rfl (s_nil (l_nil ?_)))
 cases hz1
 exact ⟨rfl, (), (sbr rfl rfl)⟩
 refine l_exitN rfl ?_
 cases hz1
 obtain rfl := ez1 _ rfl
 refine ⟨nofun, awl_pop rfl (l_j ?_)⟩
 exact ⟨(), (sbr rfl rfl)⟩
 rintro _ ⟨g4, q4⟩
 refine l_sub q4 (l_seq (lr (fun u21 hu21 => sv rfl (sp rfl rfl (sl rfl (gq rfl) rfl (bs h fun v6 hv6 h => s_call rfl rfl all2_refl (convoy_look_ok _ _  _ hv6) (.inl rfl) (sv rfl (sv rfl (sv rfl (sn rfl rfl (sst rfl G_hit (dSight v6.1) rfl (sv rfl (s_nil (lr (fun u22 hu22 => sv rfl (sv rfl (gt rfl (fun _ => rfl) (gt rfl (vb rfl rfl rfl) (sa rfl rfl rfl (s_nil (bs h fun y5 hy5 h => l_join (fun s => ∃ g6 : Unit, Sb ⟨T [(3, (.ptr (3, u1) 0)), (6, (.ptr (6, u1) 0)), (8, (.ptr (8, u2) 0)), (9, (di y1)), (10, (di y2))], G [((3, u1), some (.box 32 (dConvoy p1))), ((6, u1), some (.box 30 (zs 10))), ((8, u2), some (.box 30 (dGuest y5)))]⟩ s) ?_ ?_)))))))))))))))))))))
 refine cc rfl hy5 (fun c7 hy5 => ?_) (fun c7 hy5 => ?_)
 refine l_sub (s0 := ⟨T [(3, (.ptr _ _)), (6, (.ptr _ _)), (8, (.ptr _ _)), (9, (.d _)), (10, (.d _)), (15, (.ptr _ _))], G [((3, u1), some (.box 32 _)), ((6, u1), some (.box 30 _)), ((8, u2), some (.box 30 _)), ((15, u21), some (.box 46 _))]⟩) (sbr rfl rfl) ?_
 refine l_reg fun u23 hu23 => sv rfl (sp rfl rfl (sl rfl (gq rfl) rfl (sp rfl rfl (sl rfl (gq rfl) rfl (sv rfl (bs hy5 fun v7 hv7 hy5 => s_oc (v := .d (.tup [])) (us := [(8, u2)]) (oc_m (convoy_nearer_o_ok _ _ _ _ hv7) [(8, u2)] [(8, u2)] _ (((8, u2), some (.box 30 (dGuest v7))) :: _) rfl all2_av (kl_cons (kr_ptr (G_skip rfl (G_skip rfl G_hit)) rfl) (kl_cons kr_d (kl_cons kr_d kl_nil))) (live_cons (G_skip rfl (G_skip rfl G_hit)) live_nil) ⟨⟨_, (G_skip rfl (G_skip rfl G_hit)), .of rfl⟩, trivial⟩ (fun _ h => h) nd1 rfl rfl rfl) (s_nil ?_)))))))
 cases hy5
 exact l_j ⟨(), (sbr rfl rfl)⟩
 refine l_skip ?_
 cases hy5
 exact l_j ⟨(), (sbr rfl rfl)⟩
 rintro _ ⟨g6, q5⟩
 refine l_sub q5 (lr (fun u24 hu24 => sv rfl (sv rfl (sv rfl (gp rfl (gw_f rfl) (fun _ => rfl) (gf rfl (vl rfl (gq rfl) rfl) (gf rfl (fun _ => rfl) (gf rfl (fun w28 => (v_bin (gd_pos w28) (gd_pos w28) rfl)) (gf rfl (fun w29 => (v_mv (gd_pos w29))) (g_val _ (.ptr _ _) rfl (gw_gt rfl) (fun _ => rfl) (gv rfl (gw_gt rfl) (vl rfl (gq rfl) rfl) (g_val _ (.ptr _ _) rfl (gw_gt rfl) (fun _ => rfl) (gv rfl (gw_gt rfl) (vl rfl (gq rfl) rfl) (g_val _ (.ptr _ _) rfl (gw_gt rfl) (fun _ => rfl) (gv rfl (gw_gt rfl) (vl rfl G_hit rfl) (g_val _ (.ptr _ _) rfl (gw_gt rfl) (fun _ => rfl) (gv rfl (gw_gt rfl) (fun w37 => (v_loadG (gd_pos w37) (gq rfl) rfl rfl)) (bs h fun v8 hv8 h => ?_))))))))))))))))))
 refine g_call _ (bo v8) (gw_gt rfl) (fun w38 => ⟨_, [(di y5.S), (di y5.V), (di p1.Gap), (.d (.agg [(i64 y5.Guess_.R), (i64 y5.Guess_.V)]))], _, _, (by simp only [gd_pos w38]; rfl), rfl, all2_refl, convoy_Safe_ok _ _ _ _  _ (cond_t w38 hv8), (.inl rfl)⟩) ?_
 refine gf rfl (fun w39 => (v_and (gd_pos w39) (fun hc => gd_pos (and_i w39 hc)) rfl)) (sd rfl (v_or rfl rfl (fun hc => gd_pos (not_t hc))) (sv rfl (s_nil (l_seq (l_sub (s0 := ⟨T [(3, (.ptr _ _)), (6, (.ptr _ _)), (8, (.ptr _ _)), (10, (.d _)), (17, (.d _))], G [((3, u1), some (.box 32 _)), ((6, u1), some (.box 30 _)), ((8, u2), some (.box 30 _))]⟩) (sbr rfl rfl) ?_)))))
 refine l_reg fun u25 hu25 => sv rfl (sv rfl (sv rfl (gp rfl (gw_f rfl) (fun _ => rfl) (gf rfl (vl rfl (gq rfl) rfl) (gf rfl (fun _ => rfl) (gf rfl (fun w43 => (v_bin (gd_pos w43) (gd_pos w43) rfl)) (gf rfl (fun w44 => (v_mv (gd_pos w44))) (g_val _ (.ptr _ _) rfl (gw_gt rfl) (fun _ => rfl) (gv rfl (gw_gt rfl) (vl rfl G_hit rfl) (g_val _ (.ptr _ _) rfl (gw_gt rfl) (fun _ => rfl) (gv rfl (gw_gt rfl) (vl rfl (gq rfl) rfl) (gv rfl (gw_gt rfl) (fun w49 => (v_bin (gd_pos w49) (gd_pos w49) rfl)) (gf rfl (fun w50 => (v_and (gd_pos w50) (fun hc => gd_pos (and_i w50 hc)) rfl)) (sd rfl (v_or rfl rfl (fun hc => gd_pos (not_t hc))) (sv rfl (s_nil (l_seq (l_sub (s0 := ⟨T [(6, (.ptr _ _)), (8, (.ptr _ _)), (17, (.d _)), (18, (.d _))], G [((6, u1), some (.box 30 _)), ((8, u2), some (.box 30 _))]⟩) (sbr rfl rfl) ?_))))))))))))))))))
 refine l_reg fun u26 hu26 => sd rfl (v_loadG rfl (gq rfl) rfl rfl) (sv rfl (sv rfl (gt rfl (fun _ => rfl) (sa rfl rfl rfl (sst rfl G_hit (dGuest y5) rfl (sv rfl (s_nil (l_ret ?_))))))))
 cases h
 exact fin_ok (.inr rfl) (resD2 (res_cellG rfl G_hit (nl rfl) rfl) (res_t rfl) rf_d rf_d) (.refl _)

noncomputable def convoy_rolls_1_b (p1 : Int) (p2 : Int) (p3 : Guest) : Option Bool :=
  (convoy_stop p2).bind fun v1 => some (decide ((w64 (p1 + v1)) < p3.End))

theorem convoy_rolls_1_b_ok (p1 : Int) (p2 : Int) (p3 : Guest) (r : Bool) (h : convoy_rolls_1_b p1 p2 p3 = some r) : PCall Tryz.prog 76 [(i64 p1), (i64 p2), (.bp (eGuest p3) 0)] (bo r) := by
 refine l_call (fk Tryz.func76 Tryz.ntmps76 m0 (by with_unfolding_all rfl)) (nl rfl) ?_
 unfold convoy_rolls_1_b at h
 refine l_sub (s0 := ⟨T [(0, (.d _)), (1, (.d _)), (2, (.d _))], G []⟩) (sbr rfl rfl) ?_
 refine lr (fun u1 hu1 => sv rfl (s_nil (l_seq (l_draw rfl fun u2 hu2 => sv rfl (sv rfl (bs h fun v1 hv1 h => s_call rfl rfl all2_refl (convoy_stop_ok _  _ hv1) (.inl rfl) (sv rfl (sv rfl (sv rfl (sv rfl (sv rfl (s_nil (l_ret ?_)))))))))))))
 cases h
 exact fin_ok (.inr rfl) (resD1 (res_t rfl) rf_d) (.refl _)

noncomputable def convoy_greatest_convoy_rolls_1b_l1 (p1 : Int) (p2 : Int) (p4 : Guest) (x1 : Int) : Option (Stp Int Int) :=
  cond (decide (x1 > (-90))) ((convoy_moved p1 p2 x1).bind fun v1 => (convoy_rolls_1_b v1.1 v1.2 p4).bind fun v2 => cond v2 (some (.out x1)) (some (.go (w64 (x1 - 1))))) (some (.out x1))
noncomputable def convoy_greatest_convoy_rolls_1b (p1 : Int) (p2 : Int) (p3 : Int) (p4 : Guest) : Option Int :=
  (loop (convoy_greatest_convoy_rolls_1b_l1 p1 p2 p4) (mm2 true (-90) (mm2 false p3 30))).bind fun y1 => some y1

theorem convoy_greatest_convoy_rolls_1b_ok (p1 : Int) (p2 : Int) (p3 : Int) (p4 : Guest) (r : Int) (h : convoy_greatest_convoy_rolls_1b p1 p2 p3 p4 = some r) : PCall Tryz.prog 72 [(i64 p1), (i64 p2), (i64 p3), (.fn (.func 76) [] [(.bp (eGuest p4) 0)])] (i64 r) := by
 refine l_call (fk Tryz.func72 Tryz.ntmps72 m0 (by with_unfolding_all rfl)) (nl rfl) ?_
 unfold convoy_greatest_convoy_rolls_1b at h
 refine l_sub (s0 := ⟨T [(0, (.d _)), (1, (.d _)), (2, (.d _)), (3, (.d _))], G []⟩) (sbr rfl rfl) ?_
 refine lr (fun u1 hu1 => sv rfl (s_nil (lr (fun u2 hu2 => sv rfl (sv rfl (sv rfl (sv rfl (s_nil (l_seq (bs h fun y1 hy1 h => l_join (fun s => ∃ g1 : Unit, Sb ⟨T [(9, (di y1))], G []⟩ s) ?_ ?_))))))))))
 refine l_block (l_loop (convoy_greatest_convoy_rolls_1b_l1 p1 p2 p4) (fun (x1 : Int) (g2 : Unit) => ⟨T [(0, (di p1)), (1, (di p2)), (3, (.d (.fn (.func 76) [] [(.bp (eGuest p4) 0)]))), (9, (di x1))], G []⟩) (mm2 true (-90) (mm2 false p3 30)) () _ hy1 (sbr rfl rfl) ?_)
 intro x1 g2 z1 hz1 ez1
 unfold convoy_greatest_convoy_rolls_1b_l1 at hz1
 refine l_seq (lr (fun u3 hu3 => sv rfl (sv rfl (s_nil (cc rfl hz1 (fun c1 hz1 => ?_) (fun c1 hz1 => ?_))))))
 refine l_skip (l_seq (l_block (lr (fun u4 hu4 => sv rfl (sv rfl (sv rfl (sv rfl (bs hz1 fun v1 hv1 hz1 => s_call rfl rfl all2_refl (convoy_moved_ok _ _ _  _ hv1) (.inl rfl) (sv rfl (sv rfl (bs hz1 fun v2 hv2 hz1 => s_call rfl rfl all2_refl (convoy_rolls_1_b_ok _ _ _  _ hv2) (.inl rfl) (s_nil (cc rfl hz1 (fun c2 hz1 => ?_) (fun c2 hz1 => ?_))))))))))))))
 refine l_exitN rfl ?_
 cases hz1
 obtain rfl := ez1 _ rfl
 refine ⟨nofun, awl_pop rfl (l_j ?_)⟩
 exact ⟨(), (sbr rfl rfl)⟩
 refine l_skip (l_end (l_reg fun u5 hu5 => sv rfl (sv rfl (sv rfl (s_nil (l_nil ?_))))))
 cases hz1
 exact ⟨rfl, (), (sbr rfl rfl)⟩
 refine l_exitN rfl ?_
 cases hz1
 obtain rfl := ez1 _ rfl
 refine ⟨nofun, awl_pop rfl (l_j ?_)⟩
 exact ⟨(), (sbr rfl rfl)⟩
 rintro _ ⟨g1, q1⟩
 refine l_sub q1 (lr (fun u6 hu6 => sv rfl (sv rfl (s_nil (l_ret ?_)))))
 cases h
 exact fin_ok (.inr rfl) (resD1 (res_t rfl) rf_d) (.refl _)

noncomputable def convoy_rolls (p1 : Guest) (p2 : Int) : Option Guest :=
  (convoy_greatest_convoy_rolls_1b p1.S p1.V p2 p1).bind fun v1 => (convoy_moved p1.S p1.V v1).bind fun v2 => cond (p1.Ahead != 0) ((convoy_Age p1.Guess_ 1).bind fun v3 => some (Guest.mk p1.ID v2.1 v2.2 p1.Len p1.End p1.Ahead v3 p1.From p1.Until)) (some (Guest.mk p1.ID v2.1 v2.2 p1.Len p1.End p1.Ahead p1.Guess_ p1.From p1.Until))

theorem convoy_rolls_ok (p1 : Guest) (p2 : Int) (r : Guest) (h : convoy_rolls p1 p2 = some r) : PCall Tryz.prog 38 [(.agg (eGuest p1)), (i64 p2)] (.agg (eGuest r)) := by
 refine l_call (fk Tryz.func38 Tryz.ntmps38 m0 (by with_unfolding_all rfl)) (nl rfl) ?_
 unfold convoy_rolls at h
 refine l_sub (s0 := ⟨T [(0, (.d _)), (1, (.d _))], G []⟩) (sbr rfl rfl) ?_
 refine lr (fun u1 hu1 => sn rfl rfl (sn rfl rfl (s_nil (lr (fun u2 hu2 => sp rfl rfl (sl rfl (gq rfl) rfl (sp rfl rfl (sl rfl (gq rfl) rfl (sv rfl (s_val (.fn _ _ _) rfl rfl (bs h fun v1 hv1 h => s_call rfl (rD (rD (rD (rfL_cons (rf_fn rfL_nil (rfL_cons (rf_ptr (gq rfl) (rD (rD (rD (rD (rD (rD (rD (rD (rD (rD rfL_nil))))))))))) rfL_nil)) rfL_nil)))) all2_refl (convoy_greatest_convoy_rolls_1b_ok _ _ _ _  _ hv1) (.inr rfl) (sv rfl (s_nil (lr (fun u3 hu3 => sp rfl rfl (sl rfl (gq rfl) rfl (sp rfl rfl (sl rfl (gq rfl) rfl (sv rfl (bs h fun v2 hv2 h => s_call rfl rfl all2_refl (convoy_moved_ok _ _ _  _ hv2) (.inl rfl) (sv rfl (sv rfl (sv rfl (sp rfl rfl (sst rfl (gq rfl) ((dGuest p1).set 1 (di v2.1)) rfl (sp rfl rfl (sst rfl G_hit (((dGuest p1).set 1 (di v2.1)).set 2 (di v2.2)) rfl (s_nil (l_seq (l_seq (l_sub (s0 := ⟨T [(2, (.ptr _ _)), (4, (.ptr _ _))], G [((2, u1), some (.box 30 _)), ((4, u1), some (.box 30 _))]⟩) (sbr rfl rfl) ?_)))))))))))))))))))))))))))))))
 refine l_reg fun u4 hu4 => sp rfl rfl (sl rfl G_hit rfl (sv rfl (s_nil (cc rfl h (fun c1 h => ?_) (fun c1 h => ?_)))))
 refine l_reg fun u5 hu5 => sp rfl rfl (sd rfl (v_loadG rfl G_hit rfl rfl) (bs h fun v3 hv3 h => s_call rfl rfl all2_refl (convoy_Age_ok _ _  _ hv3) (.inl rfl) (sp rfl rfl (sst rfl G_hit (((((dGuest p1).set 1 (di v2.1)).set 2 (di v2.2)).set 6 (di v3.R)).set 7 (di v3.V)) rfl (s_nil (lr (fun u6 hu6 => sd rfl (v_loadG rfl G_hit rfl rfl) (sst rfl (gq rfl) (((((dGuest p1).set 1 (di v2.1)).set 2 (di v2.2)).set 6 (di v3.R)).set 7 (di v3.V)) rfl (s_nil (l_ret ?_))))))))))
 cases h
 exact fin_ok (.inr rfl) (resD1 (res_cellG rfl G_hit (nl rfl) rfl) rf_d) (.refl _)
 refine l_skip (lr (fun u7 hu7 => sd rfl (v_loadG rfl G_hit rfl rfl) (sst rfl (gq rfl) (((dGuest p1).set 1 (di v2.1)).set 2 (di v2.2)) rfl (s_nil (l_ret ?_)))))
 cases h
 exact fin_ok (.inr rfl) (resD1 (res_cellG rfl G_hit (nl rfl) rfl) rf_d) (.refl _)
end Go.Abs.Convoyz
