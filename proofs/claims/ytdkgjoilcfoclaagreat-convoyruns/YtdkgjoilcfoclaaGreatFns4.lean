/-
  The functions, part 4.
-/
import Derived.Test.YtdkgjoilcfoclaaGreatFns3
set_option maxRecDepth 20000
set_option maxHeartbeats 4000000
set_option linter.unusedVariables false
namespace Go.Abs.Convoyz
open Go Go.Abs Go.Proofs
attribute [local irreducible] regW regT AWL

noncomputable def convoy_Sound_l1 (p1 : Convoy) (x1 : Int) : Option (Stp Int (Sum Unit Bool)) :=
  cond (decide (x1 < (p1.Mates.length : Int))) ((geti p1.Mates x1).bind fun v2 => ((cond (v2.Ahead != 0) (subl p1.Mates 0 x1) (some default))).bind fun v3 => ((cond (v2.Ahead != 0) (convoy_holds v3 v2.Ahead v2.Guess_) (some default))).bind fun v4 => cond ((v2.Ahead != 0) && (!v4)) (some (.out (.inr false))) (((cond (v2.Until != 0) (subl p1.Mates 0 x1) (some default))).bind fun v5 => ((cond (v2.Until != 0) (convoy_find v5 v2.Ward) (some default))).bind fun v6 => ((cond ((v2.Until != 0) && (decide (v6 ≥ 0))) (subl p1.Mates 0 x1) (some default))).bind fun v7 => ((cond ((v2.Until != 0) && (decide (v6 ≥ 0))) (convoy_holds v7 v2.Ward v2.WardGuess) (some default))).bind fun v8 => cond (((v2.Until != 0) && (decide (v6 ≥ 0))) && (!v8)) (some (.out (.inr false))) (((cond ((v2.Until != 0) && (v2.Ward == p1.Guest_.ID)) (convoy_Below v2.WardGuess (w64 (p1.Guest_.S - p1.Guest_.Len)) p1.Guest_.V) (some default))).bind fun v9 => cond (((v2.Until != 0) && (v2.Ward == p1.Guest_.ID)) && (!v9)) (some (.out (.inr false))) (((cond (decide (x1 > 0)) (geti p1.Mates (w64 (x1 - 1))) (some default))).bind fun v10 => ((cond (((decide (x1 > 0)) && (v10.ID != v2.Ahead)) && (!(v2.Until == 0))) (geti p1.Mates (w64 (x1 - 1))) (some default))).bind fun v11 => cond (((decide (x1 > 0)) && (v10.ID != v2.Ahead)) && ((v2.Until == 0) || (v11.ID != v2.Ward))) (some (.out (.inr false))) (some (.go (w64 (x1 + 1)))))))) (some (.out (.inl ())))
noncomputable def convoy_Sound (p1 : Convoy) : Option Bool :=
  (convoy_Check p1).bind fun v1 => cond (v1 != 0) (some false) (thenS (loop (convoy_Sound_l1 p1) 0) (fun _ => ((cond (!(p1.Guest_.Ahead == 0)) (convoy_holds p1.Mates p1.Guest_.Ahead p1.Guest_.Guess_) (some default))).bind fun v12 => some ((p1.Guest_.Ahead == 0) || v12)) (fun r => some r))

theorem convoy_Sound_ok (p1 : Convoy) (r : Bool) (h : convoy_Sound p1 = some r) : PCall Tryz.prog 49 [(.agg (eConvoy p1))] (bo r) := by
 refine l_call (fk Tryz.func49 Tryz.ntmps49 m0 (by with_unfolding_all rfl)) (nl rfl) ?_
 unfold convoy_Sound at h
 refine l_sub (s0 := ⟨T [(0, (.d _))], G []⟩) (sbr rfl rfl) ?_
 refine lr (fun u1 hu1 => sn rfl rfl (sv rfl (s_nil (l_seq (lr (fun u2 hu2 => sd rfl (v_loadG rfl G_hit rfl rfl) (bs h fun v1 hv1 h => s_call rfl rfl all2_refl (convoy_Check_ok _  _ hv1) (.inl rfl) (sv rfl (s_nil (cc rfl h (fun c1 h => ?_) (fun c1 h => ?_)))))))))))
 refine lr (fun u3 hu3 => sv rfl (s_nil (l_ret ?_)))
 cases h
 exact fin_ok (.inr rfl) (resD1 (res_t rfl) rf_d) (.refl _)
 refine l_skip (l_seq (lr (fun u4 hu4 => sp rfl rfl (sl rfl G_hit rfl (sd rfl (v_len rfl) (sv rfl (s_nil (js h fun z1 hz1 h => l_join (fun s => ∃ (y1 : Unit) (g1 : Unit), z1 = .inl y1 ∧ Sb ⟨T [(1, (.ptr (1, u1) 0))], G [((1, u1), some (.box 32 (dConvoy p1)))]⟩ s) ?_ ?_))))))))
 refine l_block (l_loop (convoy_Sound_l1 p1) (fun (x1 : Int) (g2 : Unit) => ⟨T [(1, (.ptr (1, u1) 0)), (9, (dl eMate p1.Mates)), (10, (di (p1.Mates.length : Int))), (11, (di x1))], G [((1, u1), some (.box 32 (dConvoy p1)))]⟩) 0 () _ hz1 (sbr rfl rfl) ?_)
 intro x1 g2 z2 hz2 ez2
 unfold convoy_Sound_l1 at hz2
 refine lr (fun u5 hu5 => sv rfl (s_nil (l_seq (cc rfl hz2 (fun c2 hz2 => ?_) (fun c2 hz2 => ?_)))))
 refine l_skip (l_seq (l_block (lr (fun u6 hu6 => sv rfl (bs hz2 fun v2 hv2 hz2 => sd rfl (v_idx rfl rfl hv2 rfl) (sd rfl (v_loadLG rfl hv2 rfl rfl) (sn rfl rfl (sv rfl (sst rfl G_hit (dMate v2) rfl (s_nil (l_seq (l_seq (l_draw rfl fun u7 hu7 => sp rfl rfl (sl rfl G_hit rfl (sv rfl (sv rfl (gp rfl (gw_t rfl) (fun _ => rfl) (gt rfl (vl rfl (gq rfl) rfl) (gt rfl (fun _ => rfl) (bs hz2 fun v3 hv3 hz2 => gt rfl (fun w4 => (v_sub (gd_pos w4) (fun _ => rfl) bd_beg (bd_x (gd_pos w4)) (cond_t w4 hv3))) (gp rfl (gw_t rfl) (fun _ => rfl) (gt rfl (vl rfl G_hit rfl) (gp rfl (gw_t rfl) (fun _ => rfl) (gt rfl (fun w8 => (v_loadG (gd_pos w8) G_hit rfl rfl)) (bs hz2 fun v4 hv4 hz2 => ?_)))))))))))))))))))))))))
 refine g_call _ (bo v4) (gw_t rfl) (fun w9 => ⟨_, [(dl eMate v3), (di v2.Ahead), (.d (.agg [(i64 v2.Guess_.R), (i64 v2.Guess_.V)]))], _, _, (by simp only [gd_pos w9]; rfl), rfl, all2_refl, convoy_holds_ok _ _ _  _ (cond_t w9 hv4), (.inl rfl)⟩) ?_
 refine g_val _ (.d (bo (!v4))) rfl (gw_t rfl) (fun w10 => (by simp only [gd_pos w10]; rfl)) ?_
 refine sa rfl rfl rfl (s_nil (cc rfl hz2 (fun c3 hz2 => ?_) (fun c3 hz2 => ?_)))
 refine l_seq (l_sub (s0 := ⟨T [], G []⟩) (sbr rfl rfl) ?_)
 refine l_reg fun u8 hu8 => sv rfl (s_nil (l_ret ?_))
 cases hz2
 obtain rfl := ez2 _ rfl
 refine ⟨nofun, awl_ret ?_⟩
 rw [Sum.elim_inr] at h
 cases h
 exact fin_ok (.inr rfl) (resD1 (res_t rfl) rf_d) (.refl _)
 refine l_skip (l_seq (l_seq (l_sub (s0 := ⟨T [(1, (.ptr _ _)), (3, (.d _)), (4, (.ptr _ _)), (9, (.d _)), (10, (.d _)), (11, (.d _))], G [((1, u1), some (.box 32 _)), ((4, u6), some (.box 51 _))]⟩) (sbr rfl rfl) ?_)))
 refine l_draw rfl fun u9 hu9 => sp rfl rfl (sl rfl (gq rfl) rfl (sv rfl (sv rfl (gp rfl (gw_t rfl) (fun _ => rfl) (gt rfl (vl rfl G_hit rfl) (gt rfl (fun _ => rfl) (bs hz2 fun v5 hv5 hz2 => gt rfl (fun w14 => (v_sub (gd_pos w14) (fun _ => rfl) bd_beg (bd_x (gd_pos w14)) (cond_t w14 hv5))) (gp rfl (gw_t rfl) (fun _ => rfl) (gt rfl (vl rfl (gq rfl) rfl) (bs hz2 fun v6 hv6 hz2 => ?_))))))))))
 refine g_call _ (i64 v6) (gw_t rfl) (fun w17 => ⟨_, [(dl eMate v5), (di v2.Ward)], _, _, (by simp only [gd_pos w17]; rfl), rfl, all2_refl, convoy_find_ok _ _  _ (cond_t w17 hv6), (.inl rfl)⟩) ?_
 refine gt rfl (vb rfl rfl rfl) (sa rfl rfl rfl (sv rfl (gp rfl (gw_t rfl) (fun _ => rfl) (gt rfl (vl rfl G_hit rfl) (gt rfl (fun _ => rfl) (bs hz2 fun v7 hv7 hz2 => gt rfl (fun w22 => (v_sub (gd_pos w22) (fun _ => rfl) bd_beg (bd_x (gd_pos w22)) (cond_t w22 hv7))) (gp rfl (gw_t rfl) (fun _ => rfl) (gt rfl (vl rfl (gq rfl) rfl) (gp rfl (gw_t rfl) (fun _ => rfl) (gt rfl (fun w26 => (v_loadG (gd_pos w26) (gq rfl) rfl rfl)) (bs hz2 fun v8 hv8 hz2 => ?_)))))))))))
 refine g_call _ (bo v8) (gw_t rfl) (fun w27 => ⟨_, [(dl eMate v7), (di v2.Ward), (.d (.agg [(i64 v2.WardGuess.R), (i64 v2.WardGuess.V)]))], _, _, (by simp only [gd_pos w27]; rfl), rfl, all2_refl, convoy_holds_ok _ _ _  _ (cond_t w27 hv8), (.inl rfl)⟩) ?_
 refine g_val _ (.d (bo (!v8))) rfl (gw_t rfl) (fun w28 => (by simp only [gd_pos w28]; rfl)) ?_
 refine sa rfl rfl rfl (s_nil (cc rfl hz2 (fun c4 hz2 => ?_) (fun c4 hz2 => ?_)))
 refine l_seq (l_sub (s0 := ⟨T [], G []⟩) (sbr rfl rfl) ?_)
 refine l_reg fun u10 hu10 => sv rfl (s_nil (l_ret ?_))
 cases hz2
 obtain rfl := ez2 _ rfl
 refine ⟨nofun, awl_ret ?_⟩
 rw [Sum.elim_inr] at h
 cases h
 exact fin_ok (.inr rfl) (resD1 (res_t rfl) rf_d) (.refl _)
 refine l_skip (l_seq (l_seq (l_sub (s0 := ⟨T [(1, (.ptr _ _)), (3, (.d _)), (4, (.ptr _ _)), (9, (.d _)), (10, (.d _)), (11, (.d _))], G [((1, u1), some (.box 32 _)), ((4, u6), some (.box 51 _))]⟩) (sbr rfl rfl) ?_)))
 refine l_reg fun u11 hu11 => sp rfl rfl (sl rfl (gq rfl) rfl (sv rfl (sv rfl (gp rfl (gw_t rfl) (fun _ => rfl) (gt rfl (vl rfl (gq rfl) rfl) (gp rfl (gw_t rfl) (fun _ => rfl) ?_))))))
 refine g_val _ (.ptr _ _) rfl (gw_t rfl) (fun w32 => (by simp only [gd_pos w32]; rfl)) ?_
 refine gt rfl (vl rfl G_hit rfl) (gt rfl (fun w34 => (v_bin (gd_pos w34) (gd_pos w34) rfl)) (sa rfl rfl rfl (sv rfl (gp rfl (gw_t rfl) (fun _ => rfl) (gt rfl (fun w36 => (v_loadG (gd_pos w36) (gq rfl) rfl rfl)) (gp rfl (gw_t rfl) (fun _ => rfl) ?_))))))
 refine g_val _ (.ptr _ _) rfl (gw_t rfl) (fun w38 => (by simp only [gd_pos w38]; rfl)) ?_
 refine gt rfl (vl rfl G_hit rfl) (gp rfl (gw_t rfl) (fun _ => rfl) ?_)
 refine g_val _ (.ptr _ _) rfl (gw_t rfl) (fun w41 => (by simp only [gd_pos w41]; rfl)) ?_
 refine gt rfl (vl rfl G_hit rfl) (gt rfl (fun w43 => (v_bin (gd_pos w43) (gd_pos w43) rfl)) (gp rfl (gw_t rfl) (fun _ => rfl) ?_))
 refine g_val _ (.ptr _ _) rfl (gw_t rfl) (fun w45 => (by simp only [gd_pos w45]; rfl)) ?_
 refine gt rfl (vl rfl G_hit rfl) (bs hz2 fun v9 hv9 hz2 => ?_)
 refine g_call _ (bo v9) (gw_t rfl) (fun w47 => ⟨_, [(.d (.agg [(i64 v2.WardGuess.R), (i64 v2.WardGuess.V)])), (di (w64 (p1.Guest_.S - p1.Guest_.Len))), (di p1.Guest_.V)], _, _, (by simp only [gd_pos w47]; rfl), rfl, all2_refl, convoy_Below_ok _ _ _  _ (cond_t w47 hv9), (.inl rfl)⟩) ?_
 refine g_val _ (.d (bo (!v9))) rfl (gw_t rfl) (fun w48 => (by simp only [gd_pos w48]; rfl)) ?_
 refine sa rfl rfl rfl (s_nil (cc rfl hz2 (fun c5 hz2 => ?_) (fun c5 hz2 => ?_)))
 refine l_seq (l_sub (s0 := ⟨T [], G []⟩) (sbr rfl rfl) ?_)
 refine l_reg fun u12 hu12 => sv rfl (s_nil (l_ret ?_))
 cases hz2
 obtain rfl := ez2 _ rfl
 refine ⟨nofun, awl_ret ?_⟩
 rw [Sum.elim_inr] at h
 cases h
 exact fin_ok (.inr rfl) (resD1 (res_t rfl) rf_d) (.refl _)
 refine l_skip (l_seq (l_sub (s0 := ⟨T [(1, (.ptr _ _)), (3, (.d _)), (4, (.ptr _ _)), (9, (.d _)), (10, (.d _)), (11, (.d _))], G [((1, u1), some (.box 32 _)), ((4, u6), some (.box 51 _))]⟩) (sbr rfl rfl) ?_))
 refine l_draw rfl fun u13 hu13 => sv rfl (sv rfl (sv rfl (gp rfl (gw_t rfl) (fun _ => rfl) (gt rfl (vl rfl G_hit rfl) (gt rfl (fun _ => rfl) (gt rfl (vb rfl rfl rfl) (bs hz2 fun v10 hv10 hz2 => gt rfl (fun w53 => (v_idx (gd_pos w53) (gd_pos w53) (cond_t w53 hv10) rfl)) ?_)))))))
 refine gt rfl (fun w54 => (by simp only [gd_pos w54]; rfl)) ?_
 refine gt rfl (fun w55 => (v_loadL (gd_pos w55) (cond_t w55 hv10) rfl)) (gp rfl (gw_t rfl) (fun _ => rfl) (gt rfl (vl rfl (gq rfl) rfl) (gt rfl (fun w58 => (v_bin (gd_pos w58) (gd_pos w58) rfl)) (sa rfl rfl rfl (sv rfl (gp rfl (gw_t rfl) (fun _ => rfl) (gt rfl (vl rfl (gq rfl) rfl) (gt rfl (vb rfl rfl rfl) (gt rfl (fun w62 => (v_mv (gd_pos w62))) (g_val _ (.ptr _ _) rfl (gw_gf rfl) (fun _ => rfl) (gv rfl (gw_gf rfl) (vl rfl G_hit rfl) (gv rfl (gw_gf rfl) (fun _ => rfl) (gv rfl (gw_gf rfl) (vb rfl rfl rfl) (bs hz2 fun v11 hv11 hz2 => gv rfl (gw_gf rfl) (fun w67 => (v_idx (gd_pos w67) (gd_pos w67) (cond_t w67 hv11) rfl)) ?_))))))))))))))
 refine gv rfl (gw_gf rfl) (fun w68 => (by simp only [gd_pos w68]; rfl)) ?_
 refine gv rfl (gw_gf rfl) (fun w69 => (v_loadL (gd_pos w69) (cond_t w69 hv11) rfl)) (g_val _ (.ptr _ _) rfl (gw_gf rfl) (fun _ => rfl) (gv rfl (gw_gf rfl) (vl rfl (gq rfl) rfl) (gv rfl (gw_gf rfl) (fun w72 => (v_bin (gd_pos w72) (gd_pos w72) rfl)) (gt rfl (fun w73 => (v_or (gd_pos w73) rfl (fun hc => gd_pos (and_i w73 (not_t hc))))) (sa rfl rfl rfl (s_nil (cc rfl hz2 (fun c6 hz2 => ?_) (fun c6 hz2 => ?_))))))))
 refine l_seq (l_sub (s0 := ⟨T [], G []⟩) (sbr rfl rfl) ?_)
 refine l_reg fun u14 hu14 => sv rfl (s_nil (l_ret ?_))
 cases hz2
 obtain rfl := ez2 _ rfl
 refine ⟨nofun, awl_ret ?_⟩
 rw [Sum.elim_inr] at h
 cases h
 exact fin_ok (.inr rfl) (resD1 (res_t rfl) rf_d) (.refl _)
 refine l_skip (l_end (l_sub (s0 := ⟨T [(1, (.ptr _ _)), (9, (.d _)), (10, (.d _)), (11, (.d _))], G [((1, u1), some (.box 32 _))]⟩) (sbr rfl rfl) ?_))
 refine l_reg fun u15 hu15 => sv rfl (sv rfl (s_nil (l_nil ?_)))
 cases hz2
 exact ⟨rfl, (), (sbr rfl rfl)⟩
 refine l_exitN rfl ?_
 cases hz2
 obtain rfl := ez2 _ rfl
 refine ⟨nofun, awl_pop rfl (l_j ?_)⟩
 exact ⟨_, (), rfl, (sbr rfl rfl)⟩
 rintro _ ⟨y1, g1, rfl, q1⟩
 rw [Sum.elim_inl] at h
 refine l_sub q1 (lr (fun u16 hu16 => sp rfl rfl (sp rfl rfl (sl rfl G_hit rfl (sv rfl (sv rfl (gp rfl (gw_f rfl) (fun _ => rfl) (gf rfl (vl rfl G_hit rfl) (gp rfl (gw_f rfl) (fun _ => rfl) ?_)))))))))
 refine g_val _ (.ptr _ _) rfl (gw_f rfl) (fun w77 => (by simp only [gd_pos w77]; rfl)) ?_
 refine gf rfl (vl rfl G_hit rfl) (gp rfl (gw_f rfl) (fun _ => rfl) ?_)
 refine g_val _ (.ptr _ _) rfl (gw_f rfl) (fun w80 => (by simp only [gd_pos w80]; rfl)) ?_
 refine gf rfl (fun w81 => (v_loadG (gd_pos w81) G_hit rfl rfl)) (bs h fun v12 hv12 h => ?_)
 refine g_call _ (bo v12) (gw_f rfl) (fun w82 => ⟨_, [(dl eMate p1.Mates), (di p1.Guest_.Ahead), (.d (.agg [(i64 p1.Guest_.Guess_.R), (i64 p1.Guest_.Guess_.V)]))], _, _, (by simp only [gd_pos w82]; rfl), rfl, all2_refl, convoy_holds_ok _ _ _  _ (cond_t w82 hv12), (.inl rfl)⟩) ?_
 refine sd rfl (v_or rfl rfl (fun hc => gd_pos (not_t hc))) (sv rfl (s_nil (l_ret ?_)))
 cases h
 exact fin_ok (.inr rfl) (resD1 (res_t rfl) rf_d) (.refl _)

noncomputable def convoy_Gaps_l1 (p1 : Convoy) (x1 : ((List Int) × Int)) : Option (Stp ((List Int) × Int) (List Int)) :=
  cond (decide (x1.2 < (p1.Mates.length : Int))) ((geti p1.Mates (w64 (x1.2 - 1))).bind fun v2 => (convoy_rear v2).bind fun v3 => (geti p1.Mates x1.2).bind fun v4 => (appc x1.1 [(w64 (v3 - v4.S))]).bind fun v5 => some (.go (v5, (w64 (x1.2 + 1))))) (some (.out x1.1))
noncomputable def convoy_Gaps (p1 : Convoy) : Option (List Int) :=
  (convoy_Check p1).bind fun v1 => cond (v1 != 0) (some []) ((loop (convoy_Gaps_l1 p1) ([], 1)).bind fun y1 => some y1)

theorem convoy_Gaps_ok (p1 : Convoy) (r : (List Int)) (h : convoy_Gaps p1 = some r) : PCall Tryz.prog 51 [(.agg (eConvoy p1))] (.list (List.map eInt_i64 r)) := by
 refine l_call (fk Tryz.func51 Tryz.ntmps51 (fun r => if r == 7 then [1015] else []) (by with_unfolding_all rfl)) (nl rfl) ?_
 unfold convoy_Gaps at h
 refine l_sub (s0 := ⟨T [(0, (.d _))], G []⟩) (sbr rfl rfl) ?_
 refine lr (fun u1 hu1 => sn rfl rfl (sv rfl (s_nil (l_seq (lr (fun u2 hu2 => sd rfl (v_loadG rfl G_hit rfl rfl) (bs h fun v1 hv1 h => s_call rfl rfl all2_refl (convoy_Check_ok _  _ hv1) (.inl rfl) (sv rfl (s_nil (cc rfl h (fun c1 h => ?_) (fun c1 h => ?_)))))))))))
 refine lr (fun u3 hu3 => sv rfl (s_nil (l_ret ?_)))
 cases h
 exact fin_ok (.inr rfl) (resD1 (res_t rfl) rf_d) DLe.nil
 refine l_skip (lr (fun u4 hu4 => sv rfl (s_nil (l_seq (lr (fun u5 hu5 => sv rfl (s_nil (bs h fun y1 hy1 h => l_join (fun s => ∃ g1 : Nat, Sb ⟨T [(3, (oS y1 (31, g1)))], G [((31, g1), oB 2 1 eInt_i64 y1)]⟩ s) ?_ ?_))))))))
 refine l_block (l_loop (convoy_Gaps_l1 p1) (fun (x1 : ((List Int) × Int)) (g2 : Nat) => ⟨T [(1, (.ptr (1, u1) 0)), (3, (oS x1.1 (31, g2))), (4, (di x1.2))], G [((1, u1), some (.box 32 (dConvoy p1))), ((31, g2), oB 2 1 eInt_i64 x1.1)]⟩) ([], 1) 0 _ hy1 (sb_of ⟨.of rfl, .of rfl, .of rfl, trivial⟩ (sbG_some G_hit (.of rfl) (sbG_nil trivial))) ?_)
 intro x1 g2 z1 hz1 ez1
 unfold convoy_Gaps_l1 at hz1
 refine l_seq (lr (fun u6 hu6 => sv rfl (sp rfl rfl (sl rfl G_hit rfl (sd rfl (v_len rfl) (sv rfl (s_nil (cc rfl hz1 (fun c2 hz1 => ?_) (fun c2 hz1 => ?_)))))))))
 refine l_skip (l_seq (l_block (l_draw rfl fun u7 hu7 => s_val (oS x1.1 (31, g2)) rfl rfl (sp rfl rfl (sl rfl G_hit rfl (sv rfl (sv rfl (bs hz1 fun v2 hv2 hz1 => sd rfl (v_idx rfl rfl hv2 rfl) (sd rfl (v_loadLG rfl hv2 rfl rfl) (bs hz1 fun v3 hv3 hz1 => s_call rfl rfl all2_refl (convoy_rear_ok _  _ hv3) (.inl rfl) (sp rfl rfl (sl rfl G_hit rfl (sv rfl (bs hz1 fun v4 hv4 hz1 => sd rfl (v_idx rfl rfl hv4 rfl) (sv rfl (sd rfl (v_loadL rfl hv4 rfl) (sv rfl (s_val (dl eInt_i64 [(w64 (v3 - v4.S))]) rfl rfl (bs hz1 fun v5 hv5 hz1 => s_appendO eInt_i64 (31, g2) x1.1 (w64 (v3 - v4.S)) [] _ (elems_list (fun _ => rfl)) rfl (gq rfl) hv5 (ss rfl (s_nil (l_end (l_sub (s0 := ⟨T [(1, (.ptr _ _)), (3, (.sl _)), (4, (.d _))], G [((1, u1), some (.box 32 _)), ((31, u7), some _)]⟩) (sbr rfl rfl) ?_)))))))))))))))))))))))
 refine l_reg fun u8 hu8 => sv rfl (sv rfl (sv rfl (s_nil (l_nil ?_))))
 cases hz1
 exact ⟨rfl, u7, (sb_of ⟨.of rfl, (.of (oS_ne (appc_ne hv5)).symm), .of rfl, trivial⟩ (sbG_some G_hit (.of rfl) (sbG_own (gq rfl) trivial)))⟩
 refine l_exitN rfl ?_
 cases hz1
 obtain rfl := ez1 _ rfl
 refine ⟨nofun, awl_pop rfl (l_j ?_)⟩
 exact ⟨g2, (sb_of ⟨.of rfl, trivial⟩ (sbG_oB (gq rfl) trivial))⟩
 rintro _ ⟨g1, q1⟩
 refine l_sub q1 (lr (fun u9 hu9 => s_val (oS y1 (31, g1)) rfl rfl (s_val (oS y1 (31, g1)) rfl rfl (s_nil (l_ret ?_)))))
 cases h
 exact fin_ok (.inr rfl) (resD1 (res_t rfl) (rf_oS G_hit)) oD_le

noncomputable def kit_SameLongs_l1 (p1 : (List Int)) (p2 : (List Int)) (x1 : Int) : Option (Stp Int (Sum Unit Bool)) :=
  cond ((decide (x1 < (p1.length : Int))) && (decide (x1 < (p2.length : Int)))) ((geti p1 x1).bind fun v1 => (geti p2 x1).bind fun v2 => cond (v1 != v2) (some (.out (.inr false))) (some (.go (w64 (x1 + 1))))) (some (.out (.inl ())))
noncomputable def kit_SameLongs (p1 : (List Int)) (p2 : (List Int)) : Option Bool :=
  thenS (loop (kit_SameLongs_l1 p1 p2) 0) (fun _ => some ((p1.length : Int) == (p2.length : Int))) (fun r => some r)

theorem kit_SameLongs_ok (p1 : (List Int)) (p2 : (List Int)) (r : Bool) (h : kit_SameLongs p1 p2 = some r) : PCall Tryz.prog 50 [(.list (List.map eInt_i64 p1)), (.list (List.map eInt_i64 p2))] (bo r) := by
 refine l_call (fk Tryz.func50 Tryz.ntmps50 m0 (by with_unfolding_all rfl)) (nl rfl) ?_
 unfold kit_SameLongs at h
 refine l_sub (s0 := ⟨T [(0, (.d _)), (1, (.d _))], G []⟩) (sbr rfl rfl) ?_
 refine lr (fun u1 hu1 => sv rfl (s_nil (l_seq (lr (fun u2 hu2 => sv rfl (s_nil (js h fun z1 hz1 h => l_join (fun s => ∃ (y1 : Unit) (g1 : Unit), z1 = .inl y1 ∧ Sb ⟨T [(0, (dl eInt_i64 p1)), (1, (dl eInt_i64 p2))], G []⟩ s) ?_ ?_)))))))
 refine l_block (l_loop (kit_SameLongs_l1 p1 p2) (fun (x1 : Int) (g2 : Unit) => ⟨T [(0, (dl eInt_i64 p1)), (1, (dl eInt_i64 p2)), (5, (di x1))], G []⟩) 0 () _ hz1 (sbr rfl rfl) ?_)
 intro x1 g2 z2 hz2 ez2
 unfold kit_SameLongs_l1 at hz2
 refine l_seq (lr (fun u3 hu3 => sv rfl (sv rfl (sd rfl (v_len rfl) (sv rfl (sv rfl (gt rfl (fun _ => rfl) (gt rfl (fun _ => rfl) (gt rfl (fun w3 => (v_len (gd_pos w3))) (gt rfl (fun w4 => (v_bin (gd_pos w4) (gd_pos w4) rfl)) (sa rfl rfl rfl (s_nil (cc rfl hz2 (fun c1 hz2 => ?_) (fun c1 hz2 => ?_))))))))))))))
 refine l_skip (l_seq (l_block (l_seq (l_draw rfl fun u4 hu4 => sv rfl (sv rfl (bs hz2 fun v1 hv1 hz2 => sd rfl (v_idx rfl rfl hv1 rfl) (sd rfl (v_loadL rfl hv1 rfl) (sv rfl (sv rfl (bs hz2 fun v2 hv2 hz2 => sd rfl (v_idx rfl rfl hv2 rfl) (sd rfl (v_loadL rfl hv2 rfl) (sv rfl (s_nil (cc rfl hz2 (fun c2 hz2 => ?_) (fun c2 hz2 => ?_)))))))))))))))
 refine lr (fun u5 hu5 => sv rfl (s_nil (l_ret ?_)))
 cases hz2
 obtain rfl := ez2 _ rfl
 refine ⟨nofun, awl_ret ?_⟩
 rw [Sum.elim_inr] at h
 cases h
 exact fin_ok (.inr rfl) (resD1 (res_t rfl) rf_d) (.refl _)
 refine l_skip (l_end (l_reg fun u6 hu6 => sv rfl (sv rfl (sv rfl (s_nil (l_nil ?_))))))
 cases hz2
 exact ⟨rfl, (), (sbr rfl rfl)⟩
 refine l_exitN rfl ?_
 cases hz2
 obtain rfl := ez2 _ rfl
 refine ⟨nofun, awl_pop rfl (l_j ?_)⟩
 exact ⟨_, (), rfl, (sbr rfl rfl)⟩
 rintro _ ⟨y1, g1, rfl, q1⟩
 rw [Sum.elim_inl] at h
 refine l_sub q1 (lr (fun u7 hu7 => sv rfl (sd rfl (v_len rfl) (sv rfl (sd rfl (v_len rfl) (sv rfl (sv rfl (s_nil (l_ret ?_)))))))))
 cases h
 exact fin_ok (.inr rfl) (resD1 (res_t rfl) rf_d) (.refl _)

noncomputable def law09_awake : Option Bool :=
  (law09_shown).bind fun v1 => ((cond ((v1.Mates.length : Int) == 2) (convoy_Age (Guess.mk 0 200) 2) (some default))).bind fun v2 => ((cond (((v1.Mates.length : Int) == 2) && (v2.R == 130 && (v2.V == 20 && true))) (convoy_Sound v1) (some default))).bind fun v3 => ((cond ((((v1.Mates.length : Int) == 2) && (v2.R == 130 && (v2.V == 20 && true))) && v3) (convoy_Gaps v1) (some default))).bind fun v4 => ((cond ((((v1.Mates.length : Int) == 2) && (v2.R == 130 && (v2.V == 20 && true))) && v3) (kit_SameLongs v4 [6000]) (some default))).bind fun v5 => ((cond (((((v1.Mates.length : Int) == 2) && (v2.R == 130 && (v2.V == 20 && true))) && v3) && v5) (convoy_Safe 0 191 1000 (Guess.mk 1000 100)) (some default))).bind fun v6 => some ((((((v1.Mates.length : Int) == 2) && (v2.R == 130 && (v2.V == 20 && true))) && v3) && v5) && (!v6))

theorem law09_awake_ok (r : Bool) (h : law09_awake = some r) : PCall Tryz.prog 18 [] (bo r) := by
 refine l_call (fk Tryz.func18 Tryz.ntmps18 (fun r => if r == 2 then [1017] else []) (by with_unfolding_all rfl)) (nl rfl) ?_
 unfold law09_awake at h
 refine l_sub (s0 := ⟨T [], G []⟩) (sbr rfl rfl) ?_
 refine lr (fun u1 hu1 => sv rfl (s_nil (lr (fun u2 hu2 => bs h fun v1 hv1 h => s_call rfl rfl all2_refl (law09_shown_ok  _ hv1) (.inl rfl) (sn rfl rfl (sst rfl G_hit (dConvoy v1) rfl (s_nil (lr (fun u3 hu3 => sp rfl rfl (sl rfl G_hit rfl (sd rfl (v_len rfl) (sv rfl (sv rfl (gt rfl (fun _ => rfl) (bs h fun v2 hv2 h => ?_)))))))))))))))
 refine g_call _ (.agg [(i64 v2.R), (i64 v2.V)]) (gw_t rfl) (fun w2 => ⟨_, [(.d (.agg [(i64 0), (i64 200)])), (di 2)], _, _, (by simp only [gd_pos w2]; rfl), rfl, all2_refl, convoy_Age_ok _ _  _ (cond_t w2 hv2), (.inl rfl)⟩) ?_
 refine gt rfl (fun _ => rfl) ?_
 refine g_val _ (.d (bo (v2.R == 130 && (v2.V == 20 && true)))) rfl (gw_t rfl) (fun w4 => (by simp only [gd_pos w4]; rfl)) ?_
 refine sa rfl rfl rfl (sv rfl (gt rfl (fun w5 => (v_loadG rfl G_hit rfl rfl)) (bs h fun v3 hv3 h => ?_)))
 refine g_call _ (bo v3) (gw_t rfl) (fun w6 => ⟨_, [(.d (.agg (eConvoy v1)))], _, _, (by simp only [gd_pos w6]; rfl), rfl, all2_refl, convoy_Sound_ok _  _ (cond_t w6 hv3), (.inl rfl)⟩) ?_
 refine sa rfl rfl rfl (sv rfl (gt rfl (fun w7 => (v_loadG rfl G_hit rfl rfl)) (bs h fun v4 hv4 h => ?_)))
 refine g_call _ (.list (List.map eInt_i64 v4)) (gw_t rfl) (fun w8 => ⟨_, [(.d (.agg (eConvoy v1)))], _, _, (by simp only [gd_pos w8]; rfl), rfl, all2_refl, convoy_Gaps_ok _  _ (cond_t w8 hv4), (.inl rfl)⟩) ?_
 refine g_val _ (dl eInt_i64 [6000]) rfl (gw_t rfl) (fun _ => rfl) (bs h fun v5 hv5 h => ?_)
 refine g_call _ (bo v5) (gw_t rfl) (fun w10 => ⟨_, [(dl eInt_i64 v4), (dl eInt_i64 [6000])], _, _, (by simp only [gd_pos w10]; rfl), rfl, all2_refl, kit_SameLongs_ok _ _  _ (cond_t w10 hv5), (.inl rfl)⟩) ?_
 refine sa rfl rfl rfl (sv rfl (gt rfl (fun _ => rfl) (bs h fun v6 hv6 h => ?_)))
 refine g_call _ (bo v6) (gw_t rfl) (fun w12 => ⟨_, [(di 0), (di 191), (di 1000), (.d (.agg [(i64 1000), (i64 100)]))], _, _, (by simp only [gd_pos w12]; rfl), rfl, all2_refl, convoy_Safe_ok _ _ _ _  _ (cond_t w12 hv6), (.inl rfl)⟩) ?_
 refine g_val _ (.d (bo (!v6))) rfl (gw_t rfl) (fun w13 => (by simp only [gd_pos w13]; rfl)) ?_
 refine sa rfl rfl rfl (sv rfl (s_nil (l_ret ?_)))
 cases h
 exact fin_ok (.inr rfl) (resD1 (res_t rfl) rf_d) (.refl _)

noncomputable def law09_ConvoyRuns_l3 (x1 : (Int × KitRing × Convoy × KitPost)) (x3 : ((List Sight) × Int × KitRing)) : Option (Stp ((List Sight) × Int × KitRing) ((List Sight) × KitRing)) :=
  cond (decide (x3.2.1 < (x1.2.2.1.Mates.length : Int))) ((geti x1.2.2.1.Mates x3.2.1).bind fun v14 => (kit_Ring_Next_o x3.2.2 101).bind fun v15 => (kit_Ring_Next_o v15.2 101).bind fun v16 => (kit_Ring_Next_o v16.2 6).bind fun v17 => (kit_Ring_Next_o v17.2 6).bind fun v18 => (ref09_Look x1.2.2.1 v14.ID [v15.1, v16.1, v17.1, v18.1]).bind fun v19 => ((cond (v19.2 == 0) (kit_Ring_Next_o v18.2 3) (some default))).bind fun v20 => cond ((v19.2 == 0) && (decide (v20.1 > 0))) ((appc x3.1 [v19.1]).bind fun v21 => some (.go (v21, (w64 (x3.2.1 + 1)), (KitRing.mk ((cond (v19.2 == 0) v20.2 v18.2).l) ((cond (v19.2 == 0) v20.2 v18.2).at_))))) (some (.go (x3.1, (w64 (x3.2.1 + 1)), (KitRing.mk ((cond (v19.2 == 0) v20.2 v18.2).l) ((cond (v19.2 == 0) v20.2 v18.2).at_)))))) (some (.out (x3.1, x3.2.2)))
noncomputable def law09_ConvoyRuns_l2 (p3 : (List Note)) (x1 : (Int × KitRing × Convoy × KitPost)) (x2 : ((List Note) × Int × KitRing)) : Option (Stp ((List Note) × Int × KitRing) ((List Note) × KitRing)) :=
  ((cond ((decide (x2.2.1 < 3)) && (decide ((p3.length : Int) > 0))) (kit_Ring_Next_o x2.2.2 4) (some default))).bind fun v9 => cond (((decide (x2.2.1 < 3)) && (decide ((p3.length : Int) > 0))) && (v9.1 == 0)) ((kit_Ring_Next_o (KitRing.mk ((cond ((decide (x2.2.1 < 3)) && (decide ((p3.length : Int) > 0))) v9.2 x2.2.2).l) ((cond ((decide (x2.2.1 < 3)) && (decide ((p3.length : Int) > 0))) v9.2 x2.2.2).at_)) (p3.length : Int)).bind fun v10 => (geti p3 v10.1).bind fun v11 => (kit_Ring_Next_o v10.2 3).bind fun v12 => (appc x2.1 [(Note.mk v11.Kind v11.From v11.To (w64 (x1.2.2.1.Tick - v12.1)) v11.R v11.V v11.Until)]).bind fun v13 => some (.go (v13, (w64 (x2.2.1 + 1)), v12.2))) (some (.out (x2.1, (KitRing.mk ((cond ((decide (x2.2.1 < 3)) && (decide ((p3.length : Int) > 0))) v9.2 x2.2.2).l) ((cond ((decide (x2.2.1 < 3)) && (decide ((p3.length : Int) > 0))) v9.2 x2.2.2).at_)))))
noncomputable def law09_ConvoyRuns_l1 (p3 : (List Note)) (x1 : (Int × KitRing × Convoy × KitPost)) : Option (Stp (Int × KitRing × Convoy × KitPost) (Sum Unit Bool)) :=
  cond (decide (x1.1 > 0)) ((ref09_Notes x1.2.2.1).bind fun v4 => (convoy_Notes x1.2.2.1).bind fun v5 => (kit_SameNotes v5 v4).bind fun v6 => cond (!v6) (some (.out (.inr false))) ((kit_Post_Send_o x1.2.2.2 v4 x1.2.2.1.Tick).bind fun v7 => (kit_Post_Deliver_o_ok v7 x1.2.1 x1.2.2.1.Tick).bind fun v8 => (loop (law09_ConvoyRuns_l2 p3 x1) (v8.1, 0, v8.2)).bind fun y2 => (loop (law09_ConvoyRuns_l3 x1) ([], 0, y2.2)).bind fun y3 => (law09_wanted_o y3.2 (w64 ((x1.2.2.1.Mates.length : Int) + 1))).bind fun v22 => (convoy_Step x1.2.2.1 v22.1 y2.1 y3.1).bind fun v23 => (ref09_Step x1.2.2.1 v22.1 y2.1 y3.1).bind fun v24 => ((cond (!(v23.2 != v24.2)) (ref09_Same v23.1 v24.1) (some default))).bind fun v25 => cond ((v23.2 != v24.2) || (!v25)) (some (.out (.inr false))) (cond (v24.2 != 0) ((law09_awake).bind fun v26 => some (.out (.inr v26))) (some (.go ((w64 (x1.1 - 1)), v22.2, v24.1, v7)))))) (some (.out (.inl ())))
noncomputable def law09_ConvoyRuns (p1 : (List Int)) (p2 : Int) (p3 : (List Note)) : Option Bool :=
  (kit_NewRing_m p1).bind fun v1 => (kit_Convoy_o v1 true).bind fun v2 => (kit_Mod p2 31).bind fun v3 => thenS (loop (law09_ConvoyRuns_l1 p3) (v3, v2.2, v2.1, (KitPost.mk []))) (fun _ => (law09_awake).bind fun v27 => some v27) (fun r => some r)

theorem law09_ConvoyRuns_ok (p1 : (List Int)) (p2 : Int) (p3 : (List Note)) (r : Bool) (h : law09_ConvoyRuns p1 p2 p3 = some r) : PCall Tryz.prog 3 [(.list (List.map eInt_i64 p1)), (i64 p2), (.list (List.map eNote p3))] (bo r) := by
 refine l_call (fk Tryz.func3 Tryz.ntmps3 (fun r => if r == 1 then [1001001] else if r == 2 then [1002001] else if r == 10 then [1010003] else if r == 11 then [1011003] else if r == 13 then [1013009] else if r == 15 then [1015004] else if r == 16 then [1016003] else if r == 17 then [1002] else if r == 22 then [1022008, 1022010, 1022012, 1022014, 1015] else if r == 23 then [1023004] else if r == 24 then [1002] else if r == 25 then [1025005] else []) (by with_unfolding_all rfl)) (nl rfl) ?_
 unfold law09_ConvoyRuns at h
 refine l_sub (s0 := ⟨T [(0, (.d _)), (1, (.d _)), (2, (.d _))], G []⟩) (sbr rfl rfl) ?_
 refine lr (fun u1 hu1 => sv rfl (s_nil (lr (fun u2 hu2 => sv rfl (bs h fun v1 hv1 h => s_oc (v := .ptr (10010010, u2) 0) (us := [(10010010, u2)]) (oc_m (kit_NewRing_m_ok _ _ hv1) [] [] _ (((10010010, u2), some (.box 60 [(dl eInt_i64 v1.l), (di v1.at_)])) :: _) rfl all2_av rfl live_nil trivial (fun _ h => h) List.nodup_nil rfl rfl rfl) (sp rfl rfl (s_nil (lr (fun u3 hu3 => sp rfl rfl (bs h fun v2 hv2 h => s_oc (v := .d (.agg (eConvoy v2.1))) (us := [(10010010, u2)]) (oc_m (kit_Convoy_o_ok _ _ _ hv2) [(10010010, u2)] [(10010010, u2)] _ (((10010010, u2), some (.box 60 [(dl eInt_i64 v2.2.l), (di v2.2.at_)])) :: _) rfl all2_av (kl_cons (kr_ptr G_hit rfl) (kl_cons kr_d kl_nil)) (live_cons G_hit live_nil) ⟨⟨_, G_hit, .of rfl⟩, trivial⟩ (fun _ h => h) nd1 rfl rfl rfl) (sn rfl rfl (sst rfl G_hit (dConvoy v2.1) rfl (s_nil (lr (fun u4 hu4 => sn rfl rfl (s_nil (l_seq (lr (fun u5 hu5 => sv rfl (bs h fun v3 hv3 h => s_call rfl rfl all2_refl (kit_Mod_ok _ _  _ hv3) (.inl rfl) (sv rfl (s_nil (js h fun z1 hz1 h => l_join (fun s => ∃ (y1 : Unit) (g1 : Unit), z1 = .inl y1 ∧ Sb ⟨T [], G []⟩ s) ?_ ?_)))))))))))))))))))))))
 refine l_block (l_loop (law09_ConvoyRuns_l1 p3) (fun (x1 : (Int × KitRing × Convoy × KitPost)) (g2 : Unit) => ⟨T [(2, (dl eNote p3)), (7, (.ptr (10010010, u2) 0)), (8, (.ptr (8, u3) 0)), (9, (.ptr (9, u4) 0)), (10, (di x1.1))], G [((10010010, u2), some (.box 60 [(dl eInt_i64 x1.2.1.l), (di x1.2.1.at_)])), ((8, u3), some (.box 32 (dConvoy x1.2.2.1))), ((9, u4), some (.box 35 [(dl eNote x1.2.2.2.sent)]))]⟩) (v3, v2.2, v2.1, (KitPost.mk [])) () _ hz1 (sb_of ⟨.of rfl, .of rfl, .of rfl, .of rfl, .of rfl, trivial⟩ (sg rfl (sg rfl (sbG_some G_hit (.box (.cons (DLe.d DLe.nil) .nil)) trivial)))) ?_)
 intro x1 g2 z2 hz2 ez2
 unfold law09_ConvoyRuns_l1 at hz2
 refine l_seq (lr (fun u6 hu6 => sv rfl (sv rfl (s_nil (cc rfl hz2 (fun c1 hz2 => ?_) (fun c1 hz2 => ?_))))))
 refine l_skip (l_seq (l_block (lr (fun u7 hu7 => sd rfl (v_loadG rfl (gq rfl) rfl rfl) (bs hz2 fun v4 hv4 hz2 => s_call rfl rfl all2_refl (ref09_Notes_ok _  _ hv4) (.inl rfl) (sv rfl (s_nil (l_seq (lr (fun u8 hu8 => sd rfl (v_loadG rfl (gq rfl) rfl rfl) (bs hz2 fun v5 hv5 hz2 => s_call rfl rfl all2_refl (convoy_Notes_ok _  _ hv5) (.inl rfl) (sv rfl (bs hz2 fun v6 hv6 hz2 => s_call rfl rfl all2_refl (kit_SameNotes_ok _ _  _ hv6) (.inl rfl) (s_val (.d (bo (!v6))) rfl rfl (s_nil (cc rfl hz2 (fun c2 hz2 => ?_) (fun c2 hz2 => ?_)))))))))))))))))
 refine lr (fun u9 hu9 => sv rfl (s_nil (l_ret ?_)))
 cases hz2
 obtain rfl := ez2 _ rfl
 refine ⟨nofun, awl_ret ?_⟩
 rw [Sum.elim_inr] at h
 cases h
 exact fin_ok (.inr rfl) (resD1 (res_t rfl) rf_d) (.refl _)
 refine l_skip (lr (fun u10 hu10 => sv rfl (sp rfl rfl (sl rfl (gq rfl) rfl (bs hz2 fun v7 hv7 hz2 => s_oc (v := .d (.tup [])) (us := [(9, u4)]) (oc_m (kit_Post_Send_o_ok _ _ _ _ hv7) [(9, u4)] [(9, u4)] _ (((9, u4), some (.box 35 [(dl eNote v7.sent)])) :: _) rfl all2_av (kl_cons (kr_ptr (G_skip rfl (G_skip rfl G_hit)) rfl) (kl_cons kr_d (kl_cons kr_d kl_nil))) (live_cons (G_skip rfl (G_skip rfl G_hit)) live_nil) ⟨⟨_, (G_skip rfl (G_skip rfl G_hit)), .of rfl⟩, trivial⟩ (fun _ h => h) nd1 rfl rfl rfl) (s_nil (l_seq (l_sub (s0 := ⟨T [(2, (.d _)), (7, (.ptr _ _)), (8, (.ptr _ _)), (9, (.ptr _ _)), (10, (.d _))], G [((10010010, u2), some (.box 60 _)), ((8, u3), some (.box 32 _)), ((9, u4), some (.box 35 _))]⟩) (sbr rfl rfl) ?_))))))))
 refine l_reg fun u11 hu11 => sp rfl rfl (sp rfl rfl (sl rfl (gq rfl) rfl (bs hz2 fun v8 hv8 hz2 => ?_)))
 refine s_oc (v := oS v8.1 (10110030, u11)) (us := [(9, u4), (10010010, u2), (10110030, u11)]) (oc_mo (kit_Post_Deliver_o_ok_ok _ _ _ _ hv8) [(9, u4), (10010010, u2)] [(9, u4), (10010010, u2)] _ (((10110030, u11), oB 43 7 eNote v8.1) :: (((10010010, u2), some (.box 60 [(dl eInt_i64 v8.2.l), (di v8.2.at_)])) :: (((9, u4), some (.box 35 [(dl eNote v7.sent)])) :: _))) rfl all2_av (kl_cons (kr_ptr (G_skip rfl (G_skip rfl G_hit)) rfl) (kl_cons (kr_ptr G_hit rfl) (kl_cons kr_d kl_nil))) (live_cons (G_skip rfl (G_skip rfl G_hit)) (live_cons G_hit live_nil)) ⟨⟨_, (G_skip rfl (G_skip rfl G_hit)), .of rfl⟩, ⟨_, G_hit, .of rfl⟩, trivial⟩ (fun _ h => h) (nd2 (key_ne rfl)) (by generalize v8.1 = x1; cases x1 <;> rfl) rfl (upsN_o (rfl)) rfl) ?_
 refine s_val (oS v8.1 (10110030, u11)) rfl rfl (s_nil (l_seq (lr (fun u12 hu12 => sv rfl (s_nil (bs hz2 fun y2 hy2 hz2 => l_join (fun s => ∃ g3 : ({d : Nat // d ∈ [79, 10110030]} × Nat), Sb ⟨T [(2, (dl eNote p3)), (7, (.ptr (10010010, u2) 0)), (8, (.ptr (8, u3) 0)), (9, (.ptr (9, u4) 0)), (10, (di x1.1)), (12, (oS y2.1 (g3.1.val, g3.2)))], G [((10010010, u2), some (.box 60 [(dl eInt_i64 y2.2.l), (di y2.2.at_)])), ((8, u3), some (.box 32 (dConvoy x1.2.2.1))), ((9, u4), some (.box 35 [(dl eNote v7.sent)])), ((g3.1.val, g3.2), oB 43 7 eNote y2.1)]⟩ s) ?_ ?_))))))
 refine l_block (l_loop (law09_ConvoyRuns_l2 p3 x1) (fun (x2 : ((List Note) × Int × KitRing)) (g4 : ({d : Nat // d ∈ [79, 10110030]} × Nat)) => ⟨T [(2, (dl eNote p3)), (7, (.ptr (10010010, u2) 0)), (8, (.ptr (8, u3) 0)), (9, (.ptr (9, u4) 0)), (10, (di x1.1)), (12, (oS x2.1 (g4.1.val, g4.2))), (13, (di x2.2.1))], G [((10010010, u2), some (.box 60 [(dl eInt_i64 x2.2.2.l), (di x2.2.2.at_)])), ((8, u3), some (.box 32 (dConvoy x1.2.2.1))), ((9, u4), some (.box 35 [(dl eNote v7.sent)])), ((g4.1.val, g4.2), oB 43 7 eNote x2.1)]⟩) (v8.1, 0, v8.2) (⟨10110030, .tail _ (.head _)⟩, u11) _ hy2 (sb_of ⟨.of rfl, .of rfl, .of rfl, .of rfl, .of rfl, .of rfl, .of rfl, trivial⟩ (sg rfl (sg rfl (sg rfl (sbG_oB G_hit trivial))))) ?_)
 intro x2 g4 z3 hz3 ez3
 unfold law09_ConvoyRuns_l2 at hz3
 refine l_seq (lr (fun u13 hu13 => sv rfl (sv rfl (sv rfl (gt rfl (fun _ => rfl) (gt rfl (fun w2 => (v_len (gd_pos w2))) (gt rfl (vb rfl rfl rfl) (sa rfl rfl rfl (sv rfl (gp rfl (gw_t rfl) (fun _ => rfl) (bs hz3 fun v9 hv9 hz3 => ?_)))))))))))
 refine g_oc ((decide (x2.2.1 < 3)) && (decide ((p3.length : Int) > 0))) (v := .d (i64 v9.1)) (us := [(10010010, u2)]) (g' := (((10010010, u2), some (.box 60 [(dl eInt_i64 ((cond ((decide (x2.2.1 < 3)) && (decide ((p3.length : Int) > 0))) v9.2 x2.2.2).l)), (di ((cond ((decide (x2.2.1 < 3)) && (decide ((p3.length : Int) > 0))) v9.2 x2.2.2).at_))])) :: _)) (gw_t rfl) (fun w5 => oc_m (avs := [(.ptr (10010010, u2) 0), (di 4)]) (kit_Ring_Next_o_ok _ _ _ (cond_t w5 hv9)) [(10010010, u2)] [(10010010, u2)] _ (((10010010, u2), some (.box 60 [(dl eInt_i64 v9.2.l), (di v9.2.at_)])) :: _) (by simp only [gd_pos w5]; rfl) all2_av (kl_cons (kr_ptr G_hit rfl) (kl_cons kr_d kl_nil)) (live_cons G_hit live_nil) ⟨⟨_, G_hit, .of rfl⟩, trivial⟩ (fun _ h => h) nd1 rfl rfl rfl) (fun w5 => by rw [w5]; rfl) (fun w5 => by rw [w5]; exact (G_put G_hit)) ?_
 refine gt rfl (vb rfl rfl rfl) (sa rfl rfl rfl (s_nil (cc rfl hz3 (fun c3 hz3 => ?_) (fun c3 hz3 => ?_))))
 refine l_skip (l_seq (l_block (l_seq (l_sub (s0 := ⟨T [(2, (dl eNote p3)), (7, (.ptr (10010010, u2) 0)), (8, (.ptr (8, u3) 0)), (9, (.ptr (9, u4) 0)), (10, (di x1.1)), (12, (oS x2.1 (g4.1.val, g4.2))), (13, (di x2.2.1))], G [((10010010, u2), some (.box 60 [(dl eInt_i64 ((cond ((decide (x2.2.1 < 3)) && (decide ((p3.length : Int) > 0))) v9.2 x2.2.2).l)), (di ((cond ((decide (x2.2.1 < 3)) && (decide ((p3.length : Int) > 0))) v9.2 x2.2.2).at_))])), ((8, u3), some (.box 32 (dConvoy x1.2.2.1))), ((9, u4), some (.box 35 [(dl eNote v7.sent)])), ((g4.1.val, g4.2), oB 43 7 eNote x2.1)]⟩) (sb_of ⟨.of rfl, .of rfl, .of rfl, .of rfl, .of rfl, .of rfl, .of rfl, trivial⟩ (sbG_some G_hit (.of rfl) (sg rfl (sg rfl (sbG_oB (G_skip (neL g4.1.property rfl) (G_skip (neL g4.1.property rfl) (G_skip (neL g4.1.property rfl) (G_skip (neL g4.1.property rfl) G_hit)))) trivial))))) ?_))))
 refine l_reg fun u14 hu14 => sv rfl (sp rfl rfl (sv rfl (sd rfl (v_len rfl) (bs hz3 fun v10 hv10 hz3 => s_oc (v := .d (i64 v10.1)) (us := [(10010010, u2)]) (oc_m (kit_Ring_Next_o_ok _ _ _ hv10) [(10010010, u2)] [(10010010, u2)] _ (((10010010, u2), some (.box 60 [(dl eInt_i64 v10.2.l), (di v10.2.at_)])) :: _) rfl all2_av (kl_cons (kr_ptr G_hit rfl) (kl_cons kr_d kl_nil)) (live_cons G_hit live_nil) ⟨⟨_, G_hit, .of rfl⟩, trivial⟩ (fun _ h => h) nd1 rfl rfl rfl) (bs hz3 fun v11 hv11 hz3 => sd rfl (v_idx rfl rfl hv11 rfl) (sd rfl (v_loadLG rfl hv11 rfl rfl) (sn rfl rfl (sst rfl G_hit (dNote v11) rfl (s_nil (l_seq (l_drawT fun u15 hu15 => t_val (.ptr _ _) rfl rfl (t_val (.d _) rfl (v_load rfl (gq rfl) rfl) (t_val (.ptr _ _) rfl rfl (bs hz3 fun v12 hv12 hz3 => t_oc (v := .d (i64 v12.1)) (us := [(10010010, u2)]) (oc_m (kit_Ring_Next_o_ok _ _ _ hv12) [(10010010, u2)] [(10010010, u2)] _ (((10010010, u2), some (.box 60 [(dl eInt_i64 v12.2.l), (di v12.2.at_)])) :: _) rfl all2_av (kl_cons (kr_ptr (G_skip rfl (G_skip rfl G_hit)) rfl) (kl_cons kr_d kl_nil)) (live_cons (G_skip rfl (G_skip rfl G_hit)) live_nil) ⟨⟨_, (G_skip rfl (G_skip rfl G_hit)), .of rfl⟩, trivial⟩ (fun _ h => h) nd1 rfl rfl rfl) (t_val (.d _) rfl rfl (t_val (.ptr _ _) rfl rfl (t_store _ _ _ _ _ rfl rfl rfl (gq rfl) (nl rfl) ((dNote v11).set 3 (di (w64 (x1.2.2.1.Tick - v12.1)))) rfl (t_nil ⟨by first | rfl | ((generalize g4.1 = q0; rcases q0 with ⟨d0, _ | ⟨_, _ | ⟨_, h0⟩⟩⟩) <;> (generalize x2.1 = z3; cases z3) <;> first | rfl | contradiction), ?_⟩))))))))))))))))))
 refine l_sub (s0 := ⟨T [(2, (dl eNote p3)), (7, (.ptr (10010010, u2) 0)), (8, (.ptr (8, u3) 0)), (9, (.ptr (9, u4) 0)), (10, (di x1.1)), (12, (oS x2.1 (g4.1.val, g4.2))), (13, (di x2.2.1)), (14, (.ptr (14, u14) 0))], G [((10010010, u2), some (.box 60 [(dl eInt_i64 v12.2.l), (di v12.2.at_)])), ((8, u3), some (.box 32 (dConvoy x1.2.2.1))), ((9, u4), some (.box 35 [(dl eNote v7.sent)])), ((g4.1.val, g4.2), oB 43 7 eNote x2.1), ((14, u14), some (.box 43 ((dNote v11).set 3 (di (w64 (x1.2.2.1.Tick - v12.1))))))]⟩) (sb_of ⟨.of rfl, .of rfl, .of rfl, .of rfl, .of rfl, .of rfl, .of rfl, .of rfl, trivial⟩ (sg rfl (sg rfl (sg rfl (sbG_oB (G_skip (neL g4.1.property rfl) (G_skip (neL g4.1.property rfl) (G_skip (neL g4.1.property rfl) (G_skip (neL g4.1.property rfl) (G_skip (neL g4.1.property rfl) (G_skip (neL g4.1.property rfl) (G_skip (neL g4.1.property rfl) (G_skip (neL g4.1.property rfl) G_hit)))))))) (sbG_some G_hit (.of rfl) trivial)))))) ?_
 refine l_reg fun u16 hu16 => s_val (oS x2.1 (g4.1.val, g4.2)) rfl rfl (sd rfl (v_loadG rfl (G_skip rfl (G_skip rfl (G_skip rfl (G_skip (neR g4.1.property rfl) G_hit)))) rfl rfl) (s_val (dl eNote [(Note.mk v11.Kind v11.From v11.To (w64 (x1.2.2.1.Tick - v12.1)) v11.R v11.V v11.Until)]) rfl rfl (bs hz3 fun v13 hv13 hz3 => s_appendO eNote (g4.1.val, g4.2) x2.1 (Note.mk v11.Kind v11.From v11.To (w64 (x1.2.2.1.Tick - v12.1)) v11.R v11.V v11.Until) [] _ (elems_list (fun _ => rfl)) rfl (G_skip (neL g4.1.property rfl) (G_skip (neL g4.1.property rfl) (G_skip (neL g4.1.property rfl) G_hit))) hv13 (ss rfl (s_nil (l_end (l_reg fun u17 hu17 => sv rfl (sv rfl (sv rfl (s_nil (l_nil ?_)))))))))))
 cases hz3
 exact ⟨rfl, (⟨79, .head _⟩, u16), (sb_of ⟨.of rfl, .of rfl, .of rfl, .of rfl, .of rfl, (.of (oS_ne (appc_ne hv13)).symm), .of rfl, trivial⟩ (sbG_some (G_skip rfl (G_skip (neR g4.1.property rfl) G_hit)) (.of rfl) (sbG_some (G_skip rfl (G_skip (neR g4.1.property rfl) (gq rfl))) (.of rfl) (sbG_some (G_skip rfl (G_skip (neR g4.1.property rfl) (gq rfl))) (.of rfl) (sbG_own G_hit trivial)))))⟩
 refine l_exitN rfl ?_
 cases hz3
 obtain rfl := ez3 _ rfl
 refine ⟨nofun, awl_pop rfl (l_j ?_)⟩
 exact ⟨(g4.1, g4.2), (sb_of ⟨.of rfl, .of rfl, .of rfl, .of rfl, .of rfl, .of rfl, trivial⟩ (sbG_some G_hit (.of rfl) (sg rfl (sg rfl (sbG_oB (G_skip (neL g4.1.property rfl) (G_skip (neL g4.1.property rfl) (G_skip (neL g4.1.property rfl) (G_skip (neL g4.1.property rfl) G_hit)))) trivial)))))⟩
 rintro _ ⟨g3, q1⟩
 refine l_sub q1 (lr (fun u18 hu18 => sv rfl (s_nil (l_seq (lr (fun u19 hu19 => sv rfl (s_nil (bs hz2 fun y3 hy3 hz2 => l_join (fun s => ∃ g5 : Nat, Sb ⟨T [(2, (dl eNote p3)), (7, (.ptr (10010010, u2) 0)), (8, (.ptr (8, u3) 0)), (9, (.ptr (9, u4) 0)), (10, (di x1.1)), (12, (oS y2.1 (g3.1.val, g3.2))), (15, (oS y3.1 (117, g5)))], G [((10010010, u2), some (.box 60 [(dl eInt_i64 y3.2.l), (di y3.2.at_)])), ((8, u3), some (.box 32 (dConvoy x1.2.2.1))), ((9, u4), some (.box 35 [(dl eNote v7.sent)])), ((g3.1.val, g3.2), oB 43 7 eNote y2.1), ((117, g5), oB 46 5 eSight y3.1)]⟩ s) ?_ ?_))))))))
 refine l_block (l_loop (law09_ConvoyRuns_l3 x1) (fun (x3 : ((List Sight) × Int × KitRing)) (g6 : Nat) => ⟨T [(2, (dl eNote p3)), (7, (.ptr (10010010, u2) 0)), (8, (.ptr (8, u3) 0)), (9, (.ptr (9, u4) 0)), (10, (di x1.1)), (12, (oS y2.1 (g3.1.val, g3.2))), (15, (oS x3.1 (117, g6))), (16, (di x3.2.1))], G [((10010010, u2), some (.box 60 [(dl eInt_i64 x3.2.2.l), (di x3.2.2.at_)])), ((8, u3), some (.box 32 (dConvoy x1.2.2.1))), ((9, u4), some (.box 35 [(dl eNote v7.sent)])), ((g3.1.val, g3.2), oB 43 7 eNote y2.1), ((117, g6), oB 46 5 eSight x3.1)]⟩) ([], 0, y2.2) 0 _ hy3 (sb_of ⟨.of rfl, .of rfl, .of rfl, .of rfl, .of rfl, .of rfl, .of rfl, .of rfl, trivial⟩ (sbG_some G_hit (.of rfl) (sg rfl (sg rfl (sbG_oB (G_skip (neL g3.1.property rfl) (G_skip (neL g3.1.property rfl) (G_skip (neL g3.1.property rfl) G_hit))) (sbG_nil trivial)))))) ?_)
 intro x3 g6 z4 hz4 ez4
 unfold law09_ConvoyRuns_l3 at hz4
 refine l_seq (lr (fun u20 hu20 => sv rfl (sp rfl rfl (sl rfl (gq rfl) rfl (sd rfl (v_len rfl) (sv rfl (s_nil (cc rfl hz4 (fun c4 hz4 => ?_) (fun c4 hz4 => ?_)))))))))
 refine l_skip (l_seq (l_block (l_seq (l_drawT fun u21 hu21 => t_val (.d _) rfl (v_loadG rfl (gq rfl) rfl rfl) (t_val (.ptr _ _) rfl rfl (t_val (.d _) rfl (v_load rfl (gq rfl) rfl) (t_val (.d _) rfl rfl (bs hz4 fun v14 hv14 hz4 => t_val (.d _) rfl (v_idx rfl rfl hv14 rfl) (t_val (.d _) rfl rfl (t_val (.d _) rfl (v_loadL rfl hv14 rfl) (t_val (.ptr _ _) rfl rfl (bs hz4 fun v15 hv15 hz4 => t_oc (v := .d (i64 v15.1)) (us := [(10010010, u2)]) (oc_m (kit_Ring_Next_o_ok _ _ _ hv15) [(10010010, u2)] [(10010010, u2)] _ (((10010010, u2), some (.box 60 [(dl eInt_i64 v15.2.l), (di v15.2.at_)])) :: _) rfl all2_av (kl_cons (kr_ptr G_hit rfl) (kl_cons kr_d kl_nil)) (live_cons G_hit live_nil) ⟨⟨_, G_hit, .of rfl⟩, trivial⟩ (fun _ h => h) nd1 rfl rfl rfl) (t_val (.ptr _ _) rfl rfl (bs hz4 fun v16 hv16 hz4 => t_oc (v := .d (i64 v16.1)) (us := [(10010010, u2)]) (oc_m (kit_Ring_Next_o_ok _ _ _ hv16) [(10010010, u2)] [(10010010, u2)] _ (((10010010, u2), some (.box 60 [(dl eInt_i64 v16.2.l), (di v16.2.at_)])) :: _) rfl all2_av (kl_cons (kr_ptr G_hit rfl) (kl_cons kr_d kl_nil)) (live_cons G_hit live_nil) ⟨⟨_, G_hit, .of rfl⟩, trivial⟩ (fun _ h => h) nd1 rfl rfl rfl) (t_val (.ptr _ _) rfl rfl (bs hz4 fun v17 hv17 hz4 => t_oc (v := .d (i64 v17.1)) (us := [(10010010, u2)]) (oc_m (kit_Ring_Next_o_ok _ _ _ hv17) [(10010010, u2)] [(10010010, u2)] _ (((10010010, u2), some (.box 60 [(dl eInt_i64 v17.2.l), (di v17.2.at_)])) :: _) rfl all2_av (kl_cons (kr_ptr G_hit rfl) (kl_cons kr_d kl_nil)) (live_cons G_hit live_nil) ⟨⟨_, G_hit, .of rfl⟩, trivial⟩ (fun _ h => h) nd1 rfl rfl rfl) (t_val (.ptr _ _) rfl rfl (bs hz4 fun v18 hv18 hz4 => t_oc (v := .d (i64 v18.1)) (us := [(10010010, u2)]) (oc_m (kit_Ring_Next_o_ok _ _ _ hv18) [(10010010, u2)] [(10010010, u2)] _ (((10010010, u2), some (.box 60 [(dl eInt_i64 v18.2.l), (di v18.2.at_)])) :: _) rfl all2_av (kl_cons (kr_ptr G_hit rfl) (kl_cons kr_d kl_nil)) (live_cons G_hit live_nil) ⟨⟨_, G_hit, .of rfl⟩, trivial⟩ (fun _ h => h) nd1 rfl rfl rfl) (t_val (dl eInt_i64 [v15.1, v16.1, v17.1, v18.1]) rfl rfl (bs hz4 fun v19 hv19 hz4 => t_call rfl rfl all2_refl (ref09_Look_ok _ _ _  _ hv19) (.inl rfl) (t_val (.d _) rfl rfl (t_val (.d _) rfl rfl (t_val (.d _) rfl rfl (t_new (.ptr _ _) (.box _ _) rfl rfl (t_store _ _ _ _ _ rfl rfl rfl G_hit (nl rfl) (dSight v19.1) rfl (t_val (.d _) rfl rfl (t_nil ⟨by first | rfl | ((generalize g3.1 = q0; rcases q0 with ⟨d0, _ | ⟨_, _ | ⟨_, h0⟩⟩⟩) <;> (generalize y2.1 = z3; cases z3) <;> first | rfl | contradiction), ?_⟩)))))))))))))))))))))))))))
 refine l_seq (l_sub (s0 := ⟨T [(2, (dl eNote p3)), (7, (.ptr (10010010, u2) 0)), (8, (.ptr (8, u3) 0)), (9, (.ptr (9, u4) 0)), (10, (di x1.1)), (12, (oS y2.1 (g3.1.val, g3.2))), (15, (oS x3.1 (117, g6))), (16, (di x3.2.1)), (17, (.ptr (17, u21) 0)), (18, (di v19.2))], G [((10010010, u2), some (.box 60 [(dl eInt_i64 v18.2.l), (di v18.2.at_)])), ((8, u3), some (.box 32 (dConvoy x1.2.2.1))), ((9, u4), some (.box 35 [(dl eNote v7.sent)])), ((g3.1.val, g3.2), oB 43 7 eNote y2.1), ((117, g6), oB 46 5 eSight x3.1), ((17, u21), some (.box 46 (dSight v19.1)))]⟩) (sb_of ⟨.of rfl, .of rfl, .of rfl, .of rfl, .of rfl, .of rfl, .of rfl, .of rfl, .of rfl, .of rfl, trivial⟩ (sg rfl (sg rfl (sg rfl (sbG_oB (G_skip (neL g3.1.property rfl) (G_skip (neL g3.1.property rfl) (G_skip (neL g3.1.property rfl) (G_skip (neL g3.1.property rfl) (G_skip (neL g3.1.property rfl) (G_skip (neL g3.1.property rfl) (G_skip (neL g3.1.property rfl) (G_skip (neL g3.1.property rfl) (G_skip (neL g3.1.property rfl) G_hit))))))))) (sbG_oB (G_skip rfl (G_skip rfl (G_skip rfl (G_skip rfl (G_skip rfl (G_skip rfl (G_skip rfl (G_skip rfl (G_skip rfl (G_skip (neR g3.1.property rfl) G_hit)))))))))) (sbG_some G_hit (.of rfl) trivial))))))) ?_)
 refine l_reg fun u22 hu22 => sv rfl (sv rfl (sv rfl (gp rfl (gw_t rfl) (fun _ => rfl) (bs hz4 fun v20 hv20 hz4 => ?_))))
 refine g_oc (v19.2 == 0) (v := .d (i64 v20.1)) (us := [(10010010, u2)]) (g' := (((10010010, u2), some (.box 60 [(dl eInt_i64 ((cond (v19.2 == 0) v20.2 v18.2).l)), (di ((cond (v19.2 == 0) v20.2 v18.2).at_))])) :: _)) (gw_t rfl) (fun w8 => oc_m (avs := [(.ptr (10010010, u2) 0), (di 3)]) (kit_Ring_Next_o_ok _ _ _ (cond_t w8 hv20)) [(10010010, u2)] [(10010010, u2)] _ (((10010010, u2), some (.box 60 [(dl eInt_i64 v20.2.l), (di v20.2.at_)])) :: _) (by simp only [gd_pos w8]; rfl) all2_av (kl_cons (kr_ptr G_hit rfl) (kl_cons kr_d kl_nil)) (live_cons G_hit live_nil) ⟨⟨_, G_hit, .of rfl⟩, trivial⟩ (fun _ h => h) nd1 rfl rfl rfl) (fun w8 => by rw [w8]; rfl) (fun w8 => by rw [w8]; exact (G_put G_hit)) ?_
 refine gt rfl (vb rfl rfl rfl) (sa rfl rfl rfl (s_nil (cc rfl hz4 (fun c5 hz4 => ?_) (fun c5 hz4 => ?_))))
 refine l_sub (s0 := ⟨T [(2, (dl eNote p3)), (7, (.ptr (10010010, u2) 0)), (8, (.ptr (8, u3) 0)), (9, (.ptr (9, u4) 0)), (10, (di x1.1)), (12, (oS y2.1 (g3.1.val, g3.2))), (15, (oS x3.1 (117, g6))), (16, (di x3.2.1)), (17, (.ptr (17, u21) 0))], G [((10010010, u2), some (.box 60 [(dl eInt_i64 ((cond (v19.2 == 0) v20.2 v18.2).l)), (di ((cond (v19.2 == 0) v20.2 v18.2).at_))])), ((8, u3), some (.box 32 (dConvoy x1.2.2.1))), ((9, u4), some (.box 35 [(dl eNote v7.sent)])), ((g3.1.val, g3.2), oB 43 7 eNote y2.1), ((117, g6), oB 46 5 eSight x3.1), ((17, u21), some (.box 46 (dSight v19.1)))]⟩) (sb_of ⟨.of rfl, .of rfl, .of rfl, .of rfl, .of rfl, .of rfl, .of rfl, .of rfl, .of rfl, trivial⟩ (sbG_some G_hit (.of rfl) (sg rfl (sg rfl (sbG_oB (G_skip (neL g3.1.property rfl) (G_skip (neL g3.1.property rfl) (G_skip (neL g3.1.property rfl) (G_skip (neL g3.1.property rfl) G_hit)))) (sbG_oB (G_skip rfl (G_skip rfl (G_skip rfl (G_skip rfl (G_skip (neR g3.1.property rfl) G_hit))))) (sbG_some (G_skip rfl (G_skip rfl (G_skip rfl (G_skip rfl (G_skip (neR g3.1.property rfl) (gq rfl)))))) (.of rfl) trivial))))))) ?_
 refine l_reg fun u23 hu23 => s_val (oS x3.1 (117, g6)) rfl rfl (sd rfl (v_loadG rfl (G_skip rfl (G_skip rfl (G_skip rfl (G_skip (neR g3.1.property rfl) (gq rfl))))) rfl rfl) (s_val (dl eSight [v19.1]) rfl rfl (bs hz4 fun v21 hv21 hz4 => s_appendO eSight (117, g6) x3.1 v19.1 [] _ (elems_list (fun _ => rfl)) rfl (G_skip rfl (G_skip rfl (G_skip rfl (G_skip (neR g3.1.property rfl) G_hit)))) hv21 (ss rfl (s_nil (l_end (l_reg fun u24 hu24 => sv rfl (sv rfl (sv rfl (s_nil (l_nil ?_)))))))))))
 cases hz4
 exact ⟨rfl, u23, (sb_of ⟨.of rfl, .of rfl, .of rfl, .of rfl, .of rfl, .of rfl, (.of (oS_ne (appc_ne hv21)).symm), .of rfl, trivial⟩ (sg rfl (sg rfl (sg rfl (sbG_oB (G_skip (neL g3.1.property rfl) (G_skip (neL g3.1.property rfl) (G_skip (neL g3.1.property rfl) (G_skip (neL g3.1.property rfl) (G_skip (neL g3.1.property rfl) G_hit))))) (sbG_own G_hit trivial))))))⟩
 refine l_skip (l_end (l_sub (s0 := ⟨T [(2, (dl eNote p3)), (7, (.ptr (10010010, u2) 0)), (8, (.ptr (8, u3) 0)), (9, (.ptr (9, u4) 0)), (10, (di x1.1)), (12, (oS y2.1 (g3.1.val, g3.2))), (15, (oS x3.1 (117, g6))), (16, (di x3.2.1))], G [((10010010, u2), some (.box 60 [(dl eInt_i64 ((cond (v19.2 == 0) v20.2 v18.2).l)), (di ((cond (v19.2 == 0) v20.2 v18.2).at_))])), ((8, u3), some (.box 32 (dConvoy x1.2.2.1))), ((9, u4), some (.box 35 [(dl eNote v7.sent)])), ((g3.1.val, g3.2), oB 43 7 eNote y2.1), ((117, g6), oB 46 5 eSight x3.1)]⟩) (sb_of ⟨.of rfl, .of rfl, .of rfl, .of rfl, .of rfl, .of rfl, .of rfl, .of rfl, trivial⟩ (sbG_some G_hit (.of rfl) (sg rfl (sg rfl (sbG_oB (G_skip (neL g3.1.property rfl) (G_skip (neL g3.1.property rfl) (G_skip (neL g3.1.property rfl) (G_skip (neL g3.1.property rfl) G_hit)))) (sbG_oB (G_skip rfl (G_skip rfl (G_skip rfl (G_skip rfl (G_skip (neR g3.1.property rfl) G_hit))))) trivial)))))) ?_))
 refine l_reg fun u25 hu25 => sv rfl (sv rfl (sv rfl (s_nil (l_nil ?_))))
 cases hz4
 exact ⟨rfl, g6, (sb_of ⟨.of rfl, .of rfl, .of rfl, .of rfl, .of rfl, .of rfl, .of rfl, .of rfl, trivial⟩ (sbG_some G_hit (.of rfl) (sg rfl (sg rfl (sbG_oB (G_skip (neL g3.1.property rfl) (G_skip (neL g3.1.property rfl) (G_skip (neL g3.1.property rfl) G_hit))) (sbG_oB (G_skip rfl (G_skip rfl (G_skip rfl (G_skip (neR g3.1.property rfl) G_hit)))) trivial))))))⟩
 refine l_exitN rfl ?_
 cases hz4
 obtain rfl := ez4 _ rfl
 refine ⟨nofun, awl_pop rfl (l_j ?_)⟩
 exact ⟨g6, (sb_of ⟨.of rfl, .of rfl, .of rfl, .of rfl, .of rfl, .of rfl, .of rfl, trivial⟩ (sbG_some G_hit (.of rfl) (sg rfl (sg rfl (sbG_oB (G_skip (neL g3.1.property rfl) (G_skip (neL g3.1.property rfl) (G_skip (neL g3.1.property rfl) G_hit))) (sbG_oB (G_skip rfl (G_skip rfl (G_skip rfl (G_skip (neR g3.1.property rfl) G_hit)))) trivial))))))⟩
 rintro _ ⟨g5, q2⟩
 refine l_sub q2 (lr (fun u26 hu26 => sp rfl rfl (sp rfl rfl (sl rfl (gq rfl) rfl (sd rfl (v_len rfl) (sv rfl (bs hz2 fun v22 hv22 hz2 => s_oc (v := .d (.list (List.map eInt_i64 v22.1))) (us := [(10010010, u2)]) (oc_m (law09_wanted_o_ok _ _ _ hv22) [(10010010, u2)] [(10010010, u2)] _ (((10010010, u2), some (.box 60 [(dl eInt_i64 v22.2.l), (di v22.2.at_)])) :: _) rfl all2_av (kl_cons (kr_ptr G_hit rfl) (kl_cons kr_d kl_nil)) (live_cons G_hit live_nil) ⟨⟨_, G_hit, .of rfl⟩, trivial⟩ (fun _ h => h) nd1 rfl rfl rfl) (sv rfl (s_nil (l_seq (l_fr [(117, g5)] [(2, (dl eNote p3)), (7, (.ptr (10010010, u2) 0)), (8, (.ptr (8, u3) 0)), (9, (.ptr (9, u4) 0)), (10, (di x1.1)), (12, (oS y2.1 (g3.1.val, g3.2))), (15, (dl eSight y3.1)), (19, (dl eInt_i64 v22.1)), (118, (.ptr (10010010, u2) 0)), (119, (.ptr (8, u3) 2)), (120, (dl eMate x1.2.2.1.Mates)), (121, (di (x1.2.2.1.Mates.length : Int))), (122, (di (w64 ((x1.2.2.1.Mates.length : Int) + 1)))), (123, (dl eInt_i64 v22.1))] [((10010010, u2), some (.box 60 [(dl eInt_i64 v22.2.l), (di v22.2.at_)])), ((8, u3), some (.box 32 (dConvoy x1.2.2.1))), ((9, u4), some (.box 35 [(dl eNote v7.sent)])), ((g3.1.val, g3.2), oB 43 7 eNote y2.1)] ⟨fr_eq rfl, fr_eq rfl, fr_eq rfl, fr_eq rfl, fr_eq rfl, fr_eq rfl, (fr_d (rf_oS (rs_in (.head _) (G_skip rfl (G_skip rfl (G_skip rfl (G_skip rfl (G_skip (neR g3.1.property rfl) G_hit))))))) oD_le), fr_eq rfl, fr_eq rfl, fr_eq rfl, fr_eq rfl, fr_eq rfl, fr_eq rfl, fr_eq rfl, trivial⟩ (frG_eq G_hit (kn_cons (key_ne rfl) kn_nil) (frG_eq (gq rfl) (kn_cons (key_ne rfl) kn_nil) (frG_eq (gq rfl) (kn_cons (key_ne rfl) kn_nil) (frG_oB (G_skip (neL g3.1.property rfl) (G_skip (neL g3.1.property rfl) (G_skip (neL g3.1.property rfl) (G_skip (neL g3.1.property rfl) G_hit)))) (kn_cons (Ne.symm (key_ne (neR g3.1.property rfl))) kn_nil) trivial)))) (l_fr [(g3.1.val, g3.2)] [(2, (dl eNote p3)), (7, (.ptr (10010010, u2) 0)), (8, (.ptr (8, u3) 0)), (9, (.ptr (9, u4) 0)), (10, (di x1.1)), (12, (dl eNote y2.1)), (15, (dl eSight y3.1)), (19, (dl eInt_i64 v22.1)), (118, (.ptr (10010010, u2) 0)), (119, (.ptr (8, u3) 2)), (120, (dl eMate x1.2.2.1.Mates)), (121, (di (x1.2.2.1.Mates.length : Int))), (122, (di (w64 ((x1.2.2.1.Mates.length : Int) + 1)))), (123, (dl eInt_i64 v22.1))] [((10010010, u2), some (.box 60 [(dl eInt_i64 v22.2.l), (di v22.2.at_)])), ((8, u3), some (.box 32 (dConvoy x1.2.2.1))), ((9, u4), some (.box 35 [(dl eNote v7.sent)]))] ⟨fr_eq rfl, fr_eq rfl, fr_eq rfl, fr_eq rfl, fr_eq rfl, (fr_d (rf_oS (rs_in (.head _) (G_skip (neL g3.1.property rfl) (G_skip (neL g3.1.property rfl) (G_skip (neL g3.1.property rfl) G_hit))))) oD_le), fr_eq rfl, fr_eq rfl, fr_eq rfl, fr_eq rfl, fr_eq rfl, fr_eq rfl, fr_eq rfl, fr_eq rfl, trivial⟩ (frG_eq G_hit (kn_cons (key_ne (neR g3.1.property rfl)) kn_nil) (frG_eq (gq rfl) (kn_cons (key_ne (neR g3.1.property rfl)) kn_nil) (frG_eq (gq rfl) (kn_cons (key_ne (neR g3.1.property rfl)) kn_nil) trivial))) (l_reg fun u27 hu27 => sd rfl (v_loadG rfl (gq rfl) rfl rfl) (sv rfl (sv rfl (sv rfl (bs hz2 fun v23 hv23 hz2 => s_call rfl rfl all2_refl (convoy_Step_ok _ _ _ _  _ hv23) (.inl rfl) (sv rfl (sv rfl (sv rfl (sn rfl rfl (sst rfl G_hit (dConvoy v23.1) rfl (sv rfl (s_nil (l_seq (l_sub (s0 := ⟨T [(2, (.d _)), (7, (.ptr _ _)), (8, (.ptr _ _)), (9, (.ptr _ _)), (10, (.d _)), (12, (.d _)), (15, (.d _)), (19, (.d _)), (20, (.ptr _ _)), (21, (.d _))], G [((10010010, u2), some (.box 60 _)), ((8, u3), some (.box 32 _)), ((9, u4), some (.box 35 _)), ((20, u27), some (.box 32 _))]⟩) (sbr rfl rfl) ?_))))))))))))))))))))))))))
 refine l_reg fun u28 hu28 => sd rfl (v_loadG rfl (gq rfl) rfl rfl) (sv rfl (sv rfl (sv rfl (bs hz2 fun v24 hv24 hz2 => s_call rfl rfl all2_refl (ref09_Step_ok _ _ _ _  _ hv24) (.inl rfl) (sv rfl (sv rfl (sv rfl (sn rfl rfl (sst rfl G_hit (dConvoy v24.1) rfl (sv rfl (s_nil (l_seq (l_seq (l_sub (s0 := ⟨T [(2, (.d _)), (7, (.ptr _ _)), (8, (.ptr _ _)), (9, (.ptr _ _)), (10, (.d _)), (20, (.ptr _ _)), (21, (.d _)), (22, (.ptr _ _)), (23, (.d _))], G [((10010010, u2), some (.box 60 _)), ((8, u3), some (.box 32 _)), ((9, u4), some (.box 35 _)), ((20, u27), some (.box 32 _)), ((22, u28), some (.box 32 _))]⟩) (sbr rfl rfl) ?_))))))))))))))
 refine l_reg fun u29 hu29 => sv rfl (sv rfl (sv rfl (sv rfl (gf rfl (fun w10 => (v_loadG rfl (gq rfl) rfl rfl)) (gf rfl (fun w11 => (v_loadG rfl (gq rfl) rfl rfl)) (bs hz2 fun v25 hv25 hz2 => ?_))))))
 refine g_call _ (bo v25) (gw_f rfl) (fun w12 => ⟨_, [(.d (.agg (eConvoy v23.1))), (.d (.agg (eConvoy v24.1)))], _, _, (by simp only [gd_pos w12]; rfl), rfl, all2_refl, ref09_Same_ok _ _  _ (cond_t w12 hv25), (.inl rfl)⟩) ?_
 refine g_val _ (.d (bo (!v25))) rfl (gw_f rfl) (fun w13 => (by simp only [gd_pos w13]; rfl)) ?_
 refine sd rfl (v_or rfl rfl (fun hc => gd_pos (not_t hc))) (s_nil (cc rfl hz2 (fun c6 hz2 => ?_) (fun c6 hz2 => ?_)))
 refine l_seq (l_sub (s0 := ⟨T [], G []⟩) (sbr rfl rfl) ?_)
 refine l_reg fun u30 hu30 => sv rfl (s_nil (l_ret ?_))
 cases hz2
 obtain rfl := ez2 _ rfl
 refine ⟨nofun, awl_ret ?_⟩
 rw [Sum.elim_inr] at h
 cases h
 exact fin_ok (.inr rfl) (resD1 (res_t rfl) rf_d) (.refl _)
 refine l_skip (l_seq (l_seq (l_sub (s0 := ⟨T [(2, (.d _)), (7, (.ptr _ _)), (8, (.ptr _ _)), (9, (.ptr _ _)), (10, (.d _)), (22, (.ptr _ _)), (23, (.d _))], G [((10010010, u2), some (.box 60 _)), ((8, u3), some (.box 32 _)), ((9, u4), some (.box 35 _)), ((22, u28), some (.box 32 _))]⟩) (sbr rfl rfl) ?_)))
 refine l_reg fun u31 hu31 => sv rfl (sv rfl (s_nil (cc rfl hz2 (fun c7 hz2 => ?_) (fun c7 hz2 => ?_))))
 refine lr (fun u32 hu32 => bs hz2 fun v26 hv26 hz2 => s_call rfl rfl all2_refl (law09_awake_ok  _ hv26) (.inl rfl) (sv rfl (s_nil (l_ret ?_))))
 cases hz2
 obtain rfl := ez2 _ rfl
 refine ⟨nofun, awl_ret ?_⟩
 rw [Sum.elim_inr] at h
 cases h
 exact fin_ok (.inr rfl) (resD1 (res_t rfl) rf_d) (.refl _)
 refine l_skip (l_reg fun u33 hu33 => sd rfl (v_loadG rfl (gq rfl) rfl rfl) (sst rfl (gq rfl) (dConvoy v24.1) rfl (s_nil (l_end (l_reg fun u34 hu34 => sv rfl (sv rfl (sv rfl (s_nil (l_nil ?_)))))))))
 cases hz2
 exact ⟨rfl, (), (sbr rfl rfl)⟩
 refine l_exitN rfl ?_
 cases hz2
 obtain rfl := ez2 _ rfl
 refine ⟨nofun, awl_pop rfl (l_j ?_)⟩
 exact ⟨_, (), rfl, (sbr rfl rfl)⟩
 rintro _ ⟨y1, g1, rfl, q3⟩
 rw [Sum.elim_inl] at h
 refine l_sub q3 (lr (fun u35 hu35 => bs h fun v27 hv27 h => s_call rfl rfl all2_refl (law09_awake_ok  _ hv27) (.inl rfl) (sv rfl (s_nil (l_ret ?_)))))
 cases h
 exact fin_ok (.inr rfl) (resD1 (res_t rfl) rf_d) (.refl _)
end Go.Abs.Convoyz
