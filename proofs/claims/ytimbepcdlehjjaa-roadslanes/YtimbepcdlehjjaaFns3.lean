/-
  The functions, part 3.
-/
import Derived.Test.YtimbepcdlehjjaaFns2
set_option maxRecDepth 20000
set_option maxHeartbeats 4000000
set_option linter.unusedVariables false
namespace Go.Abs.Roads
open Go Go.Abs Go.Proofs
attribute [local irreducible] regW regT AWL

noncomputable def roads_Leads (p1 : Map) (p2 : Int) (p3 : Int) : Option Bool :=
  (roads_is p1 p2).bind fun v1 => ((cond v1 (roads_is p1 p3) (some default))).bind fun v2 => ((cond (v1 && v2) (roads_reach p1) (some default))).bind fun v3 => ((cond (v1 && v2) (geti ([v3.1, v3.2.1, v3.2.2.1, v3.2.2.2.1, v3.2.2.2.2.1, v3.2.2.2.2.2.1, v3.2.2.2.2.2.2.1, v3.2.2.2.2.2.2.2.1, v3.2.2.2.2.2.2.2.2.1, v3.2.2.2.2.2.2.2.2.2.1, v3.2.2.2.2.2.2.2.2.2.2.1, v3.2.2.2.2.2.2.2.2.2.2.2] : List Int) p2) (some default))).bind fun v4 => ((cond (v1 && v2) (roads_set_has v4 p3) (some default))).bind fun v5 => some ((v1 && v2) && v5)

theorem roads_Leads_ok (p1 : Map) (p2 : Int) (p3 : Int) (r : Bool) (h : roads_Leads p1 p2 p3 = some r) : PCall Try.prog 20 [(.agg (eMap p1)), (i64 p2), (i64 p3)] (bo r) := by
 refine l_call (fk Try.func20 Try.ntmps20 m0 (by with_unfolding_all rfl)) (nl rfl) ?_
 unfold roads_Leads at h
 refine l_sub (s0 := ⟨T [(0, (.d _)), (1, (.d _)), (2, (.d _))], G []⟩) (sbr rfl rfl) ?_
 refine lr (fun u1 hu1 => sn rfl rfl (sv rfl (s_nil (lr (fun u2 hu2 => sd rfl (v_loadG rfl G_hit rfl rfl) (sv rfl (bs h fun v1 hv1 h => s_call rfl rfl all2_refl (roads_is_ok _ _  _ hv1) (.inl rfl) (sv rfl (gt rfl (fun w1 => (v_loadG rfl G_hit rfl rfl)) (gt rfl (fun _ => rfl) (bs h fun v2 hv2 h => ?_)))))))))))
 refine g_call v1 (bo v2) (gw_t rfl) (fun w3 => ⟨_, [(.d (.agg (eMap p1))), (di p3)], _, _, (by simp only [gd_pos w3]; rfl), rfl, all2_refl, roads_is_ok _ _  _ (cond_t w3 hv2), (.inl rfl)⟩) ?_
 refine sa rfl rfl rfl (sv rfl (gt rfl (fun w4 => (v_loadG rfl G_hit rfl rfl)) (bs h fun v3 hv3 h => ?_)))
 refine g_call _ (.agg [(.v (.int .u32 v3.1)), (.v (.int .u32 v3.2.1)), (.v (.int .u32 v3.2.2.1)), (.v (.int .u32 v3.2.2.2.1)), (.v (.int .u32 v3.2.2.2.2.1)), (.v (.int .u32 v3.2.2.2.2.2.1)), (.v (.int .u32 v3.2.2.2.2.2.2.1)), (.v (.int .u32 v3.2.2.2.2.2.2.2.1)), (.v (.int .u32 v3.2.2.2.2.2.2.2.2.1)), (.v (.int .u32 v3.2.2.2.2.2.2.2.2.2.1)), (.v (.int .u32 v3.2.2.2.2.2.2.2.2.2.2.1)), (.v (.int .u32 v3.2.2.2.2.2.2.2.2.2.2.2))]) (gw_t rfl) (fun w5 => ⟨_, [(.d (.agg (eMap p1)))], _, _, (by simp only [gd_pos w5]; rfl), rfl, all2_refl, roads_reach_ok _  _ (cond_t w5 hv3), (.inl rfl)⟩) ?_
 refine gt rfl (fun _ => rfl) (bs h fun v4 hv4 h => ?_)
 refine gt rfl (fun w7 => (v_idxAV (xs := ([v3.1, v3.2.1, v3.2.2.1, v3.2.2.2.1, v3.2.2.2.2.1, v3.2.2.2.2.2.1, v3.2.2.2.2.2.2.1, v3.2.2.2.2.2.2.2.1, v3.2.2.2.2.2.2.2.2.1, v3.2.2.2.2.2.2.2.2.2.1, v3.2.2.2.2.2.2.2.2.2.2.1, v3.2.2.2.2.2.2.2.2.2.2.2] : List Int)) (f := (fun x => (.v (.int .u32 x)))) (by simp only [ev, gd_pos w7]; rfl) (gd_pos w7) (cond_t w7 hv4) rfl)) ?_
 refine gt rfl (fun _ => rfl) (bs h fun v5 hv5 h => ?_)
 refine g_call _ (bo v5) (gw_t rfl) (fun w9 => ⟨_, [(.d (.v (.int .u32 v4))), (di p3)], _, _, (by simp only [gd_pos w9]; rfl), rfl, all2_refl, roads_set_has_ok _ _  _ (cond_t w9 hv5), (.inl rfl)⟩) ?_
 refine sa rfl rfl rfl (sv rfl (s_nil (l_ret ?_)))
 cases h
 exact fin_ok (.inr rfl) (resD1 (res_t rfl) rf_d) (.refl _)

noncomputable def ref03_leads_b_l1 (rc : (Map → Int → Int → Option Bool)) (p1 : Map) (p3 : Int) (v1 : Lane) (x1 : Int) : Option (Stp Int (Sum Unit Bool)) :=
  cond (decide (x1 < (v1.Next.length : Int))) ((geti v1.Next x1).bind fun v2 => ((cond (!(v2 == p3)) (geti v1.Next x1) (some default))).bind fun v3 => ((cond (!(v2 == p3)) (rc p1 v3 p3) (some default))).bind fun v4 => cond ((v2 == p3) || v4) (some (.out (.inr true))) (some (.go (w64 (x1 + 1))))) (some (.out (.inl ())))
noncomputable def ref03_leads_b (rc : (Map → Int → Int → Option Bool)) (p1 : Map) (p2 : Int) (p3 : Int) : Option Bool :=
  (geti p1.Lanes p2).bind fun v1 => thenS (loop (ref03_leads_b_l1 rc p1 p3 v1) 0) (fun _ => some false) (fun r => some r)
noncomputable def ref03_leads_n : Nat → Map → Int → Int → Option Bool
  | 0 => fun _ _ _ => none
  | n + 1 => ref03_leads_b (ref03_leads_n n)
noncomputable def ref03_leads : Map → Int → Int → Option Bool := ref03_leads_n 100

theorem ref03_leads_b_ok (rc : (Map → Int → Int → Option Bool)) (rc_ok : ∀ (p1 : Map) (p2 : Int) (p3 : Int) (r : Bool), rc p1 p2 p3 = some r → PCall Try.prog 64 [(.agg (eMap p1)), (i64 p2), (i64 p3)] (bo r)) (p1 : Map) (p2 : Int) (p3 : Int) (r : Bool) (h : ref03_leads_b rc p1 p2 p3 = some r) : PCall Try.prog 64 [(.agg (eMap p1)), (i64 p2), (i64 p3)] (bo r) := by
 refine l_call (fk Try.func64 Try.ntmps64 m0 (by with_unfolding_all rfl)) (nl rfl) ?_
 unfold ref03_leads_b at h
 refine l_sub (s0 := ⟨T [(0, (.d _)), (1, (.d _)), (2, (.d _))], G []⟩) (sbr rfl rfl) ?_
 refine lr (fun u1 hu1 => sn rfl rfl (sv rfl (s_nil (lr (fun u2 hu2 => sp rfl rfl (sl rfl G_hit rfl (sv rfl (bs h fun v1 hv1 h => sd rfl (v_idx rfl rfl hv1 rfl) (sv rfl (sd rfl (v_loadL rfl hv1 rfl) (sv rfl (s_nil (l_seq (lr (fun u3 hu3 => sv rfl (s_nil (js h fun z1 hz1 h => l_join (fun s => ∃ (y1 : Unit) (g1 : Unit), z1 = .inl y1 ∧ Sb ⟨T [], G []⟩ s) ?_ ?_)))))))))))))))))
 refine l_block (l_loop (ref03_leads_b_l1 rc p1 p3 v1) (fun (x1 : Int) (g2 : Unit) => ⟨T [(2, (di p3)), (3, (.ptr (3, u1) 0)), (7, (dl eInt_i64 v1.Next)), (8, (di x1))], G [((3, u1), some (.box 28 (dMap p1)))]⟩) 0 () _ hz1 (sbr rfl rfl) ?_)
 intro x1 g2 z2 hz2 ez2
 unfold ref03_leads_b_l1 at hz2
 refine l_seq (lr (fun u4 hu4 => sv rfl (sv rfl (sd rfl (v_len rfl) (sv rfl (s_nil (cc rfl hz2 (fun c1 hz2 => ?_) (fun c1 hz2 => ?_))))))))
 refine l_skip (l_seq (l_block (l_seq (l_draw rfl fun u5 hu5 => sv rfl (sv rfl (bs hz2 fun v2 hv2 hz2 => sd rfl (v_idx rfl rfl hv2 rfl) (sd rfl (v_loadL rfl hv2 rfl) (sv rfl (sv rfl (sv rfl (gf rfl (fun w1 => (v_loadG rfl G_hit rfl rfl)) (gf rfl (fun _ => rfl) (gf rfl (fun _ => rfl) (bs hz2 fun v3 hv3 hz2 => gf rfl (fun w4 => (v_idx (gd_pos w4) (gd_pos w4) (cond_t w4 hv3) rfl)) (gf rfl (fun w5 => (v_loadL (gd_pos w5) (cond_t w5 hv3) rfl)) (gf rfl (fun _ => rfl) (bs hz2 fun v4 hv4 hz2 => ?_)))))))))))))))))
 refine g_call _ (bo v4) (gw_f rfl) (fun w7 => ⟨_, [(.d (.agg (eMap p1))), (di v3), (di p3)], _, _, (by simp only [gd_pos w7]; rfl), rfl, all2_refl, rc_ok _ _ _  _ (cond_t w7 hv4), (.inl rfl)⟩) ?_
 refine sd rfl (v_or rfl rfl (fun hc => gd_pos (not_t hc))) (s_nil (cc rfl hz2 (fun c2 hz2 => ?_) (fun c2 hz2 => ?_)))
 refine l_seq (l_sub (s0 := ⟨T [], G []⟩) (sbr rfl rfl) ?_)
 refine l_reg fun u6 hu6 => sv rfl (s_nil (l_ret ?_))
 cases hz2
 obtain rfl := ez2 _ rfl
 refine ⟨nofun, awl_ret ?_⟩
 rw [Sum.elim_inr] at h
 cases h
 exact fin_ok (.inr rfl) (resD1 (res_t rfl) rf_d) (.refl _)
 refine l_skip (l_end (l_sub (s0 := ⟨T [(2, (.d _)), (3, (.ptr _ _)), (7, (.d _)), (8, (.d _))], G [((3, u1), some (.box 28 _))]⟩) (sbr rfl rfl) ?_))
 refine l_reg fun u7 hu7 => sv rfl (sv rfl (sv rfl (s_nil (l_nil ?_))))
 cases hz2
 exact ⟨rfl, (), (sbr rfl rfl)⟩
 refine l_exitN rfl ?_
 cases hz2
 obtain rfl := ez2 _ rfl
 refine ⟨nofun, awl_pop rfl (l_j ?_)⟩
 exact ⟨_, (), rfl, (sbr rfl rfl)⟩
 rintro _ ⟨y1, g1, rfl, q1⟩
 rw [Sum.elim_inl] at h
 refine l_sub q1 (lr (fun u8 hu8 => sv rfl (s_nil (l_ret ?_))))
 cases h
 exact fin_ok (.inr rfl) (resD1 (res_t rfl) rf_d) (.refl _)
theorem ref03_leads_n_ok : ∀ (n : Nat) (p1 : Map) (p2 : Int) (p3 : Int) (r : Bool) (h : ref03_leads_n n p1 p2 p3 = some r), PCall Try.prog 64 [(.agg (eMap p1)), (i64 p2), (i64 p3)] (bo r)
  | 0, _, _, _, _, h => nomatch h
  | n + 1, _, _, _, _, h => ref03_leads_b_ok (ref03_leads_n n) (ref03_leads_n_ok n) _ _ _ _ h
theorem ref03_leads_ok (p1 : Map) (p2 : Int) (p3 : Int) (r : Bool) (h : ref03_leads p1 p2 p3 = some r) : PCall Try.prog 64 [(.agg (eMap p1)), (i64 p2), (i64 p3)] (bo r) := ref03_leads_n_ok 100 p1 p2 p3 r h

noncomputable def ref03_Leads (p1 : Map) (p2 : Int) (p3 : Int) : Option Bool :=
  (ref03_lane p1 p2).bind fun v1 => ((cond v1 (ref03_lane p1 p3) (some default))).bind fun v2 => ((cond (v1 && v2) (ref03_leads p1 p2 p3) (some default))).bind fun v3 => some ((v1 && v2) && v3)

theorem ref03_Leads_ok (p1 : Map) (p2 : Int) (p3 : Int) (r : Bool) (h : ref03_Leads p1 p2 p3 = some r) : PCall Try.prog 30 [(.agg (eMap p1)), (i64 p2), (i64 p3)] (bo r) := by
 refine l_call (fk Try.func30 Try.ntmps30 m0 (by with_unfolding_all rfl)) (nl rfl) ?_
 unfold ref03_Leads at h
 refine l_sub (s0 := ⟨T [(0, (.d _)), (1, (.d _)), (2, (.d _))], G []⟩) (sbr rfl rfl) ?_
 refine lr (fun u1 hu1 => sn rfl rfl (sv rfl (s_nil (lr (fun u2 hu2 => sd rfl (v_loadG rfl G_hit rfl rfl) (sv rfl (bs h fun v1 hv1 h => s_call rfl rfl all2_refl (ref03_lane_ok _ _  _ hv1) (.inl rfl) (sv rfl (gt rfl (fun w1 => (v_loadG rfl G_hit rfl rfl)) (gt rfl (fun _ => rfl) (bs h fun v2 hv2 h => ?_)))))))))))
 refine g_call v1 (bo v2) (gw_t rfl) (fun w3 => ⟨_, [(.d (.agg (eMap p1))), (di p3)], _, _, (by simp only [gd_pos w3]; rfl), rfl, all2_refl, ref03_lane_ok _ _  _ (cond_t w3 hv2), (.inl rfl)⟩) ?_
 refine sa rfl rfl rfl (sv rfl (gt rfl (fun w4 => (v_loadG rfl G_hit rfl rfl)) (gt rfl (fun _ => rfl) (gt rfl (fun _ => rfl) (bs h fun v3 hv3 h => ?_)))))
 refine g_call _ (bo v3) (gw_t rfl) (fun w7 => ⟨_, [(.d (.agg (eMap p1))), (di p2), (di p3)], _, _, (by simp only [gd_pos w7]; rfl), rfl, all2_refl, ref03_leads_ok _ _ _  _ (cond_t w7 hv3), (.inl rfl)⟩) ?_
 refine sa rfl rfl rfl (sv rfl (s_nil (l_ret ?_)))
 cases h
 exact fin_ok (.inr rfl) (resD1 (res_t rfl) rf_d) (.refl _)

noncomputable def roads_Entries (p1 : Map) (p2 : Int) : Option (List Int) :=
  ((cond (!((decide (p2 < 0)) || (decide (p2 ≥ (p1.Zones.length : Int))))) (roads_Check p1) (some default))).bind fun v1 => cond (((decide (p2 < 0)) || (decide (p2 ≥ (p1.Zones.length : Int)))) || (v1 != 0)) (some []) ((geti p1.Zones p2).bind fun v2 => (roads_entries p1 v2).bind fun v3 => some v3)

theorem roads_Entries_ok (p1 : Map) (p2 : Int) (r : (List Int)) (h : roads_Entries p1 p2 = some r) : PCall Try.prog 17 [(.agg (eMap p1)), (i64 p2)] (.list (List.map eInt_i64 r)) := by
 refine l_call (fk Try.func17 Try.ntmps17 m0 (by with_unfolding_all rfl)) (nl rfl) ?_
 unfold roads_Entries at h
 refine l_sub (s0 := ⟨T [(0, (.d _)), (1, (.d _))], G []⟩) (sbr rfl rfl) ?_
 refine lr (fun u1 hu1 => sn rfl rfl (sv rfl (s_nil (l_seq (lr (fun u2 hu2 => sv rfl (sv rfl (sv rfl (gf rfl (fun _ => rfl) (gp rfl (gw_f rfl) (fun _ => rfl) (gf rfl (vl rfl G_hit rfl) (gf rfl (fun w4 => (v_len (gd_pos w4))) (gf rfl (fun w5 => (v_bin (gd_pos w5) (gd_pos w5) rfl)) (sd rfl (v_or rfl rfl (fun hc => gd_pos (not_t hc))) (sv rfl (gf rfl (fun w6 => (v_loadG rfl G_hit rfl rfl)) (bs h fun v1 hv1 h => ?_)))))))))))))))))
 refine g_call _ (i64 v1) (gw_f rfl) (fun w7 => ⟨_, [(.d (.agg (eMap p1)))], _, _, (by simp only [gd_pos w7]; rfl), rfl, all2_refl, roads_Check_ok _  _ (cond_t w7 hv1), (.inl rfl)⟩) ?_
 refine gf rfl (vb rfl rfl rfl) (sd rfl (v_or rfl rfl (fun hc => gd_pos (not_t hc))) (s_nil (cc rfl h (fun c1 h => ?_) (fun c1 h => ?_))))
 refine lr (fun u3 hu3 => sv rfl (s_nil (l_ret ?_)))
 cases h
 exact fin_ok (.inr rfl) (resD1 (res_t rfl) rf_d) DLe.nil
 refine l_skip (l_seq (l_draw rfl fun u4 hu4 => sd rfl (v_loadG rfl G_hit rfl rfl) (sp rfl rfl (sl rfl G_hit rfl (sv rfl (bs h fun v2 hv2 h => sd rfl (v_idx rfl rfl hv2 rfl) (sd rfl (v_loadLG rfl hv2 rfl rfl) (bs h fun v3 hv3 h => s_call rfl rfl all2_refl (roads_entries_ok _ _  _ hv3) (.inl rfl) (sv rfl (s_nil (l_ret ?_)))))))))))
 cases h
 exact fin_ok (.inr rfl) (resD1 (res_t rfl) rf_d) (.refl _)

noncomputable def ref03_entry_l1 (p1 : Map) (p2 : Zone) (p3 : Int) (x1 : Int) : Option (Stp Int (Sum Unit Bool)) :=
  cond (decide (x1 < (p2.Parts.length : Int))) ((geti p2.Parts x1).bind fun v1 => ((cond (v1.Lane_ != p3) (geti p2.Parts x1) (some default))).bind fun v2 => ((cond (v1.Lane_ != p3) (ref03_leads p1 v2.Lane_ p3) (some default))).bind fun v3 => cond ((v1.Lane_ != p3) && v3) (some (.out (.inr false))) (some (.go (w64 (x1 + 1))))) (some (.out (.inl ())))
noncomputable def ref03_entry (p1 : Map) (p2 : Zone) (p3 : Int) : Option Bool :=
  thenS (loop (ref03_entry_l1 p1 p2 p3) 0) (fun _ => some true) (fun r => some r)

theorem ref03_entry_ok (p1 : Map) (p2 : Zone) (p3 : Int) (r : Bool) (h : ref03_entry p1 p2 p3 = some r) : PCall Try.prog 96 [(.agg (eMap p1)), (.agg [(.list (List.map ePart p2.Parts)), (i64 p2.Signal_)]), (i64 p3)] (bo r) := by
 refine l_call (fk Try.func96 Try.ntmps96 m0 (by with_unfolding_all rfl)) (nl rfl) ?_
 unfold ref03_entry at h
 refine l_sub (s0 := ⟨T [(0, (.d _)), (1, (.d _)), (2, (.d _))], G []⟩) (sbr rfl rfl) ?_
 refine lr (fun u1 hu1 => sn rfl rfl (sn rfl rfl (sv rfl (s_nil (l_seq (lr (fun u2 hu2 => sv rfl (s_nil (js h fun z1 hz1 h => l_join (fun s => ∃ (y1 : Unit) (g1 : Unit), z1 = .inl y1 ∧ Sb ⟨T [], G []⟩ s) ?_ ?_)))))))))
 refine l_block (l_loop (ref03_entry_l1 p1 p2 p3) (fun (x1 : Int) (g2 : Unit) => ⟨T [(2, (di p3)), (3, (.ptr (3, u1) 0)), (4, (.ptr (4, u1) 0)), (7, (di x1))], G [((3, u1), some (.box 28 (dMap p1))), ((4, u1), some (.box 69 [(dl ePart p2.Parts), (di p2.Signal_)]))]⟩) 0 () _ hz1 (sbr rfl rfl) ?_)
 intro x1 g2 z2 hz2 ez2
 unfold ref03_entry_l1 at hz2
 refine l_seq (lr (fun u3 hu3 => sv rfl (sp rfl rfl (sl rfl (gq rfl) rfl (sd rfl (v_len rfl) (sv rfl (s_nil (cc rfl hz2 (fun c1 hz2 => ?_) (fun c1 hz2 => ?_)))))))))
 refine l_skip (l_seq (l_block (l_seq (l_draw rfl fun u4 hu4 => sp rfl rfl (sl rfl (gq rfl) rfl (sv rfl (bs hz2 fun v1 hv1 hz2 => sd rfl (v_idx rfl rfl hv1 rfl) (sv rfl (sd rfl (v_loadL rfl hv1 rfl) (sv rfl (sv rfl (sv rfl (gt rfl (fun w1 => (v_loadG rfl G_hit rfl rfl)) (gp rfl (gw_t rfl) (fun _ => rfl) (gt rfl (vl rfl (gq rfl) rfl) (gt rfl (fun _ => rfl) (bs hz2 fun v2 hv2 hz2 => gt rfl (fun w5 => (v_idx (gd_pos w5) (gd_pos w5) (cond_t w5 hv2) rfl)) ?_)))))))))))))))))
 refine gt rfl (fun w6 => (by simp only [gd_pos w6]; rfl)) ?_
 refine gt rfl (fun w7 => (v_loadL (gd_pos w7) (cond_t w7 hv2) rfl)) (gt rfl (fun _ => rfl) (bs hz2 fun v3 hv3 hz2 => ?_))
 refine g_call _ (bo v3) (gw_t rfl) (fun w9 => ⟨_, [(.d (.agg (eMap p1))), (di v2.Lane_), (di p3)], _, _, (by simp only [gd_pos w9]; rfl), rfl, all2_refl, ref03_leads_ok _ _ _  _ (cond_t w9 hv3), (.inl rfl)⟩) ?_
 refine sa rfl rfl rfl (s_nil (cc rfl hz2 (fun c2 hz2 => ?_) (fun c2 hz2 => ?_)))
 refine l_seq (l_sub (s0 := ⟨T [], G []⟩) (sbr rfl rfl) ?_)
 refine l_reg fun u5 hu5 => sv rfl (s_nil (l_ret ?_))
 cases hz2
 obtain rfl := ez2 _ rfl
 refine ⟨nofun, awl_ret ?_⟩
 rw [Sum.elim_inr] at h
 cases h
 exact fin_ok (.inr rfl) (resD1 (res_t rfl) rf_d) (.refl _)
 refine l_skip (l_end (l_sub (s0 := ⟨T [(2, (.d _)), (3, (.ptr _ _)), (4, (.ptr _ _)), (7, (.d _))], G [((3, u1), some (.box 28 _)), ((4, u1), some (.box 69 _))]⟩) (sbr rfl rfl) ?_))
 refine l_reg fun u6 hu6 => sv rfl (sv rfl (sv rfl (s_nil (l_nil ?_))))
 cases hz2
 exact ⟨rfl, (), (sbr rfl rfl)⟩
 refine l_exitN rfl ?_
 cases hz2
 obtain rfl := ez2 _ rfl
 refine ⟨nofun, awl_pop rfl (l_j ?_)⟩
 exact ⟨_, (), rfl, (sbr rfl rfl)⟩
 rintro _ ⟨y1, g1, rfl, q1⟩
 rw [Sum.elim_inl] at h
 refine l_sub q1 (lr (fun u7 hu7 => sv rfl (s_nil (l_ret ?_))))
 cases h
 exact fin_ok (.inr rfl) (resD1 (res_t rfl) rf_d) (.refl _)

noncomputable def ref03_entries_l1 (p1 : Map) (p2 : Zone) (x1 : ((List Int) × Int)) : Option (Stp ((List Int) × Int) (List Int)) :=
  cond (decide (x1.2 < (p2.Parts.length : Int))) ((geti p2.Parts x1.2).bind fun v1 => (ref03_entry p1 p2 v1.Lane_).bind fun v2 => cond v2 ((geti p2.Parts x1.2).bind fun v3 => (appc x1.1 [v3.Lane_]).bind fun v4 => some (.go (v4, (w64 (x1.2 + 1))))) (some (.go (x1.1, (w64 (x1.2 + 1)))))) (some (.out x1.1))
noncomputable def ref03_entries (p1 : Map) (p2 : Zone) : Option (List Int) :=
  (loop (ref03_entries_l1 p1 p2) ([], 0)).bind fun y1 => some y1

theorem ref03_entries_ok (p1 : Map) (p2 : Zone) (r : (List Int)) (h : ref03_entries p1 p2 = some r) : PCall Try.prog 65 [(.agg (eMap p1)), (.agg [(.list (List.map ePart p2.Parts)), (i64 p2.Signal_)])] (.list (List.map eInt_i64 r)) := by
 refine l_call (fk Try.func65 Try.ntmps65 (fun r => if r == 6 then [1007] else []) (by with_unfolding_all rfl)) (nl rfl) ?_
 unfold ref03_entries at h
 refine l_sub (s0 := ⟨T [(0, (.d _)), (1, (.d _))], G []⟩) (sbr rfl rfl) ?_
 refine lr (fun u1 hu1 => sn rfl rfl (sn rfl rfl (sv rfl (s_nil (lr (fun u2 hu2 => sv rfl (s_nil (l_seq (lr (fun u3 hu3 => sv rfl (s_nil (bs h fun y1 hy1 h => l_join (fun s => ∃ g1 : Nat, Sb ⟨T [(5, (oS y1 (31, g1)))], G [((31, g1), oB 3 1 eInt_i64 y1)]⟩ s) ?_ ?_))))))))))))
 refine l_block (l_loop (ref03_entries_l1 p1 p2) (fun (x1 : ((List Int) × Int)) (g2 : Nat) => ⟨T [(2, (.ptr (2, u1) 0)), (3, (.ptr (3, u1) 0)), (5, (oS x1.1 (31, g2))), (6, (di x1.2))], G [((2, u1), some (.box 28 (dMap p1))), ((3, u1), some (.box 69 [(dl ePart p2.Parts), (di p2.Signal_)])), ((31, g2), oB 3 1 eInt_i64 x1.1)]⟩) ([], 0) 0 _ hy1 (sb_of ⟨.of rfl, .of rfl, .of rfl, .of rfl, trivial⟩ (sg rfl (sbG_some G_hit (.of rfl) (sbG_nil trivial)))) ?_)
 intro x1 g2 z1 hz1 ez1
 unfold ref03_entries_l1 at hz1
 refine l_seq (lr (fun u4 hu4 => sv rfl (sp rfl rfl (sl rfl (gq rfl) rfl (sd rfl (v_len rfl) (sv rfl (s_nil (cc rfl hz1 (fun c1 hz1 => ?_) (fun c1 hz1 => ?_)))))))))
 refine l_skip (l_seq (l_block (l_seq (l_draw rfl fun u5 hu5 => sd rfl (v_loadG rfl G_hit rfl rfl) (sd rfl (v_loadG rfl (gq rfl) rfl rfl) (sp rfl rfl (sl rfl (gq rfl) rfl (sv rfl (bs hz1 fun v1 hv1 hz1 => sd rfl (v_idx rfl rfl hv1 rfl) (sv rfl (sd rfl (v_loadL rfl hv1 rfl) (bs hz1 fun v2 hv2 hz1 => s_call rfl rfl all2_refl (ref03_entry_ok _ _ _  _ hv2) (.inl rfl) (s_nil (cc rfl hz1 (fun c2 hz1 => ?_) (fun c2 hz1 => ?_)))))))))))))))
 refine l_reg fun u6 hu6 => s_val (oS x1.1 (31, g2)) rfl rfl (sp rfl rfl (sl rfl (gq rfl) rfl (sv rfl (bs hz1 fun v3 hv3 hz1 => sd rfl (v_idx rfl rfl hv3 rfl) (sv rfl (sd rfl (v_loadL rfl hv3 rfl) (s_val (dl eInt_i64 [v3.Lane_]) rfl rfl (bs hz1 fun v4 hv4 hz1 => s_appendO eInt_i64 (31, g2) x1.1 v3.Lane_ [] _ (elems_list (fun _ => rfl)) rfl (gq rfl) hv4 (ss rfl (s_nil (l_end (l_sub (s0 := ⟨T [(2, (.ptr _ _)), (3, (.ptr _ _)), (5, (.sl _)), (6, (.d _))], G [((2, u1), some (.box 28 _)), ((3, u1), some (.box 69 _)), ((31, u6), some _)]⟩) (sbr rfl rfl) ?_))))))))))))
 refine l_reg fun u7 hu7 => sv rfl (sv rfl (sv rfl (s_nil (l_nil ?_))))
 cases hz1
 exact ⟨rfl, u6, (sb_of ⟨.of rfl, .of rfl, (.of (oS_ne (appc_ne hv4)).symm), .of rfl, trivial⟩ (sbG_some G_hit (.of rfl) (sg rfl (sbG_own (gq rfl) trivial))))⟩
 refine l_skip (l_end (l_reg fun u8 hu8 => sv rfl (sv rfl (sv rfl (s_nil (l_nil ?_))))))
 cases hz1
 exact ⟨rfl, g2, (sb_of ⟨.of rfl, .of rfl, .of rfl, .of rfl, trivial⟩ (sbG_some G_hit (.of rfl) (sg rfl (sbG_oB (gq rfl) trivial))))⟩
 refine l_exitN rfl ?_
 cases hz1
 obtain rfl := ez1 _ rfl
 refine ⟨nofun, awl_pop rfl (l_j ?_)⟩
 exact ⟨g2, (sb_of ⟨.of rfl, trivial⟩ (sbG_oB (gq rfl) trivial))⟩
 rintro _ ⟨g1, q1⟩
 refine l_sub q1 (lr (fun u9 hu9 => s_val (oS y1 (31, g1)) rfl rfl (s_val (oS y1 (31, g1)) rfl rfl (s_nil (l_ret ?_)))))
 cases h
 exact fin_ok (.inr rfl) (resD1 (res_t rfl) (rf_oS G_hit)) oD_le

noncomputable def ref03_Entries (p1 : Map) (p2 : Int) : Option (List Int) :=
  (ref03_Check p1).bind fun v1 => cond (((v1 != 0) || (decide (p2 < 0))) || (decide (p2 ≥ (p1.Zones.length : Int)))) (some []) ((geti p1.Zones p2).bind fun v2 => (ref03_entries p1 v2).bind fun v3 => some v3)

theorem ref03_Entries_ok (p1 : Map) (p2 : Int) (r : (List Int)) (h : ref03_Entries p1 p2 = some r) : PCall Try.prog 31 [(.agg (eMap p1)), (i64 p2)] (.list (List.map eInt_i64 r)) := by
 refine l_call (fk Try.func31 Try.ntmps31 m0 (by with_unfolding_all rfl)) (nl rfl) ?_
 unfold ref03_Entries at h
 refine l_sub (s0 := ⟨T [(0, (.d _)), (1, (.d _))], G []⟩) (sbr rfl rfl) ?_
 refine lr (fun u1 hu1 => sn rfl rfl (sv rfl (s_nil (l_seq (lr (fun u2 hu2 => sd rfl (v_loadG rfl G_hit rfl rfl) (bs h fun v1 hv1 h => s_call rfl rfl all2_refl (ref03_Check_ok _  _ hv1) (.inl rfl) (sv rfl (sv rfl (gf rfl (fun _ => rfl) (gf rfl (vb rfl rfl rfl) (sd rfl (v_or rfl rfl (fun hc => gd_pos (not_t hc))) (sv rfl (gf rfl (fun _ => rfl) (gp rfl (gw_f rfl) (fun _ => rfl) (gf rfl (vl rfl G_hit rfl) (gf rfl (fun w6 => (v_len (gd_pos w6))) (gf rfl (fun w7 => (v_bin (gd_pos w7) (gd_pos w7) rfl)) (sd rfl (v_or rfl rfl (fun hc => gd_pos (not_t hc))) (s_nil (cc rfl h (fun c1 h => ?_) (fun c1 h => ?_))))))))))))))))))))))
 refine lr (fun u3 hu3 => sv rfl (s_nil (l_ret ?_)))
 cases h
 exact fin_ok (.inr rfl) (resD1 (res_t rfl) rf_d) DLe.nil
 refine l_skip (l_seq (l_draw rfl fun u4 hu4 => sd rfl (v_loadG rfl G_hit rfl rfl) (sp rfl rfl (sl rfl G_hit rfl (sv rfl (bs h fun v2 hv2 h => sd rfl (v_idx rfl rfl hv2 rfl) (sd rfl (v_loadLG rfl hv2 rfl rfl) (bs h fun v3 hv3 h => s_call rfl rfl all2_refl (ref03_entries_ok _ _  _ hv3) (.inl rfl) (sv rfl (s_nil (l_ret ?_)))))))))))
 cases h
 exact fin_ok (.inr rfl) (resD1 (res_t rfl) rf_d) (.refl _)

noncomputable def law03_RoadsLanes (p1 : Map) (p2 : Int) (p3 : Int) (p4 : Int) (p5 : Int) : Option Bool :=
  (kit_Small p1).bind fun v1 => cond (!v1) ((law03_awake).bind fun v2 => some v2) ((roads_Bounds p2).bind fun v3 => (ref03_Bounds p2).bind fun v4 => ((cond (!(((v3.1 != v4.1) || (v3.2.1 != v4.2.1)) || (v3.2.2 != v4.2.2))) (roads_Length p1 p3) (some default))).bind fun v5 => ((cond (!(((v3.1 != v4.1) || (v3.2.1 != v4.2.1)) || (v3.2.2 != v4.2.2))) (ref03_Length p1 p3) (some default))).bind fun v6 => ((cond (!((((v3.1 != v4.1) || (v3.2.1 != v4.2.1)) || (v3.2.2 != v4.2.2)) || (v5 != v6))) (roads_Before p1 p3) (some default))).bind fun v7 => ((cond (!((((v3.1 != v4.1) || (v3.2.1 != v4.2.1)) || (v3.2.2 != v4.2.2)) || (v5 != v6))) (ref03_Before p1 p3) (some default))).bind fun v8 => ((cond (!((((v3.1 != v4.1) || (v3.2.1 != v4.2.1)) || (v3.2.2 != v4.2.2)) || (v5 != v6))) (kit_SameInts v7 v8) (some default))).bind fun v9 => cond (((((v3.1 != v4.1) || (v3.2.1 != v4.2.1)) || (v3.2.2 != v4.2.2)) || (v5 != v6)) || (!v9)) (some false) ((roads_Sources p1).bind fun v10 => (ref03_Sources p1).bind fun v11 => (kit_SameInts v10 v11).bind fun v12 => ((cond v12 (roads_Leads p1 p3 p4) (some default))).bind fun v13 => ((cond v12 (ref03_Leads p1 p3 p4) (some default))).bind fun v14 => ((cond (v12 && (v13 == v14)) (roads_Entries p1 p5) (some default))).bind fun v15 => ((cond (v12 && (v13 == v14)) (ref03_Entries p1 p5) (some default))).bind fun v16 => ((cond (v12 && (v13 == v14)) (kit_SameInts v15 v16) (some default))).bind fun v17 => ((cond ((v12 && (v13 == v14)) && v17) (law03_awake) (some default))).bind fun v18 => some (((v12 && (v13 == v14)) && v17) && v18)))

theorem law03_RoadsLanes_ok (p1 : Map) (p2 : Int) (p3 : Int) (p4 : Int) (p5 : Int) (r : Bool) (h : law03_RoadsLanes p1 p2 p3 p4 p5 = some r) : PCall Try.prog 6 [(.agg (eMap p1)), (i64 p2), (i64 p3), (i64 p4), (i64 p5)] (bo r) := by
 refine l_call (fk Try.func6 Try.ntmps6 m0 (by with_unfolding_all rfl)) (nl rfl) ?_
 unfold law03_RoadsLanes at h
 refine l_sub (s0 := ⟨T [(0, (.d _)), (1, (.d _)), (2, (.d _)), (3, (.d _)), (4, (.d _))], G []⟩) (sbr rfl rfl) ?_
 refine lr (fun u1 hu1 => sn rfl rfl (sv rfl (s_nil (l_seq (lr (fun u2 hu2 => sd rfl (v_loadG rfl G_hit rfl rfl) (bs h fun v1 hv1 h => s_call rfl rfl all2_refl (kit_Small_ok _  _ hv1) (.inl rfl) (s_val (.d (bo (!v1))) rfl rfl (s_nil (cc rfl h (fun c1 h => ?_) (fun c1 h => ?_)))))))))))
 refine lr (fun u3 hu3 => bs h fun v2 hv2 h => s_call rfl rfl all2_refl (law03_awake_ok  _ hv2) (.inl rfl) (sv rfl (s_nil (l_ret ?_))))
 cases h
 exact fin_ok (.inr rfl) (resD1 (res_t rfl) rf_d) (.refl _)
 refine l_skip (lr (fun u4 hu4 => sv rfl (bs h fun v3 hv3 h => s_call rfl rfl all2_refl (roads_Bounds_ok _  _ hv3) (.inl rfl) (sv rfl (sv rfl (sv rfl (sv rfl (sv rfl (sv rfl (sv rfl (s_nil (lr (fun u5 hu5 => sv rfl (bs h fun v4 hv4 h => s_call rfl rfl all2_refl (ref03_Bounds_ok _  _ hv4) (.inl rfl) (sv rfl (sv rfl (sv rfl (sv rfl (sv rfl (sv rfl (sv rfl (s_nil (l_seq (l_seq (l_sub (s0 := ⟨T [(2, (.d _)), (3, (.d _)), (4, (.d _)), (5, (.ptr _ _)), (11, (.d _)), (12, (.d _)), (13, (.d _)), (14, (.d _)), (15, (.d _)), (16, (.d _))], G [((5, u1), some (.box 28 _))]⟩) (sbr rfl rfl) ?_)))))))))))))))))))))))))
 refine l_draw rfl fun u6 hu6 => sv rfl (sv rfl (sv rfl (sv rfl (gf rfl (fun _ => rfl) (gf rfl (fun _ => rfl) (gf rfl (fun w3 => (v_bin (gd_pos w3) (gd_pos w3) rfl)) (sd rfl (v_or rfl rfl (fun hc => gd_pos (not_t hc))) (sv rfl (gf rfl (fun _ => rfl) (gf rfl (fun _ => rfl) (gf rfl (fun w6 => (v_bin (gd_pos w6) (gd_pos w6) rfl)) (sd rfl (v_or rfl rfl (fun hc => gd_pos (not_t hc))) (sv rfl (gf rfl (fun w7 => (v_loadG rfl G_hit rfl rfl)) (gf rfl (fun _ => rfl) (bs h fun v5 hv5 h => ?_))))))))))))))))
 refine g_call _ (i64 v5) (gw_f rfl) (fun w9 => ⟨_, [(.d (.agg (eMap p1))), (di p3)], _, _, (by simp only [gd_pos w9]; rfl), rfl, all2_refl, roads_Length_ok _ _  _ (cond_t w9 hv5), (.inl rfl)⟩) ?_
 refine gf rfl (fun w10 => (v_loadG rfl G_hit rfl rfl)) (gf rfl (fun _ => rfl) (bs h fun v6 hv6 h => ?_))
 refine g_call _ (i64 v6) (gw_f rfl) (fun w12 => ⟨_, [(.d (.agg (eMap p1))), (di p3)], _, _, (by simp only [gd_pos w12]; rfl), rfl, all2_refl, ref03_Length_ok _ _  _ (cond_t w12 hv6), (.inl rfl)⟩) ?_
 refine gf rfl (fun w13 => (v_bin (gd_pos w13) (gd_pos w13) rfl)) (sd rfl (v_or rfl rfl (fun hc => gd_pos (not_t hc))) (sv rfl (gf rfl (fun w14 => (v_loadG rfl G_hit rfl rfl)) (gf rfl (fun _ => rfl) (bs h fun v7 hv7 h => ?_)))))
 refine g_call _ (.list (List.map eInt_i64 v7)) (gw_f rfl) (fun w16 => ⟨_, [(.d (.agg (eMap p1))), (di p3)], _, _, (by simp only [gd_pos w16]; rfl), rfl, all2_refl, roads_Before_ok _ _  _ (cond_t w16 hv7), (.inl rfl)⟩) ?_
 refine gf rfl (fun w17 => (v_loadG rfl G_hit rfl rfl)) (gf rfl (fun _ => rfl) (bs h fun v8 hv8 h => ?_))
 refine g_call _ (.list (List.map eInt_i64 v8)) (gw_f rfl) (fun w19 => ⟨_, [(.d (.agg (eMap p1))), (di p3)], _, _, (by simp only [gd_pos w19]; rfl), rfl, all2_refl, ref03_Before_ok _ _  _ (cond_t w19 hv8), (.inl rfl)⟩) ?_
 refine bs h fun v9 hv9 h => ?_
 refine g_call _ (bo v9) (gw_f rfl) (fun w20 => ⟨_, [(dl eInt_i64 v7), (dl eInt_i64 v8)], _, _, (by simp only [gd_pos w20]; rfl), rfl, all2_refl, kit_SameInts_ok _ _  _ (cond_t w20 hv9), (.inl rfl)⟩) ?_
 refine g_val _ (.d (bo (!v9))) rfl (gw_f rfl) (fun w21 => (by simp only [gd_pos w21]; rfl)) ?_
 refine sd rfl (v_or rfl rfl (fun hc => gd_pos (not_t hc))) (s_nil (cc rfl h (fun c2 h => ?_) (fun c2 h => ?_)))
 refine l_seq (l_sub (s0 := ⟨T [], G []⟩) (sbr rfl rfl) ?_)
 refine l_reg fun u7 hu7 => sv rfl (s_nil (l_ret ?_))
 cases h
 exact fin_ok (.inr rfl) (resD1 (res_t rfl) rf_d) (.refl _)
 refine l_skip (l_seq (l_sub (s0 := ⟨T [(2, (.d _)), (3, (.d _)), (4, (.d _)), (5, (.ptr _ _))], G [((5, u1), some (.box 28 _))]⟩) (sbr rfl rfl) ?_))
 refine l_draw rfl fun u8 hu8 => sd rfl (v_loadG rfl G_hit rfl rfl) (bs h fun v10 hv10 h => s_call rfl rfl all2_refl (roads_Sources_ok _  _ hv10) (.inl rfl) (sd rfl (v_loadG rfl G_hit rfl rfl) (bs h fun v11 hv11 h => s_call rfl rfl all2_refl (ref03_Sources_ok _  _ hv11) (.inl rfl) (bs h fun v12 hv12 h => s_call rfl rfl all2_refl (kit_SameInts_ok _ _  _ hv12) (.inl rfl) (sv rfl (gt rfl (fun w22 => (v_loadG rfl G_hit rfl rfl)) (gt rfl (fun _ => rfl) (gt rfl (fun _ => rfl) (bs h fun v13 hv13 h => ?_)))))))))
 refine g_call v12 (bo v13) (gw_t rfl) (fun w25 => ⟨_, [(.d (.agg (eMap p1))), (di p3), (di p4)], _, _, (by simp only [gd_pos w25]; rfl), rfl, all2_refl, roads_Leads_ok _ _ _  _ (cond_t w25 hv13), (.inl rfl)⟩) ?_
 refine gt rfl (fun w26 => (v_loadG rfl G_hit rfl rfl)) (gt rfl (fun _ => rfl) (gt rfl (fun _ => rfl) (bs h fun v14 hv14 h => ?_)))
 refine g_call v12 (bo v14) (gw_t rfl) (fun w29 => ⟨_, [(.d (.agg (eMap p1))), (di p3), (di p4)], _, _, (by simp only [gd_pos w29]; rfl), rfl, all2_refl, ref03_Leads_ok _ _ _  _ (cond_t w29 hv14), (.inl rfl)⟩) ?_
 refine g_val _ (.d (bo (v13 == v14))) rfl (gw_t rfl) (fun w30 => (by simp only [gd_pos w30]; rfl)) ?_
 refine sa rfl rfl rfl (sv rfl (gt rfl (fun w31 => (v_loadG rfl G_hit rfl rfl)) (gt rfl (fun _ => rfl) (bs h fun v15 hv15 h => ?_))))
 refine g_call _ (.list (List.map eInt_i64 v15)) (gw_t rfl) (fun w33 => ⟨_, [(.d (.agg (eMap p1))), (di p5)], _, _, (by simp only [gd_pos w33]; rfl), rfl, all2_refl, roads_Entries_ok _ _  _ (cond_t w33 hv15), (.inl rfl)⟩) ?_
 refine gt rfl (fun w34 => (v_loadG rfl G_hit rfl rfl)) (gt rfl (fun _ => rfl) (bs h fun v16 hv16 h => ?_))
 refine g_call _ (.list (List.map eInt_i64 v16)) (gw_t rfl) (fun w36 => ⟨_, [(.d (.agg (eMap p1))), (di p5)], _, _, (by simp only [gd_pos w36]; rfl), rfl, all2_refl, ref03_Entries_ok _ _  _ (cond_t w36 hv16), (.inl rfl)⟩) ?_
 refine bs h fun v17 hv17 h => ?_
 refine g_call _ (bo v17) (gw_t rfl) (fun w37 => ⟨_, [(dl eInt_i64 v15), (dl eInt_i64 v16)], _, _, (by simp only [gd_pos w37]; rfl), rfl, all2_refl, kit_SameInts_ok _ _  _ (cond_t w37 hv17), (.inl rfl)⟩) ?_
 refine sa rfl rfl rfl (sv rfl (bs h fun v18 hv18 h => g_call _ (bo v18) (gw_t rfl) (fun w38 => ⟨_, _, _, _, rfl, rfl, all2_refl, law03_awake_ok  _ (cond_t w38 hv18), (.inl rfl)⟩) (sa rfl rfl rfl (sv rfl (s_nil (l_ret ?_))))))
 cases h
 exact fin_ok (.inr rfl) (resD1 (res_t rfl) rf_d) (.refl _)
end Go.Abs.Roads
