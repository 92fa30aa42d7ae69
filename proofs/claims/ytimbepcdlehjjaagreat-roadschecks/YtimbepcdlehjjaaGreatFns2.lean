/-
  The functions, part 2.
-/
import Derived.Test.YtimbepcdlehjjaaGreatFns1
set_option maxRecDepth 20000
set_option maxHeartbeats 4000000
set_option linter.unusedVariables false
namespace Go.Abs.Roadsz
open Go Go.Abs Go.Proofs
attribute [local irreducible] regW regT AWL

noncomputable def slices_IndexFunc_int_int_roads_merges_1_1bb_l1 (p1 : (List Int)) (p2 : Map) (p3 : Zone) (x1 : Int) : Option (Stp Int (Sum Unit Int)) :=
  cond (decide (x1 < (p1.length : Int))) ((geti p1 x1).bind fun v1 => (roads_merges_1_1_b_b v1 p2 p3).bind fun v2 => cond v2 (some (.out (.inr x1))) (some (.go (w64 (x1 + 1))))) (some (.out (.inl ())))
noncomputable def slices_IndexFunc_int_int_roads_merges_1_1bb (p1 : (List Int)) (p2 : Map) (p3 : Zone) : Option Int :=
  thenS (loop (slices_IndexFunc_int_int_roads_merges_1_1bb_l1 p1 p2 p3) 0) (fun _ => some (-1)) (fun r => some r)

theorem slices_IndexFunc_int_int_roads_merges_1_1bb_ok (p1 : (List Int)) (p2 : Map) (p3 : Zone) (r : Int) (h : slices_IndexFunc_int_int_roads_merges_1_1bb p1 p2 p3 = some r) : PCall Tryz.prog 145 [(.list (List.map eInt_i64 p1)), (.fn (.func 183) [] [(.bp (eMap p2) 0), (.bp [(.list (List.map ePart p3.Parts)), (i64 p3.Signal_)] 0)])] (i64 r) := by
 refine l_call (fk Tryz.func145 Tryz.ntmps145 m0 (by with_unfolding_all rfl)) (nl rfl) ?_
 unfold slices_IndexFunc_int_int_roads_merges_1_1bb at h
 refine l_sub (s0 := ⟨T [(0, (.d _)), (1, (.d _))], G []⟩) (sbr rfl rfl) ?_
 refine lr (fun u1 hu1 => sv rfl (s_nil (l_seq (lr (fun u2 hu2 => sv rfl (sd rfl (v_len rfl) (sv rfl (s_nil (js h fun z1 hz1 h => l_join (fun s => ∃ (y1 : Unit) (g1 : Unit), z1 = .inl y1 ∧ Sb ⟨T [], G []⟩ s) ?_ ?_)))))))))
 refine l_block (l_loop (slices_IndexFunc_int_int_roads_merges_1_1bb_l1 p1 p2 p3) (fun (x1 : Int) (g2 : Unit) => ⟨T [(0, (dl eInt_i64 p1)), (1, (.d (.fn (.func 183) [] [(.bp (eMap p2) 0), (.bp [(.list (List.map ePart p3.Parts)), (i64 p3.Signal_)] 0)]))), (7, (di (p1.length : Int))), (8, (di x1))], G []⟩) 0 () _ hz1 (sbr rfl rfl) ?_)
 intro x1 g2 z2 hz2 ez2
 unfold slices_IndexFunc_int_int_roads_merges_1_1bb_l1 at hz2
 refine lr (fun u3 hu3 => sv rfl (s_nil (l_seq (cc rfl hz2 (fun c1 hz2 => ?_) (fun c1 hz2 => ?_)))))
 refine l_skip (l_seq (l_block (lr (fun u4 hu4 => sv rfl (sv rfl (s_nil (lr (fun u5 hu5 => sv rfl (sv rfl (sv rfl (bs hz2 fun v1 hv1 hz2 => sd rfl (v_idx rfl rfl hv1 rfl) (sd rfl (v_loadL rfl hv1 rfl) (bs hz2 fun v2 hv2 hz2 => s_call rfl rfl all2_refl (roads_merges_1_1_b_b_ok _ _ _  _ hv2) (.inl rfl) (s_nil (cc rfl hz2 (fun c2 hz2 => ?_) (fun c2 hz2 => ?_))))))))))))))))
 refine lr (fun u6 hu6 => sv rfl (sv rfl (s_nil (l_ret ?_))))
 cases hz2
 obtain rfl := ez2 _ rfl
 refine ⟨nofun, awl_ret ?_⟩
 rw [Sum.elim_inr] at h
 cases h
 exact fin_ok (.inr rfl) (resD1 (res_t rfl) rf_d) (.refl _)
 refine l_skip (l_end (l_reg fun u7 hu7 => sv rfl (sv rfl (s_nil (l_nil ?_)))))
 cases hz2
 exact ⟨rfl, (), (sbr rfl rfl)⟩
 refine l_exitN rfl ?_
 cases hz2
 obtain rfl := ez2 _ rfl
 refine ⟨nofun, awl_pop rfl (l_j ?_)⟩
 exact ⟨_, (), rfl, (sbr rfl rfl)⟩
 rintro _ ⟨y1, g1, rfl, q1⟩
 rw [Sum.elim_inl] at h
 refine l_sub q1 (lr (fun u8 hu8 => sv rfl (s_nil (l_ret ?_))))
 cases h
 exact fin_ok (.inr rfl) (resD1 (res_t rfl) rf_d) (.refl _)

noncomputable def slices_ContainsFunc_int_int_roads_merges_1_1bb (p1 : (List Int)) (p2 : Map) (p3 : Zone) : Option Bool :=
  (slices_IndexFunc_int_int_roads_merges_1_1bb p1 p2 p3).bind fun v1 => some (decide (v1 ≥ 0))

theorem slices_ContainsFunc_int_int_roads_merges_1_1bb_ok (p1 : (List Int)) (p2 : Map) (p3 : Zone) (r : Bool) (h : slices_ContainsFunc_int_int_roads_merges_1_1bb p1 p2 p3 = some r) : PCall Tryz.prog 182 [(.list (List.map eInt_i64 p1)), (.fn (.func 183) [] [(.bp (eMap p2) 0), (.bp [(.list (List.map ePart p3.Parts)), (i64 p3.Signal_)] 0)])] (bo r) := by
 refine l_call (fk Tryz.func182 Tryz.ntmps182 m0 (by with_unfolding_all rfl)) (nl rfl) ?_
 unfold slices_ContainsFunc_int_int_roads_merges_1_1bb at h
 refine l_sub (s0 := ⟨T [(0, (.d _)), (1, (.d _))], G []⟩) (sbr rfl rfl) ?_
 refine lr (fun u1 hu1 => sv rfl (s_nil (lr (fun u2 hu2 => sv rfl (sv rfl (bs h fun v1 hv1 h => s_call rfl rfl all2_refl (slices_IndexFunc_int_int_roads_merges_1_1bb_ok _ _ _  _ hv1) (.inl rfl) (sv rfl (sv rfl (s_nil (l_ret ?_))))))))))
 cases h
 exact fin_ok (.inr rfl) (resD1 (res_t rfl) rf_d) (.refl _)

noncomputable def roads_merges_1_b_b_b (p1 : Zone) (p2 : Map) (p3 : Int) (p4 : (List Int)) : Option Bool :=
  (roads_closed p2 p1 p3).bind fun v1 => ((cond v1 (slices_ContainsFunc_int_int_roads_merges_1_1bb p4 p2 p1) (some default))).bind fun v2 => some (v1 && (!v2))

theorem roads_merges_1_b_b_b_ok (p1 : Zone) (p2 : Map) (p3 : Int) (p4 : (List Int)) (r : Bool) (h : roads_merges_1_b_b_b p1 p2 p3 p4 = some r) : PCall Tryz.prog 180 [(.agg [(.list (List.map ePart p1.Parts)), (i64 p1.Signal_)]), (.bp (eMap p2) 0), (.bp [(i64 p3)] 0), (.bp [(.list (List.map eInt_i64 p4))] 0)] (bo r) := by
 refine l_call (fk Tryz.func180 Tryz.ntmps180 m0 (by with_unfolding_all rfl)) (nl rfl) ?_
 unfold roads_merges_1_b_b_b at h
 refine l_sub (s0 := ⟨T [(0, (.d _)), (1, (.d _)), (2, (.d _)), (3, (.d _))], G []⟩) (sbr rfl rfl) ?_
 refine lr (fun u1 hu1 => sn rfl rfl (sv rfl (s_nil (lr (fun u2 hu2 => sv rfl (sd rfl (v_loadG rfl G_hit rfl rfl) (sv rfl (bs h fun v1 hv1 h => s_call rfl rfl all2_refl (roads_closed_ok _ _ _  _ hv1) (.inl rfl) (sv rfl (gt rfl (fun _ => rfl) (g_val _ (.fn _ _ _) rfl (gw_t rfl) (fun _ => rfl) (bs h fun v2 hv2 h => ?_))))))))))))
 refine g_call v1 (bo v2) (gw_t rfl) (fun w3 => ⟨_, [(dl eInt_i64 p4), (.fn (.func 183) [] [(.d (.bp (eMap p2) 0)), (.ptr (4, u1) 0)])], _, _, (by simp only [gd_pos w3]; rfl), (rD (rfL_cons (rf_fn rfL_nil (rD (rfL_cons (rf_ptr G_hit (rD (rD rfL_nil))) rfL_nil))) rfL_nil)), all2_refl, slices_ContainsFunc_int_int_roads_merges_1_1bb_ok _ _ _  _ (cond_t w3 hv2), (.inr rfl)⟩) ?_
 refine g_val _ (.d (bo (!v2))) rfl (gw_t rfl) (fun w4 => (by simp only [gd_pos w4]; rfl)) ?_
 refine sa rfl rfl rfl (sv rfl (s_nil (l_ret ?_)))
 cases h
 exact fin_ok (.inr rfl) (resD1 (res_t rfl) rf_d) (.refl _)

noncomputable def slices_IndexFunc_Zone_Zone_roads_merges_1bbb_l1 (p1 : (List Zone)) (p2 : Map) (p3 : Int) (p4 : (List Int)) (x1 : Int) : Option (Stp Int (Sum Unit Int)) :=
  cond (decide (x1 < (p1.length : Int))) ((geti p1 x1).bind fun v1 => (roads_merges_1_b_b_b v1 p2 p3 p4).bind fun v2 => cond v2 (some (.out (.inr x1))) (some (.go (w64 (x1 + 1))))) (some (.out (.inl ())))
noncomputable def slices_IndexFunc_Zone_Zone_roads_merges_1bbb (p1 : (List Zone)) (p2 : Map) (p3 : Int) (p4 : (List Int)) : Option Int :=
  thenS (loop (slices_IndexFunc_Zone_Zone_roads_merges_1bbb_l1 p1 p2 p3 p4) 0) (fun _ => some (-1)) (fun r => some r)

theorem slices_IndexFunc_Zone_Zone_roads_merges_1bbb_ok (p1 : (List Zone)) (p2 : Map) (p3 : Int) (p4 : (List Int)) (r : Int) (h : slices_IndexFunc_Zone_Zone_roads_merges_1bbb p1 p2 p3 p4 = some r) : PCall Tryz.prog 243 [(.list (List.map eZone p1)), (.fn (.func 180) [] [(.bp (eMap p2) 0), (.bp [(i64 p3)] 0), (.bp [(.list (List.map eInt_i64 p4))] 0)])] (i64 r) := by
 refine l_call (fk Tryz.func243 Tryz.ntmps243 m0 (by with_unfolding_all rfl)) (nl rfl) ?_
 unfold slices_IndexFunc_Zone_Zone_roads_merges_1bbb at h
 refine l_sub (s0 := ⟨T [(0, (.d _)), (1, (.d _))], G []⟩) (sbr rfl rfl) ?_
 refine lr (fun u1 hu1 => sv rfl (s_nil (l_seq (lr (fun u2 hu2 => sv rfl (sd rfl (v_len rfl) (sv rfl (s_nil (js h fun z1 hz1 h => l_join (fun s => ∃ (y1 : Unit) (g1 : Unit), z1 = .inl y1 ∧ Sb ⟨T [], G []⟩ s) ?_ ?_)))))))))
 refine l_block (l_loop (slices_IndexFunc_Zone_Zone_roads_merges_1bbb_l1 p1 p2 p3 p4) (fun (x1 : Int) (g2 : Unit) => ⟨T [(0, (dl eZone p1)), (1, (.d (.fn (.func 180) [] [(.bp (eMap p2) 0), (.bp [(i64 p3)] 0), (.bp [(.list (List.map eInt_i64 p4))] 0)]))), (7, (di (p1.length : Int))), (8, (di x1))], G []⟩) 0 () _ hz1 (sbr rfl rfl) ?_)
 intro x1 g2 z2 hz2 ez2
 unfold slices_IndexFunc_Zone_Zone_roads_merges_1bbb_l1 at hz2
 refine lr (fun u3 hu3 => sv rfl (s_nil (l_seq (cc rfl hz2 (fun c1 hz2 => ?_) (fun c1 hz2 => ?_)))))
 refine l_skip (l_seq (l_block (lr (fun u4 hu4 => sv rfl (sv rfl (s_nil (lr (fun u5 hu5 => sv rfl (sv rfl (sv rfl (bs hz2 fun v1 hv1 hz2 => sd rfl (v_idx rfl rfl hv1 rfl) (sd rfl (v_loadLG rfl hv1 rfl rfl) (bs hz2 fun v2 hv2 hz2 => s_call rfl rfl all2_refl (roads_merges_1_b_b_b_ok _ _ _ _  _ hv2) (.inl rfl) (s_nil (cc rfl hz2 (fun c2 hz2 => ?_) (fun c2 hz2 => ?_))))))))))))))))
 refine lr (fun u6 hu6 => sv rfl (sv rfl (s_nil (l_ret ?_))))
 cases hz2
 obtain rfl := ez2 _ rfl
 refine ⟨nofun, awl_ret ?_⟩
 rw [Sum.elim_inr] at h
 cases h
 exact fin_ok (.inr rfl) (resD1 (res_t rfl) rf_d) (.refl _)
 refine l_skip (l_end (l_reg fun u7 hu7 => sv rfl (sv rfl (s_nil (l_nil ?_)))))
 cases hz2
 exact ⟨rfl, (), (sbr rfl rfl)⟩
 refine l_exitN rfl ?_
 cases hz2
 obtain rfl := ez2 _ rfl
 refine ⟨nofun, awl_pop rfl (l_j ?_)⟩
 exact ⟨_, (), rfl, (sbr rfl rfl)⟩
 rintro _ ⟨y1, g1, rfl, q1⟩
 rw [Sum.elim_inl] at h
 refine l_sub q1 (lr (fun u8 hu8 => sv rfl (s_nil (l_ret ?_))))
 cases h
 exact fin_ok (.inr rfl) (resD1 (res_t rfl) rf_d) (.refl _)

noncomputable def slices_ContainsFunc_Zone_Zone_roads_merges_1bbb (p1 : (List Zone)) (p2 : Map) (p3 : Int) (p4 : (List Int)) : Option Bool :=
  (slices_IndexFunc_Zone_Zone_roads_merges_1bbb p1 p2 p3 p4).bind fun v1 => some (decide (v1 ≥ 0))

theorem slices_ContainsFunc_Zone_Zone_roads_merges_1bbb_ok (p1 : (List Zone)) (p2 : Map) (p3 : Int) (p4 : (List Int)) (r : Bool) (h : slices_ContainsFunc_Zone_Zone_roads_merges_1bbb p1 p2 p3 p4 = some r) : PCall Tryz.prog 179 [(.list (List.map eZone p1)), (.fn (.func 180) [] [(.bp (eMap p2) 0), (.bp [(i64 p3)] 0), (.bp [(.list (List.map eInt_i64 p4))] 0)])] (bo r) := by
 refine l_call (fk Tryz.func179 Tryz.ntmps179 m0 (by with_unfolding_all rfl)) (nl rfl) ?_
 unfold slices_ContainsFunc_Zone_Zone_roads_merges_1bbb at h
 refine l_sub (s0 := ⟨T [(0, (.d _)), (1, (.d _))], G []⟩) (sbr rfl rfl) ?_
 refine lr (fun u1 hu1 => sv rfl (s_nil (lr (fun u2 hu2 => sv rfl (sv rfl (bs h fun v1 hv1 h => s_call rfl rfl all2_refl (slices_IndexFunc_Zone_Zone_roads_merges_1bbb_ok _ _ _ _  _ hv1) (.inl rfl) (sv rfl (sv rfl (s_nil (l_ret ?_))))))))))
 cases h
 exact fin_ok (.inr rfl) (resD1 (res_t rfl) rf_d) (.refl _)

noncomputable def roads_merges_l1 (p1 : Map) (x1 : ((List Clash) × Int)) : Option (Stp ((List Clash) × Int) (List Clash)) :=
  cond (decide (x1.2 < (p1.Lanes.length : Int))) ((roads_before p1 x1.2).bind fun v1 => (slices_ContainsFunc_Zone_Zone_roads_merges_1bbb p1.Zones p1 x1.2 v1).bind fun v2 => cond ((decide ((v1.length : Int) > 1)) && (!v2)) ((appc x1.1 [(Clash.mk 1 (-1) x1.2 (-1))]).bind fun v3 => some (.go (v3, (w64 (x1.2 + 1))))) (some (.go (x1.1, (w64 (x1.2 + 1)))))) (some (.out x1.1))
noncomputable def roads_merges (p1 : Map) : Option (List Clash) :=
  (loop (roads_merges_l1 p1) ([], 0)).bind fun y1 => some y1

theorem roads_merges_ok (p1 : Map) (r : (List Clash)) (h : roads_merges p1 = some r) : PCall Tryz.prog 77 [(.agg (eMap p1))] (.list (List.map eClash r)) := by
 refine l_call (fk Tryz.func77 Tryz.ntmps77 (fun r => if r == 7 then [1003] else []) (by with_unfolding_all rfl)) (nl rfl) ?_
 unfold roads_merges at h
 refine l_sub (s0 := ⟨T [(0, (.d _))], G []⟩) (sbr rfl rfl) ?_
 refine lr (fun u1 hu1 => sn rfl rfl (sv rfl (s_nil (l_seq (lr (fun u2 hu2 => sp rfl rfl (sl rfl G_hit rfl (sd rfl (v_len rfl) (sv rfl (s_nil (bs h fun y1 hy1 h => l_join (fun s => ∃ g1 : Nat, Sb ⟨T [(2, (oS y1 (30, g1)))], G [((30, g1), oB 93 4 eClash y1)]⟩ s) ?_ ?_)))))))))))
 refine l_block (l_loop (roads_merges_l1 p1) (fun (x1 : ((List Clash) × Int)) (g2 : Nat) => ⟨T [(1, (.ptr (1, u1) 0)), (2, (oS x1.1 (30, g2))), (8, (di (p1.Lanes.length : Int))), (9, (di x1.2))], G [((1, u1), some (.box 27 (dMap p1))), ((30, g2), oB 93 4 eClash x1.1)]⟩) ([], 0) 0 _ hy1 (sb_of ⟨.of rfl, .of rfl, .of rfl, .of rfl, trivial⟩ (sbG_some G_hit (.of rfl) (sbG_nil trivial))) ?_)
 intro x1 g2 z1 hz1 ez1
 unfold roads_merges_l1 at hz1
 refine lr (fun u3 hu3 => sv rfl (s_nil (l_seq (cc rfl hz1 (fun c1 hz1 => ?_) (fun c1 hz1 => ?_)))))
 refine l_skip (l_seq (l_block (lr (fun u4 hu4 => sv rfl (sn rfl rfl (sst rfl G_hit [(di x1.2)] rfl (s_nil (lr (fun u5 hu5 => sd rfl (v_loadG rfl (gq rfl) rfl rfl) (sl rfl G_hit rfl (bs hz1 fun v1 hv1 hz1 => s_call rfl rfl all2_refl (roads_before_ok _ _  _ hv1) (.inl rfl) (sn rfl rfl (sst rfl G_hit [(dl eInt_i64 v1)] rfl (s_nil (lr (fun u6 hu6 => sp rfl rfl (sl rfl (gq rfl) rfl (s_val (.fn _ _ _) rfl rfl (bs hz1 fun v2 hv2 hz1 => s_call rfl (rD (rfL_cons (rf_fn rfL_nil (rfL_cons (rf_ptr (gq rfl) (rD (rD (rD (rD (rD rfL_nil)))))) (rfL_cons (rf_ptr (gq rfl) (rD rfL_nil)) (rfL_cons (rf_ptr G_hit (rD rfL_nil)) rfL_nil)))) rfL_nil)) all2_refl (slices_ContainsFunc_Zone_Zone_roads_merges_1bbb_ok _ _ _ _  _ hv2) (.inr rfl) (sv rfl (s_nil (lr (fun u7 hu7 => sl rfl G_hit rfl (sd rfl (v_len rfl) (sv rfl (sv rfl (gt rfl (fun _ => rfl) ?_)))))))))))))))))))))))))))
 refine g_val _ (.d (bo (!v2))) rfl (gw_t rfl) (fun w2 => (by simp only [gd_pos w2]; rfl)) ?_
 refine sa rfl rfl rfl (s_nil (cc rfl hz1 (fun c2 hz1 => ?_) (fun c2 hz1 => ?_)))
 refine l_sub (s0 := ⟨T [(1, (.ptr (1, u1) 0)), (2, (oS x1.1 (30, g2))), (3, (.ptr (3, u4) 0)), (8, (di (p1.Lanes.length : Int))), (9, (di x1.2))], G [((1, u1), some (.box 27 (dMap p1))), ((30, g2), oB 93 4 eClash x1.1), ((3, u4), some (.box 3 [(di x1.2)]))]⟩) (sb_of ⟨.of rfl, .of rfl, .of rfl, .of rfl, .of rfl, trivial⟩ (sg rfl (sbG_oB (gq rfl) (sg rfl trivial)))) ?_
 refine l_reg fun u8 hu8 => s_val (oS x1.1 (30, g2)) rfl rfl (sl rfl (gq rfl) rfl (sv rfl (s_val (dl eClash [(Clash.mk 1 (-1) x1.2 (-1))]) rfl rfl (bs hz1 fun v3 hv3 hz1 => s_appendO eClash (30, g2) x1.1 (Clash.mk 1 (-1) x1.2 (-1)) [] _ (elems_list (fun _ => rfl)) rfl (gq rfl) hv3 (ss rfl (s_nil (l_end (l_reg fun u9 hu9 => sv rfl (sv rfl (s_nil (l_nil ?_)))))))))))
 cases hz1
 exact ⟨rfl, u8, (sb_of ⟨.of rfl, (.of (oS_ne (appc_ne hv3)).symm), .of rfl, .of rfl, trivial⟩ (sg rfl (sbG_own G_hit trivial)))⟩
 refine l_skip (l_end (l_sub (s0 := ⟨T [(1, (.ptr (1, u1) 0)), (2, (oS x1.1 (30, g2))), (8, (di (p1.Lanes.length : Int))), (9, (di x1.2))], G [((1, u1), some (.box 27 (dMap p1))), ((30, g2), oB 93 4 eClash x1.1)]⟩) (sb_of ⟨.of rfl, .of rfl, .of rfl, .of rfl, trivial⟩ (sg rfl (sbG_oB (gq rfl) trivial))) ?_))
 refine l_reg fun u10 hu10 => sv rfl (sv rfl (s_nil (l_nil ?_)))
 cases hz1
 exact ⟨rfl, g2, (sb_of ⟨.of rfl, .of rfl, .of rfl, .of rfl, trivial⟩ (sbG_some G_hit (.of rfl) (sbG_oB (gq rfl) trivial)))⟩
 refine l_exitN rfl ?_
 cases hz1
 obtain rfl := ez1 _ rfl
 refine ⟨nofun, awl_pop rfl (l_j ?_)⟩
 exact ⟨g2, (sb_of ⟨.of rfl, trivial⟩ (sbG_oB (gq rfl) trivial))⟩
 rintro _ ⟨g1, q1⟩
 refine l_sub q1 (lr (fun u11 hu11 => s_val (oS y1 (30, g1)) rfl rfl (s_val (oS y1 (30, g1)) rfl rfl (s_nil (l_ret ?_)))))
 cases h
 exact fin_ok (.inr rfl) (resD1 (res_t rfl) (rf_oS G_hit)) oD_le

noncomputable def roads_chains_l2 (p1 : Map) (x1 : ((List Clash) × Int)) (v1 : Zone) (x2 : ((List Clash) × Int)) : Option (Stp ((List Clash) × Int) (List Clash)) :=
  cond (decide (x2.2 < (v1.Parts.length : Int))) ((geti v1.Parts x2.2).bind fun v2 => (roads_entry p1 v1 v2.Lane_).bind fun v3 => ((cond (!v3) (roads_closed p1 v1 v2.Lane_) (some default))).bind fun v4 => cond ((!v3) && (!v4)) ((appc x2.1 [(Clash.mk 2 x1.2 v2.Lane_ (-1))]).bind fun v5 => some (.go (v5, (w64 (x2.2 + 1))))) (some (.go (x2.1, (w64 (x2.2 + 1)))))) (some (.out x2.1))
noncomputable def roads_chains_l1 (p1 : Map) (x1 : ((List Clash) × Int)) : Option (Stp ((List Clash) × Int) (List Clash)) :=
  cond (decide (x1.2 < (p1.Zones.length : Int))) ((geti p1.Zones x1.2).bind fun v1 => (loop (roads_chains_l2 p1 x1 v1) (x1.1, 0)).bind fun y2 => some (.go (y2, (w64 (x1.2 + 1))))) (some (.out x1.1))
noncomputable def roads_chains (p1 : Map) : Option (List Clash) :=
  (loop (roads_chains_l1 p1) ([], 0)).bind fun y1 => some y1

theorem roads_chains_ok (p1 : Map) (r : (List Clash)) (h : roads_chains p1 = some r) : PCall Tryz.prog 78 [(.agg (eMap p1))] (.list (List.map eClash r)) := by
 refine l_call (fk Tryz.func78 Tryz.ntmps78 (fun r => if r == 8 then [1005] else []) (by with_unfolding_all rfl)) (nl rfl) ?_
 unfold roads_chains at h
 refine l_sub (s0 := ⟨T [(0, (.d _))], G []⟩) (sbr rfl rfl) ?_
 refine lr (fun u1 hu1 => sn rfl rfl (sv rfl (s_nil (l_seq (lr (fun u2 hu2 => sp rfl rfl (sl rfl G_hit rfl (sd rfl (v_len rfl) (sv rfl (s_nil (bs h fun y1 hy1 h => l_join (fun s => ∃ g1 : Nat, Sb ⟨T [(2, (oS y1 (42, g1)))], G [((42, g1), oB 93 4 eClash y1)]⟩ s) ?_ ?_)))))))))))
 refine l_block (l_loop (roads_chains_l1 p1) (fun (x1 : ((List Clash) × Int)) (g2 : Nat) => ⟨T [(1, (.ptr (1, u1) 0)), (2, (oS x1.1 (42, g2))), (8, (dl eZone p1.Zones)), (9, (di (p1.Zones.length : Int))), (10, (di x1.2))], G [((1, u1), some (.box 27 (dMap p1))), ((42, g2), oB 93 4 eClash x1.1)]⟩) ([], 0) 0 _ hy1 (sb_of ⟨.of rfl, .of rfl, .of rfl, .of rfl, .of rfl, trivial⟩ (sbG_some G_hit (.of rfl) (sbG_nil trivial))) ?_)
 intro x1 g2 z1 hz1 ez1
 unfold roads_chains_l1 at hz1
 refine lr (fun u3 hu3 => sv rfl (s_nil (l_seq (cc rfl hz1 (fun c1 hz1 => ?_) (fun c1 hz1 => ?_)))))
 refine l_skip (l_seq (l_block (lr (fun u4 hu4 => sv rfl (bs hz1 fun v1 hv1 hz1 => sd rfl (v_idx rfl rfl hv1 rfl) (sd rfl (v_loadLG rfl hv1 rfl rfl) (sn rfl rfl (sv rfl (sst rfl G_hit [(dl ePart v1.Parts), (di v1.Signal_)] rfl (s_nil (lr (fun u5 hu5 => sp rfl rfl (sl rfl G_hit rfl (sd rfl (v_len rfl) (sv rfl (s_nil (bs hz1 fun y2 hy2 hz1 => l_join (fun s => ∃ g3 : Nat, Sb ⟨T [(1, (.ptr (1, u1) 0)), (2, (oS y2 (42, g3))), (8, (dl eZone p1.Zones)), (9, (di (p1.Zones.length : Int))), (10, (di x1.2))], G [((1, u1), some (.box 27 (dMap p1))), ((42, g3), oB 93 4 eClash y2)]⟩ s) ?_ ?_)))))))))))))))))
 refine l_block (l_loop (roads_chains_l2 p1 x1 v1) (fun (x2 : ((List Clash) × Int)) (g4 : Nat) => ⟨T [(1, (.ptr (1, u1) 0)), (2, (oS x2.1 (42, g4))), (3, (di x1.2)), (4, (.ptr (4, u4) 0)), (8, (dl eZone p1.Zones)), (9, (di (p1.Zones.length : Int))), (10, (di x1.2)), (16, (dl ePart v1.Parts)), (17, (di (v1.Parts.length : Int))), (18, (di x2.2))], G [((1, u1), some (.box 27 (dMap p1))), ((4, u4), some (.box 45 [(dl ePart v1.Parts), (di v1.Signal_)])), ((42, g4), oB 93 4 eClash x2.1)]⟩) (x1.1, 0) g2 _ hy2 (sb_of ⟨.of rfl, .of rfl, .of rfl, .of rfl, .of rfl, .of rfl, .of rfl, .of rfl, .of rfl, .of rfl, trivial⟩ (sg rfl (sbG_some G_hit (.of rfl) (sbG_oB (gq rfl) trivial)))) ?_)
 intro x2 g4 z2 hz2 ez2
 unfold roads_chains_l2 at hz2
 refine lr (fun u6 hu6 => sv rfl (s_nil (l_seq (cc rfl hz2 (fun c2 hz2 => ?_) (fun c2 hz2 => ?_)))))
 refine l_skip (l_seq (l_block (lr (fun u7 hu7 => bs hz2 fun v2 hv2 hz2 => sd rfl (v_idx rfl rfl hv2 rfl) (sd rfl (v_loadLG rfl hv2 rfl rfl) (sn rfl rfl (sst rfl G_hit (dPart v2) rfl (s_nil (lr (fun u8 hu8 => sd rfl (v_loadG rfl (gq rfl) rfl rfl) (sd rfl (v_loadG rfl (gq rfl) rfl rfl) (sp rfl rfl (sl rfl G_hit rfl (bs hz2 fun v3 hv3 hz2 => s_call rfl rfl all2_refl (roads_entry_ok _ _ _  _ hv3) (.inl rfl) (s_val (.d (bo (!v3))) rfl rfl (sv rfl (gt rfl (fun w1 => (v_loadG rfl (gq rfl) rfl rfl)) (gt rfl (fun w2 => (v_loadG rfl (gq rfl) rfl rfl)) (gp rfl (gw_t rfl) (fun _ => rfl) (gt rfl (vl rfl G_hit rfl) (bs hz2 fun v4 hv4 hz2 => ?_)))))))))))))))))))))
 refine g_call _ (bo v4) (gw_t rfl) (fun w5 => ⟨_, [(.d (.agg (eMap p1))), (.d (.agg [(.list (List.map ePart v1.Parts)), (i64 v1.Signal_)])), (di v2.Lane_)], _, _, (by simp only [gd_pos w5]; rfl), rfl, all2_refl, roads_closed_ok _ _ _  _ (cond_t w5 hv4), (.inl rfl)⟩) ?_
 refine g_val _ (.d (bo (!v4))) rfl (gw_t rfl) (fun w6 => (by simp only [gd_pos w6]; rfl)) ?_
 refine sa rfl rfl rfl (s_nil (cc rfl hz2 (fun c3 hz2 => ?_) (fun c3 hz2 => ?_)))
 refine l_sub (s0 := ⟨T [(1, (.ptr (1, u1) 0)), (2, (oS x2.1 (42, g4))), (3, (di x1.2)), (4, (.ptr (4, u4) 0)), (6, (.ptr (6, u7) 0)), (8, (dl eZone p1.Zones)), (9, (di (p1.Zones.length : Int))), (10, (di x1.2)), (16, (dl ePart v1.Parts)), (17, (di (v1.Parts.length : Int))), (18, (di x2.2))], G [((1, u1), some (.box 27 (dMap p1))), ((42, g4), oB 93 4 eClash x2.1), ((4, u4), some (.box 45 [(dl ePart v1.Parts), (di v1.Signal_)])), ((6, u7), some (.box 91 (dPart v2)))]⟩) (sb_of ⟨.of rfl, .of rfl, .of rfl, .of rfl, .of rfl, .of rfl, .of rfl, .of rfl, .of rfl, .of rfl, .of rfl, trivial⟩ (sg rfl (sbG_oB (gq rfl) (sg rfl (sbG_some G_hit (.of rfl) trivial))))) ?_
 refine l_reg fun u9 hu9 => s_val (oS x2.1 (42, g4)) rfl rfl (sv rfl (sp rfl rfl (sl rfl (gq rfl) rfl (sv rfl (s_val (dl eClash [(Clash.mk 2 x1.2 v2.Lane_ (-1))]) rfl rfl (bs hz2 fun v5 hv5 hz2 => s_appendO eClash (42, g4) x2.1 (Clash.mk 2 x1.2 v2.Lane_ (-1)) [] _ (elems_list (fun _ => rfl)) rfl (gq rfl) hv5 (ss rfl (s_nil (l_end (l_sub (s0 := ⟨T [(1, (.ptr _ _)), (2, (.sl _)), (3, (.d _)), (4, (.ptr _ _)), (8, (.d _)), (9, (.d _)), (10, (.d _)), (16, (.d _)), (17, (.d _)), (18, (.d _))], G [((1, u1), some (.box 27 _)), ((42, u9), some _), ((4, u4), some (.box 45 _))]⟩) (sbr rfl rfl) ?_))))))))))
 refine l_reg fun u10 hu10 => sv rfl (sv rfl (s_nil (l_nil ?_)))
 cases hz2
 exact ⟨rfl, u9, (sb_of ⟨.of rfl, (.of (oS_ne (appc_ne hv5)).symm), .of rfl, .of rfl, .of rfl, .of rfl, .of rfl, .of rfl, .of rfl, .of rfl, trivial⟩ (sbG_some G_hit (.of rfl) (sg rfl (sbG_own (gq rfl) trivial))))⟩
 refine l_skip (l_end (l_sub (s0 := ⟨T [(1, (.ptr (1, u1) 0)), (2, (oS x2.1 (42, g4))), (3, (di x1.2)), (4, (.ptr (4, u4) 0)), (8, (dl eZone p1.Zones)), (9, (di (p1.Zones.length : Int))), (10, (di x1.2)), (16, (dl ePart v1.Parts)), (17, (di (v1.Parts.length : Int))), (18, (di x2.2))], G [((1, u1), some (.box 27 (dMap p1))), ((42, g4), oB 93 4 eClash x2.1), ((4, u4), some (.box 45 [(dl ePart v1.Parts), (di v1.Signal_)]))]⟩) (sb_of ⟨.of rfl, .of rfl, .of rfl, .of rfl, .of rfl, .of rfl, .of rfl, .of rfl, .of rfl, .of rfl, trivial⟩ (sg rfl (sbG_oB (gq rfl) (sg rfl trivial)))) ?_))
 refine l_reg fun u11 hu11 => sv rfl (sv rfl (s_nil (l_nil ?_)))
 cases hz2
 exact ⟨rfl, g4, (sb_of ⟨.of rfl, .of rfl, .of rfl, .of rfl, .of rfl, .of rfl, .of rfl, .of rfl, .of rfl, .of rfl, trivial⟩ (sbG_some G_hit (.of rfl) (sg rfl (sbG_oB (gq rfl) trivial))))⟩
 refine l_exitN rfl ?_
 cases hz2
 obtain rfl := ez2 _ rfl
 refine ⟨nofun, awl_pop rfl (l_j ?_)⟩
 exact ⟨g4, (sb_of ⟨.of rfl, .of rfl, .of rfl, .of rfl, .of rfl, trivial⟩ (sbG_some G_hit (.of rfl) (sbG_oB (gq rfl) trivial)))⟩
 rintro _ ⟨g3, q1⟩
 refine l_end (l_sub q1 (l_reg fun u12 hu12 => sv rfl (sv rfl (s_nil (l_nil ?_)))))
 cases hz1
 exact ⟨rfl, g3, (sb_of ⟨.of rfl, .of rfl, .of rfl, .of rfl, .of rfl, trivial⟩ (sbG_some G_hit (.of rfl) (sbG_oB (gq rfl) trivial)))⟩
 refine l_exitN rfl ?_
 cases hz1
 obtain rfl := ez1 _ rfl
 refine ⟨nofun, awl_pop rfl (l_j ?_)⟩
 exact ⟨g2, (sb_of ⟨.of rfl, trivial⟩ (sbG_oB (gq rfl) trivial))⟩
 rintro _ ⟨g1, q2⟩
 refine l_sub q2 (lr (fun u13 hu13 => s_val (oS y1 (42, g1)) rfl rfl (s_val (oS y1 (42, g1)) rfl rfl (s_nil (l_ret ?_)))))
 cases h
 exact fin_ok (.inr rfl) (resD1 (res_t rfl) (rf_oS G_hit)) oD_le

noncomputable def roads_entries_l1 (p1 : Map) (p2 : Zone) (x1 : ((List Int) × Int)) : Option (Stp ((List Int) × Int) (List Int)) :=
  cond (decide (x1.2 < (p2.Parts.length : Int))) ((geti p2.Parts x1.2).bind fun v1 => (roads_entry p1 p2 v1.Lane_).bind fun v2 => cond v2 ((appc x1.1 [v1.Lane_]).bind fun v3 => some (.go (v3, (w64 (x1.2 + 1))))) (some (.go (x1.1, (w64 (x1.2 + 1)))))) (some (.out x1.1))
noncomputable def roads_entries (p1 : Map) (p2 : Zone) : Option (List Int) :=
  (loop (roads_entries_l1 p1 p2) ([], 0)).bind fun y1 => some y1

theorem roads_entries_ok (p1 : Map) (p2 : Zone) (r : (List Int)) (h : roads_entries p1 p2 = some r) : PCall Tryz.prog 248 [(.agg (eMap p1)), (.agg [(.list (List.map ePart p2.Parts)), (i64 p2.Signal_)])] (.list (List.map eInt_i64 r)) := by
 refine l_call (fk Tryz.func248 Tryz.ntmps248 (fun r => if r == 6 then [1003] else []) (by with_unfolding_all rfl)) (nl rfl) ?_
 unfold roads_entries at h
 refine l_sub (s0 := ⟨T [(0, (.d _)), (1, (.d _))], G []⟩) (sbr rfl rfl) ?_
 refine lr (fun u1 hu1 => sn rfl rfl (sn rfl rfl (sv rfl (s_nil (lr (fun u2 hu2 => sv rfl (s_nil (l_seq (lr (fun u3 hu3 => sp rfl rfl (sl rfl G_hit rfl (sd rfl (v_len rfl) (sv rfl (s_nil (bs h fun y1 hy1 h => l_join (fun s => ∃ g1 : Nat, Sb ⟨T [(5, (oS y1 (24, g1)))], G [((24, g1), oB 3 1 eInt_i64 y1)]⟩ s) ?_ ?_)))))))))))))))
 refine l_block (l_loop (roads_entries_l1 p1 p2) (fun (x1 : ((List Int) × Int)) (g2 : Nat) => ⟨T [(2, (.ptr (2, u1) 0)), (3, (.ptr (3, u1) 0)), (5, (oS x1.1 (24, g2))), (9, (dl ePart p2.Parts)), (10, (di (p2.Parts.length : Int))), (11, (di x1.2))], G [((2, u1), some (.box 27 (dMap p1))), ((3, u1), some (.box 45 [(dl ePart p2.Parts), (di p2.Signal_)])), ((24, g2), oB 3 1 eInt_i64 x1.1)]⟩) ([], 0) 0 _ hy1 (sb_of ⟨.of rfl, .of rfl, .of rfl, .of rfl, .of rfl, .of rfl, trivial⟩ (sg rfl (sbG_some G_hit (.of rfl) (sbG_nil trivial)))) ?_)
 intro x1 g2 z1 hz1 ez1
 unfold roads_entries_l1 at hz1
 refine lr (fun u4 hu4 => sv rfl (s_nil (l_seq (cc rfl hz1 (fun c1 hz1 => ?_) (fun c1 hz1 => ?_)))))
 refine l_skip (l_seq (l_block (lr (fun u5 hu5 => bs hz1 fun v1 hv1 hz1 => sd rfl (v_idx rfl rfl hv1 rfl) (sd rfl (v_loadLG rfl hv1 rfl rfl) (sn rfl rfl (sst rfl G_hit (dPart v1) rfl (s_nil (lr (fun u6 hu6 => sd rfl (v_loadG rfl (gq rfl) rfl rfl) (sd rfl (v_loadG rfl (gq rfl) rfl rfl) (sp rfl rfl (sl rfl G_hit rfl (bs hz1 fun v2 hv2 hz1 => s_call rfl rfl all2_refl (roads_entry_ok _ _ _  _ hv2) (.inl rfl) (s_nil (cc rfl hz1 (fun c2 hz1 => ?_) (fun c2 hz1 => ?_)))))))))))))))))
 refine l_reg fun u7 hu7 => s_val (oS x1.1 (24, g2)) rfl rfl (sp rfl rfl (sl rfl G_hit rfl (s_val (dl eInt_i64 [v1.Lane_]) rfl rfl (bs hz1 fun v3 hv3 hz1 => s_appendO eInt_i64 (24, g2) x1.1 v1.Lane_ [] _ (elems_list (fun _ => rfl)) rfl (gq rfl) hv3 (ss rfl (s_nil (l_end (l_sub (s0 := ⟨T [(2, (.ptr _ _)), (3, (.ptr _ _)), (5, (.sl _)), (9, (.d _)), (10, (.d _)), (11, (.d _))], G [((2, u1), some (.box 27 _)), ((3, u1), some (.box 45 _)), ((24, u7), some _)]⟩) (sbr rfl rfl) ?_))))))))
 refine l_reg fun u8 hu8 => sv rfl (sv rfl (s_nil (l_nil ?_)))
 cases hz1
 exact ⟨rfl, u7, (sb_of ⟨.of rfl, .of rfl, (.of (oS_ne (appc_ne hv3)).symm), .of rfl, .of rfl, .of rfl, trivial⟩ (sbG_some G_hit (.of rfl) (sg rfl (sbG_own (gq rfl) trivial))))⟩
 refine l_skip (l_end (l_reg fun u9 hu9 => sv rfl (sv rfl (s_nil (l_nil ?_)))))
 cases hz1
 exact ⟨rfl, g2, (sb_of ⟨.of rfl, .of rfl, .of rfl, .of rfl, .of rfl, .of rfl, trivial⟩ (sg rfl (sg rfl (sbG_oB (gq rfl) trivial))))⟩
 refine l_exitN rfl ?_
 cases hz1
 obtain rfl := ez1 _ rfl
 refine ⟨nofun, awl_pop rfl (l_j ?_)⟩
 exact ⟨g2, (sb_of ⟨.of rfl, trivial⟩ (sbG_oB (gq rfl) trivial))⟩
 rintro _ ⟨g1, q1⟩
 refine l_sub q1 (lr (fun u10 hu10 => s_val (oS y1 (24, g1)) rfl rfl (s_val (oS y1 (24, g1)) rfl rfl (s_nil (l_ret ?_)))))
 cases h
 exact fin_ok (.inr rfl) (resD1 (res_t rfl) (rf_oS G_hit)) oD_le

noncomputable def roads_ranks_1 (p1 : Zone) (p2 : Int) (p3 : Int) : Option Bool :=
  (roads_part p1 p2).bind fun v1 => (roads_part p1 p3).bind fun v2 => some ((p1.Signal_ == 0) && (v1.1.Rank == v2.1.Rank))

theorem roads_ranks_1_ok (p1 : Zone) (p2 : Int) (p3 : Int) (r : Bool) (h : roads_ranks_1 p1 p2 p3 = some r) : PCall Tryz.prog 186 [(.agg [(.list (List.map ePart p1.Parts)), (i64 p1.Signal_)]), (i64 p2), (i64 p3)] (bo r) := by
 refine l_call (fk Tryz.func186 Tryz.ntmps186 m0 (by with_unfolding_all rfl)) (nl rfl) ?_
 unfold roads_ranks_1 at h
 refine l_sub (s0 := ⟨T [(0, (.d _)), (1, (.d _)), (2, (.d _))], G []⟩) (sbr rfl rfl) ?_
 refine lr (fun u1 hu1 => sn rfl rfl (sv rfl (s_nil (lr (fun u2 hu2 => sd rfl (v_loadG rfl G_hit rfl rfl) (sv rfl (bs h fun v1 hv1 h => s_call rfl rfl all2_refl (roads_part_ok _ _  _ hv1) (.inl rfl) (sv rfl (sv rfl (sv rfl (sn rfl rfl (sst rfl G_hit (dPart v1.1) rfl (sv rfl (s_nil (lr (fun u3 hu3 => sd rfl (v_loadG rfl (gq rfl) rfl rfl) (sv rfl (bs h fun v2 hv2 h => s_call rfl rfl all2_refl (roads_part_ok _ _  _ hv2) (.inl rfl) (sv rfl (sv rfl (sv rfl (sn rfl rfl (sst rfl G_hit (dPart v2.1) rfl (sv rfl (s_nil (l_seq (l_sub (s0 := ⟨T [(3, (.ptr _ _)), (7, (.ptr _ _)), (9, (.ptr _ _))], G [((3, u1), some (.box 45 _)), ((7, u2), some (.box 91 _)), ((9, u3), some (.box 91 _))]⟩) (sbr rfl rfl) ?_)))))))))))))))))))))))))))
 refine l_reg fun u4 hu4 => sp rfl rfl (sl rfl G_hit rfl (sv rfl (sv rfl (gp rfl (gw_t rfl) (fun _ => rfl) (gt rfl (vl rfl (gq rfl) rfl) (gp rfl (gw_t rfl) (fun _ => rfl) (gt rfl (vl rfl (gq rfl) rfl) (gt rfl (fun w5 => (v_bin (gd_pos w5) (gd_pos w5) rfl)) (sa rfl rfl rfl (sv rfl (s_nil (l_ret ?_))))))))))))
 cases h
 exact fin_ok (.inr rfl) (resD1 (res_t rfl) rf_d) (.refl _)

noncomputable def roads_pairs_roads_ranks_1_l3 (p2 : Int) (x1 : ((List Clash) × Int)) (v1 : Zone) (v3 : Int) (v4 : List Int) (x3 : ((List Clash) × Int)) : Option (Stp ((List Clash) × Int) (List Clash)) :=
  cond (decide (x3.2 < (v4.length : Int))) ((geti v4 x3.2).bind fun v5 => (roads_ranks_1 v1 v3 v5).bind fun v6 => cond v6 ((appc x3.1 [(Clash.mk p2 x1.2 v3 v5)]).bind fun v7 => some (.go (v7, (w64 (x3.2 + 1))))) (some (.go (x3.1, (w64 (x3.2 + 1)))))) (some (.out x3.1))
noncomputable def roads_pairs_roads_ranks_1_l2 (p2 : Int) (x1 : ((List Clash) × Int)) (v1 : Zone) (v2 : (List Int)) (x2 : ((List Clash) × Int)) : Option (Stp ((List Clash) × Int) (List Clash)) :=
  cond (decide (x2.2 < (v2.length : Int))) ((geti v2 x2.2).bind fun v3 => (subl v2 (w64 (x2.2 + 1)) (v2.length : Int)).bind fun v4 => (loop (roads_pairs_roads_ranks_1_l3 p2 x1 v1 v3 v4) (x2.1, 0)).bind fun y3 => some (.go (y3, (w64 (x2.2 + 1))))) (some (.out x2.1))
noncomputable def roads_pairs_roads_ranks_1_l1 (p1 : Map) (p2 : Int) (x1 : ((List Clash) × Int)) : Option (Stp ((List Clash) × Int) (List Clash)) :=
  cond (decide (x1.2 < (p1.Zones.length : Int))) ((geti p1.Zones x1.2).bind fun v1 => (roads_entries p1 v1).bind fun v2 => (loop (roads_pairs_roads_ranks_1_l2 p2 x1 v1 v2) (x1.1, 0)).bind fun y2 => some (.go (y2, (w64 (x1.2 + 1))))) (some (.out x1.1))
noncomputable def roads_pairs_roads_ranks_1 (p1 : Map) (p2 : Int) : Option (List Clash) :=
  (loop (roads_pairs_roads_ranks_1_l1 p1 p2) ([], 0)).bind fun y1 => some y1

theorem roads_pairs_roads_ranks_1_ok (p1 : Map) (p2 : Int) (r : (List Clash)) (h : roads_pairs_roads_ranks_1 p1 p2 = some r) : PCall Tryz.prog 185 [(.agg (eMap p1)), (i64 p2), (.fn (.func 186) [] [])] (.list (List.map eClash r)) := by
 refine l_call (fk Tryz.func185 Tryz.ntmps185 (fun r => if r == 12 then [1006] else []) (by with_unfolding_all rfl)) (nl rfl) ?_
 unfold roads_pairs_roads_ranks_1 at h
 refine l_sub (s0 := ⟨T [(0, (.d _)), (1, (.d _)), (2, (.d _))], G []⟩) (sbr rfl rfl) ?_
 refine lr (fun u1 hu1 => sn rfl rfl (sv rfl (s_nil (l_seq (lr (fun u2 hu2 => sp rfl rfl (sl rfl G_hit rfl (sd rfl (v_len rfl) (sv rfl (s_nil (bs h fun y1 hy1 h => l_join (fun s => ∃ g1 : Nat, Sb ⟨T [(6, (oS y1 (53, g1)))], G [((53, g1), oB 93 4 eClash y1)]⟩ s) ?_ ?_)))))))))))
 refine l_block (l_loop (roads_pairs_roads_ranks_1_l1 p1 p2) (fun (x1 : ((List Clash) × Int)) (g2 : Nat) => ⟨T [(1, (di p2)), (2, (.d (.fn (.func 186) [] []))), (3, (.ptr (3, u1) 0)), (6, (oS x1.1 (53, g2))), (15, (dl eZone p1.Zones)), (16, (di (p1.Zones.length : Int))), (17, (di x1.2))], G [((3, u1), some (.box 27 (dMap p1))), ((53, g2), oB 93 4 eClash x1.1)]⟩) ([], 0) 0 _ hy1 (sb_of ⟨.of rfl, .of rfl, .of rfl, .of rfl, .of rfl, .of rfl, .of rfl, trivial⟩ (sbG_some G_hit (.of rfl) (sbG_nil trivial))) ?_)
 intro x1 g2 z1 hz1 ez1
 unfold roads_pairs_roads_ranks_1_l1 at hz1
 refine lr (fun u3 hu3 => sv rfl (s_nil (l_seq (cc rfl hz1 (fun c1 hz1 => ?_) (fun c1 hz1 => ?_)))))
 refine l_skip (l_seq (l_block (lr (fun u4 hu4 => sv rfl (bs hz1 fun v1 hv1 hz1 => sd rfl (v_idx rfl rfl hv1 rfl) (sd rfl (v_loadLG rfl hv1 rfl rfl) (sn rfl rfl (sv rfl (sst rfl G_hit [(dl ePart v1.Parts), (di v1.Signal_)] rfl (s_nil (lr (fun u5 hu5 => sd rfl (v_loadG rfl (gq rfl) rfl rfl) (sd rfl (v_loadG rfl G_hit rfl rfl) (bs hz1 fun v2 hv2 hz1 => s_call rfl rfl all2_refl (roads_entries_ok _ _  _ hv2) (.inl rfl) (sv rfl (s_nil (lr (fun u6 hu6 => sv rfl (sd rfl (v_len rfl) (sv rfl (s_nil (bs hz1 fun y2 hy2 hz1 => l_join (fun s => ∃ g3 : Nat, Sb ⟨T [(1, (di p2)), (2, (.d (.fn (.func 186) [] []))), (3, (.ptr (3, u1) 0)), (6, (oS y2 (53, g3))), (15, (dl eZone p1.Zones)), (16, (di (p1.Zones.length : Int))), (17, (di x1.2))], G [((3, u1), some (.box 27 (dMap p1))), ((53, g3), oB 93 4 eClash y2)]⟩ s) ?_ ?_))))))))))))))))))))))
 refine l_block (l_loop (roads_pairs_roads_ranks_1_l2 p2 x1 v1 v2) (fun (x2 : ((List Clash) × Int)) (g4 : Nat) => ⟨T [(1, (di p2)), (2, (.d (.fn (.func 186) [] []))), (3, (.ptr (3, u1) 0)), (6, (oS x2.1 (53, g4))), (7, (di x1.2)), (8, (.ptr (8, u4) 0)), (9, (dl eInt_i64 v2)), (15, (dl eZone p1.Zones)), (16, (di (p1.Zones.length : Int))), (17, (di x1.2)), (25, (dl eInt_i64 v2)), (26, (di (v2.length : Int))), (27, (di x2.2))], G [((3, u1), some (.box 27 (dMap p1))), ((8, u4), some (.box 45 [(dl ePart v1.Parts), (di v1.Signal_)])), ((53, g4), oB 93 4 eClash x2.1)]⟩) (x1.1, 0) g2 _ hy2 (sb_of ⟨.of rfl, .of rfl, .of rfl, .of rfl, .of rfl, .of rfl, .of rfl, .of rfl, .of rfl, .of rfl, .of rfl, .of rfl, .of rfl, trivial⟩ (sg rfl (sbG_some G_hit (.of rfl) (sbG_oB (gq rfl) trivial)))) ?_)
 intro x2 g4 z2 hz2 ez2
 unfold roads_pairs_roads_ranks_1_l2 at hz2
 refine lr (fun u7 hu7 => sv rfl (s_nil (l_seq (cc rfl hz2 (fun c2 hz2 => ?_) (fun c2 hz2 => ?_)))))
 refine l_skip (l_seq (l_block (lr (fun u8 hu8 => sv rfl (bs hz2 fun v3 hv3 hz2 => sd rfl (v_idx rfl rfl hv3 rfl) (sd rfl (v_loadL rfl hv3 rfl) (sv rfl (sv rfl (s_nil (lr (fun u9 hu9 => sv rfl (sv rfl (sv rfl (bs hz2 fun v4 hv4 hz2 => sd rfl (v_sub rfl (fun _ => rfl) (bd_x rfl) bd_end hv4) (sd rfl (v_len rfl) (sv rfl (s_nil (bs hz2 fun y3 hy3 hz2 => l_join (fun s => ∃ g5 : Nat, Sb ⟨T [(1, (di p2)), (2, (.d (.fn (.func 186) [] []))), (3, (.ptr (3, u1) 0)), (6, (oS y3 (53, g5))), (7, (di x1.2)), (8, (.ptr (8, u4) 0)), (9, (dl eInt_i64 v2)), (15, (dl eZone p1.Zones)), (16, (di (p1.Zones.length : Int))), (17, (di x1.2)), (25, (dl eInt_i64 v2)), (26, (di (v2.length : Int))), (27, (di x2.2))], G [((3, u1), some (.box 27 (dMap p1))), ((8, u4), some (.box 45 [(dl ePart v1.Parts), (di v1.Signal_)])), ((53, g5), oB 93 4 eClash y3)]⟩ s) ?_ ?_))))))))))))))))))
 refine l_block (l_loop (roads_pairs_roads_ranks_1_l3 p2 x1 v1 v3 v4) (fun (x3 : ((List Clash) × Int)) (g6 : Nat) => ⟨T [(1, (di p2)), (2, (.d (.fn (.func 186) [] []))), (3, (.ptr (3, u1) 0)), (6, (oS x3.1 (53, g6))), (7, (di x1.2)), (8, (.ptr (8, u4) 0)), (9, (dl eInt_i64 v2)), (11, (di v3)), (15, (dl eZone p1.Zones)), (16, (di (p1.Zones.length : Int))), (17, (di x1.2)), (25, (dl eInt_i64 v2)), (26, (di (v2.length : Int))), (27, (di x2.2)), (35, (dl eInt_i64 v4)), (36, (di (v4.length : Int))), (37, (di x3.2))], G [((3, u1), some (.box 27 (dMap p1))), ((8, u4), some (.box 45 [(dl ePart v1.Parts), (di v1.Signal_)])), ((53, g6), oB 93 4 eClash x3.1)]⟩) (x2.1, 0) g4 _ hy3 (sb_of ⟨.of rfl, .of rfl, .of rfl, .of rfl, .of rfl, .of rfl, .of rfl, .of rfl, .of rfl, .of rfl, .of rfl, .of rfl, .of rfl, .of rfl, .of rfl, .of rfl, .of rfl, trivial⟩ (sbG_some G_hit (.of rfl) (sg rfl (sbG_oB (gq rfl) trivial)))) ?_)
 intro x3 g6 z3 hz3 ez3
 unfold roads_pairs_roads_ranks_1_l3 at hz3
 refine lr (fun u10 hu10 => sv rfl (s_nil (l_seq (cc rfl hz3 (fun c3 hz3 => ?_) (fun c3 hz3 => ?_)))))
 refine l_skip (l_seq (l_block (lr (fun u11 hu11 => bs hz3 fun v5 hv5 hz3 => sd rfl (v_idx rfl rfl hv5 rfl) (sd rfl (v_loadL rfl hv5 rfl) (sv rfl (s_nil (lr (fun u12 hu12 => sv rfl (sd rfl (v_loadG rfl (gq rfl) rfl rfl) (sv rfl (sv rfl (bs hz3 fun v6 hv6 hz3 => s_call rfl rfl all2_refl (roads_ranks_1_ok _ _ _  _ hv6) (.inl rfl) (s_nil (cc rfl hz3 (fun c4 hz3 => ?_) (fun c4 hz3 => ?_))))))))))))))))
 refine l_sub (s0 := ⟨T [(1, (di p2)), (2, (.d (.fn (.func 186) [] []))), (3, (.ptr (3, u1) 0)), (6, (oS x3.1 (53, g6))), (7, (di x1.2)), (8, (.ptr (8, u4) 0)), (9, (dl eInt_i64 v2)), (11, (di v3)), (13, (di v5)), (15, (dl eZone p1.Zones)), (16, (di (p1.Zones.length : Int))), (17, (di x1.2)), (25, (dl eInt_i64 v2)), (26, (di (v2.length : Int))), (27, (di x2.2)), (35, (dl eInt_i64 v4)), (36, (di (v4.length : Int))), (37, (di x3.2))], G [((3, u1), some (.box 27 (dMap p1))), ((53, g6), oB 93 4 eClash x3.1), ((8, u4), some (.box 45 [(dl ePart v1.Parts), (di v1.Signal_)]))]⟩) (sb_of ⟨.of rfl, .of rfl, .of rfl, .of rfl, .of rfl, .of rfl, .of rfl, .of rfl, .of rfl, .of rfl, .of rfl, .of rfl, .of rfl, .of rfl, .of rfl, .of rfl, .of rfl, .of rfl, trivial⟩ (sbG_some G_hit (.of rfl) (sbG_oB (gq rfl) (sg rfl trivial)))) ?_
 refine l_reg fun u13 hu13 => s_val (oS x3.1 (53, g6)) rfl rfl (sv rfl (sv rfl (sv rfl (sv rfl (sv rfl (s_val (dl eClash [(Clash.mk p2 x1.2 v3 v5)]) rfl rfl (bs hz3 fun v7 hv7 hz3 => s_appendO eClash (53, g6) x3.1 (Clash.mk p2 x1.2 v3 v5) [] _ (elems_list (fun _ => rfl)) rfl (gq rfl) hv7 (ss rfl (s_nil (l_end (l_sub (s0 := ⟨T [(1, (.d _)), (2, (.d _)), (3, (.ptr _ _)), (6, (.sl _)), (7, (.d _)), (8, (.ptr _ _)), (9, (.d _)), (11, (.d _)), (15, (.d _)), (16, (.d _)), (17, (.d _)), (25, (.d _)), (26, (.d _)), (27, (.d _)), (35, (.d _)), (36, (.d _)), (37, (.d _))], G [((3, u1), some (.box 27 _)), ((53, u13), some _), ((8, u4), some (.box 45 _))]⟩) (sbr rfl rfl) ?_)))))))))))
 refine l_reg fun u14 hu14 => sv rfl (sv rfl (s_nil (l_nil ?_)))
 cases hz3
 exact ⟨rfl, u13, (sb_of ⟨.of rfl, .of rfl, .of rfl, (.of (oS_ne (appc_ne hv7)).symm), .of rfl, .of rfl, .of rfl, .of rfl, .of rfl, .of rfl, .of rfl, .of rfl, .of rfl, .of rfl, .of rfl, .of rfl, .of rfl, trivial⟩ (sbG_some G_hit (.of rfl) (sg rfl (sbG_own (gq rfl) trivial))))⟩
 refine l_skip (l_end (l_sub (s0 := ⟨T [(1, (di p2)), (2, (.d (.fn (.func 186) [] []))), (3, (.ptr (3, u1) 0)), (6, (oS x3.1 (53, g6))), (7, (di x1.2)), (8, (.ptr (8, u4) 0)), (9, (dl eInt_i64 v2)), (11, (di v3)), (15, (dl eZone p1.Zones)), (16, (di (p1.Zones.length : Int))), (17, (di x1.2)), (25, (dl eInt_i64 v2)), (26, (di (v2.length : Int))), (27, (di x2.2)), (35, (dl eInt_i64 v4)), (36, (di (v4.length : Int))), (37, (di x3.2))], G [((3, u1), some (.box 27 (dMap p1))), ((53, g6), oB 93 4 eClash x3.1), ((8, u4), some (.box 45 [(dl ePart v1.Parts), (di v1.Signal_)]))]⟩) (sb_of ⟨.of rfl, .of rfl, .of rfl, .of rfl, .of rfl, .of rfl, .of rfl, .of rfl, .of rfl, .of rfl, .of rfl, .of rfl, .of rfl, .of rfl, .of rfl, .of rfl, .of rfl, trivial⟩ (sbG_some G_hit (.of rfl) (sbG_oB (gq rfl) (sg rfl trivial)))) ?_))
 refine l_reg fun u15 hu15 => sv rfl (sv rfl (s_nil (l_nil ?_)))
 cases hz3
 exact ⟨rfl, g6, (sb_of ⟨.of rfl, .of rfl, .of rfl, .of rfl, .of rfl, .of rfl, .of rfl, .of rfl, .of rfl, .of rfl, .of rfl, .of rfl, .of rfl, .of rfl, .of rfl, .of rfl, .of rfl, trivial⟩ (sbG_some G_hit (.of rfl) (sg rfl (sbG_oB (gq rfl) trivial))))⟩
 refine l_exitN rfl ?_
 cases hz3
 obtain rfl := ez3 _ rfl
 refine ⟨nofun, awl_pop rfl (l_j ?_)⟩
 exact ⟨g6, (sb_of ⟨.of rfl, .of rfl, .of rfl, .of rfl, .of rfl, .of rfl, .of rfl, .of rfl, .of rfl, .of rfl, .of rfl, .of rfl, .of rfl, trivial⟩ (sbG_some G_hit (.of rfl) (sg rfl (sbG_oB (gq rfl) trivial))))⟩
 rintro _ ⟨g5, q1⟩
 refine l_end (l_sub q1 (l_reg fun u16 hu16 => sv rfl (sv rfl (s_nil (l_nil ?_)))))
 cases hz2
 exact ⟨rfl, g5, (sb_of ⟨.of rfl, .of rfl, .of rfl, .of rfl, .of rfl, .of rfl, .of rfl, .of rfl, .of rfl, .of rfl, .of rfl, .of rfl, .of rfl, trivial⟩ (sbG_some G_hit (.of rfl) (sg rfl (sbG_oB (gq rfl) trivial))))⟩
 refine l_exitN rfl ?_
 cases hz2
 obtain rfl := ez2 _ rfl
 refine ⟨nofun, awl_pop rfl (l_j ?_)⟩
 exact ⟨g4, (sb_of ⟨.of rfl, .of rfl, .of rfl, .of rfl, .of rfl, .of rfl, .of rfl, trivial⟩ (sbG_some G_hit (.of rfl) (sbG_oB (gq rfl) trivial)))⟩
 rintro _ ⟨g3, q2⟩
 refine l_end (l_sub q2 (l_reg fun u17 hu17 => sv rfl (sv rfl (s_nil (l_nil ?_)))))
 cases hz1
 exact ⟨rfl, g3, (sb_of ⟨.of rfl, .of rfl, .of rfl, .of rfl, .of rfl, .of rfl, .of rfl, trivial⟩ (sbG_some G_hit (.of rfl) (sbG_oB (gq rfl) trivial)))⟩
 refine l_exitN rfl ?_
 cases hz1
 obtain rfl := ez1 _ rfl
 refine ⟨nofun, awl_pop rfl (l_j ?_)⟩
 exact ⟨g2, (sb_of ⟨.of rfl, trivial⟩ (sbG_oB (gq rfl) trivial))⟩
 rintro _ ⟨g1, q3⟩
 refine l_sub q3 (lr (fun u18 hu18 => s_val (oS y1 (53, g1)) rfl rfl (s_val (oS y1 (53, g1)) rfl rfl (s_nil (l_ret ?_)))))
 cases h
 exact fin_ok (.inr rfl) (resD1 (res_t rfl) (rf_oS G_hit)) oD_le

noncomputable def roads_ranks (p1 : Map) : Option (List Clash) :=
  (roads_pairs_roads_ranks_1 p1 3).bind fun v1 => some v1

theorem roads_ranks_ok (p1 : Map) (r : (List Clash)) (h : roads_ranks p1 = some r) : PCall Tryz.prog 79 [(.agg (eMap p1))] (.list (List.map eClash r)) := by
 refine l_call (fk Tryz.func79 Tryz.ntmps79 m0 (by with_unfolding_all rfl)) (nl rfl) ?_
 unfold roads_ranks at h
 refine l_sub (s0 := ⟨T [(0, (.d _))], G []⟩) (sbr rfl rfl) ?_
 refine lr (fun u1 hu1 => sn rfl rfl (sv rfl (s_nil (lr (fun u2 hu2 => sd rfl (v_loadG rfl G_hit rfl rfl) (bs h fun v1 hv1 h => s_call rfl rfl all2_refl (roads_pairs_roads_ranks_1_ok _ _  _ hv1) (.inl rfl) (sv rfl (s_nil (l_ret ?_)))))))))
 cases h
 exact fin_ok (.inr rfl) (resD1 (res_t rfl) rf_d) (.refl _)

noncomputable def roads_greens_1_1_b_b (p1 : Phase) (p2 : Int) (p3 : Int) : Option Bool :=
  (slices_Contains_int_int p1.Green p2).bind fun v1 => ((cond v1 (slices_Contains_int_int p1.Green p3) (some default))).bind fun v2 => some (v1 && v2)

theorem roads_greens_1_1_b_b_ok (p1 : Phase) (p2 : Int) (p3 : Int) (r : Bool) (h : roads_greens_1_1_b_b p1 p2 p3 = some r) : PCall Tryz.prog 188 [(.agg [(i64 p1.Ticks), (.list (List.map eInt_i64 p1.Green))]), (.bp [(i64 p2)] 0), (.bp [(i64 p3)] 0)] (bo r) := by
 refine l_call (fk Tryz.func188 Tryz.ntmps188 m0 (by with_unfolding_all rfl)) (nl rfl) ?_
 unfold roads_greens_1_1_b_b at h
 refine l_sub (s0 := ⟨T [(0, (.d _)), (1, (.d _)), (2, (.d _))], G []⟩) (sbr rfl rfl) ?_
 refine lr (fun u1 hu1 => sn rfl rfl (sv rfl (s_nil (lr (fun u2 hu2 => sp rfl rfl (sl rfl G_hit rfl (sv rfl (bs h fun v1 hv1 h => s_call rfl rfl all2_refl (slices_Contains_int_int_ok _ _  _ hv1) (.inl rfl) (sv rfl (gp rfl (gw_t rfl) (fun _ => rfl) (gt rfl (vl rfl G_hit rfl) (gt rfl (fun _ => rfl) (bs h fun v2 hv2 h => ?_)))))))))))))
 refine g_call v1 (bo v2) (gw_t rfl) (fun w4 => ⟨_, [(dl eInt_i64 p1.Green), (di p3)], _, _, (by simp only [gd_pos w4]; rfl), rfl, all2_refl, slices_Contains_int_int_ok _ _  _ (cond_t w4 hv2), (.inl rfl)⟩) ?_
 refine sa rfl rfl rfl (sv rfl (s_nil (l_ret ?_)))
 cases h
 exact fin_ok (.inr rfl) (resD1 (res_t rfl) rf_d) (.refl _)

noncomputable def slices_IndexFunc_Phase_Phase_roads_greens_1_1bb_l1 (p1 : (List Phase)) (p2 : Int) (p3 : Int) (x1 : Int) : Option (Stp Int (Sum Unit Int)) :=
  cond (decide (x1 < (p1.length : Int))) ((geti p1 x1).bind fun v1 => (roads_greens_1_1_b_b v1 p2 p3).bind fun v2 => cond v2 (some (.out (.inr x1))) (some (.go (w64 (x1 + 1))))) (some (.out (.inl ())))
noncomputable def slices_IndexFunc_Phase_Phase_roads_greens_1_1bb (p1 : (List Phase)) (p2 : Int) (p3 : Int) : Option Int :=
  thenS (loop (slices_IndexFunc_Phase_Phase_roads_greens_1_1bb_l1 p1 p2 p3) 0) (fun _ => some (-1)) (fun r => some r)

theorem slices_IndexFunc_Phase_Phase_roads_greens_1_1bb_ok (p1 : (List Phase)) (p2 : Int) (p3 : Int) (r : Int) (h : slices_IndexFunc_Phase_Phase_roads_greens_1_1bb p1 p2 p3 = some r) : PCall Tryz.prog 237 [(.list (List.map ePhase p1)), (.fn (.func 188) [] [(.bp [(i64 p2)] 0), (.bp [(i64 p3)] 0)])] (i64 r) := by
 refine l_call (fk Tryz.func237 Tryz.ntmps237 m0 (by with_unfolding_all rfl)) (nl rfl) ?_
 unfold slices_IndexFunc_Phase_Phase_roads_greens_1_1bb at h
 refine l_sub (s0 := ⟨T [(0, (.d _)), (1, (.d _))], G []⟩) (sbr rfl rfl) ?_
 refine lr (fun u1 hu1 => sv rfl (s_nil (l_seq (lr (fun u2 hu2 => sv rfl (sd rfl (v_len rfl) (sv rfl (s_nil (js h fun z1 hz1 h => l_join (fun s => ∃ (y1 : Unit) (g1 : Unit), z1 = .inl y1 ∧ Sb ⟨T [], G []⟩ s) ?_ ?_)))))))))
 refine l_block (l_loop (slices_IndexFunc_Phase_Phase_roads_greens_1_1bb_l1 p1 p2 p3) (fun (x1 : Int) (g2 : Unit) => ⟨T [(0, (dl ePhase p1)), (1, (.d (.fn (.func 188) [] [(.bp [(i64 p2)] 0), (.bp [(i64 p3)] 0)]))), (7, (di (p1.length : Int))), (8, (di x1))], G []⟩) 0 () _ hz1 (sbr rfl rfl) ?_)
 intro x1 g2 z2 hz2 ez2
 unfold slices_IndexFunc_Phase_Phase_roads_greens_1_1bb_l1 at hz2
 refine lr (fun u3 hu3 => sv rfl (s_nil (l_seq (cc rfl hz2 (fun c1 hz2 => ?_) (fun c1 hz2 => ?_)))))
 refine l_skip (l_seq (l_block (lr (fun u4 hu4 => sv rfl (sv rfl (s_nil (lr (fun u5 hu5 => sv rfl (sv rfl (sv rfl (bs hz2 fun v1 hv1 hz2 => sd rfl (v_idx rfl rfl hv1 rfl) (sd rfl (v_loadLG rfl hv1 rfl rfl) (bs hz2 fun v2 hv2 hz2 => s_call rfl rfl all2_refl (roads_greens_1_1_b_b_ok _ _ _  _ hv2) (.inl rfl) (s_nil (cc rfl hz2 (fun c2 hz2 => ?_) (fun c2 hz2 => ?_))))))))))))))))
 refine lr (fun u6 hu6 => sv rfl (sv rfl (s_nil (l_ret ?_))))
 cases hz2
 obtain rfl := ez2 _ rfl
 refine ⟨nofun, awl_ret ?_⟩
 rw [Sum.elim_inr] at h
 cases h
 exact fin_ok (.inr rfl) (resD1 (res_t rfl) rf_d) (.refl _)
 refine l_skip (l_end (l_reg fun u7 hu7 => sv rfl (sv rfl (s_nil (l_nil ?_)))))
 cases hz2
 exact ⟨rfl, (), (sbr rfl rfl)⟩
 refine l_exitN rfl ?_
 cases hz2
 obtain rfl := ez2 _ rfl
 refine ⟨nofun, awl_pop rfl (l_j ?_)⟩
 exact ⟨_, (), rfl, (sbr rfl rfl)⟩
 rintro _ ⟨y1, g1, rfl, q1⟩
 rw [Sum.elim_inl] at h
 refine l_sub q1 (lr (fun u8 hu8 => sv rfl (s_nil (l_ret ?_))))
 cases h
 exact fin_ok (.inr rfl) (resD1 (res_t rfl) rf_d) (.refl _)

noncomputable def slices_ContainsFunc_Phase_Phase_roads_greens_1_1bb (p1 : (List Phase)) (p2 : Int) (p3 : Int) : Option Bool :=
  (slices_IndexFunc_Phase_Phase_roads_greens_1_1bb p1 p2 p3).bind fun v1 => some (decide (v1 ≥ 0))

theorem slices_ContainsFunc_Phase_Phase_roads_greens_1_1bb_ok (p1 : (List Phase)) (p2 : Int) (p3 : Int) (r : Bool) (h : slices_ContainsFunc_Phase_Phase_roads_greens_1_1bb p1 p2 p3 = some r) : PCall Tryz.prog 172 [(.list (List.map ePhase p1)), (.fn (.func 188) [] [(.bp [(i64 p2)] 0), (.bp [(i64 p3)] 0)])] (bo r) := by
 refine l_call (fk Tryz.func172 Tryz.ntmps172 m0 (by with_unfolding_all rfl)) (nl rfl) ?_
 unfold slices_ContainsFunc_Phase_Phase_roads_greens_1_1bb at h
 refine l_sub (s0 := ⟨T [(0, (.d _)), (1, (.d _))], G []⟩) (sbr rfl rfl) ?_
 refine lr (fun u1 hu1 => sv rfl (s_nil (lr (fun u2 hu2 => sv rfl (sv rfl (bs h fun v1 hv1 h => s_call rfl rfl all2_refl (slices_IndexFunc_Phase_Phase_roads_greens_1_1bb_ok _ _ _  _ hv1) (.inl rfl) (sv rfl (sv rfl (s_nil (l_ret ?_))))))))))
 cases h
 exact fin_ok (.inr rfl) (resD1 (res_t rfl) rf_d) (.refl _)

noncomputable def roads_greens_1_b (p1 : Zone) (p2 : Int) (p3 : Int) (p4 : Map) : Option Bool :=
  ((cond (decide (p1.Signal_ > 0)) (geti p4.Signals (w64 (p1.Signal_ - 1))) (some default))).bind fun v1 => ((cond (decide (p1.Signal_ > 0)) (slices_ContainsFunc_Phase_Phase_roads_greens_1_1bb v1.Phases p2 p3) (some default))).bind fun v2 => some ((decide (p1.Signal_ > 0)) && v2)

theorem roads_greens_1_b_ok (p1 : Zone) (p2 : Int) (p3 : Int) (p4 : Map) (r : Bool) (h : roads_greens_1_b p1 p2 p3 p4 = some r) : PCall Tryz.prog 187 [(.agg [(.list (List.map ePart p1.Parts)), (i64 p1.Signal_)]), (i64 p2), (i64 p3), (.bp (eMap p4) 0)] (bo r) := by
 refine l_call (fk Tryz.func187 Tryz.ntmps187 m0 (by with_unfolding_all rfl)) (nl rfl) ?_
 unfold roads_greens_1_b at h
 refine l_sub (s0 := ⟨T [(0, (.d _)), (1, (.d _)), (2, (.d _)), (3, (.d _))], G []⟩) (sbr rfl rfl) ?_
 refine lr (fun u1 hu1 => sn rfl rfl (sn rfl rfl (sn rfl rfl (sv rfl (s_nil (lr (fun u2 hu2 => sp rfl rfl (sl rfl (gq rfl) rfl (sv rfl (sv rfl (gt rfl (fun _ => rfl) ?_)))))))))))
 refine gt rfl (fun w2 => (by simp only [gd_pos w2]; rfl)) ?_
 refine gp rfl (gw_t rfl) (fun _ => rfl) (gt rfl (vl rfl (gq rfl) rfl) (gt rfl (vb rfl rfl rfl) (bs h fun v1 hv1 h => gt rfl (fun w6 => (v_idx (gd_pos w6) (gd_pos w6) (cond_t w6 hv1) rfl)) ?_)))
 refine gt rfl (fun w7 => (by simp only [gd_pos w7]; rfl)) ?_
 refine gt rfl (fun w8 => (v_loadL (gd_pos w8) (cond_t w8 hv1) rfl)) (g_val _ (.fn _ _ _) rfl (gw_t rfl) (fun _ => rfl) (bs h fun v2 hv2 h => ?_))
 refine g_call _ (bo v2) (gw_t rfl) (fun w10 => ⟨_, [(dl ePhase v1.Phases), (.fn (.func 188) [] [(.ptr (5, u1) 0), (.ptr (6, u1) 0)])], _, _, (by simp only [gd_pos w10]; rfl), (rD (rfL_cons (rf_fn rfL_nil (rfL_cons (rf_ptr (gq rfl) (rD rfL_nil)) (rfL_cons (rf_ptr G_hit (rD rfL_nil)) rfL_nil))) rfL_nil)), all2_refl, slices_ContainsFunc_Phase_Phase_roads_greens_1_1bb_ok _ _ _  _ (cond_t w10 hv2), (.inr rfl)⟩) ?_
 refine sa rfl rfl rfl (sv rfl (s_nil (l_ret ?_)))
 cases h
 exact fin_ok (.inr rfl) (resD1 (res_t rfl) rf_d) (.refl _)

noncomputable def roads_pairs_roads_greens_1b_l3 (p2 : Int) (p3 : Map) (x1 : ((List Clash) × Int)) (v1 : Zone) (v3 : Int) (v4 : List Int) (x3 : ((List Clash) × Int)) : Option (Stp ((List Clash) × Int) (List Clash)) :=
  cond (decide (x3.2 < (v4.length : Int))) ((geti v4 x3.2).bind fun v5 => (roads_greens_1_b v1 v3 v5 p3).bind fun v6 => cond v6 ((appc x3.1 [(Clash.mk p2 x1.2 v3 v5)]).bind fun v7 => some (.go (v7, (w64 (x3.2 + 1))))) (some (.go (x3.1, (w64 (x3.2 + 1)))))) (some (.out x3.1))
noncomputable def roads_pairs_roads_greens_1b_l2 (p2 : Int) (p3 : Map) (x1 : ((List Clash) × Int)) (v1 : Zone) (v2 : (List Int)) (x2 : ((List Clash) × Int)) : Option (Stp ((List Clash) × Int) (List Clash)) :=
  cond (decide (x2.2 < (v2.length : Int))) ((geti v2 x2.2).bind fun v3 => (subl v2 (w64 (x2.2 + 1)) (v2.length : Int)).bind fun v4 => (loop (roads_pairs_roads_greens_1b_l3 p2 p3 x1 v1 v3 v4) (x2.1, 0)).bind fun y3 => some (.go (y3, (w64 (x2.2 + 1))))) (some (.out x2.1))
noncomputable def roads_pairs_roads_greens_1b_l1 (p1 : Map) (p2 : Int) (p3 : Map) (x1 : ((List Clash) × Int)) : Option (Stp ((List Clash) × Int) (List Clash)) :=
  cond (decide (x1.2 < (p1.Zones.length : Int))) ((geti p1.Zones x1.2).bind fun v1 => (roads_entries p1 v1).bind fun v2 => (loop (roads_pairs_roads_greens_1b_l2 p2 p3 x1 v1 v2) (x1.1, 0)).bind fun y2 => some (.go (y2, (w64 (x1.2 + 1))))) (some (.out x1.1))
noncomputable def roads_pairs_roads_greens_1b (p1 : Map) (p2 : Int) (p3 : Map) : Option (List Clash) :=
  (loop (roads_pairs_roads_greens_1b_l1 p1 p2 p3) ([], 0)).bind fun y1 => some y1

theorem roads_pairs_roads_greens_1b_ok (p1 : Map) (p2 : Int) (p3 : Map) (r : (List Clash)) (h : roads_pairs_roads_greens_1b p1 p2 p3 = some r) : PCall Tryz.prog 185 [(.agg (eMap p1)), (i64 p2), (.fn (.func 187) [] [(.bp (eMap p3) 0)])] (.list (List.map eClash r)) := by
 refine l_call (fk Tryz.func185 Tryz.ntmps185 (fun r => if r == 12 then [1006] else []) (by with_unfolding_all rfl)) (nl rfl) ?_
 unfold roads_pairs_roads_greens_1b at h
 refine l_sub (s0 := ⟨T [(0, (.d _)), (1, (.d _)), (2, (.d _))], G []⟩) (sbr rfl rfl) ?_
 refine lr (fun u1 hu1 => sn rfl rfl (sv rfl (s_nil (l_seq (lr (fun u2 hu2 => sp rfl rfl (sl rfl G_hit rfl (sd rfl (v_len rfl) (sv rfl (s_nil (bs h fun y1 hy1 h => l_join (fun s => ∃ g1 : Nat, Sb ⟨T [(6, (oS y1 (53, g1)))], G [((53, g1), oB 93 4 eClash y1)]⟩ s) ?_ ?_)))))))))))
 refine l_block (l_loop (roads_pairs_roads_greens_1b_l1 p1 p2 p3) (fun (x1 : ((List Clash) × Int)) (g2 : Nat) => ⟨T [(1, (di p2)), (2, (.d (.fn (.func 187) [] [(.bp (eMap p3) 0)]))), (3, (.ptr (3, u1) 0)), (6, (oS x1.1 (53, g2))), (15, (dl eZone p1.Zones)), (16, (di (p1.Zones.length : Int))), (17, (di x1.2))], G [((3, u1), some (.box 27 (dMap p1))), ((53, g2), oB 93 4 eClash x1.1)]⟩) ([], 0) 0 _ hy1 (sb_of ⟨.of rfl, .of rfl, .of rfl, .of rfl, .of rfl, .of rfl, .of rfl, trivial⟩ (sbG_some G_hit (.of rfl) (sbG_nil trivial))) ?_)
 intro x1 g2 z1 hz1 ez1
 unfold roads_pairs_roads_greens_1b_l1 at hz1
 refine lr (fun u3 hu3 => sv rfl (s_nil (l_seq (cc rfl hz1 (fun c1 hz1 => ?_) (fun c1 hz1 => ?_)))))
 refine l_skip (l_seq (l_block (lr (fun u4 hu4 => sv rfl (bs hz1 fun v1 hv1 hz1 => sd rfl (v_idx rfl rfl hv1 rfl) (sd rfl (v_loadLG rfl hv1 rfl rfl) (sn rfl rfl (sv rfl (sst rfl G_hit [(dl ePart v1.Parts), (di v1.Signal_)] rfl (s_nil (lr (fun u5 hu5 => sd rfl (v_loadG rfl (gq rfl) rfl rfl) (sd rfl (v_loadG rfl G_hit rfl rfl) (bs hz1 fun v2 hv2 hz1 => s_call rfl rfl all2_refl (roads_entries_ok _ _  _ hv2) (.inl rfl) (sv rfl (s_nil (lr (fun u6 hu6 => sv rfl (sd rfl (v_len rfl) (sv rfl (s_nil (bs hz1 fun y2 hy2 hz1 => l_join (fun s => ∃ g3 : Nat, Sb ⟨T [(1, (di p2)), (2, (.d (.fn (.func 187) [] [(.bp (eMap p3) 0)]))), (3, (.ptr (3, u1) 0)), (6, (oS y2 (53, g3))), (15, (dl eZone p1.Zones)), (16, (di (p1.Zones.length : Int))), (17, (di x1.2))], G [((3, u1), some (.box 27 (dMap p1))), ((53, g3), oB 93 4 eClash y2)]⟩ s) ?_ ?_))))))))))))))))))))))
 refine l_block (l_loop (roads_pairs_roads_greens_1b_l2 p2 p3 x1 v1 v2) (fun (x2 : ((List Clash) × Int)) (g4 : Nat) => ⟨T [(1, (di p2)), (2, (.d (.fn (.func 187) [] [(.bp (eMap p3) 0)]))), (3, (.ptr (3, u1) 0)), (6, (oS x2.1 (53, g4))), (7, (di x1.2)), (8, (.ptr (8, u4) 0)), (9, (dl eInt_i64 v2)), (15, (dl eZone p1.Zones)), (16, (di (p1.Zones.length : Int))), (17, (di x1.2)), (25, (dl eInt_i64 v2)), (26, (di (v2.length : Int))), (27, (di x2.2))], G [((3, u1), some (.box 27 (dMap p1))), ((8, u4), some (.box 45 [(dl ePart v1.Parts), (di v1.Signal_)])), ((53, g4), oB 93 4 eClash x2.1)]⟩) (x1.1, 0) g2 _ hy2 (sb_of ⟨.of rfl, .of rfl, .of rfl, .of rfl, .of rfl, .of rfl, .of rfl, .of rfl, .of rfl, .of rfl, .of rfl, .of rfl, .of rfl, trivial⟩ (sg rfl (sbG_some G_hit (.of rfl) (sbG_oB (gq rfl) trivial)))) ?_)
 intro x2 g4 z2 hz2 ez2
 unfold roads_pairs_roads_greens_1b_l2 at hz2
 refine lr (fun u7 hu7 => sv rfl (s_nil (l_seq (cc rfl hz2 (fun c2 hz2 => ?_) (fun c2 hz2 => ?_)))))
 refine l_skip (l_seq (l_block (lr (fun u8 hu8 => sv rfl (bs hz2 fun v3 hv3 hz2 => sd rfl (v_idx rfl rfl hv3 rfl) (sd rfl (v_loadL rfl hv3 rfl) (sv rfl (sv rfl (s_nil (lr (fun u9 hu9 => sv rfl (sv rfl (sv rfl (bs hz2 fun v4 hv4 hz2 => sd rfl (v_sub rfl (fun _ => rfl) (bd_x rfl) bd_end hv4) (sd rfl (v_len rfl) (sv rfl (s_nil (bs hz2 fun y3 hy3 hz2 => l_join (fun s => ∃ g5 : Nat, Sb ⟨T [(1, (di p2)), (2, (.d (.fn (.func 187) [] [(.bp (eMap p3) 0)]))), (3, (.ptr (3, u1) 0)), (6, (oS y3 (53, g5))), (7, (di x1.2)), (8, (.ptr (8, u4) 0)), (9, (dl eInt_i64 v2)), (15, (dl eZone p1.Zones)), (16, (di (p1.Zones.length : Int))), (17, (di x1.2)), (25, (dl eInt_i64 v2)), (26, (di (v2.length : Int))), (27, (di x2.2))], G [((3, u1), some (.box 27 (dMap p1))), ((8, u4), some (.box 45 [(dl ePart v1.Parts), (di v1.Signal_)])), ((53, g5), oB 93 4 eClash y3)]⟩ s) ?_ ?_))))))))))))))))))
 refine l_block (l_loop (roads_pairs_roads_greens_1b_l3 p2 p3 x1 v1 v3 v4) (fun (x3 : ((List Clash) × Int)) (g6 : Nat) => ⟨T [(1, (di p2)), (2, (.d (.fn (.func 187) [] [(.bp (eMap p3) 0)]))), (3, (.ptr (3, u1) 0)), (6, (oS x3.1 (53, g6))), (7, (di x1.2)), (8, (.ptr (8, u4) 0)), (9, (dl eInt_i64 v2)), (11, (di v3)), (15, (dl eZone p1.Zones)), (16, (di (p1.Zones.length : Int))), (17, (di x1.2)), (25, (dl eInt_i64 v2)), (26, (di (v2.length : Int))), (27, (di x2.2)), (35, (dl eInt_i64 v4)), (36, (di (v4.length : Int))), (37, (di x3.2))], G [((3, u1), some (.box 27 (dMap p1))), ((8, u4), some (.box 45 [(dl ePart v1.Parts), (di v1.Signal_)])), ((53, g6), oB 93 4 eClash x3.1)]⟩) (x2.1, 0) g4 _ hy3 (sb_of ⟨.of rfl, .of rfl, .of rfl, .of rfl, .of rfl, .of rfl, .of rfl, .of rfl, .of rfl, .of rfl, .of rfl, .of rfl, .of rfl, .of rfl, .of rfl, .of rfl, .of rfl, trivial⟩ (sbG_some G_hit (.of rfl) (sg rfl (sbG_oB (gq rfl) trivial)))) ?_)
 intro x3 g6 z3 hz3 ez3
 unfold roads_pairs_roads_greens_1b_l3 at hz3
 refine lr (fun u10 hu10 => sv rfl (s_nil (l_seq (cc rfl hz3 (fun c3 hz3 => ?_) (fun c3 hz3 => ?_)))))
 refine l_skip (l_seq (l_block (lr (fun u11 hu11 => bs hz3 fun v5 hv5 hz3 => sd rfl (v_idx rfl rfl hv5 rfl) (sd rfl (v_loadL rfl hv5 rfl) (sv rfl (s_nil (lr (fun u12 hu12 => sv rfl (sd rfl (v_loadG rfl (gq rfl) rfl rfl) (sv rfl (sv rfl (bs hz3 fun v6 hv6 hz3 => s_call rfl rfl all2_refl (roads_greens_1_b_ok _ _ _ _  _ hv6) (.inl rfl) (s_nil (cc rfl hz3 (fun c4 hz3 => ?_) (fun c4 hz3 => ?_))))))))))))))))
 refine l_sub (s0 := ⟨T [(1, (di p2)), (2, (.d (.fn (.func 187) [] [(.bp (eMap p3) 0)]))), (3, (.ptr (3, u1) 0)), (6, (oS x3.1 (53, g6))), (7, (di x1.2)), (8, (.ptr (8, u4) 0)), (9, (dl eInt_i64 v2)), (11, (di v3)), (13, (di v5)), (15, (dl eZone p1.Zones)), (16, (di (p1.Zones.length : Int))), (17, (di x1.2)), (25, (dl eInt_i64 v2)), (26, (di (v2.length : Int))), (27, (di x2.2)), (35, (dl eInt_i64 v4)), (36, (di (v4.length : Int))), (37, (di x3.2))], G [((3, u1), some (.box 27 (dMap p1))), ((53, g6), oB 93 4 eClash x3.1), ((8, u4), some (.box 45 [(dl ePart v1.Parts), (di v1.Signal_)]))]⟩) (sb_of ⟨.of rfl, .of rfl, .of rfl, .of rfl, .of rfl, .of rfl, .of rfl, .of rfl, .of rfl, .of rfl, .of rfl, .of rfl, .of rfl, .of rfl, .of rfl, .of rfl, .of rfl, .of rfl, trivial⟩ (sbG_some G_hit (.of rfl) (sbG_oB (gq rfl) (sg rfl trivial)))) ?_
 refine l_reg fun u13 hu13 => s_val (oS x3.1 (53, g6)) rfl rfl (sv rfl (sv rfl (sv rfl (sv rfl (sv rfl (s_val (dl eClash [(Clash.mk p2 x1.2 v3 v5)]) rfl rfl (bs hz3 fun v7 hv7 hz3 => s_appendO eClash (53, g6) x3.1 (Clash.mk p2 x1.2 v3 v5) [] _ (elems_list (fun _ => rfl)) rfl (gq rfl) hv7 (ss rfl (s_nil (l_end (l_sub (s0 := ⟨T [(1, (.d _)), (2, (.d _)), (3, (.ptr _ _)), (6, (.sl _)), (7, (.d _)), (8, (.ptr _ _)), (9, (.d _)), (11, (.d _)), (15, (.d _)), (16, (.d _)), (17, (.d _)), (25, (.d _)), (26, (.d _)), (27, (.d _)), (35, (.d _)), (36, (.d _)), (37, (.d _))], G [((3, u1), some (.box 27 _)), ((53, u13), some _), ((8, u4), some (.box 45 _))]⟩) (sbr rfl rfl) ?_)))))))))))
 refine l_reg fun u14 hu14 => sv rfl (sv rfl (s_nil (l_nil ?_)))
 cases hz3
 exact ⟨rfl, u13, (sb_of ⟨.of rfl, .of rfl, .of rfl, (.of (oS_ne (appc_ne hv7)).symm), .of rfl, .of rfl, .of rfl, .of rfl, .of rfl, .of rfl, .of rfl, .of rfl, .of rfl, .of rfl, .of rfl, .of rfl, .of rfl, trivial⟩ (sbG_some G_hit (.of rfl) (sg rfl (sbG_own (gq rfl) trivial))))⟩
 refine l_skip (l_end (l_sub (s0 := ⟨T [(1, (di p2)), (2, (.d (.fn (.func 187) [] [(.bp (eMap p3) 0)]))), (3, (.ptr (3, u1) 0)), (6, (oS x3.1 (53, g6))), (7, (di x1.2)), (8, (.ptr (8, u4) 0)), (9, (dl eInt_i64 v2)), (11, (di v3)), (15, (dl eZone p1.Zones)), (16, (di (p1.Zones.length : Int))), (17, (di x1.2)), (25, (dl eInt_i64 v2)), (26, (di (v2.length : Int))), (27, (di x2.2)), (35, (dl eInt_i64 v4)), (36, (di (v4.length : Int))), (37, (di x3.2))], G [((3, u1), some (.box 27 (dMap p1))), ((53, g6), oB 93 4 eClash x3.1), ((8, u4), some (.box 45 [(dl ePart v1.Parts), (di v1.Signal_)]))]⟩) (sb_of ⟨.of rfl, .of rfl, .of rfl, .of rfl, .of rfl, .of rfl, .of rfl, .of rfl, .of rfl, .of rfl, .of rfl, .of rfl, .of rfl, .of rfl, .of rfl, .of rfl, .of rfl, trivial⟩ (sbG_some G_hit (.of rfl) (sbG_oB (gq rfl) (sg rfl trivial)))) ?_))
 refine l_reg fun u15 hu15 => sv rfl (sv rfl (s_nil (l_nil ?_)))
 cases hz3
 exact ⟨rfl, g6, (sb_of ⟨.of rfl, .of rfl, .of rfl, .of rfl, .of rfl, .of rfl, .of rfl, .of rfl, .of rfl, .of rfl, .of rfl, .of rfl, .of rfl, .of rfl, .of rfl, .of rfl, .of rfl, trivial⟩ (sbG_some G_hit (.of rfl) (sg rfl (sbG_oB (gq rfl) trivial))))⟩
 refine l_exitN rfl ?_
 cases hz3
 obtain rfl := ez3 _ rfl
 refine ⟨nofun, awl_pop rfl (l_j ?_)⟩
 exact ⟨g6, (sb_of ⟨.of rfl, .of rfl, .of rfl, .of rfl, .of rfl, .of rfl, .of rfl, .of rfl, .of rfl, .of rfl, .of rfl, .of rfl, .of rfl, trivial⟩ (sbG_some G_hit (.of rfl) (sg rfl (sbG_oB (gq rfl) trivial))))⟩
 rintro _ ⟨g5, q1⟩
 refine l_end (l_sub q1 (l_reg fun u16 hu16 => sv rfl (sv rfl (s_nil (l_nil ?_)))))
 cases hz2
 exact ⟨rfl, g5, (sb_of ⟨.of rfl, .of rfl, .of rfl, .of rfl, .of rfl, .of rfl, .of rfl, .of rfl, .of rfl, .of rfl, .of rfl, .of rfl, .of rfl, trivial⟩ (sbG_some G_hit (.of rfl) (sg rfl (sbG_oB (gq rfl) trivial))))⟩
 refine l_exitN rfl ?_
 cases hz2
 obtain rfl := ez2 _ rfl
 refine ⟨nofun, awl_pop rfl (l_j ?_)⟩
 exact ⟨g4, (sb_of ⟨.of rfl, .of rfl, .of rfl, .of rfl, .of rfl, .of rfl, .of rfl, trivial⟩ (sbG_some G_hit (.of rfl) (sbG_oB (gq rfl) trivial)))⟩
 rintro _ ⟨g3, q2⟩
 refine l_end (l_sub q2 (l_reg fun u17 hu17 => sv rfl (sv rfl (s_nil (l_nil ?_)))))
 cases hz1
 exact ⟨rfl, g3, (sb_of ⟨.of rfl, .of rfl, .of rfl, .of rfl, .of rfl, .of rfl, .of rfl, trivial⟩ (sbG_some G_hit (.of rfl) (sbG_oB (gq rfl) trivial)))⟩
 refine l_exitN rfl ?_
 cases hz1
 obtain rfl := ez1 _ rfl
 refine ⟨nofun, awl_pop rfl (l_j ?_)⟩
 exact ⟨g2, (sb_of ⟨.of rfl, trivial⟩ (sbG_oB (gq rfl) trivial))⟩
 rintro _ ⟨g1, q3⟩
 refine l_sub q3 (lr (fun u18 hu18 => s_val (oS y1 (53, g1)) rfl rfl (s_val (oS y1 (53, g1)) rfl rfl (s_nil (l_ret ?_)))))
 cases h
 exact fin_ok (.inr rfl) (resD1 (res_t rfl) (rf_oS G_hit)) oD_le

noncomputable def roads_pairs_roads_greens_1o_l3 (p2 : Int) (p3 : Map) (x1 : ((List Clash) × Int)) (v1 : Zone) (v3 : Int) (v4 : List Int) (x3 : ((List Clash) × Int)) : Option (Stp ((List Clash) × Int) (List Clash)) :=
  cond (decide (x3.2 < (v4.length : Int))) ((geti v4 x3.2).bind fun v5 => (roads_greens_1_b v1 v3 v5 p3).bind fun v6 => cond v6 ((appc x3.1 [(Clash.mk p2 x1.2 v3 v5)]).bind fun v7 => some (.go (v7, (w64 (x3.2 + 1))))) (some (.go (x3.1, (w64 (x3.2 + 1)))))) (some (.out x3.1))
noncomputable def roads_pairs_roads_greens_1o_l2 (p2 : Int) (p3 : Map) (x1 : ((List Clash) × Int)) (v1 : Zone) (v2 : (List Int)) (x2 : ((List Clash) × Int)) : Option (Stp ((List Clash) × Int) (List Clash)) :=
  cond (decide (x2.2 < (v2.length : Int))) ((geti v2 x2.2).bind fun v3 => (subl v2 (w64 (x2.2 + 1)) (v2.length : Int)).bind fun v4 => (loop (roads_pairs_roads_greens_1o_l3 p2 p3 x1 v1 v3 v4) (x2.1, 0)).bind fun y3 => some (.go (y3, (w64 (x2.2 + 1))))) (some (.out x2.1))
noncomputable def roads_pairs_roads_greens_1o_l1 (p1 : Map) (p2 : Int) (p3 : Map) (x1 : ((List Clash) × Int)) : Option (Stp ((List Clash) × Int) (List Clash)) :=
  cond (decide (x1.2 < (p1.Zones.length : Int))) ((geti p1.Zones x1.2).bind fun v1 => (roads_entries p1 v1).bind fun v2 => (loop (roads_pairs_roads_greens_1o_l2 p2 p3 x1 v1 v2) (x1.1, 0)).bind fun y2 => some (.go (y2, (w64 (x1.2 + 1))))) (some (.out x1.1))
noncomputable def roads_pairs_roads_greens_1o (p1 : Map) (p2 : Int) (p3 : Map) : Option (List Clash) :=
  (loop (roads_pairs_roads_greens_1o_l1 p1 p2 p3) ([], 0)).bind fun y1 => some y1

theorem roads_pairs_roads_greens_1o_ok (p1 : Map) (p2 : Int) (p3 : Map) (r : (List Clash)) (h : roads_pairs_roads_greens_1o p1 p2 p3 = some r) : MCall Tryz.prog 185 [(.d (.agg (eMap p1))), (di p2), (.fn (.func 187) [] [(.ptr (900000, 0) 0)])] [(.box 27 (dMap p3))] (dl eClash r) [some (.box 27 (dMap p3))] [] := by
 refine m_callF (fk Tryz.func185 Tryz.ntmps185 (fun r => if r == 12 then [1006] else []) (by with_unfolding_all rfl)) rfl (nl rfl) ?_
 unfold roads_pairs_roads_greens_1o at h
 refine l_sub (s0 := ⟨T [(0, (.d _)), (1, (.d _)), (2, (.fn _ _ _))], G [((900000, 0), some (.box 27 _))]⟩) (sbr rfl rfl) ?_
 refine lr (fun u1 hu1 => sn rfl rfl (sv rfl (s_nil (l_seq (lr (fun u2 hu2 => sp rfl rfl (sl rfl G_hit rfl (sd rfl (v_len rfl) (sv rfl (s_nil (bs h fun y1 hy1 h => l_join (fun s => ∃ g1 : Nat, Sb ⟨T [(2, (.fn (.func 187) [] [(.ptr (900000, 0) 0)])), (6, (oS y1 (53, g1)))], G [((900000, 0), some (.box 27 (dMap p3))), ((53, g1), oB 93 4 eClash y1)]⟩ s) ?_ ?_)))))))))))
 refine l_block (l_loop (roads_pairs_roads_greens_1o_l1 p1 p2 p3) (fun (x1 : ((List Clash) × Int)) (g2 : Nat) => ⟨T [(1, (di p2)), (2, (.fn (.func 187) [] [(.ptr (900000, 0) 0)])), (3, (.ptr (3, u1) 0)), (6, (oS x1.1 (53, g2))), (15, (dl eZone p1.Zones)), (16, (di (p1.Zones.length : Int))), (17, (di x1.2))], G [((900000, 0), some (.box 27 (dMap p3))), ((3, u1), some (.box 27 (dMap p1))), ((53, g2), oB 93 4 eClash x1.1)]⟩) ([], 0) 0 _ hy1 (sb_of ⟨.of rfl, .of rfl, .of rfl, .of rfl, .of rfl, .of rfl, .of rfl, trivial⟩ (sg rfl (sbG_some G_hit (.of rfl) (sbG_nil trivial)))) ?_)
 intro x1 g2 z1 hz1 ez1
 unfold roads_pairs_roads_greens_1o_l1 at hz1
 refine lr (fun u3 hu3 => sv rfl (s_nil (l_seq (cc rfl hz1 (fun c1 hz1 => ?_) (fun c1 hz1 => ?_)))))
 refine l_skip (l_seq (l_block (lr (fun u4 hu4 => sv rfl (bs hz1 fun v1 hv1 hz1 => sd rfl (v_idx rfl rfl hv1 rfl) (sd rfl (v_loadLG rfl hv1 rfl rfl) (sn rfl rfl (sv rfl (sst rfl G_hit [(dl ePart v1.Parts), (di v1.Signal_)] rfl (s_nil (lr (fun u5 hu5 => sd rfl (v_loadG rfl (gq rfl) rfl rfl) (sd rfl (v_loadG rfl G_hit rfl rfl) (bs hz1 fun v2 hv2 hz1 => s_call rfl rfl all2_refl (roads_entries_ok _ _  _ hv2) (.inl rfl) (sv rfl (s_nil (lr (fun u6 hu6 => sv rfl (sd rfl (v_len rfl) (sv rfl (s_nil (bs hz1 fun y2 hy2 hz1 => l_join (fun s => ∃ g3 : Nat, Sb ⟨T [(1, (di p2)), (2, (.fn (.func 187) [] [(.ptr (900000, 0) 0)])), (3, (.ptr (3, u1) 0)), (6, (oS y2 (53, g3))), (15, (dl eZone p1.Zones)), (16, (di (p1.Zones.length : Int))), (17, (di x1.2))], G [((900000, 0), some (.box 27 (dMap p3))), ((3, u1), some (.box 27 (dMap p1))), ((53, g3), oB 93 4 eClash y2)]⟩ s) ?_ ?_))))))))))))))))))))))
 refine l_block (l_loop (roads_pairs_roads_greens_1o_l2 p2 p3 x1 v1 v2) (fun (x2 : ((List Clash) × Int)) (g4 : Nat) => ⟨T [(1, (di p2)), (2, (.fn (.func 187) [] [(.ptr (900000, 0) 0)])), (3, (.ptr (3, u1) 0)), (6, (oS x2.1 (53, g4))), (7, (di x1.2)), (8, (.ptr (8, u4) 0)), (9, (dl eInt_i64 v2)), (15, (dl eZone p1.Zones)), (16, (di (p1.Zones.length : Int))), (17, (di x1.2)), (25, (dl eInt_i64 v2)), (26, (di (v2.length : Int))), (27, (di x2.2))], G [((900000, 0), some (.box 27 (dMap p3))), ((3, u1), some (.box 27 (dMap p1))), ((8, u4), some (.box 45 [(dl ePart v1.Parts), (di v1.Signal_)])), ((53, g4), oB 93 4 eClash x2.1)]⟩) (x1.1, 0) g2 _ hy2 (sb_of ⟨.of rfl, .of rfl, .of rfl, .of rfl, .of rfl, .of rfl, .of rfl, .of rfl, .of rfl, .of rfl, .of rfl, .of rfl, .of rfl, trivial⟩ (sg rfl (sg rfl (sbG_some G_hit (.of rfl) (sbG_oB (gq rfl) trivial))))) ?_)
 intro x2 g4 z2 hz2 ez2
 unfold roads_pairs_roads_greens_1o_l2 at hz2
 refine lr (fun u7 hu7 => sv rfl (s_nil (l_seq (cc rfl hz2 (fun c2 hz2 => ?_) (fun c2 hz2 => ?_)))))
 refine l_skip (l_seq (l_block (lr (fun u8 hu8 => sv rfl (bs hz2 fun v3 hv3 hz2 => sd rfl (v_idx rfl rfl hv3 rfl) (sd rfl (v_loadL rfl hv3 rfl) (sv rfl (sv rfl (s_nil (lr (fun u9 hu9 => sv rfl (sv rfl (sv rfl (bs hz2 fun v4 hv4 hz2 => sd rfl (v_sub rfl (fun _ => rfl) (bd_x rfl) bd_end hv4) (sd rfl (v_len rfl) (sv rfl (s_nil (bs hz2 fun y3 hy3 hz2 => l_join (fun s => ∃ g5 : Nat, Sb ⟨T [(1, (di p2)), (2, (.fn (.func 187) [] [(.ptr (900000, 0) 0)])), (3, (.ptr (3, u1) 0)), (6, (oS y3 (53, g5))), (7, (di x1.2)), (8, (.ptr (8, u4) 0)), (9, (dl eInt_i64 v2)), (15, (dl eZone p1.Zones)), (16, (di (p1.Zones.length : Int))), (17, (di x1.2)), (25, (dl eInt_i64 v2)), (26, (di (v2.length : Int))), (27, (di x2.2))], G [((900000, 0), some (.box 27 (dMap p3))), ((3, u1), some (.box 27 (dMap p1))), ((8, u4), some (.box 45 [(dl ePart v1.Parts), (di v1.Signal_)])), ((53, g5), oB 93 4 eClash y3)]⟩ s) ?_ ?_))))))))))))))))))
 refine l_block (l_loop (roads_pairs_roads_greens_1o_l3 p2 p3 x1 v1 v3 v4) (fun (x3 : ((List Clash) × Int)) (g6 : Nat) => ⟨T [(1, (di p2)), (2, (.fn (.func 187) [] [(.ptr (900000, 0) 0)])), (3, (.ptr (3, u1) 0)), (6, (oS x3.1 (53, g6))), (7, (di x1.2)), (8, (.ptr (8, u4) 0)), (9, (dl eInt_i64 v2)), (11, (di v3)), (15, (dl eZone p1.Zones)), (16, (di (p1.Zones.length : Int))), (17, (di x1.2)), (25, (dl eInt_i64 v2)), (26, (di (v2.length : Int))), (27, (di x2.2)), (35, (dl eInt_i64 v4)), (36, (di (v4.length : Int))), (37, (di x3.2))], G [((900000, 0), some (.box 27 (dMap p3))), ((3, u1), some (.box 27 (dMap p1))), ((8, u4), some (.box 45 [(dl ePart v1.Parts), (di v1.Signal_)])), ((53, g6), oB 93 4 eClash x3.1)]⟩) (x2.1, 0) g4 _ hy3 (sb_of ⟨.of rfl, .of rfl, .of rfl, .of rfl, .of rfl, .of rfl, .of rfl, .of rfl, .of rfl, .of rfl, .of rfl, .of rfl, .of rfl, .of rfl, .of rfl, .of rfl, .of rfl, trivial⟩ (sbG_some G_hit (.of rfl) (sg rfl (sg rfl (sbG_oB (gq rfl) trivial))))) ?_)
 intro x3 g6 z3 hz3 ez3
 unfold roads_pairs_roads_greens_1o_l3 at hz3
 refine lr (fun u10 hu10 => sv rfl (s_nil (l_seq (cc rfl hz3 (fun c3 hz3 => ?_) (fun c3 hz3 => ?_)))))
 refine l_skip (l_seq (l_block (lr (fun u11 hu11 => bs hz3 fun v5 hv5 hz3 => sd rfl (v_idx rfl rfl hv5 rfl) (sd rfl (v_loadL rfl hv5 rfl) (sv rfl (s_nil (lr (fun u12 hu12 => s_val (.fn _ _ _) rfl rfl (sd rfl (v_loadG rfl (gq rfl) rfl rfl) (sv rfl (sv rfl (bs hz3 fun v6 hv6 hz3 => s_call rfl (rD (rD (rD (rfL_cons (rf_ptr G_hit (rD (rD (rD (rD (rD rfL_nil)))))) rfL_nil)))) all2_refl (roads_greens_1_b_ok _ _ _ _  _ hv6) (.inr rfl) (s_nil (cc rfl hz3 (fun c4 hz3 => ?_) (fun c4 hz3 => ?_))))))))))))))))
 refine l_sub (s0 := ⟨T [(1, (di p2)), (2, (.fn (.func 187) [] [(.ptr (900000, 0) 0)])), (3, (.ptr (3, u1) 0)), (6, (oS x3.1 (53, g6))), (7, (di x1.2)), (8, (.ptr (8, u4) 0)), (9, (dl eInt_i64 v2)), (11, (di v3)), (13, (di v5)), (15, (dl eZone p1.Zones)), (16, (di (p1.Zones.length : Int))), (17, (di x1.2)), (25, (dl eInt_i64 v2)), (26, (di (v2.length : Int))), (27, (di x2.2)), (35, (dl eInt_i64 v4)), (36, (di (v4.length : Int))), (37, (di x3.2))], G [((900000, 0), some (.box 27 (dMap p3))), ((3, u1), some (.box 27 (dMap p1))), ((53, g6), oB 93 4 eClash x3.1), ((8, u4), some (.box 45 [(dl ePart v1.Parts), (di v1.Signal_)]))]⟩) (sb_of ⟨.of rfl, .of rfl, .of rfl, .of rfl, .of rfl, .of rfl, .of rfl, .of rfl, .of rfl, .of rfl, .of rfl, .of rfl, .of rfl, .of rfl, .of rfl, .of rfl, .of rfl, .of rfl, trivial⟩ (sbG_some G_hit (.of rfl) (sg rfl (sbG_oB (gq rfl) (sg rfl trivial))))) ?_
 refine l_reg fun u13 hu13 => s_val (oS x3.1 (53, g6)) rfl rfl (sv rfl (sv rfl (sv rfl (sv rfl (sv rfl (s_val (dl eClash [(Clash.mk p2 x1.2 v3 v5)]) rfl rfl (bs hz3 fun v7 hv7 hz3 => s_appendO eClash (53, g6) x3.1 (Clash.mk p2 x1.2 v3 v5) [] _ (elems_list (fun _ => rfl)) rfl (gq rfl) hv7 (ss rfl (s_nil (l_end (l_sub (s0 := ⟨T [(1, (.d _)), (2, (.fn _ _ _)), (3, (.ptr _ _)), (6, (.sl _)), (7, (.d _)), (8, (.ptr _ _)), (9, (.d _)), (11, (.d _)), (15, (.d _)), (16, (.d _)), (17, (.d _)), (25, (.d _)), (26, (.d _)), (27, (.d _)), (35, (.d _)), (36, (.d _)), (37, (.d _))], G [((900000, 0), some (.box 27 _)), ((3, u1), some (.box 27 _)), ((53, u13), some _), ((8, u4), some (.box 45 _))]⟩) (sbr rfl rfl) ?_)))))))))))
 refine l_reg fun u14 hu14 => sv rfl (sv rfl (s_nil (l_nil ?_)))
 cases hz3
 exact ⟨rfl, u13, (sb_of ⟨.of rfl, .of rfl, .of rfl, (.of (oS_ne (appc_ne hv7)).symm), .of rfl, .of rfl, .of rfl, .of rfl, .of rfl, .of rfl, .of rfl, .of rfl, .of rfl, .of rfl, .of rfl, .of rfl, .of rfl, trivial⟩ (sbG_some G_hit (.of rfl) (sg rfl (sg rfl (sbG_own (gq rfl) trivial)))))⟩
 refine l_skip (l_end (l_sub (s0 := ⟨T [(1, (di p2)), (2, (.fn (.func 187) [] [(.ptr (900000, 0) 0)])), (3, (.ptr (3, u1) 0)), (6, (oS x3.1 (53, g6))), (7, (di x1.2)), (8, (.ptr (8, u4) 0)), (9, (dl eInt_i64 v2)), (11, (di v3)), (15, (dl eZone p1.Zones)), (16, (di (p1.Zones.length : Int))), (17, (di x1.2)), (25, (dl eInt_i64 v2)), (26, (di (v2.length : Int))), (27, (di x2.2)), (35, (dl eInt_i64 v4)), (36, (di (v4.length : Int))), (37, (di x3.2))], G [((900000, 0), some (.box 27 (dMap p3))), ((3, u1), some (.box 27 (dMap p1))), ((53, g6), oB 93 4 eClash x3.1), ((8, u4), some (.box 45 [(dl ePart v1.Parts), (di v1.Signal_)]))]⟩) (sb_of ⟨.of rfl, .of rfl, .of rfl, .of rfl, .of rfl, .of rfl, .of rfl, .of rfl, .of rfl, .of rfl, .of rfl, .of rfl, .of rfl, .of rfl, .of rfl, .of rfl, .of rfl, trivial⟩ (sbG_some G_hit (.of rfl) (sg rfl (sbG_oB (gq rfl) (sg rfl trivial))))) ?_))
 refine l_reg fun u15 hu15 => sv rfl (sv rfl (s_nil (l_nil ?_)))
 cases hz3
 exact ⟨rfl, g6, (sb_of ⟨.of rfl, .of rfl, .of rfl, .of rfl, .of rfl, .of rfl, .of rfl, .of rfl, .of rfl, .of rfl, .of rfl, .of rfl, .of rfl, .of rfl, .of rfl, .of rfl, .of rfl, trivial⟩ (sbG_some G_hit (.of rfl) (sg rfl (sg rfl (sbG_oB (gq rfl) trivial)))))⟩
 refine l_exitN rfl ?_
 cases hz3
 obtain rfl := ez3 _ rfl
 refine ⟨nofun, awl_pop rfl (l_j ?_)⟩
 exact ⟨g6, (sb_of ⟨.of rfl, .of rfl, .of rfl, .of rfl, .of rfl, .of rfl, .of rfl, .of rfl, .of rfl, .of rfl, .of rfl, .of rfl, .of rfl, trivial⟩ (sbG_some G_hit (.of rfl) (sg rfl (sg rfl (sbG_oB (gq rfl) trivial)))))⟩
 rintro _ ⟨g5, q1⟩
 refine l_end (l_sub q1 (l_reg fun u16 hu16 => sv rfl (sv rfl (s_nil (l_nil ?_)))))
 cases hz2
 exact ⟨rfl, g5, (sb_of ⟨.of rfl, .of rfl, .of rfl, .of rfl, .of rfl, .of rfl, .of rfl, .of rfl, .of rfl, .of rfl, .of rfl, .of rfl, .of rfl, trivial⟩ (sbG_some G_hit (.of rfl) (sg rfl (sg rfl (sbG_oB (gq rfl) trivial)))))⟩
 refine l_exitN rfl ?_
 cases hz2
 obtain rfl := ez2 _ rfl
 refine ⟨nofun, awl_pop rfl (l_j ?_)⟩
 exact ⟨g4, (sb_of ⟨.of rfl, .of rfl, .of rfl, .of rfl, .of rfl, .of rfl, .of rfl, trivial⟩ (sbG_some G_hit (.of rfl) (sg rfl (sbG_oB (gq rfl) trivial))))⟩
 rintro _ ⟨g3, q2⟩
 refine l_end (l_sub q2 (l_reg fun u17 hu17 => sv rfl (sv rfl (s_nil (l_nil ?_)))))
 cases hz1
 exact ⟨rfl, g3, (sb_of ⟨.of rfl, .of rfl, .of rfl, .of rfl, .of rfl, .of rfl, .of rfl, trivial⟩ (sbG_some G_hit (.of rfl) (sg rfl (sbG_oB (gq rfl) trivial))))⟩
 refine l_exitN rfl ?_
 cases hz1
 obtain rfl := ez1 _ rfl
 refine ⟨nofun, awl_pop rfl (l_j ?_)⟩
 exact ⟨g2, (sb_of ⟨.of rfl, .of rfl, trivial⟩ (sbG_some G_hit (.of rfl) (sbG_oB (gq rfl) trivial)))⟩
 rintro _ ⟨g1, q3⟩
 refine l_sub q3 (lr (fun u18 hu18 => s_val (oS y1 (53, g1)) rfl rfl (s_val (oS y1 (53, g1)) rfl rfl (s_nil (l_ret ?_)))))
 cases h
 exact fin_mf (.inr rfl) [(53, g1)] (resDF1 (res_t rfl) (rf_oS (rs_in (.head _) (gq rfl)))) oD_le ⟨⟨_, _, _, G_hit, (old_notin rfl old_notin_nil), rfl, all2_d, rfl⟩, trivial⟩

noncomputable def roads_greens (p1 : Map) : Option (List Clash) :=
  (roads_pairs_roads_greens_1o p1 4 p1).bind fun v1 => some v1

theorem roads_greens_ok (p1 : Map) (r : (List Clash)) (h : roads_greens p1 = some r) : PCall Tryz.prog 80 [(.agg (eMap p1))] (.list (List.map eClash r)) := by
 refine l_call (fk Tryz.func80 Tryz.ntmps80 (fun r => if r == 1 then [1001002] else []) (by with_unfolding_all rfl)) (nl rfl) ?_
 unfold roads_greens at h
 refine l_sub (s0 := ⟨T [(0, (.d _))], G []⟩) (sbr rfl rfl) ?_
 refine lr (fun u1 hu1 => sn rfl rfl (sv rfl (s_nil (lr (fun u2 hu2 => sd rfl (v_loadG rfl G_hit rfl rfl) (s_val (.fn _ _ _) rfl rfl (bs h fun v1 hv1 h => s_oc (v := .d (.list (List.map eClash v1))) (us := [(1, u1)]) (oc_m (roads_pairs_roads_greens_1o_ok _ _ _ _ hv1) [(1, u1)] [(1, u1)] _ (((1, u1), some (.box 27 (dMap p1))) :: _) rfl all2_av (kl_cons kr_d (kl_cons kr_d (kl_cons (kr_fn rfl (kl_cons (kr_ptr G_hit rfl) kl_nil)) kl_nil))) (live_cons G_hit live_nil) ⟨⟨_, G_hit, .of rfl⟩, trivial⟩ (fun _ h => h) nd1 rfl rfl rfl) (sv rfl (s_nil (l_ret ?_))))))))))
 cases h
 exact fin_ok (.inr rfl) (resD1 (res_t rfl) rf_d) (.refl _)

noncomputable def roads_Fit (p1 : Map) : Option Bool :=
  (roads_Check p1).bind fun v1 => ((cond (v1 == 0) (roads_merges p1) (some default))).bind fun v2 => ((cond (v1 == 0) (roads_chains p1) (some default))).bind fun v3 => ((cond (v1 == 0) (roads_ranks p1) (some default))).bind fun v4 => ((cond (v1 == 0) (roads_greens p1) (some default))).bind fun v5 => some ((v1 == 0) && ((w64 ((w64 ((w64 ((v2.length : Int) + (v3.length : Int))) + (v4.length : Int))) + (v5.length : Int))) == 0))

theorem roads_Fit_ok (p1 : Map) (r : Bool) (h : roads_Fit p1 = some r) : PCall Tryz.prog 18 [(.agg (eMap p1))] (bo r) := by
 refine l_call (fk Tryz.func18 Tryz.ntmps18 m0 (by with_unfolding_all rfl)) (nl rfl) ?_
 unfold roads_Fit at h
 refine l_sub (s0 := ⟨T [(0, (.d _))], G []⟩) (sbr rfl rfl) ?_
 refine lr (fun u1 hu1 => sn rfl rfl (sv rfl (s_nil (l_seq (l_draw rfl fun u2 hu2 => sd rfl (v_loadG rfl G_hit rfl rfl) (bs h fun v1 hv1 h => s_call rfl rfl all2_refl (roads_Check_ok _  _ hv1) (.inl rfl) (sv rfl (sv rfl (gt rfl (fun w1 => (v_loadG rfl G_hit rfl rfl)) (bs h fun v2 hv2 h => ?_))))))))))
 refine g_call _ (.list (List.map eClash v2)) (gw_t rfl) (fun w2 => ⟨_, [(.d (.agg (eMap p1)))], _, _, (by simp only [gd_pos w2]; rfl), rfl, all2_refl, roads_merges_ok _  _ (cond_t w2 hv2), (.inl rfl)⟩) ?_
 refine gt rfl (fun w3 => (v_len (gd_pos w3))) (gt rfl (fun w4 => (v_loadG rfl G_hit rfl rfl)) (bs h fun v3 hv3 h => ?_))
 refine g_call _ (.list (List.map eClash v3)) (gw_t rfl) (fun w5 => ⟨_, [(.d (.agg (eMap p1)))], _, _, (by simp only [gd_pos w5]; rfl), rfl, all2_refl, roads_chains_ok _  _ (cond_t w5 hv3), (.inl rfl)⟩) ?_
 refine gt rfl (fun w6 => (v_len (gd_pos w6))) (gt rfl (fun w7 => (v_bin (gd_pos w7) (gd_pos w7) rfl)) (gt rfl (fun w8 => (v_loadG rfl G_hit rfl rfl)) (bs h fun v4 hv4 h => ?_)))
 refine g_call _ (.list (List.map eClash v4)) (gw_t rfl) (fun w9 => ⟨_, [(.d (.agg (eMap p1)))], _, _, (by simp only [gd_pos w9]; rfl), rfl, all2_refl, roads_ranks_ok _  _ (cond_t w9 hv4), (.inl rfl)⟩) ?_
 refine gt rfl (fun w10 => (v_len (gd_pos w10))) (gt rfl (fun w11 => (v_bin (gd_pos w11) (gd_pos w11) rfl)) (gt rfl (fun w12 => (v_loadG rfl G_hit rfl rfl)) (bs h fun v5 hv5 h => ?_)))
 refine g_call _ (.list (List.map eClash v5)) (gw_t rfl) (fun w13 => ⟨_, [(.d (.agg (eMap p1)))], _, _, (by simp only [gd_pos w13]; rfl), rfl, all2_refl, roads_greens_ok _  _ (cond_t w13 hv5), (.inl rfl)⟩) ?_
 refine gt rfl (fun w14 => (v_len (gd_pos w14))) (gt rfl (fun w15 => (v_bin (gd_pos w15) (gd_pos w15) rfl)) (gt rfl (vb rfl rfl rfl) (sa rfl rfl rfl (sv rfl (s_nil (l_ret ?_))))))
 cases h
 exact fin_ok (.inr rfl) (resD1 (res_t rfl) rf_d) (.refl _)

noncomputable def roads_is (p1 : Map) (p2 : Int) : Option Bool :=
  ((cond ((decide (p2 ≥ 0)) && (decide (p2 < (p1.Lanes.length : Int)))) (roads_Check p1) (some default))).bind fun v1 => some (((decide (p2 ≥ 0)) && (decide (p2 < (p1.Lanes.length : Int)))) && (v1 == 0))

theorem roads_is_ok (p1 : Map) (p2 : Int) (r : Bool) (h : roads_is p1 p2 = some r) : PCall Tryz.prog 159 [(.agg (eMap p1)), (i64 p2)] (bo r) := by
 refine l_call (fk Tryz.func159 Tryz.ntmps159 m0 (by with_unfolding_all rfl)) (nl rfl) ?_
 unfold roads_is at h
 refine l_sub (s0 := ⟨T [(0, (.d _)), (1, (.d _))], G []⟩) (sbr rfl rfl) ?_
 refine lr (fun u1 hu1 => sn rfl rfl (sv rfl (s_nil (lr (fun u2 hu2 => sv rfl (sv rfl (sv rfl (gt rfl (fun _ => rfl) (gp rfl (gw_t rfl) (fun _ => rfl) (gt rfl (vl rfl G_hit rfl) (gt rfl (fun w4 => (v_len (gd_pos w4))) (gt rfl (fun w5 => (v_bin (gd_pos w5) (gd_pos w5) rfl)) (sa rfl rfl rfl (sv rfl (gt rfl (fun w6 => (v_loadG rfl G_hit rfl rfl)) (bs h fun v1 hv1 h => ?_))))))))))))))))
 refine g_call _ (i64 v1) (gw_t rfl) (fun w7 => ⟨_, [(.d (.agg (eMap p1)))], _, _, (by simp only [gd_pos w7]; rfl), rfl, all2_refl, roads_Check_ok _  _ (cond_t w7 hv1), (.inl rfl)⟩) ?_
 refine gt rfl (vb rfl rfl rfl) (sa rfl rfl rfl (sv rfl (s_nil (l_ret ?_))))
 cases h
 exact fin_ok (.inr rfl) (resD1 (res_t rfl) rf_d) (.refl _)

noncomputable def roads_Length (p1 : Map) (p2 : Int) : Option Int :=
  (roads_is p1 p2).bind fun v1 => cond (!v1) (some 0) ((roads_long p1 p2).bind fun v2 => some v2)

theorem roads_Length_ok (p1 : Map) (p2 : Int) (r : Int) (h : roads_Length p1 p2 = some r) : PCall Tryz.prog 61 [(.agg (eMap p1)), (i64 p2)] (i64 r) := by
 refine l_call (fk Tryz.func61 Tryz.ntmps61 m0 (by with_unfolding_all rfl)) (nl rfl) ?_
 unfold roads_Length at h
 refine l_sub (s0 := ⟨T [(0, (.d _)), (1, (.d _))], G []⟩) (sbr rfl rfl) ?_
 refine lr (fun u1 hu1 => sn rfl rfl (sv rfl (s_nil (l_seq (lr (fun u2 hu2 => sd rfl (v_loadG rfl G_hit rfl rfl) (sv rfl (bs h fun v1 hv1 h => s_call rfl rfl all2_refl (roads_is_ok _ _  _ hv1) (.inl rfl) (s_val (.d (bo (!v1))) rfl rfl (s_nil (cc rfl h (fun c1 h => ?_) (fun c1 h => ?_))))))))))))
 refine lr (fun u3 hu3 => sv rfl (s_nil (l_ret ?_)))
 cases h
 exact fin_ok (.inr rfl) (resD1 (res_t rfl) rf_d) (.refl _)
 refine l_skip (lr (fun u4 hu4 => sd rfl (v_loadG rfl G_hit rfl rfl) (sv rfl (bs h fun v2 hv2 h => s_call rfl rfl all2_refl (roads_long_ok _ _  _ hv2) (.inl rfl) (sv rfl (s_nil (l_ret ?_)))))))
 cases h
 exact fin_ok (.inr rfl) (resD1 (res_t rfl) rf_d) (.refl _)

noncomputable def roads_Limit_l1 (p1 : Map) (p2 : Int) (p3 : Int) (p4 : Int) (x1 : (Int × Int)) : Option (Stp (Int × Int) Int) :=
  cond (decide (x1.2 < (p1.Works.length : Int))) ((geti p1.Works x1.2).bind fun v5 => ((cond (v5.Lane_ == p2) (roads_within p3 v5.From v5.To) (some default))).bind fun v6 => ((cond ((v5.Lane_ == p2) && v6) (roads_within p4 v5.Begin (w64 (v5.End - 1))) (some default))).bind fun v7 => cond (((v5.Lane_ == p2) && v6) && v7) (some (.go ((mm2 false x1.1 v5.Limit), (w64 (x1.2 + 1))))) (some (.go (x1.1, (w64 (x1.2 + 1)))))) (some (.out x1.1))
noncomputable def roads_Limit (p1 : Map) (p2 : Int) (p3 : Int) (p4 : Int) : Option Int :=
  (roads_is p1 p2).bind fun v1 => ((cond (!(!v1)) (roads_long p1 p2) (some default))).bind fun v2 => ((cond (!(!v1)) (roads_within p3 0 v2) (some default))).bind fun v3 => cond ((!v1) || (!v3)) (some 0) ((geti p1.Lanes p2).bind fun v4 => (loop (roads_Limit_l1 p1 p2 p3 p4) (v4.Limit, 0)).bind fun y1 => some y1)

theorem roads_Limit_ok (p1 : Map) (p2 : Int) (p3 : Int) (p4 : Int) (r : Int) (h : roads_Limit p1 p2 p3 p4 = some r) : PCall Tryz.prog 56 [(.agg (eMap p1)), (i64 p2), (i64 p3), (i64 p4)] (i64 r) := by
 refine l_call (fk Tryz.func56 Tryz.ntmps56 m0 (by with_unfolding_all rfl)) (nl rfl) ?_
 unfold roads_Limit at h
 refine l_sub (s0 := ⟨T [(0, (.d _)), (1, (.d _)), (2, (.d _)), (3, (.d _))], G []⟩) (sbr rfl rfl) ?_
 refine lr (fun u1 hu1 => sn rfl rfl (sv rfl (s_nil (l_seq (lr (fun u2 hu2 => sd rfl (v_loadG rfl G_hit rfl rfl) (sv rfl (bs h fun v1 hv1 h => s_call rfl rfl all2_refl (roads_is_ok _ _  _ hv1) (.inl rfl) (s_val (.d (bo (!v1))) rfl rfl (sv rfl (gf rfl (fun _ => rfl) (gf rfl (fun w2 => (v_loadG rfl G_hit rfl rfl)) (gf rfl (fun _ => rfl) (bs h fun v2 hv2 h => ?_))))))))))))))
 refine g_call _ (i64 v2) (gw_f rfl) (fun w4 => ⟨_, [(.d (.agg (eMap p1))), (di p2)], _, _, (by simp only [gd_pos w4]; rfl), rfl, all2_refl, roads_long_ok _ _  _ (cond_t w4 hv2), (.inl rfl)⟩) ?_
 refine bs h fun v3 hv3 h => ?_
 refine g_call _ (bo v3) (gw_f rfl) (fun w5 => ⟨_, [(di p3), (di 0), (di v2)], _, _, (by simp only [gd_pos w5]; rfl), rfl, all2_refl, roads_within_ok _ _ _  _ (cond_t w5 hv3), (.inl rfl)⟩) ?_
 refine g_val _ (.d (bo (!v3))) rfl (gw_f rfl) (fun w6 => (by simp only [gd_pos w6]; rfl)) ?_
 refine sd rfl (v_or rfl rfl (fun hc => gd_pos (not_t hc))) (s_nil (cc rfl h (fun c1 h => ?_) (fun c1 h => ?_)))
 refine lr (fun u3 hu3 => sv rfl (s_nil (l_ret ?_)))
 cases h
 exact fin_ok (.inr rfl) (resD1 (res_t rfl) rf_d) (.refl _)
 refine l_skip (lr (fun u4 hu4 => sp rfl rfl (sl rfl G_hit rfl (sv rfl (bs h fun v4 hv4 h => sd rfl (v_idx rfl rfl hv4 rfl) (sv rfl (sd rfl (v_loadL rfl hv4 rfl) (sv rfl (s_nil (l_seq (l_seq (l_sub (s0 := ⟨T [(1, (.d _)), (2, (.d _)), (3, (.d _)), (4, (.ptr _ _)), (9, (.d _))], G [((4, u1), some (.box 27 _))]⟩) (sbr rfl rfl) ?_))))))))))))
 refine l_reg fun u5 hu5 => sp rfl rfl (sl rfl G_hit rfl (sd rfl (v_len rfl) (sv rfl (s_nil (bs h fun y1 hy1 h => l_join (fun s => ∃ g1 : Unit, Sb ⟨T [(9, (di y1))], G []⟩ s) ?_ ?_)))))
 refine l_block (l_loop (roads_Limit_l1 p1 p2 p3 p4) (fun (x1 : (Int × Int)) (g2 : Unit) => ⟨T [(1, (di p2)), (2, (di p3)), (3, (di p4)), (9, (di x1.1)), (31, (dl eWork p1.Works)), (32, (di (p1.Works.length : Int))), (33, (di x1.2))], G []⟩) (v4.Limit, 0) () _ hy1 (sbr rfl rfl) ?_)
 intro x1 g2 z1 hz1 ez1
 unfold roads_Limit_l1 at hz1
 refine lr (fun u6 hu6 => sv rfl (s_nil (l_seq (cc rfl hz1 (fun c2 hz1 => ?_) (fun c2 hz1 => ?_)))))
 refine l_skip (l_seq (l_block (lr (fun u7 hu7 => bs hz1 fun v5 hv5 hz1 => sd rfl (v_idx rfl rfl hv5 rfl) (sd rfl (v_loadLG rfl hv5 rfl rfl) (sn rfl rfl (sst rfl G_hit (dWork v5) rfl (s_nil (lr (fun u8 hu8 => sp rfl rfl (sl rfl G_hit rfl (sv rfl (sv rfl (sv rfl (gt rfl (fun _ => rfl) (gp rfl (gw_t rfl) (fun _ => rfl) (gt rfl (vl rfl G_hit rfl) (gp rfl (gw_t rfl) (fun _ => rfl) (gt rfl (vl rfl G_hit rfl) (bs hz1 fun v6 hv6 hz1 => ?_))))))))))))))))))))
 refine g_call _ (bo v6) (gw_t rfl) (fun w12 => ⟨_, [(di p3), (di v5.From), (di v5.To)], _, _, (by simp only [gd_pos w12]; rfl), rfl, all2_refl, roads_within_ok _ _ _  _ (cond_t w12 hv6), (.inl rfl)⟩) ?_
 refine sa rfl rfl rfl (sv rfl (gt rfl (fun _ => rfl) (gp rfl (gw_t rfl) (fun _ => rfl) (gt rfl (vl rfl G_hit rfl) (gp rfl (gw_t rfl) (fun _ => rfl) (gt rfl (vl rfl G_hit rfl) (gt rfl (vb rfl rfl rfl) (bs hz1 fun v7 hv7 hz1 => ?_))))))))
 refine g_call _ (bo v7) (gw_t rfl) (fun w19 => ⟨_, [(di p4), (di v5.Begin), (di (w64 (v5.End - 1)))], _, _, (by simp only [gd_pos w19]; rfl), rfl, all2_refl, roads_within_ok _ _ _  _ (cond_t w19 hv7), (.inl rfl)⟩) ?_
 refine sa rfl rfl rfl (s_nil (cc rfl hz1 (fun c3 hz1 => ?_) (fun c3 hz1 => ?_)))
 refine l_sub (s0 := ⟨T [(1, (.d _)), (2, (.d _)), (3, (.d _)), (9, (.d _)), (11, (.ptr _ _)), (31, (.d _)), (32, (.d _)), (33, (.d _))], G [((11, u7), some (.box 50 _))]⟩) (sbr rfl rfl) ?_
 refine l_reg fun u9 hu9 => sv rfl (sp rfl rfl (sl rfl G_hit rfl (sv rfl (sv rfl (s_nil (l_end (l_reg fun u10 hu10 => sv rfl (sv rfl (s_nil (l_nil ?_))))))))))
 cases hz1
 exact ⟨rfl, (), (sbr rfl rfl)⟩
 refine l_skip (l_end (l_sub (s0 := ⟨T [(1, (.d _)), (2, (.d _)), (3, (.d _)), (9, (.d _)), (31, (.d _)), (32, (.d _)), (33, (.d _))], G []⟩) (sbr rfl rfl) ?_))
 refine l_reg fun u11 hu11 => sv rfl (sv rfl (s_nil (l_nil ?_)))
 cases hz1
 exact ⟨rfl, (), (sbr rfl rfl)⟩
 refine l_exitN rfl ?_
 cases hz1
 obtain rfl := ez1 _ rfl
 refine ⟨nofun, awl_pop rfl (l_j ?_)⟩
 exact ⟨(), (sbr rfl rfl)⟩
 rintro _ ⟨g1, q1⟩
 refine l_sub q1 (lr (fun u12 hu12 => sv rfl (sv rfl (s_nil (l_ret ?_)))))
 cases h
 exact fin_ok (.inr rfl) (resD1 (res_t rfl) rf_d) (.refl _)

noncomputable def law03_awake : Option Bool :=
  (kit_Cross).bind fun v1 => (roads_Place v1 [0] 60000).bind fun v2 => (roads_Check v1).bind fun v3 => ((cond (v3 == 0) (roads_Fit v1) (some default))).bind fun v4 => ((cond (((((v3 == 0) && v4) && (v2.1 == 0)) && (v2.2.1 == 60000)) && v2.2.2) (roads_Length v1 1) (some default))).bind fun v5 => ((cond ((((((v3 == 0) && v4) && (v2.1 == 0)) && (v2.2.1 == 60000)) && v2.2.2) && (v5 == 100000)) (roads_Limit v1 0 10 5) (some default))).bind fun v6 => some (((((((v3 == 0) && v4) && (v2.1 == 0)) && (v2.2.1 == 60000)) && v2.2.2) && (v5 == 100000)) && (v6 == 1500))

theorem law03_awake_ok (r : Bool) (h : law03_awake = some r) : PCall Tryz.prog 14 [] (bo r) := by
 refine l_call (fk Tryz.func14 Tryz.ntmps14 (fun r => if r == 2 then [1001] else []) (by with_unfolding_all rfl)) (nl rfl) ?_
 unfold law03_awake at h
 refine l_sub (s0 := ⟨T [], G []⟩) (sbr rfl rfl) ?_
 refine lr (fun u1 hu1 => sv rfl (s_nil (lr (fun u2 hu2 => bs h fun v1 hv1 h => s_call rfl rfl all2_refl (kit_Cross_ok  _ hv1) (.inl rfl) (sn rfl rfl (sst rfl G_hit (dMap v1) rfl (s_nil (lr (fun u3 hu3 => sd rfl (v_loadG rfl G_hit rfl rfl) (s_val (dl eInt_i64 [0]) rfl rfl (bs h fun v2 hv2 h => s_call rfl rfl all2_refl (roads_Place_ok _ _ _  _ hv2) (.inl rfl) (sv rfl (sv rfl (sv rfl (sv rfl (sv rfl (sv rfl (sv rfl (s_nil (lr (fun u4 hu4 => sd rfl (v_loadG rfl G_hit rfl rfl) (bs h fun v3 hv3 h => s_call rfl rfl all2_refl (roads_Check_ok _  _ hv3) (.inl rfl) (sv rfl (sv rfl (gt rfl (fun w1 => (v_loadG rfl G_hit rfl rfl)) (bs h fun v4 hv4 h => ?_))))))))))))))))))))))))))
 refine g_call _ (bo v4) (gw_t rfl) (fun w2 => ⟨_, [(.d (.agg (eMap v1)))], _, _, (by simp only [gd_pos w2]; rfl), rfl, all2_refl, roads_Fit_ok _  _ (cond_t w2 hv4), (.inl rfl)⟩) ?_
 refine sa rfl rfl rfl (sv rfl (gt rfl (fun _ => rfl) (gt rfl (vb rfl rfl rfl) (sa rfl rfl rfl (sv rfl (gt rfl (fun _ => rfl) (gt rfl (vb rfl rfl rfl) (sa rfl rfl rfl (sv rfl (gt rfl (fun _ => rfl) (sa rfl rfl rfl (sv rfl (gt rfl (fun w8 => (v_loadG rfl G_hit rfl rfl)) (bs h fun v5 hv5 h => ?_))))))))))))))
 refine g_call _ (i64 v5) (gw_t rfl) (fun w9 => ⟨_, [(.d (.agg (eMap v1))), (di 1)], _, _, (by simp only [gd_pos w9]; rfl), rfl, all2_refl, roads_Length_ok _ _  _ (cond_t w9 hv5), (.inl rfl)⟩) ?_
 refine gt rfl (vb rfl rfl rfl) (sa rfl rfl rfl (sv rfl (gt rfl (fun w11 => (v_loadG rfl G_hit rfl rfl)) (bs h fun v6 hv6 h => ?_))))
 refine g_call _ (i64 v6) (gw_t rfl) (fun w12 => ⟨_, [(.d (.agg (eMap v1))), (di 0), (di 10), (di 5)], _, _, (by simp only [gd_pos w12]; rfl), rfl, all2_refl, roads_Limit_ok _ _ _ _  _ (cond_t w12 hv6), (.inl rfl)⟩) ?_
 refine gt rfl (vb rfl rfl rfl) (sa rfl rfl rfl (sv rfl (s_nil (l_ret ?_))))
 cases h
 exact fin_ok (.inr rfl) (resD1 (res_t rfl) rf_d) (.refl _)

noncomputable def ref01_Copy (p1 : Curve) : Option Curve :=
  (appc ([] : List Spot) p1.Pts).bind fun v1 => some (Curve.mk v1)

theorem ref01_Copy_ok (p1 : Curve) (r : Curve) (h : ref01_Copy p1 = some r) : PCall Tryz.prog 167 [(.agg [(.list (List.map eSpot p1.Pts))])] (.agg [(.list (List.map eSpot r.Pts))]) := by
 refine l_call (fk Tryz.func167 Tryz.ntmps167 m0 (by with_unfolding_all rfl)) (nl rfl) ?_
 unfold ref01_Copy at h
 refine l_sub (s0 := ⟨T [(0, (.d _))], G []⟩) (sbr rfl rfl) ?_
 refine lr (fun u1 hu1 => sn rfl rfl (sn rfl rfl (s_nil (lr (fun u2 hu2 => s_new (.sl _) (.arr 148 2 (List.map eSpot ([] : List Spot))) rfl rfl (sp rfl rfl (sl rfl (gq rfl) rfl (bs h fun v1 hv1 h => s_append eSpot _ _ _ _ (elems_list (fun _ => rfl)) rfl G_hit hv1 (s_val (.agg _) rfl rfl (sst rfl (gq rfl) [(.sl (6, u2))] rfl (s_nil (l_ret ?_))))))))))))
 cases h
 exact fin_ok (.inr rfl) (resD1 (res_cellG rfl G_hit (nl rfl) rfl) (rf_agg (rfL_cons (rf_sl (gq rfl)) rfL_nil))) (.refl _)

noncomputable def ref03_ints (p1 : (List Int)) : Option (List Int) :=
  (appc ([] : List Int) p1).bind fun v1 => some v1

theorem ref03_ints_ok (p1 : (List Int)) (r : (List Int)) (h : ref03_ints p1 = some r) : PCall Tryz.prog 168 [(.list (List.map eInt_i64 p1))] (.list (List.map eInt_i64 r)) := by
 refine l_call (fk Tryz.func168 Tryz.ntmps168 m0 (by with_unfolding_all rfl)) (nl rfl) ?_
 unfold ref03_ints at h
 refine l_sub (s0 := ⟨T [(0, (.d _))], G []⟩) (sbr rfl rfl) ?_
 refine lr (fun u1 hu1 => sv rfl (s_nil (lr (fun u2 hu2 => sv rfl (bs h fun v1 hv1 h => s_appendG eInt_i64 (4, u2) ([] : List Int) p1 _ (elems_list (fun _ => rfl)) rfl (fresh_none hu2) hv1 (fresh_none hu2) (s_val (oS v1 (4, u2)) rfl rfl (s_nil (l_ret ?_))))))))
 cases h
 exact fin_ok (.inr rfl) (resD1 (res_t rfl) (rf_oS G_hit)) oD_le

noncomputable def ref03_OwnLane (p1 : Lane) : Option Lane :=
  (ref01_Copy p1.Curve_).bind fun v1 => (ref03_ints p1.Next).bind fun v2 => some (Lane.mk p1.Kind v1 p1.Half p1.Limit v2)

theorem ref03_OwnLane_ok (p1 : Lane) (r : Lane) (h : ref03_OwnLane p1 = some r) : PCall Tryz.prog 62 [(.agg (eLane p1))] (.agg (eLane r)) := by
 refine l_call (fk Tryz.func62 Tryz.ntmps62 m0 (by with_unfolding_all rfl)) (nl rfl) ?_
 unfold ref03_OwnLane at h
 refine l_sub (s0 := ⟨T [(0, (.d _))], G []⟩) (sbr rfl rfl) ?_
 refine lr (fun u1 hu1 => sn rfl rfl (sn rfl rfl (s_nil (lr (fun u2 hu2 => sp rfl rfl (sd rfl (v_loadG rfl (gq rfl) rfl rfl) (bs h fun v1 hv1 h => s_call rfl rfl all2_refl (ref01_Copy_ok _  _ hv1) (.inl rfl) (sp rfl rfl (sst rfl (gq rfl) ((dLane p1).set 1 (dl eSpot v1.Pts)) rfl (s_nil (lr (fun u3 hu3 => sp rfl rfl (sl rfl G_hit rfl (bs h fun v2 hv2 h => s_call rfl rfl all2_refl (ref03_ints_ok _  _ hv2) (.inl rfl) (sp rfl rfl (sst rfl G_hit (((dLane p1).set 1 (dl eSpot v1.Pts)).set 4 (dl eInt_i64 v2)) rfl (s_nil (lr (fun u4 hu4 => sd rfl (v_loadG rfl G_hit rfl rfl) (sst rfl (gq rfl) (((dLane p1).set 1 (dl eSpot v1.Pts)).set 4 (dl eInt_i64 v2)) rfl (s_nil (l_ret ?_))))))))))))))))))))))
 cases h
 exact fin_ok (.inr rfl) (resD1 (res_cellG rfl G_hit (nl rfl) rfl) rf_d) (.refl _)

noncomputable def ref03_OwnZone (p1 : Zone) : Option Zone :=
  (appc ([] : List Part) p1.Parts).bind fun v1 => some (Zone.mk v1 p1.Signal_)

theorem ref03_OwnZone_ok (p1 : Zone) (r : Zone) (h : ref03_OwnZone p1 = some r) : PCall Tryz.prog 63 [(.agg [(.list (List.map ePart p1.Parts)), (i64 p1.Signal_)])] (.agg [(.list (List.map ePart r.Parts)), (i64 r.Signal_)]) := by
 refine l_call (fk Tryz.func63 Tryz.ntmps63 m0 (by with_unfolding_all rfl)) (nl rfl) ?_
 unfold ref03_OwnZone at h
 refine l_sub (s0 := ⟨T [(0, (.d _))], G []⟩) (sbr rfl rfl) ?_
 refine lr (fun u1 hu1 => sn rfl rfl (sn rfl rfl (s_nil (lr (fun u2 hu2 => sp rfl rfl (sl rfl (gq rfl) rfl (bs h fun v1 hv1 h => s_appendG ePart (5, u2) ([] : List Part) p1.Parts _ (elems_list (fun _ => rfl)) rfl (fresh_none hu2) hv1 (fresh_none hu2) (sp rfl rfl (s_store _ _ _ _ _ (cellsV_oS _ _) rfl rfl (gq rfl) (nl rfl) [(oS v1 (5, u2)), (di p1.Signal_)] rfl (s_nil (lr (fun u3 hu3 => s_val (mkAgg [(oS v1 (5, u2)), (di p1.Signal_)]) rfl (v_loadG rfl G_hit rfl rfl) (s_store _ _ _ _ _ (cellsV_mkAgg _) rfl rfl (gq rfl) (nl rfl) [(oS v1 (5, u2)), (di p1.Signal_)] rfl (s_nil (l_ret ?_)))))))))))))))
 cases h
 exact fin_ok (.inr rfl) (resD1 (res_cellG rfl G_hit (nl rfl) rfl) (rf_mkAgg (rfL_cons (rf_oS (gq rfl)) (rD rfL_nil)))) (.agg (.cons ⟨oD_le, rfl⟩ (cz rfl)))

noncomputable def ref03_OwnSignal_l1 (p1 : Signal) (x1 : ((List Phase) × Int)) : Option (Stp ((List Phase) × Int) (List Phase)) :=
  cond (decide (x1.2 < (p1.Phases.length : Int))) ((geti p1.Phases x1.2).bind fun v1 => (geti p1.Phases x1.2).bind fun v2 => (ref03_ints v2.Green).bind fun v3 => (appc x1.1 [(Phase.mk v1.Ticks v3)]).bind fun v4 => some (.go (v4, (w64 (x1.2 + 1))))) (some (.out x1.1))
noncomputable def ref03_OwnSignal (p1 : Signal) : Option Signal :=
  (loop (ref03_OwnSignal_l1 p1) ([], 0)).bind fun y1 => some (Signal.mk p1.Offset y1)

theorem ref03_OwnSignal_ok (p1 : Signal) (r : Signal) (h : ref03_OwnSignal p1 = some r) : PCall Tryz.prog 64 [(.agg [(i64 p1.Offset), (.list (List.map ePhase p1.Phases))])] (.agg [(i64 r.Offset), (.list (List.map ePhase r.Phases))]) := by
 refine l_call (fk Tryz.func64 Tryz.ntmps64 (fun r => if r == 5 then [1015] else []) (by with_unfolding_all rfl)) (nl rfl) ?_
 unfold ref03_OwnSignal at h
 refine l_sub (s0 := ⟨T [(0, (.d _))], G []⟩) (sbr rfl rfl) ?_
 refine lr (fun u1 hu1 => sn rfl rfl (sn rfl rfl (s_nil (lr (fun u2 hu2 => sv rfl (s_nil (l_seq (lr (fun u3 hu3 => sv rfl (s_nil (bs h fun y1 hy1 h => l_join (fun s => ∃ g1 : Nat, Sb ⟨T [(1, (.ptr (1, u1) 0)), (2, (.ptr (2, u1) 0)), (3, (oS y1 (28, g1)))], G [((1, u1), some (.box 48 [(di p1.Offset), (dl ePhase p1.Phases)])), ((2, u1), some (.box 48 [(di 0), (.d .nilS)])), ((28, g1), oB 97 2 ePhase y1)]⟩ s) ?_ ?_)))))))))))
 refine l_block (l_loop (ref03_OwnSignal_l1 p1) (fun (x1 : ((List Phase) × Int)) (g2 : Nat) => ⟨T [(1, (.ptr (1, u1) 0)), (2, (.ptr (2, u1) 0)), (3, (oS x1.1 (28, g2))), (4, (di x1.2))], G [((1, u1), some (.box 48 [(di p1.Offset), (dl ePhase p1.Phases)])), ((2, u1), some (.box 48 [(di 0), (.d .nilS)])), ((28, g2), oB 97 2 ePhase x1.1)]⟩) ([], 0) 0 _ hy1 (sb_of ⟨.of rfl, .of rfl, .of rfl, .of rfl, trivial⟩ (sg rfl (sbG_some G_hit (.of rfl) (sbG_nil trivial)))) ?_)
 intro x1 g2 z1 hz1 ez1
 unfold ref03_OwnSignal_l1 at hz1
 refine l_seq (lr (fun u4 hu4 => sv rfl (sp rfl rfl (sl rfl G_hit rfl (sd rfl (v_len rfl) (sv rfl (s_nil (cc rfl hz1 (fun c1 hz1 => ?_) (fun c1 hz1 => ?_)))))))))
 refine l_skip (l_seq (l_block (l_draw rfl fun u5 hu5 => s_val (oS x1.1 (28, g2)) rfl rfl (sp rfl rfl (sl rfl G_hit rfl (sv rfl (bs hz1 fun v1 hv1 hz1 => sd rfl (v_idx rfl rfl hv1 rfl) (sv rfl (sd rfl (v_loadL rfl hv1 rfl) (sp rfl rfl (sl rfl G_hit rfl (sv rfl (bs hz1 fun v2 hv2 hz1 => sd rfl (v_idx rfl rfl hv2 rfl) (sv rfl (sd rfl (v_loadL rfl hv2 rfl) (bs hz1 fun v3 hv3 hz1 => s_call rfl rfl all2_refl (ref03_ints_ok _  _ hv3) (.inl rfl) (sv rfl (s_val (dl ePhase [(Phase.mk v1.Ticks v3)]) rfl rfl (bs hz1 fun v4 hv4 hz1 => s_appendO ePhase (28, g2) x1.1 (Phase.mk v1.Ticks v3) [] _ (elems_list (fun _ => rfl)) rfl (gq rfl) hv4 (ss rfl (s_nil (l_end (l_sub (s0 := ⟨T [(1, (.ptr _ _)), (2, (.ptr _ _)), (3, (.sl _)), (4, (.d _))], G [((1, u1), some (.box 48 _)), ((2, u1), some (.box 48 _)), ((28, u5), some _)]⟩) (sbr rfl rfl) ?_)))))))))))))))))))))))
 refine l_reg fun u6 hu6 => sv rfl (sv rfl (sv rfl (s_nil (l_nil ?_))))
 cases hz1
 exact ⟨rfl, u5, (sb_of ⟨.of rfl, .of rfl, (.of (oS_ne (appc_ne hv4)).symm), .of rfl, trivial⟩ (sbG_some G_hit (.of rfl) (sg rfl (sbG_own (gq rfl) trivial))))⟩
 refine l_exitN rfl ?_
 cases hz1
 obtain rfl := ez1 _ rfl
 refine ⟨nofun, awl_pop rfl (l_j ?_)⟩
 exact ⟨g2, (sb_of ⟨.of rfl, .of rfl, .of rfl, trivial⟩ (sbG_some G_hit (.of rfl) (sg rfl (sbG_oB (gq rfl) trivial))))⟩
 rintro _ ⟨g1, q1⟩
 refine l_sub q1 (lr (fun u7 hu7 => s_val (oS y1 (28, g1)) rfl rfl (sp rfl rfl (s_store _ _ _ _ _ (cellsV_oS _ _) rfl rfl G_hit (nl rfl) [(di p1.Offset), (oS y1 (28, g1))] rfl (s_nil (lr (fun u8 hu8 => s_val (mkAgg [(di p1.Offset), (oS y1 (28, g1))]) rfl (v_loadG rfl G_hit rfl rfl) (s_store _ _ _ _ _ (cellsV_mkAgg _) rfl rfl (gq rfl) (nl rfl) [(di p1.Offset), (oS y1 (28, g1))] rfl (s_nil (l_ret ?_))))))))))
 cases h
 exact fin_ok (.inr rfl) (resD1 (res_cellG rfl G_hit (nl rfl) rfl) (rf_mkAgg (rD (rfL_cons (rf_oS (gq rfl)) rfL_nil)))) (.agg (ca rfl (.cons ⟨oD_le, rfl⟩ .nil)))

noncomputable def ref03_Copy_l3 (p1 : Map) (x3 : (Int × Map)) : Option (Stp (Int × Map) Map) :=
  cond (decide (x3.1 < (p1.Signals.length : Int))) ((geti p1.Signals x3.1).bind fun v8 => (ref03_OwnSignal v8).bind fun v9 => (appc x3.2.Signals [v9]).bind fun v10 => some (.go ((w64 (x3.1 + 1)), (Map.mk x3.2.Version x3.2.Lanes x3.2.Zones v10 x3.2.Works)))) (some (.out x3.2))
noncomputable def ref03_Copy_l2 (p1 : Map) (x2 : (Int × Map)) : Option (Stp (Int × Map) Map) :=
  cond (decide (x2.1 < (p1.Zones.length : Int))) ((geti p1.Zones x2.1).bind fun v5 => (ref03_OwnZone v5).bind fun v6 => (appc x2.2.Zones [v6]).bind fun v7 => some (.go ((w64 (x2.1 + 1)), (Map.mk x2.2.Version x2.2.Lanes v7 [] x2.2.Works)))) (some (.out (Map.mk x2.2.Version x2.2.Lanes x2.2.Zones [] x2.2.Works)))
noncomputable def ref03_Copy_l1 (p1 : Map) (x1 : (Int × Map)) : Option (Stp (Int × Map) Map) :=
  cond (decide (x1.1 < (p1.Lanes.length : Int))) ((geti p1.Lanes x1.1).bind fun v2 => (ref03_OwnLane v2).bind fun v3 => (appc x1.2.Lanes [v3]).bind fun v4 => some (.go ((w64 (x1.1 + 1)), (Map.mk x1.2.Version v4 [] [] x1.2.Works)))) (some (.out (Map.mk x1.2.Version x1.2.Lanes [] [] x1.2.Works)))
noncomputable def ref03_Copy (p1 : Map) : Option Map :=
  (appc ([] : List Work) p1.Works).bind fun v1 => (loop (ref03_Copy_l1 p1) (0, (Map.mk p1.Version [] [] [] v1))).bind fun y1 => (loop (ref03_Copy_l2 p1) (0, (Map.mk y1.Version y1.Lanes [] [] y1.Works))).bind fun y2 => (loop (ref03_Copy_l3 p1) (0, (Map.mk y2.Version y2.Lanes y2.Zones [] y2.Works))).bind fun y3 => some y3

theorem ref03_Copy_ok (p1 : Map) (r : Map) (h : ref03_Copy p1 = some r) : PCall Tryz.prog 15 [(.agg (eMap p1))] (.agg (eMap r)) := by
 refine l_call (fk Tryz.func15 Tryz.ntmps15 (fun r => if r == 5 then [1008] else if r == 9 then [1008] else if r == 13 then [1008] else []) (by with_unfolding_all rfl)) (nl rfl) ?_
 unfold ref03_Copy at h
 refine l_sub (s0 := ⟨T [(0, (.d _))], G []⟩) (sbr rfl rfl) ?_
 refine lr (fun u1 hu1 => sn rfl rfl (sn rfl rfl (s_nil (l_seq (l_drawT fun u2 hu2 => t_val (.ptr _ _) rfl rfl (t_val (.d _) rfl (v_load rfl (gq rfl) rfl) (t_val (.ptr _ _) rfl rfl (t_val (.d _) rfl (v_load rfl (gq rfl) rfl) (bs h fun v1 hv1 h => t_appendN eWork p1.Works _ (elems_list (fun _ => rfl)) rfl hv1 (fresh_none hu2) ?_)))))))))
 refine t_val (mkAgg [(di p1.Version), (.d .nilS), (.d .nilS), (.d .nilS), (oS v1 (11, u2))]) rfl (by generalize v1 = x1; cases x1 <;> rfl) ?_
 refine t_new (.ptr _ _) (.box _ _) rfl rfl (t_store _ _ _ _ _ (cellsV_mkAgg _) rfl rfl G_hit (nl rfl) [(di p1.Version), (.d .nilS), (.d .nilS), (.d .nilS), (oS v1 (11, u2))] rfl (t_nil (via_q (fun q => ⟨⟨by first | rfl | ((generalize v1 = l0; cases l0) <;> rfl), q⟩, ⟨by first | rfl | ((generalize v1 = l0; cases l0) <;> rfl), q⟩⟩) ?_)))
 refine l_seq (lr (fun u3 hu3 => sv rfl (s_nil (bs h fun y1 hy1 h => l_join (fun s => ∃ g1 : (Nat × Nat), Sb ⟨T [(1, (.ptr (1, u1) 0)), (2, (.ptr (2, u1) 0)), (3, (.ptr (3, u2) 0))], G [((1, u1), some (.box 27 (dMap p1))), ((2, u1), some (.box 27 [(di 0), (.d .nilS), (.d .nilS), (.d .nilS), (.d .nilS)])), ((3, u2), some (.box 27 [(di y1.Version), (oS y1.Lanes (29, g1.1)), (.d .nilS), (.d .nilS), (oS y1.Works (11, g1.2))])), ((29, g1.1), oB 42 5 eLane y1.Lanes), ((11, g1.2), oB 50 6 eWork y1.Works)]⟩ s) ?_ ?_))))
 refine l_block (l_loop (ref03_Copy_l1 p1) (fun (x1 : (Int × Map)) (g2 : (Nat × Nat)) => ⟨T [(1, (.ptr (1, u1) 0)), (2, (.ptr (2, u1) 0)), (3, (.ptr (3, u2) 0)), (4, (di x1.1))], G [((1, u1), some (.box 27 (dMap p1))), ((2, u1), some (.box 27 [(di 0), (.d .nilS), (.d .nilS), (.d .nilS), (.d .nilS)])), ((3, u2), some (.box 27 [(di x1.2.Version), (oS x1.2.Lanes (29, g2.1)), (.d .nilS), (.d .nilS), (oS x1.2.Works (11, g2.2))])), ((29, g2.1), oB 42 5 eLane x1.2.Lanes), ((11, g2.2), oB 50 6 eWork x1.2.Works)]⟩) (0, (Map.mk p1.Version [] [] [] v1)) (0, u2) _ hy1 (sb_of ⟨.of rfl, .of rfl, .of rfl, .of rfl, trivial⟩ (sg rfl (sg rfl (sbG_some G_hit (.of rfl) (sbG_nil (sbG_oB (gq rfl) trivial)))))) ?_)
 intro x1 g2 z1 hz1 ez1
 unfold ref03_Copy_l1 at hz1
 refine l_seq (lr (fun u4 hu4 => sv rfl (sp rfl rfl (sl rfl G_hit rfl (sd rfl (v_len rfl) (sv rfl (s_nil (cc rfl hz1 (fun c1 hz1 => ?_) (fun c1 hz1 => ?_)))))))))
 refine l_skip (l_seq (l_block (l_draw rfl fun u5 hu5 => sp rfl rfl (s_val (oS x1.2.Lanes (29, g2.1)) rfl (v_load rfl (gq rfl) rfl) (sp rfl rfl (sl rfl G_hit rfl (sv rfl (bs hz1 fun v2 hv2 hz1 => sd rfl (v_idx rfl rfl hv2 rfl) (sd rfl (v_loadLG rfl hv2 rfl rfl) (bs hz1 fun v3 hv3 hz1 => s_call rfl rfl all2_refl (ref03_OwnLane_ok _  _ hv3) (.inl rfl) (s_val (dl eLane [v3]) rfl rfl (bs hz1 fun v4 hv4 hz1 => s_appendO eLane (29, g2.1) x1.2.Lanes v3 [] _ (elems_list (fun _ => rfl)) rfl (gq rfl) hv4 (sp rfl rfl (sst rfl (gq rfl) [(di x1.2.Version), (.sl (29, u5)), (.d .nilS), (.d .nilS), (oS x1.2.Works (11, g2.2))] rfl (s_nil (l_end (l_sub (s0 := ⟨T [(1, (.ptr (1, u1) 0)), (2, (.ptr (2, u1) 0)), (3, (.ptr (3, u2) 0)), (4, (di x1.1))], G [((1, u1), some (.box 27 (dMap p1))), ((2, u1), some (.box 27 [(di 0), (.d .nilS), (.d .nilS), (.d .nilS), (.d .nilS)])), ((3, u2), some (.box 27 [(di x1.2.Version), (.sl (29, u5)), (.d .nilS), (.d .nilS), (oS x1.2.Works (11, g2.2))])), ((29, u5), some (.arr 42 5 (List.map eLane v4))), ((11, g2.2), oB 50 6 eWork x1.2.Works)]⟩) (sb_of ⟨.of rfl, .of rfl, .of rfl, .of rfl, trivial⟩ (sg rfl (sg rfl (sbG_some G_hit (.of rfl) (sg rfl (sbG_oB (gq rfl) trivial)))))) ?_)))))))))))))))))
 refine l_reg fun u6 hu6 => sv rfl (sv rfl (sv rfl (s_nil (l_nil ?_))))
 cases hz1
 exact ⟨rfl, (u5, g2.2), (sb_of ⟨.of rfl, .of rfl, .of rfl, .of rfl, trivial⟩ (sbG_some G_hit (.of rfl) (sg rfl (sbG_some (gq rfl) (.box (cv (.cons (.of (oS_ne (appc_ne hv4)).symm) cw))) (sbG_own (gq rfl) (sbG_oB (gq rfl) trivial))))))⟩
 refine l_exitN rfl ?_
 cases hz1
 obtain rfl := ez1 _ rfl
 refine ⟨nofun, awl_pop rfl (l_j ?_)⟩
 exact ⟨(g2.1, g2.2), (sb_of ⟨.of rfl, .of rfl, .of rfl, trivial⟩ (sbG_some G_hit (.of rfl) (sg rfl (sg rfl (sbG_oB (gq rfl) (sbG_oB (gq rfl) trivial))))))⟩
 rintro _ ⟨g1, q1⟩
 refine l_sub q1 (l_seq (lr (fun u7 hu7 => sv rfl (s_nil (bs h fun y2 hy2 h => l_join (fun s => ∃ g3 : (Nat × Nat × Nat), Sb ⟨T [(1, (.ptr (1, u1) 0)), (2, (.ptr (2, u1) 0)), (3, (.ptr (3, u2) 0))], G [((1, u1), some (.box 27 (dMap p1))), ((2, u1), some (.box 27 [(di 0), (.d .nilS), (.d .nilS), (.d .nilS), (.d .nilS)])), ((3, u2), some (.box 27 [(di y2.Version), (oS y2.Lanes (29, g3.1)), (oS y2.Zones (47, g3.2.1)), (.d .nilS), (oS y2.Works (11, g3.2.2))])), ((29, g3.1), oB 42 5 eLane y2.Lanes), ((47, g3.2.1), oB 45 2 eZone y2.Zones), ((11, g3.2.2), oB 50 6 eWork y2.Works)]⟩ s) ?_ ?_)))))
 refine l_block (l_loop (ref03_Copy_l2 p1) (fun (x2 : (Int × Map)) (g4 : (Nat × Nat × Nat)) => ⟨T [(1, (.ptr (1, u1) 0)), (2, (.ptr (2, u1) 0)), (3, (.ptr (3, u2) 0)), (5, (di x2.1))], G [((1, u1), some (.box 27 (dMap p1))), ((2, u1), some (.box 27 [(di 0), (.d .nilS), (.d .nilS), (.d .nilS), (.d .nilS)])), ((3, u2), some (.box 27 [(di x2.2.Version), (oS x2.2.Lanes (29, g4.1)), (oS x2.2.Zones (47, g4.2.1)), (.d .nilS), (oS x2.2.Works (11, g4.2.2))])), ((29, g4.1), oB 42 5 eLane x2.2.Lanes), ((47, g4.2.1), oB 45 2 eZone x2.2.Zones), ((11, g4.2.2), oB 50 6 eWork x2.2.Works)]⟩) (0, (Map.mk y1.Version y1.Lanes [] [] y1.Works)) (g1.1, 0, g1.2) _ hy2 (sb_of ⟨.of rfl, .of rfl, .of rfl, .of rfl, trivial⟩ (sbG_some G_hit (.of rfl) (sg rfl (sg rfl (sbG_oB (gq rfl) (sbG_nil (sbG_oB (gq rfl) trivial))))))) ?_)
 intro x2 g4 z2 hz2 ez2
 unfold ref03_Copy_l2 at hz2
 refine l_seq (lr (fun u8 hu8 => sv rfl (sp rfl rfl (sl rfl G_hit rfl (sd rfl (v_len rfl) (sv rfl (s_nil (cc rfl hz2 (fun c2 hz2 => ?_) (fun c2 hz2 => ?_)))))))))
 refine l_skip (l_seq (l_block (l_draw rfl fun u9 hu9 => sp rfl rfl (s_val (oS x2.2.Zones (47, g4.2.1)) rfl (v_load rfl (gq rfl) rfl) (sp rfl rfl (sl rfl G_hit rfl (sv rfl (bs hz2 fun v5 hv5 hz2 => sd rfl (v_idx rfl rfl hv5 rfl) (sd rfl (v_loadLG rfl hv5 rfl rfl) (bs hz2 fun v6 hv6 hz2 => s_call rfl rfl all2_refl (ref03_OwnZone_ok _  _ hv6) (.inl rfl) (s_val (dl eZone [v6]) rfl rfl (bs hz2 fun v7 hv7 hz2 => s_appendO eZone (47, g4.2.1) x2.2.Zones v6 [] _ (elems_list (fun _ => rfl)) rfl (gq rfl) hv7 (sp rfl rfl (sst rfl (gq rfl) [(di x2.2.Version), (oS x2.2.Lanes (29, g4.1)), (.sl (47, u9)), (.d .nilS), (oS x2.2.Works (11, g4.2.2))] rfl (s_nil (l_end (l_sub (s0 := ⟨T [(1, (.ptr (1, u1) 0)), (2, (.ptr (2, u1) 0)), (3, (.ptr (3, u2) 0)), (5, (di x2.1))], G [((1, u1), some (.box 27 (dMap p1))), ((2, u1), some (.box 27 [(di 0), (.d .nilS), (.d .nilS), (.d .nilS), (.d .nilS)])), ((3, u2), some (.box 27 [(di x2.2.Version), (oS x2.2.Lanes (29, g4.1)), (.sl (47, u9)), (.d .nilS), (oS x2.2.Works (11, g4.2.2))])), ((29, g4.1), oB 42 5 eLane x2.2.Lanes), ((47, u9), some (.arr 45 2 (List.map eZone v7))), ((11, g4.2.2), oB 50 6 eWork x2.2.Works)]⟩) (sb_of ⟨.of rfl, .of rfl, .of rfl, .of rfl, trivial⟩ (sg rfl (sg rfl (sbG_some G_hit (.of rfl) (sbG_oB (gq rfl) (sg rfl (sbG_oB (gq rfl) trivial))))))) ?_)))))))))))))))))
 refine l_reg fun u10 hu10 => sv rfl (sv rfl (sv rfl (s_nil (l_nil ?_))))
 cases hz2
 exact ⟨rfl, (g4.1, u9, g4.2.2), (sb_of ⟨.of rfl, .of rfl, .of rfl, .of rfl, trivial⟩ (sbG_some G_hit (.of rfl) (sg rfl (sbG_some (gq rfl) (.box (cv (cv (.cons (.of (oS_ne (appc_ne hv7)).symm) cw)))) (sbG_oB (gq rfl) (sbG_own (gq rfl) (sbG_oB (gq rfl) trivial)))))))⟩
 refine l_exitN rfl ?_
 cases hz2
 obtain rfl := ez2 _ rfl
 refine ⟨nofun, awl_pop rfl (l_j ?_)⟩
 exact ⟨(g4.1, g4.2.1, g4.2.2), (sb_of ⟨.of rfl, .of rfl, .of rfl, trivial⟩ (sbG_some G_hit (.of rfl) (sg rfl (sg rfl (sbG_oB (gq rfl) (sbG_oB (gq rfl) (sbG_oB (gq rfl) trivial)))))))⟩
 rintro _ ⟨g3, q2⟩
 refine l_sub q2 (l_seq (lr (fun u11 hu11 => sv rfl (s_nil (bs h fun y3 hy3 h => l_join (fun s => ∃ g5 : (Nat × Nat × Nat × Nat), Sb ⟨T [(2, (.ptr (2, u1) 0)), (3, (.ptr (3, u2) 0))], G [((2, u1), some (.box 27 [(di 0), (.d .nilS), (.d .nilS), (.d .nilS), (.d .nilS)])), ((3, u2), some (.box 27 [(di y3.Version), (oS y3.Lanes (29, g5.1)), (oS y3.Zones (47, g5.2.1)), (oS y3.Signals (65, g5.2.2.1)), (oS y3.Works (11, g5.2.2.2))])), ((29, g5.1), oB 42 5 eLane y3.Lanes), ((47, g5.2.1), oB 45 2 eZone y3.Zones), ((65, g5.2.2.1), oB 48 2 eSignal y3.Signals), ((11, g5.2.2.2), oB 50 6 eWork y3.Works)]⟩ s) ?_ ?_)))))
 refine l_block (l_loop (ref03_Copy_l3 p1) (fun (x3 : (Int × Map)) (g6 : (Nat × Nat × Nat × Nat)) => ⟨T [(1, (.ptr (1, u1) 0)), (2, (.ptr (2, u1) 0)), (3, (.ptr (3, u2) 0)), (6, (di x3.1))], G [((1, u1), some (.box 27 (dMap p1))), ((2, u1), some (.box 27 [(di 0), (.d .nilS), (.d .nilS), (.d .nilS), (.d .nilS)])), ((3, u2), some (.box 27 [(di x3.2.Version), (oS x3.2.Lanes (29, g6.1)), (oS x3.2.Zones (47, g6.2.1)), (oS x3.2.Signals (65, g6.2.2.1)), (oS x3.2.Works (11, g6.2.2.2))])), ((29, g6.1), oB 42 5 eLane x3.2.Lanes), ((47, g6.2.1), oB 45 2 eZone x3.2.Zones), ((65, g6.2.2.1), oB 48 2 eSignal x3.2.Signals), ((11, g6.2.2.2), oB 50 6 eWork x3.2.Works)]⟩) (0, (Map.mk y2.Version y2.Lanes y2.Zones [] y2.Works)) (g3.1, g3.2.1, 0, g3.2.2) _ hy3 (sb_of ⟨.of rfl, .of rfl, .of rfl, .of rfl, trivial⟩ (sbG_some G_hit (.of rfl) (sg rfl (sg rfl (sbG_oB (gq rfl) (sbG_oB (gq rfl) (sbG_nil (sbG_oB (gq rfl) trivial)))))))) ?_)
 intro x3 g6 z3 hz3 ez3
 unfold ref03_Copy_l3 at hz3
 refine l_seq (lr (fun u12 hu12 => sv rfl (sp rfl rfl (sl rfl G_hit rfl (sd rfl (v_len rfl) (sv rfl (s_nil (cc rfl hz3 (fun c3 hz3 => ?_) (fun c3 hz3 => ?_)))))))))
 refine l_skip (l_seq (l_block (l_draw rfl fun u13 hu13 => sp rfl rfl (s_val (oS x3.2.Signals (65, g6.2.2.1)) rfl (v_load rfl (gq rfl) rfl) (sp rfl rfl (sl rfl G_hit rfl (sv rfl (bs hz3 fun v8 hv8 hz3 => sd rfl (v_idx rfl rfl hv8 rfl) (sd rfl (v_loadLG rfl hv8 rfl rfl) (bs hz3 fun v9 hv9 hz3 => s_call rfl rfl all2_refl (ref03_OwnSignal_ok _  _ hv9) (.inl rfl) (s_val (dl eSignal [v9]) rfl rfl (bs hz3 fun v10 hv10 hz3 => s_appendO eSignal (65, g6.2.2.1) x3.2.Signals v9 [] _ (elems_list (fun _ => rfl)) rfl (gq rfl) hv10 (sp rfl rfl (sst rfl (gq rfl) [(di x3.2.Version), (oS x3.2.Lanes (29, g6.1)), (oS x3.2.Zones (47, g6.2.1)), (.sl (65, u13)), (oS x3.2.Works (11, g6.2.2.2))] rfl (s_nil (l_end (l_sub (s0 := ⟨T [(1, (.ptr (1, u1) 0)), (2, (.ptr (2, u1) 0)), (3, (.ptr (3, u2) 0)), (6, (di x3.1))], G [((1, u1), some (.box 27 (dMap p1))), ((2, u1), some (.box 27 [(di 0), (.d .nilS), (.d .nilS), (.d .nilS), (.d .nilS)])), ((3, u2), some (.box 27 [(di x3.2.Version), (oS x3.2.Lanes (29, g6.1)), (oS x3.2.Zones (47, g6.2.1)), (.sl (65, u13)), (oS x3.2.Works (11, g6.2.2.2))])), ((29, g6.1), oB 42 5 eLane x3.2.Lanes), ((47, g6.2.1), oB 45 2 eZone x3.2.Zones), ((65, u13), some (.arr 48 2 (List.map eSignal v10))), ((11, g6.2.2.2), oB 50 6 eWork x3.2.Works)]⟩) (sb_of ⟨.of rfl, .of rfl, .of rfl, .of rfl, trivial⟩ (sg rfl (sg rfl (sbG_some G_hit (.of rfl) (sbG_oB (gq rfl) (sbG_oB (gq rfl) (sg rfl (sbG_oB (gq rfl) trivial)))))))) ?_)))))))))))))))))
 refine l_reg fun u14 hu14 => sv rfl (sv rfl (sv rfl (s_nil (l_nil ?_))))
 cases hz3
 exact ⟨rfl, (g6.1, g6.2.1, u13, g6.2.2.2), (sb_of ⟨.of rfl, .of rfl, .of rfl, .of rfl, trivial⟩ (sbG_some G_hit (.of rfl) (sg rfl (sbG_some (gq rfl) (.box (cv (cv (cv (.cons (.of (oS_ne (appc_ne hv10)).symm) cw))))) (sbG_oB (gq rfl) (sbG_oB (gq rfl) (sbG_own (gq rfl) (sbG_oB (gq rfl) trivial))))))))⟩
 refine l_exitN rfl ?_
 cases hz3
 obtain rfl := ez3 _ rfl
 refine ⟨nofun, awl_pop rfl (l_j ?_)⟩
 exact ⟨(g6.1, g6.2.1, g6.2.2.1, g6.2.2.2), (sb_of ⟨.of rfl, .of rfl, trivial⟩ (sg rfl (sg rfl (sbG_oB (gq rfl) (sbG_oB (gq rfl) (sbG_oB (gq rfl) (sbG_oB (gq rfl) trivial)))))))⟩
 rintro _ ⟨g5, q3⟩
 refine l_sub q3 (lr (fun u15 hu15 => s_val (mkAgg [(di y3.Version), (oS y3.Lanes (29, g5.1)), (oS y3.Zones (47, g5.2.1)), (oS y3.Signals (65, g5.2.2.1)), (oS y3.Works (11, g5.2.2.2))]) rfl (v_loadG rfl (gq rfl) rfl rfl) (s_store _ _ _ _ _ (cellsV_mkAgg _) rfl rfl G_hit (nl rfl) [(di y3.Version), (oS y3.Lanes (29, g5.1)), (oS y3.Zones (47, g5.2.1)), (oS y3.Signals (65, g5.2.2.1)), (oS y3.Works (11, g5.2.2.2))] rfl (s_nil (l_ret ?_)))))
 cases h
 exact fin_ok (.inr rfl) (resD1 (res_cellG rfl G_hit (nl rfl) rfl) (rf_mkAgg (rD (rfL_cons (rf_oS (gq rfl)) (rfL_cons (rf_oS (gq rfl)) (rfL_cons (rf_oS (gq rfl)) (rfL_cons (rf_oS (gq rfl)) rfL_nil))))))) (.agg (ca rfl (.cons ⟨oD_le, rfl⟩ (.cons ⟨oD_le, rfl⟩ (.cons ⟨oD_le, rfl⟩ (.cons ⟨oD_le, rfl⟩ .nil))))))

noncomputable def ref03_within (p1 : Int) (p2 : Int) (p3 : Int) : Option Bool :=
  some ((decide (p1 ≥ p2)) && (decide (p1 ≤ p3)))

theorem ref03_within_ok (p1 : Int) (p2 : Int) (p3 : Int) (r : Bool) (h : ref03_within p1 p2 p3 = some r) : PCall Tryz.prog 71 [(i64 p1), (i64 p2), (i64 p3)] (bo r) := by
 refine l_call (fk Tryz.func71 Tryz.ntmps71 m0 (by with_unfolding_all rfl)) (nl rfl) ?_
 unfold ref03_within at h
 refine l_sub (s0 := ⟨T [(0, (.d _)), (1, (.d _)), (2, (.d _))], G []⟩) (sbr rfl rfl) ?_
 refine lr (fun u1 hu1 => sv rfl (s_nil (lr (fun u2 hu2 => sv rfl (sv rfl (sv rfl (sv rfl (gt rfl (fun _ => rfl) (gt rfl (fun _ => rfl) (gt rfl (fun w3 => (v_bin (gd_pos w3) (gd_pos w3) rfl)) (sa rfl rfl rfl (sv rfl (s_nil (l_ret ?_))))))))))))))
 cases h
 exact fin_ok (.inr rfl) (resD1 (res_t rfl) rf_d) (.refl _)

noncomputable def ref01_Valid (p1 : Spot) : Option Bool :=
  some ((((decide (p1.X ≥ (-16777216))) && (decide (p1.X ≤ 16777216))) && (decide (p1.Y ≥ (-16777216)))) && (decide (p1.Y ≤ 16777216)))

theorem ref01_Valid_ok (p1 : Spot) (r : Bool) (h : ref01_Valid p1 = some r) : PCall Tryz.prog 238 [(.agg [(i64 p1.X), (i64 p1.Y)])] (bo r) := by
 refine l_call (fk Tryz.func238 Tryz.ntmps238 m0 (by with_unfolding_all rfl)) (nl rfl) ?_
 unfold ref01_Valid at h
 refine l_sub (s0 := ⟨T [(0, (.d _))], G []⟩) (sbr rfl rfl) ?_
 refine lr (fun u1 hu1 => sn rfl rfl (sv rfl (s_nil (lr (fun u2 hu2 => sp rfl rfl (sl rfl G_hit rfl (sv rfl (sv rfl (gp rfl (gw_t rfl) (fun _ => rfl) (gt rfl (vl rfl G_hit rfl) (gt rfl (vb rfl rfl rfl) (sa rfl rfl rfl (sv rfl (gp rfl (gw_t rfl) (fun _ => rfl) (gt rfl (vl rfl G_hit rfl) (gt rfl (vb rfl rfl rfl) (sa rfl rfl rfl (sv rfl (gp rfl (gw_t rfl) (fun _ => rfl) (gt rfl (vl rfl G_hit rfl) (gt rfl (vb rfl rfl rfl) (sa rfl rfl rfl (sv rfl (s_nil (l_ret ?_)))))))))))))))))))))))))
 cases h
 exact fin_ok (.inr rfl) (resD1 (res_t rfl) rf_d) (.refl _)

noncomputable def ref01_Minus (p1 : Spot) (p2 : Spot) : Option Spot :=
  some (Spot.mk (w64 (p1.X - p2.X)) (w64 (p1.Y - p2.Y)))

theorem ref01_Minus_ok (p1 : Spot) (p2 : Spot) (r : Spot) (h : ref01_Minus p1 p2 = some r) : PCall Tryz.prog 239 [(.agg [(i64 p1.X), (i64 p1.Y)]), (.agg [(i64 p2.X), (i64 p2.Y)])] (.agg [(i64 r.X), (i64 r.Y)]) := by
 refine l_call (fk Tryz.func239 Tryz.ntmps239 m0 (by with_unfolding_all rfl)) (nl rfl) ?_
 unfold ref01_Minus at h
 refine l_sub (s0 := ⟨T [(0, (.d _)), (1, (.d _))], G []⟩) (sbr rfl rfl) ?_
 refine lr (fun u1 hu1 => sn rfl rfl (sn rfl rfl (sn rfl rfl (s_nil (lr (fun u2 hu2 => sp rfl rfl (sl rfl (gq rfl) rfl (sp rfl rfl (sl rfl (gq rfl) rfl (sv rfl (sp rfl rfl (sl rfl (gq rfl) rfl (sp rfl rfl (sl rfl (gq rfl) rfl (sv rfl (sv rfl (sst rfl G_hit [(di (w64 (p1.X - p2.X))), (di (w64 (p1.Y - p2.Y)))] rfl (s_nil (l_ret ?_)))))))))))))))))))
 cases h
 exact fin_ok (.inr rfl) (resD1 (res_cellG rfl G_hit (nl rfl) rfl) rf_d) (.refl _)

noncomputable def ref01_Dot (p1 : Spot) (p2 : Spot) : Option Int :=
  some (w64 ((w64 (p1.X * p2.X)) + (w64 (p1.Y * p2.Y))))

theorem ref01_Dot_ok (p1 : Spot) (p2 : Spot) (r : Int) (h : ref01_Dot p1 p2 = some r) : PCall Tryz.prog 241 [(.agg [(i64 p1.X), (i64 p1.Y)]), (.agg [(i64 p2.X), (i64 p2.Y)])] (i64 r) := by
 refine l_call (fk Tryz.func241 Tryz.ntmps241 m0 (by with_unfolding_all rfl)) (nl rfl) ?_
 unfold ref01_Dot at h
 refine l_sub (s0 := ⟨T [(0, (.d _)), (1, (.d _))], G []⟩) (sbr rfl rfl) ?_
 refine lr (fun u1 hu1 => sn rfl rfl (sn rfl rfl (sv rfl (s_nil (lr (fun u2 hu2 => sp rfl rfl (sl rfl (gq rfl) rfl (sp rfl rfl (sl rfl G_hit rfl (sv rfl (sp rfl rfl (sl rfl (gq rfl) rfl (sp rfl rfl (sl rfl G_hit rfl (sv rfl (sv rfl (sv rfl (s_nil (l_ret ?_)))))))))))))))))))
 cases h
 exact fin_ok (.inr rfl) (resD1 (res_t rfl) rf_d) (.refl _)

noncomputable def ref01_root_l1 (p1 : Int) (x1 : (Int × Int)) : Option (Stp (Int × Int) Int) :=
  cond (decide (x1.2 > 0)) (cond (decide ((w64 ((w64 (x1.1 + x1.2)) * (w64 (x1.1 + x1.2)))) ≤ p1)) (some (.go ((w64 (x1.1 + x1.2)), (w64 (x1.2.tdiv 2))))) (some (.go (x1.1, (w64 (x1.2.tdiv 2)))))) (some (.out x1.1))
noncomputable def ref01_root (p1 : Int) : Option Int :=
  (loop (ref01_root_l1 p1) (0, 67108864)).bind fun y1 => some y1

theorem ref01_root_ok (p1 : Int) (r : Int) (h : ref01_root p1 = some r) : PCall Tryz.prog 240 [(i64 p1)] (i64 r) := by
 refine l_call (fk Tryz.func240 Tryz.ntmps240 m0 (by with_unfolding_all rfl)) (nl rfl) ?_
 unfold ref01_root at h
 refine l_sub (s0 := ⟨T [(0, (.d _))], G []⟩) (sbr rfl rfl) ?_
 refine lr (fun u1 hu1 => sv rfl (s_nil (lr (fun u2 hu2 => sv rfl (s_nil (l_seq (lr (fun u3 hu3 => sv rfl (s_nil (bs h fun y1 hy1 h => l_join (fun s => ∃ g1 : Unit, Sb ⟨T [(3, (di y1))], G []⟩ s) ?_ ?_))))))))))
 refine l_block (l_loop (ref01_root_l1 p1) (fun (x1 : (Int × Int)) (g2 : Unit) => ⟨T [(0, (di p1)), (3, (di x1.1)), (4, (di x1.2))], G []⟩) (0, 67108864) () _ hy1 (sbr rfl rfl) ?_)
 intro x1 g2 z1 hz1 ez1
 unfold ref01_root_l1 at hz1
 refine l_seq (lr (fun u4 hu4 => sv rfl (sv rfl (s_nil (cc rfl hz1 (fun c1 hz1 => ?_) (fun c1 hz1 => ?_))))))
 refine l_skip (l_seq (l_block (lr (fun u5 hu5 => sv rfl (sv rfl (sv rfl (sv rfl (sv rfl (sv rfl (sv rfl (sv rfl (sv rfl (s_nil (cc rfl hz1 (fun c2 hz1 => ?_) (fun c2 hz1 => ?_)))))))))))))))
 refine l_reg fun u6 hu6 => sv rfl (sv rfl (sv rfl (sv rfl (s_nil (l_end (l_reg fun u7 hu7 => sv rfl (sv rfl (sv rfl (s_nil (l_nil ?_))))))))))
 cases hz1
 exact ⟨rfl, (), (sbr rfl rfl)⟩
 refine l_skip (l_end (l_reg fun u8 hu8 => sv rfl (sv rfl (sv rfl (s_nil (l_nil ?_))))))
 cases hz1
 exact ⟨rfl, (), (sbr rfl rfl)⟩
 refine l_exitN rfl ?_
 cases hz1
 obtain rfl := ez1 _ rfl
 refine ⟨nofun, awl_pop rfl (l_j ?_)⟩
 exact ⟨(), (sbr rfl rfl)⟩
 rintro _ ⟨g1, q1⟩
 refine l_sub q1 (lr (fun u9 hu9 => sv rfl (sv rfl (s_nil (l_ret ?_)))))
 cases h
 exact fin_ok (.inr rfl) (resD1 (res_t rfl) rf_d) (.refl _)

noncomputable def ref01_Check_l2 (p1 : Curve) (x2 : Int) : Option (Stp Int (Sum Unit Int)) :=
  cond (decide ((w64 (x2 + 1)) < (p1.Pts.length : Int))) ((geti p1.Pts (w64 (x2 + 1))).bind fun v3 => (geti p1.Pts x2).bind fun v4 => (ref01_Minus v3 v4).bind fun v5 => (ref01_Dot v5 v5).bind fun v6 => (ref01_root v6).bind fun v7 => (ref01_Dot v5 v5).bind fun v8 => cond ((w64 (v7 * v7)) != v8) (some (.out (.inr 3))) (cond ((decide (v7 < 1000)) || (decide (v7 > 1048576))) (some (.out (.inr 2))) (((cond (decide (x2 > 0)) (geti p1.Pts x2) (some default))).bind fun v9 => ((cond (decide (x2 > 0)) (geti p1.Pts (w64 (x2 - 1))) (some default))).bind fun v10 => ((cond (decide (x2 > 0)) (ref01_Minus v9 v10) (some default))).bind fun v11 => ((cond (decide (x2 > 0)) (ref01_Dot v5 v11) (some default))).bind fun v12 => cond ((decide (x2 > 0)) && (decide (v12 ≤ 0))) (some (.out (.inr 12))) (some (.go (w64 (x2 + 1))))))) (some (.out (.inl ())))
noncomputable def ref01_Check_l1 (p1 : Curve) (x1 : Int) : Option (Stp Int (Sum Unit Int)) :=
  cond (decide (x1 < (p1.Pts.length : Int))) ((geti p1.Pts x1).bind fun v1 => (ref01_Valid v1).bind fun v2 => cond (!v2) (some (.out (.inr 2))) (some (.go (w64 (x1 + 1))))) (some (.out (.inl ())))
noncomputable def ref01_Check (p1 : Curve) : Option Int :=
  cond (decide ((p1.Pts.length : Int) < 2)) (some 6) (cond (decide ((p1.Pts.length : Int) > 16)) (some 5) (thenS (loop (ref01_Check_l1 p1) 0) (fun _ => thenS (loop (ref01_Check_l2 p1) 0) (fun _ => some 0) (fun r => some r)) (fun r => some r)))

theorem ref01_Check_ok (p1 : Curve) (r : Int) (h : ref01_Check p1 = some r) : PCall Tryz.prog 175 [(.agg [(.list (List.map eSpot p1.Pts))])] (i64 r) := by
 refine l_call (fk Tryz.func175 Tryz.ntmps175 m0 (by with_unfolding_all rfl)) (nl rfl) ?_
 unfold ref01_Check at h
 refine l_sub (s0 := ⟨T [(0, (.d _))], G []⟩) (sbr rfl rfl) ?_
 refine lr (fun u1 hu1 => sn rfl rfl (sv rfl (s_nil (l_seq (lr (fun u2 hu2 => sp rfl rfl (sl rfl G_hit rfl (sd rfl (v_len rfl) (sv rfl (s_nil (cc rfl h (fun c1 h => ?_) (fun c1 h => ?_))))))))))))
 refine lr (fun u3 hu3 => sv rfl (s_nil (l_ret ?_)))
 cases h
 exact fin_ok (.inr rfl) (resD1 (res_t rfl) rf_d) (.refl _)
 refine l_skip (l_seq (lr (fun u4 hu4 => sp rfl rfl (sl rfl G_hit rfl (sd rfl (v_len rfl) (sv rfl (s_nil (cc rfl h (fun c2 h => ?_) (fun c2 h => ?_)))))))))
 refine lr (fun u5 hu5 => sv rfl (s_nil (l_ret ?_)))
 cases h
 exact fin_ok (.inr rfl) (resD1 (res_t rfl) rf_d) (.refl _)
 refine l_skip (l_seq (lr (fun u6 hu6 => sv rfl (s_nil (js h fun z1 hz1 h => l_join (fun s => ∃ (y1 : Unit) (g1 : Unit), z1 = .inl y1 ∧ Sb ⟨T [(1, (.ptr (1, u1) 0))], G [((1, u1), some (.box 39 [(dl eSpot p1.Pts)]))]⟩ s) ?_ ?_)))))
 refine l_block (l_loop (ref01_Check_l1 p1) (fun (x1 : Int) (g2 : Unit) => ⟨T [(1, (.ptr (1, u1) 0)), (3, (di x1))], G [((1, u1), some (.box 39 [(dl eSpot p1.Pts)]))]⟩) 0 () _ hz1 (sbr rfl rfl) ?_)
 intro x1 g2 z2 hz2 ez2
 unfold ref01_Check_l1 at hz2
 refine l_seq (lr (fun u7 hu7 => sv rfl (sp rfl rfl (sl rfl G_hit rfl (sd rfl (v_len rfl) (sv rfl (s_nil (cc rfl hz2 (fun c3 hz2 => ?_) (fun c3 hz2 => ?_)))))))))
 refine l_skip (l_seq (l_block (lr (fun u8 hu8 => sp rfl rfl (sl rfl G_hit rfl (sv rfl (bs hz2 fun v1 hv1 hz2 => sd rfl (v_idx rfl rfl hv1 rfl) (sd rfl (v_loadLG rfl hv1 rfl rfl) (bs hz2 fun v2 hv2 hz2 => s_call rfl rfl all2_refl (ref01_Valid_ok _  _ hv2) (.inl rfl) (s_val (.d (bo (!v2))) rfl rfl (s_nil (cc rfl hz2 (fun c4 hz2 => ?_) (fun c4 hz2 => ?_)))))))))))))
 refine lr (fun u9 hu9 => sv rfl (s_nil (l_ret ?_)))
 cases hz2
 obtain rfl := ez2 _ rfl
 refine ⟨nofun, awl_ret ?_⟩
 rw [Sum.elim_inr] at h
 cases h
 exact fin_ok (.inr rfl) (resD1 (res_t rfl) rf_d) (.refl _)
 refine l_skip (l_end (l_reg fun u10 hu10 => sv rfl (sv rfl (sv rfl (s_nil (l_nil ?_))))))
 cases hz2
 exact ⟨rfl, (), (sbr rfl rfl)⟩
 refine l_exitN rfl ?_
 cases hz2
 obtain rfl := ez2 _ rfl
 refine ⟨nofun, awl_pop rfl (l_j ?_)⟩
 exact ⟨_, (), rfl, (sbr rfl rfl)⟩
 rintro _ ⟨y1, g1, rfl, q1⟩
 rw [Sum.elim_inl] at h
 refine l_sub q1 (l_seq (lr (fun u11 hu11 => sv rfl (s_nil (js h fun z3 hz3 h => l_join (fun s => ∃ (y2 : Unit) (g3 : Unit), z3 = .inl y2 ∧ Sb ⟨T [], G []⟩ s) ?_ ?_)))))
 refine l_block (l_loop (ref01_Check_l2 p1) (fun (x2 : Int) (g4 : Unit) => ⟨T [(1, (.ptr (1, u1) 0)), (4, (di x2))], G [((1, u1), some (.box 39 [(dl eSpot p1.Pts)]))]⟩) 0 () _ hz3 (sbr rfl rfl) ?_)
 intro x2 g4 z4 hz4 ez4
 unfold ref01_Check_l2 at hz4
 refine l_seq (lr (fun u12 hu12 => sv rfl (sv rfl (sp rfl rfl (sl rfl G_hit rfl (sd rfl (v_len rfl) (sv rfl (s_nil (cc rfl hz4 (fun c5 hz4 => ?_) (fun c5 hz4 => ?_))))))))))
 refine l_skip (l_seq (l_block (l_seq (l_draw rfl fun u13 hu13 => sp rfl rfl (sl rfl G_hit rfl (sv rfl (sv rfl (bs hz4 fun v3 hv3 hz4 => sd rfl (v_idx rfl rfl hv3 rfl) (sd rfl (v_loadLG rfl hv3 rfl rfl) (sp rfl rfl (sl rfl G_hit rfl (sv rfl (bs hz4 fun v4 hv4 hz4 => sd rfl (v_idx rfl rfl hv4 rfl) (sd rfl (v_loadLG rfl hv4 rfl rfl) (bs hz4 fun v5 hv5 hz4 => s_call rfl rfl all2_refl (ref01_Minus_ok _ _  _ hv5) (.inl rfl) (sn rfl rfl (sst rfl G_hit [(di v5.X), (di v5.Y)] rfl (s_nil (l_seq (l_sub (s0 := ⟨T [(1, (.ptr _ _)), (4, (.d _)), (5, (.ptr _ _))], G [((1, u1), some (.box 39 _)), ((5, u13), some (.box 148 _))]⟩) (sbr rfl rfl) ?_))))))))))))))))))))
 refine l_reg fun u14 hu14 => sd rfl (v_loadG rfl (gq rfl) rfl rfl) (sd rfl (v_loadG rfl (gq rfl) rfl rfl) (bs hz4 fun v6 hv6 hz4 => s_call rfl rfl all2_refl (ref01_Dot_ok _ _  _ hv6) (.inl rfl) (bs hz4 fun v7 hv7 hz4 => s_call rfl rfl all2_refl (ref01_root_ok _  _ hv7) (.inl rfl) (sv rfl (s_nil (l_seq (lr (fun u15 hu15 => sv rfl (sv rfl (sv rfl (sd rfl (v_loadG rfl (gq rfl) rfl rfl) (sd rfl (v_loadG rfl (gq rfl) rfl rfl) (bs hz4 fun v8 hv8 hz4 => s_call rfl rfl all2_refl (ref01_Dot_ok _ _  _ hv8) (.inl rfl) (sv rfl (s_nil (cc rfl hz4 (fun c6 hz4 => ?_) (fun c6 hz4 => ?_)))))))))))))))))
 refine lr (fun u16 hu16 => sv rfl (s_nil (l_ret ?_)))
 cases hz4
 obtain rfl := ez4 _ rfl
 refine ⟨nofun, awl_ret ?_⟩
 rw [Sum.elim_inr] at h
 cases h
 exact fin_ok (.inr rfl) (resD1 (res_t rfl) rf_d) (.refl _)
 refine l_skip (l_seq (lr (fun u17 hu17 => sv rfl (sv rfl (sv rfl (gf rfl (fun _ => rfl) (gf rfl (vb rfl rfl rfl) (sd rfl (v_or rfl rfl (fun hc => gd_pos (not_t hc))) (s_nil (cc rfl hz4 (fun c7 hz4 => ?_) (fun c7 hz4 => ?_)))))))))))
 refine l_seq (l_sub (s0 := ⟨T [], G []⟩) (sbr rfl rfl) ?_)
 refine l_reg fun u18 hu18 => sv rfl (s_nil (l_ret ?_))
 cases hz4
 obtain rfl := ez4 _ rfl
 refine ⟨nofun, awl_ret ?_⟩
 rw [Sum.elim_inr] at h
 cases h
 exact fin_ok (.inr rfl) (resD1 (res_t rfl) rf_d) (.refl _)
 refine l_skip (l_seq (l_sub (s0 := ⟨T [(1, (.ptr _ _)), (4, (.d _)), (5, (.ptr _ _))], G [((1, u1), some (.box 39 _)), ((5, u13), some (.box 148 _))]⟩) (sbr rfl rfl) ?_))
 refine l_draw rfl fun u19 hu19 => sv rfl (sv rfl (sv rfl (gt rfl (fun w3 => (v_loadG rfl (gq rfl) rfl rfl)) (gp rfl (gw_t rfl) (fun _ => rfl) (gt rfl (vl rfl G_hit rfl) (gt rfl (fun _ => rfl) (bs hz4 fun v9 hv9 hz4 => gt rfl (fun w7 => (v_idx (gd_pos w7) (gd_pos w7) (cond_t w7 hv9) rfl)) (gt rfl (fun w8 => (v_loadLG (gd_pos w8) (cond_t w8 hv9) rfl rfl)) (gp rfl (gw_t rfl) (fun _ => rfl) (gt rfl (vl rfl G_hit rfl) (gt rfl (fun _ => rfl) (gt rfl (vb rfl rfl rfl) (bs hz4 fun v10 hv10 hz4 => gt rfl (fun w13 => (v_idx (gd_pos w13) (gd_pos w13) (cond_t w13 hv10) rfl)) (gt rfl (fun w14 => (v_loadLG (gd_pos w14) (cond_t w14 hv10) rfl rfl)) (bs hz4 fun v11 hv11 hz4 => ?_)))))))))))))))
 refine g_call _ (.agg [(i64 v11.X), (i64 v11.Y)]) (gw_t rfl) (fun w15 => ⟨_, [(.d (.agg [(i64 v9.X), (i64 v9.Y)])), (.d (.agg [(i64 v10.X), (i64 v10.Y)]))], _, _, (by simp only [gd_pos w15]; rfl), rfl, all2_refl, ref01_Minus_ok _ _  _ (cond_t w15 hv11), (.inl rfl)⟩) ?_
 refine bs hz4 fun v12 hv12 hz4 => ?_
 refine g_call _ (i64 v12) (gw_t rfl) (fun w16 => ⟨_, [(.d (.agg [(i64 v5.X), (i64 v5.Y)])), (.d (.agg [(i64 v11.X), (i64 v11.Y)]))], _, _, (by simp only [gd_pos w16]; rfl), rfl, all2_refl, ref01_Dot_ok _ _  _ (cond_t w16 hv12), (.inl rfl)⟩) ?_
 refine gt rfl (vb rfl rfl rfl) (sa rfl rfl rfl (s_nil (cc rfl hz4 (fun c8 hz4 => ?_) (fun c8 hz4 => ?_))))
 refine l_seq (l_sub (s0 := ⟨T [], G []⟩) (sbr rfl rfl) ?_)
 refine l_reg fun u20 hu20 => sv rfl (s_nil (l_ret ?_))
 cases hz4
 obtain rfl := ez4 _ rfl
 refine ⟨nofun, awl_ret ?_⟩
 rw [Sum.elim_inr] at h
 cases h
 exact fin_ok (.inr rfl) (resD1 (res_t rfl) rf_d) (.refl _)
 refine l_skip (l_end (l_sub (s0 := ⟨T [(1, (.ptr _ _)), (4, (.d _))], G [((1, u1), some (.box 39 _))]⟩) (sbr rfl rfl) ?_))
 refine l_reg fun u21 hu21 => sv rfl (sv rfl (sv rfl (s_nil (l_nil ?_))))
 cases hz4
 exact ⟨rfl, (), (sbr rfl rfl)⟩
 refine l_exitN rfl ?_
 cases hz4
 obtain rfl := ez4 _ rfl
 refine ⟨nofun, awl_pop rfl (l_j ?_)⟩
 exact ⟨_, (), rfl, (sbr rfl rfl)⟩
 rintro _ ⟨y2, g3, rfl, q2⟩
 rw [Sum.elim_inl] at h
 refine l_sub q2 (lr (fun u22 hu22 => sv rfl (s_nil (l_ret ?_))))
 cases h
 exact fin_ok (.inr rfl) (resD1 (res_t rfl) rf_d) (.refl _)

noncomputable def ref03_Bounds (p1 : Int) : Option (Int × Int × Int) :=
  cond (p1 == 1) (some (2000, 30, 90)) (cond (p1 == 2) (some (1000, 20, 60)) (cond (p1 == 3) (some (300, 100, 300)) (some (0, 0, 0))))

theorem ref03_Bounds_ok (p1 : Int) (r : (Int × Int × Int)) (h : ref03_Bounds p1 = some r) : PCall Tryz.prog 176 [(i64 p1)] (.tup [(i64 r.1), (i64 r.2.1), (i64 r.2.2)]) := by
 refine l_call (fk Tryz.func176 Tryz.ntmps176 m0 (by with_unfolding_all rfl)) (nl rfl) ?_
 unfold ref03_Bounds at h
 refine l_sub (s0 := ⟨T [(0, (.d _))], G []⟩) (sbr rfl rfl) ?_
 refine lr (fun u1 hu1 => sv rfl (sv rfl (sv rfl (s_nil (l_seq (lr (fun u2 hu2 => sv rfl (s_nil (l_block (lr (fun u3 hu3 => sv rfl (sv rfl (s_nil (cc rfl h (fun c1 h => ?_) (fun c1 h => ?_)))))))))))))))
 refine lr (fun u4 hu4 => sv rfl (sv rfl (sv rfl (s_nil (l_ret ?_)))))
 cases h
 exact fin_ok (.inr rfl) (resD3 (res_t rfl) (res_t rfl) (res_t rfl) rf_d rf_d rf_d) (.refl _)
 refine lr (fun u5 hu5 => sv rfl (sv rfl (s_nil (cc rfl h (fun c2 h => ?_) (fun c2 h => ?_)))))
 refine lr (fun u6 hu6 => sv rfl (sv rfl (sv rfl (s_nil (l_ret ?_)))))
 cases h
 exact fin_ok (.inr rfl) (resD3 (res_t rfl) (res_t rfl) (res_t rfl) rf_d rf_d rf_d) (.refl _)
 refine lr (fun u7 hu7 => sv rfl (sv rfl (s_nil (cc rfl h (fun c3 h => ?_) (fun c3 h => ?_)))))
 refine lr (fun u8 hu8 => sv rfl (sv rfl (sv rfl (s_nil (l_ret ?_)))))
 cases h
 exact fin_ok (.inr rfl) (resD3 (res_t rfl) (res_t rfl) (res_t rfl) rf_d rf_d rf_d) (.refl _)
 refine l_skip (l_end (lr (fun u9 hu9 => sv rfl (sv rfl (sv rfl (s_nil (l_ret ?_)))))))
 cases h
 exact fin_ok (.inr rfl) (resD3 (res_t rfl) (res_t rfl) (res_t rfl) rf_d rf_d rf_d) (.refl _)

noncomputable def ref03_ordered_l1 (p1 : (List Int)) (p2 : Int) (p3 : Int) (x1 : Int) : Option (Stp Int (Sum Unit Bool)) :=
  cond (decide (x1 < (p1.length : Int))) ((geti p1 x1).bind fun v1 => ((cond (!(decide (v1 < p2))) (geti p1 x1) (some default))).bind fun v2 => ((cond ((!((decide (v1 < p2)) || (decide (v2 ≥ p3)))) && (decide (x1 > 0))) (geti p1 x1) (some default))).bind fun v3 => ((cond ((!((decide (v1 < p2)) || (decide (v2 ≥ p3)))) && (decide (x1 > 0))) (geti p1 (w64 (x1 - 1))) (some default))).bind fun v4 => cond (((decide (v1 < p2)) || (decide (v2 ≥ p3))) || ((decide (x1 > 0)) && (decide (v3 ≤ v4)))) (some (.out (.inr false))) (some (.go (w64 (x1 + 1))))) (some (.out (.inl ())))
noncomputable def ref03_ordered (p1 : (List Int)) (p2 : Int) (p3 : Int) : Option Bool :=
  thenS (loop (ref03_ordered_l1 p1 p2 p3) 0) (fun _ => some true) (fun r => some r)

theorem ref03_ordered_ok (p1 : (List Int)) (p2 : Int) (p3 : Int) (r : Bool) (h : ref03_ordered p1 p2 p3 = some r) : PCall Tryz.prog 177 [(.list (List.map eInt_i64 p1)), (i64 p2), (i64 p3)] (bo r) := by
 refine l_call (fk Tryz.func177 Tryz.ntmps177 m0 (by with_unfolding_all rfl)) (nl rfl) ?_
 unfold ref03_ordered at h
 refine l_sub (s0 := ⟨T [(0, (.d _)), (1, (.d _)), (2, (.d _))], G []⟩) (sbr rfl rfl) ?_
 refine lr (fun u1 hu1 => sv rfl (s_nil (l_seq (lr (fun u2 hu2 => sv rfl (s_nil (js h fun z1 hz1 h => l_join (fun s => ∃ (y1 : Unit) (g1 : Unit), z1 = .inl y1 ∧ Sb ⟨T [], G []⟩ s) ?_ ?_)))))))
 refine l_block (l_loop (ref03_ordered_l1 p1 p2 p3) (fun (x1 : Int) (g2 : Unit) => ⟨T [(0, (dl eInt_i64 p1)), (1, (di p2)), (2, (di p3)), (7, (di x1))], G []⟩) 0 () _ hz1 (sbr rfl rfl) ?_)
 intro x1 g2 z2 hz2 ez2
 unfold ref03_ordered_l1 at hz2
 refine l_seq (lr (fun u3 hu3 => sv rfl (sv rfl (sd rfl (v_len rfl) (sv rfl (s_nil (cc rfl hz2 (fun c1 hz2 => ?_) (fun c1 hz2 => ?_))))))))
 refine l_skip (l_seq (l_block (l_seq (l_draw rfl fun u4 hu4 => sv rfl (sv rfl (bs hz2 fun v1 hv1 hz2 => sd rfl (v_idx rfl rfl hv1 rfl) (sd rfl (v_loadL rfl hv1 rfl) (sv rfl (sv rfl (sv rfl (gf rfl (fun _ => rfl) (gf rfl (fun _ => rfl) (bs hz2 fun v2 hv2 hz2 => gf rfl (fun w3 => (v_idx (gd_pos w3) (gd_pos w3) (cond_t w3 hv2) rfl)) (gf rfl (fun w4 => (v_loadL (gd_pos w4) (cond_t w4 hv2) rfl)) (gf rfl (fun _ => rfl) (gf rfl (fun w6 => (v_bin (gd_pos w6) (gd_pos w6) rfl)) (sd rfl (v_or rfl rfl (fun hc => gd_pos (not_t hc))) (sv rfl (gf rfl (fun _ => rfl) (gf rfl (vb rfl rfl rfl) (gf rfl (fun w9 => (v_mv (gd_pos w9))) (gv rfl (gw_gt rfl) (fun _ => rfl) (gv rfl (gw_gt rfl) (fun _ => rfl) (bs hz2 fun v3 hv3 hz2 => gv rfl (gw_gt rfl) (fun w12 => (v_idx (gd_pos w12) (gd_pos w12) (cond_t w12 hv3) rfl)) (gv rfl (gw_gt rfl) (fun w13 => (v_loadL (gd_pos w13) (cond_t w13 hv3) rfl)) (gv rfl (gw_gt rfl) (fun _ => rfl) (gv rfl (gw_gt rfl) (fun _ => rfl) (gv rfl (gw_gt rfl) (vb rfl rfl rfl) (bs hz2 fun v4 hv4 hz2 => gv rfl (gw_gt rfl) (fun w17 => (v_idx (gd_pos w17) (gd_pos w17) (cond_t w17 hv4) rfl)) (gv rfl (gw_gt rfl) (fun w18 => (v_loadL (gd_pos w18) (cond_t w18 hv4) rfl)) (gv rfl (gw_gt rfl) (fun w19 => (v_bin (gd_pos w19) (gd_pos w19) rfl)) (gf rfl (fun w20 => (v_and (gd_pos w20) (fun hc => gd_pos (and_i w20 hc)) rfl)) (sd rfl (v_or rfl rfl (fun hc => gd_pos (not_t hc))) (s_nil (cc rfl hz2 (fun c2 hz2 => ?_) (fun c2 hz2 => ?_))))))))))))))))))))))))))))))))))))
 refine l_seq (l_sub (s0 := ⟨T [], G []⟩) (sbr rfl rfl) ?_)
 refine l_reg fun u5 hu5 => sv rfl (s_nil (l_ret ?_))
 cases hz2
 obtain rfl := ez2 _ rfl
 refine ⟨nofun, awl_ret ?_⟩
 rw [Sum.elim_inr] at h
 cases h
 exact fin_ok (.inr rfl) (resD1 (res_t rfl) rf_d) (.refl _)
 refine l_skip (l_end (l_sub (s0 := ⟨T [(0, (.d _)), (1, (.d _)), (2, (.d _)), (7, (.d _))], G []⟩) (sbr rfl rfl) ?_))
 refine l_reg fun u6 hu6 => sv rfl (sv rfl (sv rfl (s_nil (l_nil ?_))))
 cases hz2
 exact ⟨rfl, (), (sbr rfl rfl)⟩
 refine l_exitN rfl ?_
 cases hz2
 obtain rfl := ez2 _ rfl
 refine ⟨nofun, awl_pop rfl (l_j ?_)⟩
 exact ⟨_, (), rfl, (sbr rfl rfl)⟩
 rintro _ ⟨y1, g1, rfl, q1⟩
 rw [Sum.elim_inl] at h
 refine l_sub q1 (lr (fun u7 hu7 => sv rfl (s_nil (l_ret ?_))))
 cases h
 exact fin_ok (.inr rfl) (resD1 (res_t rfl) rf_d) (.refl _)

noncomputable def ref03_checkLane (p1 : Map) (p2 : Int) : Option Int :=
  (geti p1.Lanes p2).bind fun v1 => cond ((decide (v1.Kind < 1)) || (decide (v1.Kind > 3))) (some 4) ((ref01_Check v1.Curve_).bind fun v2 => cond (v2 != 0) (some v2) ((ref03_Bounds v1.Kind).bind fun v3 => (ref03_within v1.Half 200 4000).bind fun v4 => ((cond (!(!v4)) (ref03_within v1.Limit 1 v3.1) (some default))).bind fun v5 => cond ((!v4) || (!v5)) (some 2) (cond (decide ((v1.Next.length : Int) > 3)) (some 8) ((ref03_ordered v1.Next (w64 (p2 + 1)) (p1.Lanes.length : Int)).bind fun v6 => cond (!v6) (some 11) (some 0)))))

theorem ref03_checkLane_ok (p1 : Map) (p2 : Int) (r : Int) (h : ref03_checkLane p1 p2 = some r) : PCall Tryz.prog 72 [(.agg (eMap p1)), (i64 p2)] (i64 r) := by
 refine l_call (fk Tryz.func72 Tryz.ntmps72 m0 (by with_unfolding_all rfl)) (nl rfl) ?_
 unfold ref03_checkLane at h
 refine l_sub (s0 := ⟨T [(0, (.d _)), (1, (.d _))], G []⟩) (sbr rfl rfl) ?_
 refine lr (fun u1 hu1 => sn rfl rfl (sv rfl (s_nil (lr (fun u2 hu2 => sp rfl rfl (sl rfl G_hit rfl (sv rfl (bs h fun v1 hv1 h => sd rfl (v_idx rfl rfl hv1 rfl) (sd rfl (v_loadLG rfl hv1 rfl rfl) (sn rfl rfl (sst rfl G_hit (dLane v1) rfl (s_nil (l_seq (lr (fun u3 hu3 => sp rfl rfl (sl rfl G_hit rfl (sv rfl (sv rfl (gp rfl (gw_f rfl) (fun _ => rfl) (gf rfl (vl rfl G_hit rfl) (gf rfl (vb rfl rfl rfl) (sd rfl (v_or rfl rfl (fun hc => gd_pos (not_t hc))) (s_nil (cc rfl h (fun c1 h => ?_) (fun c1 h => ?_)))))))))))))))))))))))))
 refine lr (fun u4 hu4 => sv rfl (s_nil (l_ret ?_)))
 cases h
 exact fin_ok (.inr rfl) (resD1 (res_t rfl) rf_d) (.refl _)
 refine l_skip (lr (fun u5 hu5 => sp rfl rfl (sd rfl (v_loadG rfl G_hit rfl rfl) (bs h fun v2 hv2 h => s_call rfl rfl all2_refl (ref01_Check_ok _  _ hv2) (.inl rfl) (sv rfl (s_nil (l_seq (l_seq (l_sub (s0 := ⟨T [(1, (.d _)), (2, (.ptr _ _)), (5, (.ptr _ _)), (6, (.d _))], G [((2, u1), some (.box 27 _)), ((5, u2), some (.box 42 _))]⟩) (sbr rfl rfl) ?_)))))))))
 refine l_reg fun u6 hu6 => sv rfl (sv rfl (s_nil (cc rfl h (fun c2 h => ?_) (fun c2 h => ?_))))
 refine lr (fun u7 hu7 => sv rfl (sv rfl (s_nil (l_ret ?_))))
 cases h
 exact fin_ok (.inr rfl) (resD1 (res_t rfl) rf_d) (.refl _)
 refine l_skip (lr (fun u8 hu8 => sp rfl rfl (sl rfl (gq rfl) rfl (bs h fun v3 hv3 h => s_call rfl rfl all2_refl (ref03_Bounds_ok _  _ hv3) (.inl rfl) (sv rfl (sv rfl (sv rfl (sv rfl (sv rfl (sv rfl (sv rfl (s_nil (l_seq (lr (fun u9 hu9 => sp rfl rfl (sl rfl (gq rfl) rfl (bs h fun v4 hv4 h => s_call rfl rfl all2_refl (ref03_within_ok _ _ _  _ hv4) (.inl rfl) (s_val (.d (bo (!v4))) rfl rfl (sv rfl (gp rfl (gw_f rfl) (fun _ => rfl) (gf rfl (vl rfl (gq rfl) rfl) (gf rfl (fun _ => rfl) (bs h fun v5 hv5 h => ?_)))))))))))))))))))))))
 refine g_call _ (bo v5) (gw_f rfl) (fun w7 => ⟨_, [(di v1.Limit), (di 1), (di v3.1)], _, _, (by simp only [gd_pos w7]; rfl), rfl, all2_refl, ref03_within_ok _ _ _  _ (cond_t w7 hv5), (.inl rfl)⟩) ?_
 refine g_val _ (.d (bo (!v5))) rfl (gw_f rfl) (fun w8 => (by simp only [gd_pos w8]; rfl)) ?_
 refine sd rfl (v_or rfl rfl (fun hc => gd_pos (not_t hc))) (s_nil (cc rfl h (fun c3 h => ?_) (fun c3 h => ?_)))
 refine l_seq (l_sub (s0 := ⟨T [], G []⟩) (sbr rfl rfl) ?_)
 refine l_reg fun u10 hu10 => sv rfl (s_nil (l_ret ?_))
 cases h
 exact fin_ok (.inr rfl) (resD1 (res_t rfl) rf_d) (.refl _)
 refine l_skip (l_seq (l_seq (l_sub (s0 := ⟨T [(1, (.d _)), (2, (.ptr _ _)), (5, (.ptr _ _))], G [((2, u1), some (.box 27 _)), ((5, u2), some (.box 42 _))]⟩) (sbr rfl rfl) ?_)))
 refine l_reg fun u11 hu11 => sp rfl rfl (sl rfl (gq rfl) rfl (sd rfl (v_len rfl) (sv rfl (s_nil (cc rfl h (fun c4 h => ?_) (fun c4 h => ?_))))))
 refine lr (fun u12 hu12 => sv rfl (s_nil (l_ret ?_)))
 cases h
 exact fin_ok (.inr rfl) (resD1 (res_t rfl) rf_d) (.refl _)
 refine l_skip (l_seq (lr (fun u13 hu13 => sp rfl rfl (sl rfl (gq rfl) rfl (sv rfl (sv rfl (sp rfl rfl (sl rfl G_hit rfl (sd rfl (v_len rfl) (bs h fun v6 hv6 h => s_call rfl rfl all2_refl (ref03_ordered_ok _ _ _  _ hv6) (.inl rfl) (s_val (.d (bo (!v6))) rfl rfl (s_nil (cc rfl h (fun c5 h => ?_) (fun c5 h => ?_))))))))))))))
 refine lr (fun u14 hu14 => sv rfl (s_nil (l_ret ?_)))
 cases h
 exact fin_ok (.inr rfl) (resD1 (res_t rfl) rf_d) (.refl _)
 refine l_skip (lr (fun u15 hu15 => sv rfl (s_nil (l_ret ?_))))
 cases h
 exact fin_ok (.inr rfl) (resD1 (res_t rfl) rf_d) (.refl _)

noncomputable def ref03_checkNext_l2 (p1 : Map) (v1 : Lane) (x2 : Int) : Option (Stp Int (Sum Unit Int)) :=
  cond (decide (x2 < (v1.Next.length : Int))) ((geti v1.Next x2).bind fun v2 => (geti p1.Lanes v2).bind fun v3 => cond (v3.Kind != v1.Kind) (some (.out (.inr 4))) ((geti v3.Curve_.Pts 0).bind fun v4 => (geti v1.Curve_.Pts (w64 ((v1.Curve_.Pts.length : Int) - 1))).bind fun v5 => cond (!(v4.X == v5.X && (v4.Y == v5.Y && true))) (some (.out (.inr 3))) (some (.go (w64 (x2 + 1)))))) (some (.out (.inl ())))
noncomputable def ref03_checkNext_l1 (p1 : Map) (x1 : Int) : Option (Stp Int (Sum Unit Int)) :=
  cond (decide (x1 < (p1.Lanes.length : Int))) ((geti p1.Lanes x1).bind fun v1 => thenS (loop (ref03_checkNext_l2 p1 v1) 0) (fun _ => some (.go (w64 (x1 + 1)))) (fun r => some (.out (.inr r)))) (some (.out (.inl ())))
noncomputable def ref03_checkNext (p1 : Map) : Option Int :=
  thenS (loop (ref03_checkNext_l1 p1) 0) (fun _ => some 0) (fun r => some r)

theorem ref03_checkNext_ok (p1 : Map) (r : Int) (h : ref03_checkNext p1 = some r) : PCall Tryz.prog 73 [(.agg (eMap p1))] (i64 r) := by
 refine l_call (fk Tryz.func73 Tryz.ntmps73 m0 (by with_unfolding_all rfl)) (nl rfl) ?_
 unfold ref03_checkNext at h
 refine l_sub (s0 := ⟨T [(0, (.d _))], G []⟩) (sbr rfl rfl) ?_
 refine lr (fun u1 hu1 => sn rfl rfl (sv rfl (s_nil (l_seq (lr (fun u2 hu2 => sv rfl (s_nil (js h fun z1 hz1 h => l_join (fun s => ∃ (y1 : Unit) (g1 : Unit), z1 = .inl y1 ∧ Sb ⟨T [], G []⟩ s) ?_ ?_))))))))
 refine l_block (l_loop (ref03_checkNext_l1 p1) (fun (x1 : Int) (g2 : Unit) => ⟨T [(1, (.ptr (1, u1) 0)), (3, (di x1))], G [((1, u1), some (.box 27 (dMap p1)))]⟩) 0 () _ hz1 (sbr rfl rfl) ?_)
 intro x1 g2 z2 hz2 ez2
 unfold ref03_checkNext_l1 at hz2
 refine l_seq (lr (fun u3 hu3 => sv rfl (sp rfl rfl (sl rfl G_hit rfl (sd rfl (v_len rfl) (sv rfl (s_nil (cc rfl hz2 (fun c1 hz2 => ?_) (fun c1 hz2 => ?_)))))))))
 refine l_skip (l_seq (l_block (lr (fun u4 hu4 => sp rfl rfl (sl rfl G_hit rfl (sv rfl (bs hz2 fun v1 hv1 hz2 => sd rfl (v_idx rfl rfl hv1 rfl) (sd rfl (v_loadLG rfl hv1 rfl rfl) (sn rfl rfl (sst rfl G_hit (dLane v1) rfl (s_nil (lr (fun u5 hu5 => sv rfl (s_nil (js hz2 fun z3 hz3 hz2 => l_join (fun s => ∃ (y2 : Unit) (g3 : Unit), z3 = .inl y2 ∧ Sb ⟨T [(1, (.ptr (1, u1) 0)), (3, (di x1))], G [((1, u1), some (.box 27 (dMap p1)))]⟩ s) ?_ ?_)))))))))))))))
 refine l_block (l_loop (ref03_checkNext_l2 p1 v1) (fun (x2 : Int) (g4 : Unit) => ⟨T [(1, (.ptr (1, u1) 0)), (3, (di x1)), (4, (.ptr (4, u4) 0)), (5, (di x2))], G [((1, u1), some (.box 27 (dMap p1))), ((4, u4), some (.box 42 (dLane v1)))]⟩) 0 () _ hz3 (sbr rfl rfl) ?_)
 intro x2 g4 z4 hz4 ez4
 unfold ref03_checkNext_l2 at hz4
 refine l_seq (lr (fun u6 hu6 => sv rfl (sp rfl rfl (sl rfl (gq rfl) rfl (sd rfl (v_len rfl) (sv rfl (s_nil (cc rfl hz4 (fun c2 hz4 => ?_) (fun c2 hz4 => ?_)))))))))
 refine l_skip (l_seq (l_block (l_seq (l_draw rfl fun u7 hu7 => sp rfl rfl (sl rfl G_hit rfl (sp rfl rfl (sl rfl (gq rfl) rfl (sv rfl (bs hz4 fun v2 hv2 hz4 => sd rfl (v_idx rfl rfl hv2 rfl) (sd rfl (v_loadL rfl hv2 rfl) (bs hz4 fun v3 hv3 hz4 => sd rfl (v_idx rfl rfl hv3 rfl) (sd rfl (v_loadLG rfl hv3 rfl rfl) (sn rfl rfl (sst rfl G_hit (dLane v3) rfl (s_nil (l_seq (l_seq (l_sub (s0 := ⟨T [(1, (.ptr _ _)), (3, (.d _)), (4, (.ptr _ _)), (5, (.d _)), (6, (.ptr _ _))], G [((1, u1), some (.box 27 _)), ((4, u4), some (.box 42 _)), ((6, u7), some (.box 42 _))]⟩) (sbr rfl rfl) ?_))))))))))))))))))
 refine l_reg fun u8 hu8 => sp rfl rfl (sl rfl (gq rfl) rfl (sp rfl rfl (sl rfl (gq rfl) rfl (sv rfl (s_nil (cc rfl hz4 (fun c3 hz4 => ?_) (fun c3 hz4 => ?_)))))))
 refine lr (fun u9 hu9 => sv rfl (s_nil (l_ret ?_)))
 cases hz4
 obtain rfl := ez4 _ rfl
 refine ⟨nofun, awl_ret ?_⟩
 rw [Sum.elim_inr] at hz2
 cases hz2
 obtain rfl := ez2 _ rfl
 refine ⟨nofun, awl_ret ?_⟩
 rw [Sum.elim_inr] at h
 cases h
 exact fin_ok (.inr rfl) (resD1 (res_t rfl) rf_d) (.refl _)
 refine l_skip (l_seq (l_draw rfl fun u10 hu10 => sp rfl rfl (sp rfl rfl (sl rfl (gq rfl) rfl (bs hz4 fun v4 hv4 hz4 => sd rfl (v_idx rfl rfl hv4 rfl) (sd rfl (v_loadLG rfl hv4 rfl rfl) (sp rfl rfl (sp rfl rfl (sl rfl (gq rfl) rfl (sp rfl rfl (sp rfl rfl (sl rfl (gq rfl) rfl (sd rfl (v_len rfl) (sv rfl (bs hz4 fun v5 hv5 hz4 => sd rfl (v_idx rfl rfl hv5 rfl) (sd rfl (v_loadLG rfl hv5 rfl rfl) (s_val (.d (bo (!(v4.X == v5.X && (v4.Y == v5.Y && true))))) rfl rfl (s_nil (cc rfl hz4 (fun c4 hz4 => ?_) (fun c4 hz4 => ?_))))))))))))))))))))
 refine l_seq (l_sub (s0 := ⟨T [], G []⟩) (sbr rfl rfl) ?_)
 refine l_reg fun u11 hu11 => sv rfl (s_nil (l_ret ?_))
 cases hz4
 obtain rfl := ez4 _ rfl
 refine ⟨nofun, awl_ret ?_⟩
 rw [Sum.elim_inr] at hz2
 cases hz2
 obtain rfl := ez2 _ rfl
 refine ⟨nofun, awl_ret ?_⟩
 rw [Sum.elim_inr] at h
 cases h
 exact fin_ok (.inr rfl) (resD1 (res_t rfl) rf_d) (.refl _)
 refine l_skip (l_end (l_sub (s0 := ⟨T [(1, (.ptr _ _)), (3, (.d _)), (4, (.ptr _ _)), (5, (.d _))], G [((1, u1), some (.box 27 _)), ((4, u4), some (.box 42 _))]⟩) (sbr rfl rfl) ?_))
 refine l_reg fun u12 hu12 => sv rfl (sv rfl (sv rfl (s_nil (l_nil ?_))))
 cases hz4
 exact ⟨rfl, (), (sbr rfl rfl)⟩
 refine l_exitN rfl ?_
 cases hz4
 obtain rfl := ez4 _ rfl
 refine ⟨nofun, awl_pop rfl (l_j ?_)⟩
 exact ⟨_, (), rfl, (sbr rfl rfl)⟩
 rintro _ ⟨y2, g3, rfl, q1⟩
 rw [Sum.elim_inl] at hz2
 refine l_end (l_sub q1 (l_reg fun u13 hu13 => sv rfl (sv rfl (sv rfl (s_nil (l_nil ?_))))))
 cases hz2
 exact ⟨rfl, (), (sbr rfl rfl)⟩
 refine l_exitN rfl ?_
 cases hz2
 obtain rfl := ez2 _ rfl
 refine ⟨nofun, awl_pop rfl (l_j ?_)⟩
 exact ⟨_, (), rfl, (sbr rfl rfl)⟩
 rintro _ ⟨y1, g1, rfl, q2⟩
 rw [Sum.elim_inl] at h
 refine l_sub q2 (lr (fun u14 hu14 => sv rfl (s_nil (l_ret ?_))))
 cases h
 exact fin_ok (.inr rfl) (resD1 (res_t rfl) rf_d) (.refl _)

noncomputable def ref03_checkSignal_l2 (p1 : Map) (p2 : Signal) (x2 : Int) : Option (Stp Int (Sum Unit Int)) :=
  cond (decide (x2 < (p2.Phases.length : Int))) ((geti p2.Phases x2).bind fun v4 => (ref03_ordered v4.Green 0 (p1.Lanes.length : Int)).bind fun v5 => cond (!v5) (some (.out (.inr 11))) (some (.go (w64 (x2 + 1))))) (some (.out (.inl ())))
noncomputable def ref03_checkSignal_l1 (p2 : Signal) (x1 : (Bool × Int)) : Option (Stp (Bool × Int) Bool) :=
  cond (decide (x1.2 < (p2.Phases.length : Int))) (((cond x1.1 (geti p2.Phases x1.2) (some default))).bind fun v2 => ((cond x1.1 (ref03_within v2.Ticks 1 10000) (some default))).bind fun v3 => some (.go ((x1.1 && v3), (w64 (x1.2 + 1))))) (some (.out x1.1))
noncomputable def ref03_checkSignal (p1 : Map) (p2 : Signal) : Option Int :=
  cond ((p2.Phases.length : Int) == 0) (some 6) (cond (decide ((p2.Phases.length : Int) > 6)) (some 8) ((ref03_within p2.Offset 0 1099511627776).bind fun v1 => (loop (ref03_checkSignal_l1 p2) (v1, 0)).bind fun y1 => cond (!y1) (some 2) (thenS (loop (ref03_checkSignal_l2 p1 p2) 0) (fun _ => some 0) (fun r => some r))))

theorem ref03_checkSignal_ok (p1 : Map) (p2 : Signal) (r : Int) (h : ref03_checkSignal p1 p2 = some r) : PCall Tryz.prog 74 [(.agg (eMap p1)), (.agg [(i64 p2.Offset), (.list (List.map ePhase p2.Phases))])] (i64 r) := by
 refine l_call (fk Tryz.func74 Tryz.ntmps74 m0 (by with_unfolding_all rfl)) (nl rfl) ?_
 unfold ref03_checkSignal at h
 refine l_sub (s0 := ⟨T [(0, (.d _)), (1, (.d _))], G []⟩) (sbr rfl rfl) ?_
 refine lr (fun u1 hu1 => sn rfl rfl (sn rfl rfl (sv rfl (s_nil (l_seq (lr (fun u2 hu2 => sp rfl rfl (sl rfl G_hit rfl (sd rfl (v_len rfl) (sv rfl (s_nil (cc rfl h (fun c1 h => ?_) (fun c1 h => ?_)))))))))))))
 refine lr (fun u3 hu3 => sv rfl (s_nil (l_ret ?_)))
 cases h
 exact fin_ok (.inr rfl) (resD1 (res_t rfl) rf_d) (.refl _)
 refine l_skip (l_seq (lr (fun u4 hu4 => sp rfl rfl (sl rfl G_hit rfl (sd rfl (v_len rfl) (sv rfl (s_nil (cc rfl h (fun c2 h => ?_) (fun c2 h => ?_)))))))))
 refine lr (fun u5 hu5 => sv rfl (s_nil (l_ret ?_)))
 cases h
 exact fin_ok (.inr rfl) (resD1 (res_t rfl) rf_d) (.refl _)
 refine l_skip (lr (fun u6 hu6 => sp rfl rfl (sl rfl G_hit rfl (bs h fun v1 hv1 h => s_call rfl rfl all2_refl (ref03_within_ok _ _ _  _ hv1) (.inl rfl) (sv rfl (s_nil (l_seq (lr (fun u7 hu7 => sv rfl (s_nil (bs h fun y1 hy1 h => l_join (fun s => ∃ g1 : Unit, Sb ⟨T [(2, (.ptr (2, u1) 0)), (3, (.ptr (3, u1) 0)), (5, (.d (bo y1)))], G [((2, u1), some (.box 27 (dMap p1))), ((3, u1), some (.box 48 [(di p2.Offset), (dl ePhase p2.Phases)]))]⟩ s) ?_ ?_)))))))))))
 refine l_block (l_loop (ref03_checkSignal_l1 p2) (fun (x1 : (Bool × Int)) (g2 : Unit) => ⟨T [(2, (.ptr (2, u1) 0)), (3, (.ptr (3, u1) 0)), (5, (.d (bo x1.1))), (6, (di x1.2))], G [((2, u1), some (.box 27 (dMap p1))), ((3, u1), some (.box 48 [(di p2.Offset), (dl ePhase p2.Phases)]))]⟩) (v1, 0) () _ hy1 (sbr rfl rfl) ?_)
 intro x1 g2 z1 hz1 ez1
 unfold ref03_checkSignal_l1 at hz1
 refine l_seq (lr (fun u8 hu8 => sv rfl (sp rfl rfl (sl rfl (gq rfl) rfl (sd rfl (v_len rfl) (sv rfl (s_nil (cc rfl hz1 (fun c3 hz1 => ?_) (fun c3 hz1 => ?_)))))))))
 refine l_skip (l_seq (l_block (l_reg fun u9 hu9 => sv rfl (sv rfl (gp rfl (gw_t rfl) (fun _ => rfl) (gt rfl (vl rfl (gq rfl) rfl) (gt rfl (fun _ => rfl) (bs hz1 fun v2 hv2 hz1 => gt rfl (fun w4 => (v_idx (gd_pos w4) (gd_pos w4) (cond_t w4 hv2) rfl)) ?_))))))))
 refine gt rfl (fun w5 => (by simp only [gd_pos w5]; rfl)) ?_
 refine gt rfl (fun w6 => (v_loadL (gd_pos w6) (cond_t w6 hv2) rfl)) (bs hz1 fun v3 hv3 hz1 => ?_)
 refine g_call x1.1 (bo v3) (gw_t rfl) (fun w7 => ⟨_, [(di v2.Ticks), (di 1), (di 10000)], _, _, (by simp only [gd_pos w7]; rfl), rfl, all2_refl, ref03_within_ok _ _ _  _ (cond_t w7 hv3), (.inl rfl)⟩) ?_
 refine sa rfl rfl rfl (sv rfl (s_nil (l_end (l_reg fun u10 hu10 => sv rfl (sv rfl (sv rfl (s_nil (l_nil ?_))))))))
 cases hz1
 exact ⟨rfl, (), (sbr rfl rfl)⟩
 refine l_exitN rfl ?_
 cases hz1
 obtain rfl := ez1 _ rfl
 refine ⟨nofun, awl_pop rfl (l_j ?_)⟩
 exact ⟨(), (sbr rfl rfl)⟩
 rintro _ ⟨g1, q1⟩
 refine l_sub q1 (l_seq (lr (fun u11 hu11 => sv rfl (s_val (.d (bo (!y1))) rfl rfl (s_nil (cc rfl h (fun c4 h => ?_) (fun c4 h => ?_)))))))
 refine lr (fun u12 hu12 => sv rfl (s_nil (l_ret ?_)))
 cases h
 exact fin_ok (.inr rfl) (resD1 (res_t rfl) rf_d) (.refl _)
 refine l_skip (l_seq (lr (fun u13 hu13 => sv rfl (s_nil (js h fun z2 hz2 h => l_join (fun s => ∃ (y2 : Unit) (g3 : Unit), z2 = .inl y2 ∧ Sb ⟨T [], G []⟩ s) ?_ ?_)))))
 refine l_block (l_loop (ref03_checkSignal_l2 p1 p2) (fun (x2 : Int) (g4 : Unit) => ⟨T [(2, (.ptr (2, u1) 0)), (3, (.ptr (3, u1) 0)), (7, (di x2))], G [((2, u1), some (.box 27 (dMap p1))), ((3, u1), some (.box 48 [(di p2.Offset), (dl ePhase p2.Phases)]))]⟩) 0 () _ hz2 (sbr rfl rfl) ?_)
 intro x2 g4 z3 hz3 ez3
 unfold ref03_checkSignal_l2 at hz3
 refine l_seq (lr (fun u14 hu14 => sv rfl (sp rfl rfl (sl rfl (gq rfl) rfl (sd rfl (v_len rfl) (sv rfl (s_nil (cc rfl hz3 (fun c5 hz3 => ?_) (fun c5 hz3 => ?_)))))))))
 refine l_skip (l_seq (l_block (l_seq (l_draw rfl fun u15 hu15 => sp rfl rfl (sl rfl (gq rfl) rfl (sv rfl (bs hz3 fun v4 hv4 hz3 => sd rfl (v_idx rfl rfl hv4 rfl) (sv rfl (sd rfl (v_loadL rfl hv4 rfl) (sp rfl rfl (sl rfl G_hit rfl (sd rfl (v_len rfl) (bs hz3 fun v5 hv5 hz3 => s_call rfl rfl all2_refl (ref03_ordered_ok _ _ _  _ hv5) (.inl rfl) (s_val (.d (bo (!v5))) rfl rfl (s_nil (cc rfl hz3 (fun c6 hz3 => ?_) (fun c6 hz3 => ?_)))))))))))))))))
 refine lr (fun u16 hu16 => sv rfl (s_nil (l_ret ?_)))
 cases hz3
 obtain rfl := ez3 _ rfl
 refine ⟨nofun, awl_ret ?_⟩
 rw [Sum.elim_inr] at h
 cases h
 exact fin_ok (.inr rfl) (resD1 (res_t rfl) rf_d) (.refl _)
 refine l_skip (l_end (l_reg fun u17 hu17 => sv rfl (sv rfl (sv rfl (s_nil (l_nil ?_))))))
 cases hz3
 exact ⟨rfl, (), (sbr rfl rfl)⟩
 refine l_exitN rfl ?_
 cases hz3
 obtain rfl := ez3 _ rfl
 refine ⟨nofun, awl_pop rfl (l_j ?_)⟩
 exact ⟨_, (), rfl, (sbr rfl rfl)⟩
 rintro _ ⟨y2, g3, rfl, q2⟩
 rw [Sum.elim_inl] at h
 refine l_sub q2 (lr (fun u18 hu18 => sv rfl (s_nil (l_ret ?_))))
 cases h
 exact fin_ok (.inr rfl) (resD1 (res_t rfl) rf_d) (.refl _)

noncomputable def ref01_Pieces_l1 (p1 : Curve) (x1 : ((List Int) × Int)) : Option (Stp ((List Int) × Int) (List Int)) :=
  cond (decide ((w64 (x1.2 + 1)) < (p1.Pts.length : Int))) ((geti p1.Pts (w64 (x1.2 + 1))).bind fun v2 => (geti p1.Pts x1.2).bind fun v3 => (ref01_Minus v2 v3).bind fun v4 => (ref01_Dot v4 v4).bind fun v5 => (ref01_root v5).bind fun v6 => (appc x1.1 [v6]).bind fun v7 => some (.go (v7, (w64 (x1.2 + 1))))) (some (.out x1.1))
noncomputable def ref01_Pieces (p1 : Curve) : Option (List Int) :=
  (ref01_Check p1).bind fun v1 => cond (v1 != 0) (some []) ((loop (ref01_Pieces_l1 p1) ([], 0)).bind fun y1 => some y1)

theorem ref01_Pieces_ok (p1 : Curve) (r : (List Int)) (h : ref01_Pieces p1 = some r) : PCall Tryz.prog 242 [(.agg [(.list (List.map eSpot p1.Pts))])] (.list (List.map eInt_i64 r)) := by
 refine l_call (fk Tryz.func242 Tryz.ntmps242 (fun r => if r == 8 then [1005] else []) (by with_unfolding_all rfl)) (nl rfl) ?_
 unfold ref01_Pieces at h
 refine l_sub (s0 := ⟨T [(0, (.d _))], G []⟩) (sbr rfl rfl) ?_
 refine lr (fun u1 hu1 => sn rfl rfl (sv rfl (s_nil (l_seq (lr (fun u2 hu2 => sd rfl (v_loadG rfl G_hit rfl rfl) (bs h fun v1 hv1 h => s_call rfl rfl all2_refl (ref01_Check_ok _  _ hv1) (.inl rfl) (sv rfl (s_nil (cc rfl h (fun c1 h => ?_) (fun c1 h => ?_)))))))))))
 refine lr (fun u3 hu3 => sv rfl (s_nil (l_ret ?_)))
 cases h
 exact fin_ok (.inr rfl) (resD1 (res_t rfl) rf_d) DLe.nil
 refine l_skip (lr (fun u4 hu4 => sv rfl (s_nil (l_seq (lr (fun u5 hu5 => sv rfl (s_nil (bs h fun y1 hy1 h => l_join (fun s => ∃ g1 : Nat, Sb ⟨T [(3, (oS y1 (35, g1)))], G [((35, g1), oB 2 1 eInt_i64 y1)]⟩ s) ?_ ?_))))))))
 refine l_block (l_loop (ref01_Pieces_l1 p1) (fun (x1 : ((List Int) × Int)) (g2 : Nat) => ⟨T [(1, (.ptr (1, u1) 0)), (3, (oS x1.1 (35, g2))), (4, (di x1.2))], G [((1, u1), some (.box 39 [(dl eSpot p1.Pts)])), ((35, g2), oB 2 1 eInt_i64 x1.1)]⟩) ([], 0) 0 _ hy1 (sb_of ⟨.of rfl, .of rfl, .of rfl, trivial⟩ (sbG_some G_hit (.of rfl) (sbG_nil trivial))) ?_)
 intro x1 g2 z1 hz1 ez1
 unfold ref01_Pieces_l1 at hz1
 refine l_seq (lr (fun u6 hu6 => sv rfl (sv rfl (sp rfl rfl (sl rfl G_hit rfl (sd rfl (v_len rfl) (sv rfl (s_nil (cc rfl hz1 (fun c2 hz1 => ?_) (fun c2 hz1 => ?_))))))))))
 refine l_skip (l_seq (l_block (l_seq (l_draw rfl fun u7 hu7 => sp rfl rfl (sl rfl G_hit rfl (sv rfl (sv rfl (bs hz1 fun v2 hv2 hz1 => sd rfl (v_idx rfl rfl hv2 rfl) (sd rfl (v_loadLG rfl hv2 rfl rfl) (sp rfl rfl (sl rfl G_hit rfl (sv rfl (bs hz1 fun v3 hv3 hz1 => sd rfl (v_idx rfl rfl hv3 rfl) (sd rfl (v_loadLG rfl hv3 rfl rfl) (bs hz1 fun v4 hv4 hz1 => s_call rfl rfl all2_refl (ref01_Minus_ok _ _  _ hv4) (.inl rfl) (sn rfl rfl (sst rfl G_hit [(di v4.X), (di v4.Y)] rfl (s_nil (l_sub (s0 := ⟨T [(1, (.ptr (1, u1) 0)), (3, (oS x1.1 (35, g2))), (4, (di x1.2)), (5, (.ptr (5, u7) 0))], G [((1, u1), some (.box 39 [(dl eSpot p1.Pts)])), ((35, g2), oB 2 1 eInt_i64 x1.1), ((5, u7), some (.box 148 [(di v4.X), (di v4.Y)]))]⟩) (sb_of ⟨.of rfl, .of rfl, .of rfl, .of rfl, trivial⟩ (sg rfl (sbG_oB (gq rfl) (sbG_some G_hit (.of rfl) trivial)))) ?_)))))))))))))))))))
 refine l_reg fun u8 hu8 => s_val (oS x1.1 (35, g2)) rfl rfl (sd rfl (v_loadG rfl (gq rfl) rfl rfl) (sd rfl (v_loadG rfl (gq rfl) rfl rfl) (bs hz1 fun v5 hv5 hz1 => s_call rfl rfl all2_refl (ref01_Dot_ok _ _  _ hv5) (.inl rfl) (bs hz1 fun v6 hv6 hz1 => s_call rfl rfl all2_refl (ref01_root_ok _  _ hv6) (.inl rfl) (s_val (dl eInt_i64 [v6]) rfl rfl (bs hz1 fun v7 hv7 hz1 => s_appendO eInt_i64 (35, g2) x1.1 v6 [] _ (elems_list (fun _ => rfl)) rfl (gq rfl) hv7 (ss rfl (s_nil (l_end (l_reg fun u9 hu9 => sv rfl (sv rfl (sv rfl (s_nil (l_nil ?_))))))))))))))
 cases hz1
 exact ⟨rfl, u8, (sb_of ⟨.of rfl, (.of (oS_ne (appc_ne hv7)).symm), .of rfl, trivial⟩ (sg rfl (sbG_own G_hit trivial)))⟩
 refine l_exitN rfl ?_
 cases hz1
 obtain rfl := ez1 _ rfl
 refine ⟨nofun, awl_pop rfl (l_j ?_)⟩
 exact ⟨g2, (sb_of ⟨.of rfl, trivial⟩ (sbG_oB (gq rfl) trivial))⟩
 rintro _ ⟨g1, q1⟩
 refine l_sub q1 (lr (fun u10 hu10 => s_val (oS y1 (35, g1)) rfl rfl (s_val (oS y1 (35, g1)) rfl rfl (s_nil (l_ret ?_)))))
 cases h
 exact fin_ok (.inr rfl) (resD1 (res_t rfl) (rf_oS G_hit)) oD_le

noncomputable def ref01_Length_l1 (v1 : (List Int)) (x1 : (Int × Int)) : Option (Stp (Int × Int) Int) :=
  cond (decide (x1.2 < (v1.length : Int))) ((geti v1 x1.2).bind fun v2 => some (.go ((w64 (x1.1 + v2)), (w64 (x1.2 + 1))))) (some (.out x1.1))
noncomputable def ref01_Length (p1 : Curve) : Option Int :=
  (ref01_Pieces p1).bind fun v1 => (loop (ref01_Length_l1 v1) (0, 0)).bind fun y1 => some y1

theorem ref01_Length_ok (p1 : Curve) (r : Int) (h : ref01_Length p1 = some r) : PCall Tryz.prog 178 [(.agg [(.list (List.map eSpot p1.Pts))])] (i64 r) := by
 refine l_call (fk Tryz.func178 Tryz.ntmps178 m0 (by with_unfolding_all rfl)) (nl rfl) ?_
 unfold ref01_Length at h
 refine l_sub (s0 := ⟨T [(0, (.d _))], G []⟩) (sbr rfl rfl) ?_
 refine lr (fun u1 hu1 => sn rfl rfl (sv rfl (s_nil (lr (fun u2 hu2 => sv rfl (s_nil (lr (fun u3 hu3 => sd rfl (v_loadG rfl G_hit rfl rfl) (bs h fun v1 hv1 h => s_call rfl rfl all2_refl (ref01_Pieces_ok _  _ hv1) (.inl rfl) (sv rfl (s_nil (l_seq (lr (fun u4 hu4 => sv rfl (s_nil (bs h fun y1 hy1 h => l_join (fun s => ∃ g1 : Unit, Sb ⟨T [(3, (di y1))], G []⟩ s) ?_ ?_))))))))))))))))
 refine l_block (l_loop (ref01_Length_l1 v1) (fun (x1 : (Int × Int)) (g2 : Unit) => ⟨T [(3, (di x1.1)), (4, (dl eInt_i64 v1)), (5, (di x1.2))], G []⟩) (0, 0) () _ hy1 (sbr rfl rfl) ?_)
 intro x1 g2 z1 hz1 ez1
 unfold ref01_Length_l1 at hz1
 refine l_seq (lr (fun u5 hu5 => sv rfl (sv rfl (sd rfl (v_len rfl) (sv rfl (s_nil (cc rfl hz1 (fun c1 hz1 => ?_) (fun c1 hz1 => ?_))))))))
 refine l_skip (l_seq (l_block (l_reg fun u6 hu6 => sv rfl (sv rfl (sv rfl (bs hz1 fun v2 hv2 hz1 => sd rfl (v_idx rfl rfl hv2 rfl) (sd rfl (v_loadL rfl hv2 rfl) (sv rfl (sv rfl (s_nil (l_end (l_reg fun u7 hu7 => sv rfl (sv rfl (sv rfl (s_nil (l_nil ?_))))))))))))))))
 cases hz1
 exact ⟨rfl, (), (sbr rfl rfl)⟩
 refine l_exitN rfl ?_
 cases hz1
 obtain rfl := ez1 _ rfl
 refine ⟨nofun, awl_pop rfl (l_j ?_)⟩
 exact ⟨(), (sbr rfl rfl)⟩
 rintro _ ⟨g1, q1⟩
 refine l_sub q1 (lr (fun u8 hu8 => sv rfl (sv rfl (s_nil (l_ret ?_)))))
 cases h
 exact fin_ok (.inr rfl) (resD1 (res_t rfl) rf_d) (.refl _)

noncomputable def ref03_checkZone_l2 (p1 : Map) (p2 : Zone) (x2 : Int) : Option (Stp Int (Sum Unit Int)) :=
  cond (decide (x2 < (p2.Parts.length : Int))) ((geti p2.Parts x2).bind fun v4 => ((cond (!((decide (v4.From < 0)) || (decide (v4.From ≥ v4.To)))) (geti p1.Lanes v4.Lane_) (some default))).bind fun v5 => ((cond (!((decide (v4.From < 0)) || (decide (v4.From ≥ v4.To)))) (ref01_Length v5.Curve_) (some default))).bind fun v6 => cond (((((decide (v4.From < 0)) || (decide (v4.From ≥ v4.To))) || (decide (v4.To > v6))) || (decide (v4.Rank < 0))) || (decide (v4.Rank > 100))) (some (.out (.inr 2))) (some (.go (w64 (x2 + 1))))) (some (.out (.inl ())))
noncomputable def ref03_checkZone_l1 (p2 : Zone) (x1 : ((List Int) × Int)) : Option (Stp ((List Int) × Int) (List Int)) :=
  cond (decide (x1.2 < (p2.Parts.length : Int))) ((geti p2.Parts x1.2).bind fun v1 => (appc x1.1 [v1.Lane_]).bind fun v2 => some (.go (v2, (w64 (x1.2 + 1))))) (some (.out x1.1))
noncomputable def ref03_checkZone (p1 : Map) (p2 : Zone) : Option Int :=
  cond (decide ((p2.Parts.length : Int) < 2)) (some 6) (cond (decide ((p2.Parts.length : Int) > 6)) (some 8) (cond ((decide (p2.Signal_ < 0)) || (decide (p2.Signal_ > (p1.Signals.length : Int)))) (some 2) ((loop (ref03_checkZone_l1 p2) ([], 0)).bind fun y1 => (ref03_ordered y1 0 (p1.Lanes.length : Int)).bind fun v3 => cond (!v3) (some 11) (thenS (loop (ref03_checkZone_l2 p1 p2) 0) (fun _ => some 0) (fun r => some r)))))

theorem ref03_checkZone_ok (p1 : Map) (p2 : Zone) (r : Int) (h : ref03_checkZone p1 p2 = some r) : PCall Tryz.prog 75 [(.agg (eMap p1)), (.agg [(.list (List.map ePart p2.Parts)), (i64 p2.Signal_)])] (i64 r) := by
 refine l_call (fk Tryz.func75 Tryz.ntmps75 (fun r => if r == 11 then [1007] else []) (by with_unfolding_all rfl)) (nl rfl) ?_
 unfold ref03_checkZone at h
 refine l_sub (s0 := ⟨T [(0, (.d _)), (1, (.d _))], G []⟩) (sbr rfl rfl) ?_
 refine lr (fun u1 hu1 => sn rfl rfl (sn rfl rfl (sv rfl (s_nil (l_seq (lr (fun u2 hu2 => sp rfl rfl (sl rfl G_hit rfl (sd rfl (v_len rfl) (sv rfl (s_nil (cc rfl h (fun c1 h => ?_) (fun c1 h => ?_)))))))))))))
 refine lr (fun u3 hu3 => sv rfl (s_nil (l_ret ?_)))
 cases h
 exact fin_ok (.inr rfl) (resD1 (res_t rfl) rf_d) (.refl _)
 refine l_skip (l_seq (lr (fun u4 hu4 => sp rfl rfl (sl rfl G_hit rfl (sd rfl (v_len rfl) (sv rfl (s_nil (cc rfl h (fun c2 h => ?_) (fun c2 h => ?_)))))))))
 refine lr (fun u5 hu5 => sv rfl (s_nil (l_ret ?_)))
 cases h
 exact fin_ok (.inr rfl) (resD1 (res_t rfl) rf_d) (.refl _)
 refine l_skip (l_seq (lr (fun u6 hu6 => sp rfl rfl (sl rfl G_hit rfl (sv rfl (sv rfl (gp rfl (gw_f rfl) (fun _ => rfl) (gf rfl (vl rfl G_hit rfl) (gp rfl (gw_f rfl) (fun _ => rfl) (gf rfl (vl rfl (gq rfl) rfl) (gf rfl (fun w5 => (v_len (gd_pos w5))) (gf rfl (fun w6 => (v_bin (gd_pos w6) (gd_pos w6) rfl)) (sd rfl (v_or rfl rfl (fun hc => gd_pos (not_t hc))) (s_nil (cc rfl h (fun c3 h => ?_) (fun c3 h => ?_))))))))))))))))
 refine l_seq (l_sub (s0 := ⟨T [], G []⟩) (sbr rfl rfl) ?_)
 refine l_reg fun u7 hu7 => sv rfl (s_nil (l_ret ?_))
 cases h
 exact fin_ok (.inr rfl) (resD1 (res_t rfl) rf_d) (.refl _)
 refine l_skip (l_seq (l_sub (s0 := ⟨T [(2, (.ptr _ _)), (3, (.ptr _ _))], G [((2, u1), some (.box 27 _)), ((3, u1), some (.box 45 _))]⟩) (sbr rfl rfl) ?_))
 refine l_reg fun u8 hu8 => sv rfl (s_nil (l_seq (lr (fun u9 hu9 => sv rfl (s_nil (bs h fun y1 hy1 h => l_join (fun s => ∃ g1 : Nat, Sb ⟨T [(2, (.ptr (2, u1) 0)), (3, (.ptr (3, u1) 0)), (5, (oS y1 (43, g1)))], G [((2, u1), some (.box 27 (dMap p1))), ((3, u1), some (.box 45 [(dl ePart p2.Parts), (di p2.Signal_)])), ((43, g1), oB 3 1 eInt_i64 y1)]⟩ s) ?_ ?_))))))
 refine l_block (l_loop (ref03_checkZone_l1 p2) (fun (x1 : ((List Int) × Int)) (g2 : Nat) => ⟨T [(2, (.ptr (2, u1) 0)), (3, (.ptr (3, u1) 0)), (5, (oS x1.1 (43, g2))), (6, (di x1.2))], G [((2, u1), some (.box 27 (dMap p1))), ((3, u1), some (.box 45 [(dl ePart p2.Parts), (di p2.Signal_)])), ((43, g2), oB 3 1 eInt_i64 x1.1)]⟩) ([], 0) 0 _ hy1 (sb_of ⟨.of rfl, .of rfl, .of rfl, .of rfl, trivial⟩ (sbG_some G_hit (.of rfl) (sg rfl (sbG_nil trivial)))) ?_)
 intro x1 g2 z1 hz1 ez1
 unfold ref03_checkZone_l1 at hz1
 refine l_seq (lr (fun u10 hu10 => sv rfl (sp rfl rfl (sl rfl (gq rfl) rfl (sd rfl (v_len rfl) (sv rfl (s_nil (cc rfl hz1 (fun c4 hz1 => ?_) (fun c4 hz1 => ?_)))))))))
 refine l_skip (l_seq (l_block (l_reg fun u11 hu11 => s_val (oS x1.1 (43, g2)) rfl rfl (sp rfl rfl (sl rfl (gq rfl) rfl (sv rfl (bs hz1 fun v1 hv1 hz1 => sd rfl (v_idx rfl rfl hv1 rfl) (sv rfl (sd rfl (v_loadL rfl hv1 rfl) (s_val (dl eInt_i64 [v1.Lane_]) rfl rfl (bs hz1 fun v2 hv2 hz1 => s_appendO eInt_i64 (43, g2) x1.1 v1.Lane_ [] _ (elems_list (fun _ => rfl)) rfl (gq rfl) hv2 (ss rfl (s_nil (l_end (l_sub (s0 := ⟨T [(2, (.ptr _ _)), (3, (.ptr _ _)), (5, (.sl _)), (6, (.d _))], G [((2, u1), some (.box 27 _)), ((3, u1), some (.box 45 _)), ((43, u11), some _)]⟩) (sbr rfl rfl) ?_)))))))))))))))
 refine l_reg fun u12 hu12 => sv rfl (sv rfl (sv rfl (s_nil (l_nil ?_))))
 cases hz1
 exact ⟨rfl, u11, (sb_of ⟨.of rfl, .of rfl, (.of (oS_ne (appc_ne hv2)).symm), .of rfl, trivial⟩ (sbG_some G_hit (.of rfl) (sg rfl (sbG_own (gq rfl) trivial))))⟩
 refine l_exitN rfl ?_
 cases hz1
 obtain rfl := ez1 _ rfl
 refine ⟨nofun, awl_pop rfl (l_j ?_)⟩
 exact ⟨g2, (sb_of ⟨.of rfl, .of rfl, .of rfl, trivial⟩ (sbG_some G_hit (.of rfl) (sg rfl (sbG_oB (gq rfl) trivial))))⟩
 rintro _ ⟨g1, q1⟩
 refine l_sub q1 (l_seq (lr (fun u13 hu13 => s_val (oS y1 (43, g1)) rfl rfl (sp rfl rfl (sl rfl G_hit rfl (sd rfl (v_len rfl) (bs h fun v3 hv3 h => s_call rfl (rfL_cons (rf_oS (gq rfl)) (rD (rD rfL_nil))) (.cons oD_le (.cons (.refl _) all2_refl)) (ref03_ordered_ok _ _ _  _ hv3) (.inr rfl) (s_val (.d (bo (!v3))) rfl rfl (s_nil (cc rfl h (fun c5 h => ?_) (fun c5 h => ?_)))))))))))
 refine lr (fun u14 hu14 => sv rfl (s_nil (l_ret ?_)))
 cases h
 exact fin_ok (.inr rfl) (resD1 (res_t rfl) rf_d) (.refl _)
 refine l_skip (l_seq (lr (fun u15 hu15 => sv rfl (s_nil (js h fun z2 hz2 h => l_join (fun s => ∃ (y2 : Unit) (g3 : Unit), z2 = .inl y2 ∧ Sb ⟨T [], G []⟩ s) ?_ ?_)))))
 refine l_block (l_loop (ref03_checkZone_l2 p1 p2) (fun (x2 : Int) (g4 : Unit) => ⟨T [(2, (.ptr (2, u1) 0)), (3, (.ptr (3, u1) 0)), (7, (di x2))], G [((2, u1), some (.box 27 (dMap p1))), ((3, u1), some (.box 45 [(dl ePart p2.Parts), (di p2.Signal_)]))]⟩) 0 () _ hz2 (sbr rfl rfl) ?_)
 intro x2 g4 z3 hz3 ez3
 unfold ref03_checkZone_l2 at hz3
 refine l_seq (lr (fun u16 hu16 => sv rfl (sp rfl rfl (sl rfl (gq rfl) rfl (sd rfl (v_len rfl) (sv rfl (s_nil (cc rfl hz3 (fun c6 hz3 => ?_) (fun c6 hz3 => ?_)))))))))
 refine l_skip (l_seq (l_block (lr (fun u17 hu17 => sp rfl rfl (sl rfl (gq rfl) rfl (sv rfl (bs hz3 fun v4 hv4 hz3 => sd rfl (v_idx rfl rfl hv4 rfl) (sd rfl (v_loadLG rfl hv4 rfl rfl) (sn rfl rfl (sst rfl G_hit (dPart v4) rfl (s_nil (l_seq (l_draw rfl fun u18 hu18 => sp rfl rfl (sl rfl G_hit rfl (sv rfl (sv rfl (gp rfl (gw_f rfl) (fun _ => rfl) (gf rfl (vl rfl G_hit rfl) (gp rfl (gw_f rfl) (fun _ => rfl) (gf rfl (vl rfl G_hit rfl) (gf rfl (fun w11 => (v_bin (gd_pos w11) (gd_pos w11) rfl)) (sd rfl (v_or rfl rfl (fun hc => gd_pos (not_t hc))) (sv rfl (gp rfl (gw_f rfl) (fun _ => rfl) (gf rfl (vl rfl G_hit rfl) (gp rfl (gw_f rfl) (fun _ => rfl) (gf rfl (vl rfl (gq rfl) rfl) (gp rfl (gw_f rfl) (fun _ => rfl) (gf rfl (vl rfl G_hit rfl) (bs hz3 fun v5 hv5 hz3 => gf rfl (fun w18 => (v_idx (gd_pos w18) (gd_pos w18) (cond_t w18 hv5) rfl)) ?_))))))))))))))))))))))))))))))
 refine gf rfl (fun w19 => (by simp only [gd_pos w19]; rfl)) ?_
 refine gf rfl (fun w20 => (v_loadLG (gd_pos w20) (cond_t w20 hv5) rfl rfl)) (bs hz3 fun v6 hv6 hz3 => ?_)
 refine g_call _ (i64 v6) (gw_f rfl) (fun w21 => ⟨_, [(.d (.agg [(.list (List.map eSpot v5.Curve_.Pts))]))], _, _, (by simp only [gd_pos w21]; rfl), rfl, all2_refl, ref01_Length_ok _  _ (cond_t w21 hv6), (.inl rfl)⟩) ?_
 refine gf rfl (fun w22 => (v_bin (gd_pos w22) (gd_pos w22) rfl)) (sd rfl (v_or rfl rfl (fun hc => gd_pos (not_t hc))) (sv rfl (gp rfl (gw_f rfl) (fun _ => rfl) (gf rfl (vl rfl G_hit rfl) (gf rfl (vb rfl rfl rfl) (sd rfl (v_or rfl rfl (fun hc => gd_pos (not_t hc))) (sv rfl (gp rfl (gw_f rfl) (fun _ => rfl) (gf rfl (vl rfl G_hit rfl) (gf rfl (vb rfl rfl rfl) (sd rfl (v_or rfl rfl (fun hc => gd_pos (not_t hc))) (s_nil (cc rfl hz3 (fun c7 hz3 => ?_) (fun c7 hz3 => ?_))))))))))))))
 refine l_seq (l_sub (s0 := ⟨T [], G []⟩) (sbr rfl rfl) ?_)
 refine l_reg fun u19 hu19 => sv rfl (s_nil (l_ret ?_))
 cases hz3
 obtain rfl := ez3 _ rfl
 refine ⟨nofun, awl_ret ?_⟩
 rw [Sum.elim_inr] at h
 cases h
 exact fin_ok (.inr rfl) (resD1 (res_t rfl) rf_d) (.refl _)
 refine l_skip (l_end (l_sub (s0 := ⟨T [(2, (.ptr _ _)), (3, (.ptr _ _)), (7, (.d _))], G [((2, u1), some (.box 27 _)), ((3, u1), some (.box 45 _))]⟩) (sbr rfl rfl) ?_))
 refine l_reg fun u20 hu20 => sv rfl (sv rfl (sv rfl (s_nil (l_nil ?_))))
 cases hz3
 exact ⟨rfl, (), (sbr rfl rfl)⟩
 refine l_exitN rfl ?_
 cases hz3
 obtain rfl := ez3 _ rfl
 refine ⟨nofun, awl_pop rfl (l_j ?_)⟩
 exact ⟨_, (), rfl, (sbr rfl rfl)⟩
 rintro _ ⟨y2, g3, rfl, q2⟩
 rw [Sum.elim_inl] at h
 refine l_sub q2 (lr (fun u21 hu21 => sv rfl (s_nil (l_ret ?_))))
 cases h
 exact fin_ok (.inr rfl) (resD1 (res_t rfl) rf_d) (.refl _)

noncomputable def ref03_checkWork (p1 : Map) (p2 : Work) : Option Int :=
  cond ((decide (p2.Lane_ < 0)) || (decide (p2.Lane_ ≥ (p1.Lanes.length : Int)))) (some 7) ((geti p1.Lanes p2.Lane_).bind fun v1 => (ref03_Bounds v1.Kind).bind fun v2 => ((cond (!((decide (p2.From < 0)) || (decide (p2.From > p2.To)))) (ref01_Length v1.Curve_) (some default))).bind fun v3 => ((cond (!((((((decide (p2.From < 0)) || (decide (p2.From > p2.To))) || (decide (p2.To > v3))) || (decide (p2.Begin < 0))) || (decide (p2.Begin ≥ p2.End))) || (decide (p2.End > 1099511627776)))) (ref03_within p2.Limit 0 v2.1) (some default))).bind fun v4 => cond (((((((decide (p2.From < 0)) || (decide (p2.From > p2.To))) || (decide (p2.To > v3))) || (decide (p2.Begin < 0))) || (decide (p2.Begin ≥ p2.End))) || (decide (p2.End > 1099511627776))) || (!v4)) (some 2) (some 0))

theorem ref03_checkWork_ok (p1 : Map) (p2 : Work) (r : Int) (h : ref03_checkWork p1 p2 = some r) : PCall Tryz.prog 76 [(.agg (eMap p1)), (.agg (eWork p2))] (i64 r) := by
 refine l_call (fk Tryz.func76 Tryz.ntmps76 m0 (by with_unfolding_all rfl)) (nl rfl) ?_
 unfold ref03_checkWork at h
 refine l_sub (s0 := ⟨T [(0, (.d _)), (1, (.d _))], G []⟩) (sbr rfl rfl) ?_
 refine lr (fun u1 hu1 => sn rfl rfl (sn rfl rfl (sv rfl (s_nil (l_seq (lr (fun u2 hu2 => sp rfl rfl (sl rfl G_hit rfl (sv rfl (sv rfl (gp rfl (gw_f rfl) (fun _ => rfl) (gf rfl (vl rfl G_hit rfl) (gp rfl (gw_f rfl) (fun _ => rfl) (gf rfl (vl rfl (gq rfl) rfl) (gf rfl (fun w5 => (v_len (gd_pos w5))) (gf rfl (fun w6 => (v_bin (gd_pos w6) (gd_pos w6) rfl)) (sd rfl (v_or rfl rfl (fun hc => gd_pos (not_t hc))) (s_nil (cc rfl h (fun c1 h => ?_) (fun c1 h => ?_))))))))))))))))))))
 refine lr (fun u3 hu3 => sv rfl (s_nil (l_ret ?_)))
 cases h
 exact fin_ok (.inr rfl) (resD1 (res_t rfl) rf_d) (.refl _)
 refine l_skip (lr (fun u4 hu4 => sp rfl rfl (sl rfl (gq rfl) rfl (sp rfl rfl (sl rfl G_hit rfl (bs h fun v1 hv1 h => sd rfl (v_idx rfl rfl hv1 rfl) (sd rfl (v_loadLG rfl hv1 rfl rfl) (sn rfl rfl (sst rfl G_hit (dLane v1) rfl (s_nil (l_seq (l_sub (s0 := ⟨T [(3, (.ptr _ _)), (5, (.ptr _ _))], G [((3, u1), some (.box 50 _)), ((5, u4), some (.box 42 _))]⟩) (sbr rfl rfl) ?_))))))))))))
 refine l_reg fun u5 hu5 => sp rfl rfl (sl rfl (gq rfl) rfl (bs h fun v2 hv2 h => s_call rfl rfl all2_refl (ref03_Bounds_ok _  _ hv2) (.inl rfl) (sv rfl (sv rfl (sv rfl (sv rfl (sv rfl (sv rfl (sv rfl (s_nil (l_seq (l_seq (l_draw rfl fun u6 hu6 => sp rfl rfl (sl rfl G_hit rfl (sv rfl (sv rfl (gp rfl (gw_f rfl) (fun _ => rfl) (gf rfl (vl rfl G_hit rfl) (gp rfl (gw_f rfl) (fun _ => rfl) (gf rfl (vl rfl G_hit rfl) (gf rfl (fun w11 => (v_bin (gd_pos w11) (gd_pos w11) rfl)) (sd rfl (v_or rfl rfl (fun hc => gd_pos (not_t hc))) (sv rfl (gp rfl (gw_f rfl) (fun _ => rfl) (gf rfl (vl rfl G_hit rfl) (gp rfl (gw_f rfl) (fun _ => rfl) (gf rfl (fun w15 => (v_loadG (gd_pos w15) (gq rfl) rfl rfl)) (bs h fun v3 hv3 h => ?_))))))))))))))))))))))))))))
 refine g_call _ (i64 v3) (gw_f rfl) (fun w16 => ⟨_, [(.d (.agg [(.list (List.map eSpot v1.Curve_.Pts))]))], _, _, (by simp only [gd_pos w16]; rfl), rfl, all2_refl, ref01_Length_ok _  _ (cond_t w16 hv3), (.inl rfl)⟩) ?_
 refine gf rfl (fun w17 => (v_bin (gd_pos w17) (gd_pos w17) rfl)) (sd rfl (v_or rfl rfl (fun hc => gd_pos (not_t hc))) (sv rfl (gp rfl (gw_f rfl) (fun _ => rfl) (gf rfl (vl rfl G_hit rfl) (gf rfl (vb rfl rfl rfl) (sd rfl (v_or rfl rfl (fun hc => gd_pos (not_t hc))) (sv rfl (gp rfl (gw_f rfl) (fun _ => rfl) (gf rfl (vl rfl G_hit rfl) (gp rfl (gw_f rfl) (fun _ => rfl) (gf rfl (vl rfl G_hit rfl) (gf rfl (fun w25 => (v_bin (gd_pos w25) (gd_pos w25) rfl)) (sd rfl (v_or rfl rfl (fun hc => gd_pos (not_t hc))) (sv rfl (gp rfl (gw_f rfl) (fun _ => rfl) (gf rfl (vl rfl G_hit rfl) (gf rfl (vb rfl rfl rfl) (sd rfl (v_or rfl rfl (fun hc => gd_pos (not_t hc))) (sv rfl (gp rfl (gw_f rfl) (fun _ => rfl) (gf rfl (vl rfl G_hit rfl) (gf rfl (fun _ => rfl) (bs h fun v4 hv4 h => ?_)))))))))))))))))))))))
 refine g_call _ (bo v4) (gw_f rfl) (fun w32 => ⟨_, [(di p2.Limit), (di 0), (di v2.1)], _, _, (by simp only [gd_pos w32]; rfl), rfl, all2_refl, ref03_within_ok _ _ _  _ (cond_t w32 hv4), (.inl rfl)⟩) ?_
 refine g_val _ (.d (bo (!v4))) rfl (gw_f rfl) (fun w33 => (by simp only [gd_pos w33]; rfl)) ?_
 refine sd rfl (v_or rfl rfl (fun hc => gd_pos (not_t hc))) (s_nil (cc rfl h (fun c2 h => ?_) (fun c2 h => ?_)))
 refine l_seq (l_sub (s0 := ⟨T [], G []⟩) (sbr rfl rfl) ?_)
 refine l_reg fun u7 hu7 => sv rfl (s_nil (l_ret ?_))
 cases h
 exact fin_ok (.inr rfl) (resD1 (res_t rfl) rf_d) (.refl _)
 refine l_skip (l_seq (l_sub (s0 := ⟨T [], G []⟩) (sbr rfl rfl) ?_))
 refine l_reg fun u8 hu8 => sv rfl (s_nil (l_ret ?_))
 cases h
 exact fin_ok (.inr rfl) (resD1 (res_t rfl) rf_d) (.refl _)

noncomputable def ref03_Check_l4 (p1 : Map) (x4 : (Int × Int)) : Option (Stp (Int × Int) Int) :=
  cond ((decide (x4.2 < (p1.Works.length : Int))) && (x4.1 == 0)) ((geti p1.Works x4.2).bind fun v8 => (ref03_checkWork p1 v8).bind fun v9 => some (.go (v9, (w64 (x4.2 + 1))))) (some (.out x4.1))
noncomputable def ref03_Check_l3 (p1 : Map) (x3 : (Int × Int)) : Option (Stp (Int × Int) Int) :=
  cond ((decide (x3.2 < (p1.Zones.length : Int))) && (x3.1 == 0)) ((geti p1.Zones x3.2).bind fun v6 => (ref03_checkZone p1 v6).bind fun v7 => some (.go (v7, (w64 (x3.2 + 1))))) (some (.out x3.1))
noncomputable def ref03_Check_l2 (p1 : Map) (x2 : (Int × Int)) : Option (Stp (Int × Int) Int) :=
  cond ((decide (x2.2 < (p1.Signals.length : Int))) && (x2.1 == 0)) ((geti p1.Signals x2.2).bind fun v4 => (ref03_checkSignal p1 v4).bind fun v5 => some (.go (v5, (w64 (x2.2 + 1))))) (some (.out x2.1))
noncomputable def ref03_Check_l1 (p1 : Map) (x1 : Int) : Option (Stp Int (Sum Unit Int)) :=
  cond (decide (x1 < (p1.Lanes.length : Int))) ((ref03_checkLane p1 x1).bind fun v2 => cond (v2 != 0) (some (.out (.inr v2))) (some (.go (w64 (x1 + 1))))) (some (.out (.inl ())))
noncomputable def ref03_Check (p1 : Map) : Option Int :=
  (ref03_within p1.Version 0 1099511627776).bind fun v1 => cond (!v1) (some 2) (cond ((p1.Lanes.length : Int) == 0) (some 6) (cond ((((decide ((p1.Lanes.length : Int) > 12)) || (decide ((p1.Zones.length : Int) > 12))) || (decide ((p1.Signals.length : Int) > 4))) || (decide ((p1.Works.length : Int) > 8))) (some 8) (thenS (loop (ref03_Check_l1 p1) 0) (fun _ => (ref03_checkNext p1).bind fun v3 => (loop (ref03_Check_l2 p1) (v3, 0)).bind fun y2 => (loop (ref03_Check_l3 p1) (y2, 0)).bind fun y3 => (loop (ref03_Check_l4 p1) (y3, 0)).bind fun y4 => some y4) (fun r => some r))))

theorem ref03_Check_ok (p1 : Map) (r : Int) (h : ref03_Check p1 = some r) : PCall Tryz.prog 17 [(.agg (eMap p1))] (i64 r) := by
 refine l_call (fk Tryz.func17 Tryz.ntmps17 m0 (by with_unfolding_all rfl)) (nl rfl) ?_
 unfold ref03_Check at h
 refine l_sub (s0 := ⟨T [(0, (.d _))], G []⟩) (sbr rfl rfl) ?_
 refine lr (fun u1 hu1 => sn rfl rfl (sv rfl (s_nil (l_seq (lr (fun u2 hu2 => sp rfl rfl (sl rfl G_hit rfl (bs h fun v1 hv1 h => s_call rfl rfl all2_refl (ref03_within_ok _ _ _  _ hv1) (.inl rfl) (s_val (.d (bo (!v1))) rfl rfl (s_nil (cc rfl h (fun c1 h => ?_) (fun c1 h => ?_))))))))))))
 refine lr (fun u3 hu3 => sv rfl (s_nil (l_ret ?_)))
 cases h
 exact fin_ok (.inr rfl) (resD1 (res_t rfl) rf_d) (.refl _)
 refine l_skip (l_seq (lr (fun u4 hu4 => sp rfl rfl (sl rfl G_hit rfl (sd rfl (v_len rfl) (sv rfl (s_nil (cc rfl h (fun c2 h => ?_) (fun c2 h => ?_)))))))))
 refine lr (fun u5 hu5 => sv rfl (s_nil (l_ret ?_)))
 cases h
 exact fin_ok (.inr rfl) (resD1 (res_t rfl) rf_d) (.refl _)
 refine l_skip (l_seq (lr (fun u6 hu6 => sp rfl rfl (sl rfl G_hit rfl (sd rfl (v_len rfl) (sv rfl (sv rfl (gp rfl (gw_f rfl) (fun _ => rfl) (gf rfl (vl rfl G_hit rfl) (gf rfl (fun w3 => (v_len (gd_pos w3))) (gf rfl (vb rfl rfl rfl) (sd rfl (v_or rfl rfl (fun hc => gd_pos (not_t hc))) (sv rfl (gp rfl (gw_f rfl) (fun _ => rfl) (gf rfl (vl rfl G_hit rfl) (gf rfl (fun w7 => (v_len (gd_pos w7))) (gf rfl (vb rfl rfl rfl) (sd rfl (v_or rfl rfl (fun hc => gd_pos (not_t hc))) (sv rfl (gp rfl (gw_f rfl) (fun _ => rfl) (gf rfl (vl rfl G_hit rfl) (gf rfl (fun w11 => (v_len (gd_pos w11))) (gf rfl (vb rfl rfl rfl) (sd rfl (v_or rfl rfl (fun hc => gd_pos (not_t hc))) (s_nil (cc rfl h (fun c3 h => ?_) (fun c3 h => ?_)))))))))))))))))))))))))))
 refine l_seq (l_sub (s0 := ⟨T [], G []⟩) (sbr rfl rfl) ?_)
 refine l_reg fun u7 hu7 => sv rfl (s_nil (l_ret ?_))
 cases h
 exact fin_ok (.inr rfl) (resD1 (res_t rfl) rf_d) (.refl _)
 refine l_skip (l_seq (l_seq (l_sub (s0 := ⟨T [(1, (.ptr _ _))], G [((1, u1), some (.box 27 _))]⟩) (sbr rfl rfl) ?_)))
 refine l_reg fun u8 hu8 => sv rfl (s_nil (js h fun z1 hz1 h => l_join (fun s => ∃ (y1 : Unit) (g1 : Unit), z1 = .inl y1 ∧ Sb ⟨T [(1, (.ptr (1, u1) 0))], G [((1, u1), some (.box 27 (dMap p1)))]⟩ s) ?_ ?_))
 refine l_block (l_loop (ref03_Check_l1 p1) (fun (x1 : Int) (g2 : Unit) => ⟨T [(1, (.ptr (1, u1) 0)), (3, (di x1))], G [((1, u1), some (.box 27 (dMap p1)))]⟩) 0 () _ hz1 (sbr rfl rfl) ?_)
 intro x1 g2 z2 hz2 ez2
 unfold ref03_Check_l1 at hz2
 refine l_seq (lr (fun u9 hu9 => sv rfl (sp rfl rfl (sl rfl G_hit rfl (sd rfl (v_len rfl) (sv rfl (s_nil (cc rfl hz2 (fun c4 hz2 => ?_) (fun c4 hz2 => ?_)))))))))
 refine l_skip (l_seq (l_block (lr (fun u10 hu10 => sd rfl (v_loadG rfl G_hit rfl rfl) (sv rfl (bs hz2 fun v2 hv2 hz2 => s_call rfl rfl all2_refl (ref03_checkLane_ok _ _  _ hv2) (.inl rfl) (sv rfl (s_nil (lr (fun u11 hu11 => sv rfl (sv rfl (s_nil (cc rfl hz2 (fun c5 hz2 => ?_) (fun c5 hz2 => ?_))))))))))))))
 refine lr (fun u12 hu12 => sv rfl (sv rfl (s_nil (l_ret ?_))))
 cases hz2
 obtain rfl := ez2 _ rfl
 refine ⟨nofun, awl_ret ?_⟩
 rw [Sum.elim_inr] at h
 cases h
 exact fin_ok (.inr rfl) (resD1 (res_t rfl) rf_d) (.refl _)
 refine l_skip (l_end (l_reg fun u13 hu13 => sv rfl (sv rfl (sv rfl (s_nil (l_nil ?_))))))
 cases hz2
 exact ⟨rfl, (), (sbr rfl rfl)⟩
 refine l_exitN rfl ?_
 cases hz2
 obtain rfl := ez2 _ rfl
 refine ⟨nofun, awl_pop rfl (l_j ?_)⟩
 exact ⟨_, (), rfl, (sbr rfl rfl)⟩
 rintro _ ⟨y1, g1, rfl, q1⟩
 rw [Sum.elim_inl] at h
 refine l_sub q1 (lr (fun u14 hu14 => sd rfl (v_loadG rfl G_hit rfl rfl) (bs h fun v3 hv3 h => s_call rfl rfl all2_refl (ref03_checkNext_ok _  _ hv3) (.inl rfl) (sv rfl (s_nil (l_seq (lr (fun u15 hu15 => sv rfl (s_nil (bs h fun y2 hy2 h => l_join (fun s => ∃ g3 : Unit, Sb ⟨T [(1, (.ptr (1, u1) 0)), (5, (di y2))], G [((1, u1), some (.box 27 (dMap p1)))]⟩ s) ?_ ?_))))))))))
 refine l_block (l_loop (ref03_Check_l2 p1) (fun (x2 : (Int × Int)) (g4 : Unit) => ⟨T [(1, (.ptr (1, u1) 0)), (5, (di x2.1)), (6, (di x2.2))], G [((1, u1), some (.box 27 (dMap p1)))]⟩) (v3, 0) () _ hy2 (sbr rfl rfl) ?_)
 intro x2 g4 z3 hz3 ez3
 unfold ref03_Check_l2 at hz3
 refine l_seq (lr (fun u16 hu16 => sv rfl (sp rfl rfl (sl rfl G_hit rfl (sd rfl (v_len rfl) (sv rfl (sv rfl (gt rfl (fun _ => rfl) (gt rfl (vb rfl rfl rfl) (sa rfl rfl rfl (s_nil (cc rfl hz3 (fun c6 hz3 => ?_) (fun c6 hz3 => ?_)))))))))))))
 refine l_skip (l_seq (l_block (l_draw rfl fun u17 hu17 => sd rfl (v_loadG rfl G_hit rfl rfl) (sp rfl rfl (sl rfl G_hit rfl (sv rfl (bs hz3 fun v4 hv4 hz3 => sd rfl (v_idx rfl rfl hv4 rfl) (sd rfl (v_loadLG rfl hv4 rfl rfl) (bs hz3 fun v5 hv5 hz3 => s_call rfl rfl all2_refl (ref03_checkSignal_ok _ _  _ hv5) (.inl rfl) (sv rfl (s_nil (l_end (l_reg fun u18 hu18 => sv rfl (sv rfl (sv rfl (s_nil (l_nil ?_)))))))))))))))))
 cases hz3
 exact ⟨rfl, (), (sbr rfl rfl)⟩
 refine l_exitN rfl ?_
 cases hz3
 obtain rfl := ez3 _ rfl
 refine ⟨nofun, awl_pop rfl (l_j ?_)⟩
 exact ⟨(), (sbr rfl rfl)⟩
 rintro _ ⟨g3, q2⟩
 refine l_sub q2 (l_seq (lr (fun u19 hu19 => sv rfl (s_nil (bs h fun y3 hy3 h => l_join (fun s => ∃ g5 : Unit, Sb ⟨T [(1, (.ptr (1, u1) 0)), (5, (di y3))], G [((1, u1), some (.box 27 (dMap p1)))]⟩ s) ?_ ?_)))))
 refine l_block (l_loop (ref03_Check_l3 p1) (fun (x3 : (Int × Int)) (g6 : Unit) => ⟨T [(1, (.ptr (1, u1) 0)), (5, (di x3.1)), (7, (di x3.2))], G [((1, u1), some (.box 27 (dMap p1)))]⟩) (y2, 0) () _ hy3 (sbr rfl rfl) ?_)
 intro x3 g6 z4 hz4 ez4
 unfold ref03_Check_l3 at hz4
 refine l_seq (lr (fun u20 hu20 => sv rfl (sp rfl rfl (sl rfl G_hit rfl (sd rfl (v_len rfl) (sv rfl (sv rfl (gt rfl (fun _ => rfl) (gt rfl (vb rfl rfl rfl) (sa rfl rfl rfl (s_nil (cc rfl hz4 (fun c7 hz4 => ?_) (fun c7 hz4 => ?_)))))))))))))
 refine l_skip (l_seq (l_block (l_draw rfl fun u21 hu21 => sd rfl (v_loadG rfl G_hit rfl rfl) (sp rfl rfl (sl rfl G_hit rfl (sv rfl (bs hz4 fun v6 hv6 hz4 => sd rfl (v_idx rfl rfl hv6 rfl) (sd rfl (v_loadLG rfl hv6 rfl rfl) (bs hz4 fun v7 hv7 hz4 => s_call rfl rfl all2_refl (ref03_checkZone_ok _ _  _ hv7) (.inl rfl) (sv rfl (s_nil (l_end (l_reg fun u22 hu22 => sv rfl (sv rfl (sv rfl (s_nil (l_nil ?_)))))))))))))))))
 cases hz4
 exact ⟨rfl, (), (sbr rfl rfl)⟩
 refine l_exitN rfl ?_
 cases hz4
 obtain rfl := ez4 _ rfl
 refine ⟨nofun, awl_pop rfl (l_j ?_)⟩
 exact ⟨(), (sbr rfl rfl)⟩
 rintro _ ⟨g5, q3⟩
 refine l_sub q3 (l_seq (lr (fun u23 hu23 => sv rfl (s_nil (bs h fun y4 hy4 h => l_join (fun s => ∃ g7 : Unit, Sb ⟨T [(5, (di y4))], G []⟩ s) ?_ ?_)))))
 refine l_block (l_loop (ref03_Check_l4 p1) (fun (x4 : (Int × Int)) (g8 : Unit) => ⟨T [(1, (.ptr (1, u1) 0)), (5, (di x4.1)), (8, (di x4.2))], G [((1, u1), some (.box 27 (dMap p1)))]⟩) (y3, 0) () _ hy4 (sbr rfl rfl) ?_)
 intro x4 g8 z5 hz5 ez5
 unfold ref03_Check_l4 at hz5
 refine l_seq (lr (fun u24 hu24 => sv rfl (sp rfl rfl (sl rfl G_hit rfl (sd rfl (v_len rfl) (sv rfl (sv rfl (gt rfl (fun _ => rfl) (gt rfl (vb rfl rfl rfl) (sa rfl rfl rfl (s_nil (cc rfl hz5 (fun c8 hz5 => ?_) (fun c8 hz5 => ?_)))))))))))))
 refine l_skip (l_seq (l_block (l_draw rfl fun u25 hu25 => sd rfl (v_loadG rfl G_hit rfl rfl) (sp rfl rfl (sl rfl G_hit rfl (sv rfl (bs hz5 fun v8 hv8 hz5 => sd rfl (v_idx rfl rfl hv8 rfl) (sd rfl (v_loadLG rfl hv8 rfl rfl) (bs hz5 fun v9 hv9 hz5 => s_call rfl rfl all2_refl (ref03_checkWork_ok _ _  _ hv9) (.inl rfl) (sv rfl (s_nil (l_end (l_reg fun u26 hu26 => sv rfl (sv rfl (sv rfl (s_nil (l_nil ?_)))))))))))))))))
 cases hz5
 exact ⟨rfl, (), (sbr rfl rfl)⟩
 refine l_exitN rfl ?_
 cases hz5
 obtain rfl := ez5 _ rfl
 refine ⟨nofun, awl_pop rfl (l_j ?_)⟩
 exact ⟨(), (sbr rfl rfl)⟩
 rintro _ ⟨g7, q4⟩
 refine l_sub q4 (lr (fun u27 hu27 => sv rfl (sv rfl (s_nil (l_ret ?_)))))
 cases h
 exact fin_ok (.inr rfl) (resD1 (res_t rfl) rf_d) (.refl _)
end Go.Abs.Roadsz
