/-
  The functions, part 3.
-/
import Derived.Test.YtimbepcdlehjjaaGreatFns2
set_option maxRecDepth 20000
set_option maxHeartbeats 4000000
set_option linter.unusedVariables false
namespace Go.Abs.Roadsz
open Go Go.Abs Go.Proofs
attribute [local irreducible] regW regT AWL

noncomputable def ref03_has_l1 (p1 : (List Int)) (p2 : Int) (x1 : Int) : Option (Stp Int (Sum Unit Bool)) :=
  cond (decide (x1 < (p1.length : Int))) ((geti p1 x1).bind fun v1 => cond (v1 == p2) (some (.out (.inr true))) (some (.go (w64 (x1 + 1))))) (some (.out (.inl ())))
noncomputable def ref03_has (p1 : (List Int)) (p2 : Int) : Option Bool :=
  thenS (loop (ref03_has_l1 p1 p2) 0) (fun _ => some false) (fun r => some r)

theorem ref03_has_ok (p1 : (List Int)) (p2 : Int) (r : Bool) (h : ref03_has p1 p2 = some r) : PCall Tryz.prog 138 [(.list (List.map eInt_i64 p1)), (i64 p2)] (bo r) := by
 refine l_call (fk Tryz.func138 Tryz.ntmps138 m0 (by with_unfolding_all rfl)) (nl rfl) ?_
 unfold ref03_has at h
 refine l_sub (s0 := ⟨T [(0, (.d _)), (1, (.d _))], G []⟩) (sbr rfl rfl) ?_
 refine lr (fun u1 hu1 => sv rfl (s_nil (l_seq (lr (fun u2 hu2 => sv rfl (s_nil (js h fun z1 hz1 h => l_join (fun s => ∃ (y1 : Unit) (g1 : Unit), z1 = .inl y1 ∧ Sb ⟨T [], G []⟩ s) ?_ ?_)))))))
 refine l_block (l_loop (ref03_has_l1 p1 p2) (fun (x1 : Int) (g2 : Unit) => ⟨T [(0, (dl eInt_i64 p1)), (1, (di p2)), (5, (di x1))], G []⟩) 0 () _ hz1 (sbr rfl rfl) ?_)
 intro x1 g2 z2 hz2 ez2
 unfold ref03_has_l1 at hz2
 refine l_seq (lr (fun u3 hu3 => sv rfl (sv rfl (sd rfl (v_len rfl) (sv rfl (s_nil (cc rfl hz2 (fun c1 hz2 => ?_) (fun c1 hz2 => ?_))))))))
 refine l_skip (l_seq (l_block (lr (fun u4 hu4 => sv rfl (sv rfl (bs hz2 fun v1 hv1 hz2 => sd rfl (v_idx rfl rfl hv1 rfl) (sd rfl (v_loadL rfl hv1 rfl) (sv rfl (sv rfl (s_nil (cc rfl hz2 (fun c2 hz2 => ?_) (fun c2 hz2 => ?_))))))))))))
 refine lr (fun u5 hu5 => sv rfl (s_nil (l_ret ?_)))
 cases hz2
 obtain rfl := ez2 _ rfl
 refine ⟨nofun, awl_ret ?_⟩
 rw [Sum.elim_inr] at h
 cases h
 exact fin_ok (.inr rfl) (resD1 (res_t rfl) rf_d) (.refl _)
 refine l_skip (l_end (l_reg fun u6 hu6 => sv rfl (sv rfl (sv rfl (s_nil (l_nil ?_))))))
 cases hz2
 exact ⟨rfl, (), (sbr rfl rfl)⟩
 refine l_exitN rfl ?_
 cases hz2
 obtain rfl := ez2 _ rfl
 refine ⟨nofun, awl_pop rfl (l_j ?_)⟩
 exact ⟨_, (), rfl, (sbr rfl rfl)⟩
 rintro _ ⟨y1, g1, rfl, q1⟩
 rw [Sum.elim_inl] at h
 refine l_sub q1 (lr (fun u7 hu7 => sv rfl (s_nil (l_ret ?_))))
 cases h
 exact fin_ok (.inr rfl) (resD1 (res_t rfl) rf_d) (.refl _)

noncomputable def ref03_before_l1 (p1 : Map) (p2 : Int) (x1 : ((List Int) × Int)) : Option (Stp ((List Int) × Int) (List Int)) :=
  cond (decide (x1.2 < (p1.Lanes.length : Int))) ((geti p1.Lanes x1.2).bind fun v1 => (ref03_has v1.Next p2).bind fun v2 => cond v2 ((appc x1.1 [x1.2]).bind fun v3 => some (.go (v3, (w64 (x1.2 + 1))))) (some (.go (x1.1, (w64 (x1.2 + 1)))))) (some (.out x1.1))
noncomputable def ref03_before (p1 : Map) (p2 : Int) : Option (List Int) :=
  (loop (ref03_before_l1 p1 p2) ([], 0)).bind fun y1 => some y1

theorem ref03_before_ok (p1 : Map) (p2 : Int) (r : (List Int)) (h : ref03_before p1 p2 = some r) : PCall Tryz.prog 137 [(.agg (eMap p1)), (i64 p2)] (.list (List.map eInt_i64 r)) := by
 refine l_call (fk Tryz.func137 Tryz.ntmps137 (fun r => if r == 6 then [1002] else []) (by with_unfolding_all rfl)) (nl rfl) ?_
 unfold ref03_before at h
 refine l_sub (s0 := ⟨T [(0, (.d _)), (1, (.d _))], G []⟩) (sbr rfl rfl) ?_
 refine lr (fun u1 hu1 => sn rfl rfl (sv rfl (s_nil (lr (fun u2 hu2 => sv rfl (s_nil (l_seq (lr (fun u3 hu3 => sv rfl (s_nil (bs h fun y1 hy1 h => l_join (fun s => ∃ g1 : Nat, Sb ⟨T [(5, (oS y1 (25, g1)))], G [((25, g1), oB 3 1 eInt_i64 y1)]⟩ s) ?_ ?_)))))))))))
 refine l_block (l_loop (ref03_before_l1 p1 p2) (fun (x1 : ((List Int) × Int)) (g2 : Nat) => ⟨T [(1, (di p2)), (2, (.ptr (2, u1) 0)), (5, (oS x1.1 (25, g2))), (6, (di x1.2))], G [((2, u1), some (.box 27 (dMap p1))), ((25, g2), oB 3 1 eInt_i64 x1.1)]⟩) ([], 0) 0 _ hy1 (sb_of ⟨.of rfl, .of rfl, .of rfl, .of rfl, trivial⟩ (sbG_some G_hit (.of rfl) (sbG_nil trivial))) ?_)
 intro x1 g2 z1 hz1 ez1
 unfold ref03_before_l1 at hz1
 refine l_seq (lr (fun u4 hu4 => sv rfl (sp rfl rfl (sl rfl G_hit rfl (sd rfl (v_len rfl) (sv rfl (s_nil (cc rfl hz1 (fun c1 hz1 => ?_) (fun c1 hz1 => ?_)))))))))
 refine l_skip (l_seq (l_block (lr (fun u5 hu5 => sp rfl rfl (sl rfl G_hit rfl (sv rfl (bs hz1 fun v1 hv1 hz1 => sd rfl (v_idx rfl rfl hv1 rfl) (sv rfl (sd rfl (v_loadL rfl hv1 rfl) (sv rfl (bs hz1 fun v2 hv2 hz1 => s_call rfl rfl all2_refl (ref03_has_ok _ _  _ hv2) (.inl rfl) (s_nil (cc rfl hz1 (fun c2 hz1 => ?_) (fun c2 hz1 => ?_))))))))))))))
 refine l_reg fun u6 hu6 => s_val (oS x1.1 (25, g2)) rfl rfl (sv rfl (s_val (dl eInt_i64 [x1.2]) rfl rfl (bs hz1 fun v3 hv3 hz1 => s_appendO eInt_i64 (25, g2) x1.1 x1.2 [] _ (elems_list (fun _ => rfl)) rfl (gq rfl) hv3 (ss rfl (s_nil (l_end (l_sub (s0 := ⟨T [(1, (.d _)), (2, (.ptr _ _)), (5, (.sl _)), (6, (.d _))], G [((2, u1), some (.box 27 _)), ((25, u6), some _)]⟩) (sbr rfl rfl) ?_)))))))
 refine l_reg fun u7 hu7 => sv rfl (sv rfl (sv rfl (s_nil (l_nil ?_))))
 cases hz1
 exact ⟨rfl, u6, (sb_of ⟨.of rfl, .of rfl, (.of (oS_ne (appc_ne hv3)).symm), .of rfl, trivial⟩ (sbG_some G_hit (.of rfl) (sbG_own (gq rfl) trivial)))⟩
 refine l_skip (l_end (l_reg fun u8 hu8 => sv rfl (sv rfl (sv rfl (s_nil (l_nil ?_))))))
 cases hz1
 exact ⟨rfl, g2, (sb_of ⟨.of rfl, .of rfl, .of rfl, .of rfl, trivial⟩ (sbG_some G_hit (.of rfl) (sbG_oB (gq rfl) trivial)))⟩
 refine l_exitN rfl ?_
 cases hz1
 obtain rfl := ez1 _ rfl
 refine ⟨nofun, awl_pop rfl (l_j ?_)⟩
 exact ⟨g2, (sb_of ⟨.of rfl, trivial⟩ (sbG_oB (gq rfl) trivial))⟩
 rintro _ ⟨g1, q1⟩
 refine l_sub q1 (lr (fun u9 hu9 => s_val (oS y1 (25, g1)) rfl rfl (s_val (oS y1 (25, g1)) rfl rfl (s_nil (l_ret ?_)))))
 cases h
 exact fin_ok (.inr rfl) (resD1 (res_t rfl) (rf_oS G_hit)) oD_le

noncomputable def ref03_part_l1 (p1 : Zone) (p2 : Int) (x1 : Int) : Option (Stp Int (Sum Unit (Part × Bool))) :=
  cond (decide (x1 < (p1.Parts.length : Int))) ((geti p1.Parts x1).bind fun v1 => cond (v1.Lane_ == p2) ((geti p1.Parts x1).bind fun v2 => some (.out (.inr (v2, true)))) (some (.go (w64 (x1 + 1))))) (some (.out (.inl ())))
noncomputable def ref03_part (p1 : Zone) (p2 : Int) : Option (Part × Bool) :=
  thenS (loop (ref03_part_l1 p1 p2) 0) (fun _ => some ((Part.mk 0 0 0 0), false)) (fun r => some r)

theorem ref03_part_ok (p1 : Zone) (p2 : Int) (r : (Part × Bool)) (h : ref03_part p1 p2 = some r) : PCall Tryz.prog 148 [(.agg [(.list (List.map ePart p1.Parts)), (i64 p1.Signal_)]), (i64 p2)] (.tup [(.agg (ePart r.1)), (bo r.2)]) := by
 refine l_call (fk Tryz.func148 Tryz.ntmps148 m0 (by with_unfolding_all rfl)) (nl rfl) ?_
 unfold ref03_part at h
 refine l_sub (s0 := ⟨T [(0, (.d _)), (1, (.d _))], G []⟩) (sbr rfl rfl) ?_
 refine lr (fun u1 hu1 => sn rfl rfl (sn rfl rfl (sv rfl (s_nil (l_seq (lr (fun u2 hu2 => sv rfl (s_nil (js h fun z1 hz1 h => l_join (fun s => ∃ (y1 : Unit) (g1 : Unit), z1 = .inl y1 ∧ Sb ⟨T [(4, (.ptr (4, u1) 0))], G [((4, u1), some (.box 91 (zs 4)))]⟩ s) ?_ ?_)))))))))
 refine l_block (l_loop (ref03_part_l1 p1 p2) (fun (x1 : Int) (g2 : Unit) => ⟨T [(1, (di p2)), (2, (.ptr (2, u1) 0)), (4, (.ptr (4, u1) 0)), (6, (di x1))], G [((2, u1), some (.box 45 [(dl ePart p1.Parts), (di p1.Signal_)])), ((4, u1), some (.box 91 (zs 4)))]⟩) 0 () _ hz1 (sbr rfl rfl) ?_)
 intro x1 g2 z2 hz2 ez2
 unfold ref03_part_l1 at hz2
 refine l_seq (lr (fun u3 hu3 => sv rfl (sp rfl rfl (sl rfl G_hit rfl (sd rfl (v_len rfl) (sv rfl (s_nil (cc rfl hz2 (fun c1 hz2 => ?_) (fun c1 hz2 => ?_)))))))))
 refine l_skip (l_seq (l_block (lr (fun u4 hu4 => sp rfl rfl (sl rfl G_hit rfl (sv rfl (bs hz2 fun v1 hv1 hz2 => sd rfl (v_idx rfl rfl hv1 rfl) (sv rfl (sd rfl (v_loadL rfl hv1 rfl) (sv rfl (sv rfl (s_nil (cc rfl hz2 (fun c2 hz2 => ?_) (fun c2 hz2 => ?_))))))))))))))
 refine lr (fun u5 hu5 => sp rfl rfl (sl rfl G_hit rfl (sv rfl (bs hz2 fun v2 hv2 hz2 => sd rfl (v_idx rfl rfl hv2 rfl) (sd rfl (v_loadLG rfl hv2 rfl rfl) (sst rfl (gq rfl) (dPart v2) rfl (sv rfl (s_nil (l_ret ?_)))))))))
 cases hz2
 obtain rfl := ez2 _ rfl
 refine ⟨nofun, awl_ret ?_⟩
 rw [Sum.elim_inr] at h
 cases h
 exact fin_ok (.inr rfl) (resD2 (res_cellG rfl G_hit (nl rfl) rfl) (res_t rfl) rf_d rf_d) (.refl _)
 refine l_skip (l_end (l_reg fun u6 hu6 => sv rfl (sv rfl (sv rfl (s_nil (l_nil ?_))))))
 cases hz2
 exact ⟨rfl, (), (sbr rfl rfl)⟩
 refine l_exitN rfl ?_
 cases hz2
 obtain rfl := ez2 _ rfl
 refine ⟨nofun, awl_pop rfl (l_j ?_)⟩
 exact ⟨_, (), rfl, (sbr rfl rfl)⟩
 rintro _ ⟨y1, g1, rfl, q1⟩
 rw [Sum.elim_inl] at h
 refine l_sub q1 (lr (fun u7 hu7 => sv rfl (sst rfl G_hit (zs 4) rfl (sv rfl (s_nil (l_ret ?_))))))
 cases h
 exact fin_ok (.inr rfl) (resD2 (res_cellG rfl G_hit (nl rfl) rfl) (res_t rfl) rf_d rf_d) (.refl _)

noncomputable def ref03_length (p1 : Map) (p2 : Int) : Option Int :=
  (geti p1.Lanes p2).bind fun v1 => (ref01_Length v1.Curve_).bind fun v2 => some v2

theorem ref03_length_ok (p1 : Map) (p2 : Int) (r : Int) (h : ref03_length p1 p2 = some r) : PCall Tryz.prog 166 [(.agg (eMap p1)), (i64 p2)] (i64 r) := by
 refine l_call (fk Tryz.func166 Tryz.ntmps166 m0 (by with_unfolding_all rfl)) (nl rfl) ?_
 unfold ref03_length at h
 refine l_sub (s0 := ⟨T [(0, (.d _)), (1, (.d _))], G []⟩) (sbr rfl rfl) ?_
 refine lr (fun u1 hu1 => sn rfl rfl (sv rfl (s_nil (lr (fun u2 hu2 => sp rfl rfl (sl rfl G_hit rfl (sv rfl (bs h fun v1 hv1 h => sd rfl (v_idx rfl rfl hv1 rfl) (sv rfl (sd rfl (v_loadLG rfl hv1 rfl rfl) (bs h fun v2 hv2 h => s_call rfl rfl all2_refl (ref01_Length_ok _  _ hv2) (.inl rfl) (sv rfl (s_nil (l_ret ?_))))))))))))))
 cases h
 exact fin_ok (.inr rfl) (resD1 (res_t rfl) rf_d) (.refl _)

noncomputable def ref03_whole_l1 (p1 : Map) (p2 : Zone) (v2 : (List Int)) (x1 : Int) : Option (Stp Int (Sum Unit Bool)) :=
  cond (decide (x1 < (v2.length : Int))) ((geti v2 x1).bind fun v3 => (ref03_part p2 v3).bind fun v4 => ((cond (!(!v4.2)) (geti v2 x1) (some default))).bind fun v5 => ((cond (!(!v4.2)) (ref03_length p1 v5) (some default))).bind fun v6 => cond ((!v4.2) || (v4.1.To != v6)) (some (.out (.inr false))) (some (.go (w64 (x1 + 1))))) (some (.out (.inl ())))
noncomputable def ref03_whole (p1 : Map) (p2 : Zone) (p3 : Int) : Option Bool :=
  (ref03_part p2 p3).bind fun v1 => cond ((!v1.2) || (v1.1.From != 0)) (some false) ((ref03_before p1 p3).bind fun v2 => thenS (loop (ref03_whole_l1 p1 p2 v2) 0) (fun _ => some true) (fun r => some r))

theorem ref03_whole_ok (p1 : Map) (p2 : Zone) (p3 : Int) (r : Bool) (h : ref03_whole p1 p2 p3 = some r) : PCall Tryz.prog 189 [(.agg (eMap p1)), (.agg [(.list (List.map ePart p2.Parts)), (i64 p2.Signal_)]), (i64 p3)] (bo r) := by
 refine l_call (fk Tryz.func189 Tryz.ntmps189 m0 (by with_unfolding_all rfl)) (nl rfl) ?_
 unfold ref03_whole at h
 refine l_sub (s0 := ⟨T [(0, (.d _)), (1, (.d _)), (2, (.d _))], G []⟩) (sbr rfl rfl) ?_
 refine lr (fun u1 hu1 => sn rfl rfl (sn rfl rfl (sv rfl (s_nil (lr (fun u2 hu2 => sd rfl (v_loadG rfl G_hit rfl rfl) (sv rfl (bs h fun v1 hv1 h => s_call rfl rfl all2_refl (ref03_part_ok _ _  _ hv1) (.inl rfl) (sv rfl (sv rfl (sv rfl (sn rfl rfl (sst rfl G_hit (dPart v1.1) rfl (sv rfl (s_nil (l_seq (lr (fun u3 hu3 => sv rfl (s_val (.d (bo (!v1.2))) rfl rfl (sv rfl (gp rfl (gw_f rfl) (fun _ => rfl) (gf rfl (vl rfl G_hit rfl) (gf rfl (vb rfl rfl rfl) (sd rfl (v_or rfl rfl (fun hc => gd_pos (not_t hc))) (s_nil (cc rfl h (fun c1 h => ?_) (fun c1 h => ?_)))))))))))))))))))))))))))
 refine l_seq (l_sub (s0 := ⟨T [], G []⟩) (sbr rfl rfl) ?_)
 refine l_reg fun u4 hu4 => sv rfl (s_nil (l_ret ?_))
 cases h
 exact fin_ok (.inr rfl) (resD1 (res_t rfl) rf_d) (.refl _)
 refine l_skip (l_seq (l_sub (s0 := ⟨T [(2, (.d _)), (3, (.ptr _ _)), (4, (.ptr _ _))], G [((3, u1), some (.box 27 _)), ((4, u1), some (.box 45 _))]⟩) (sbr rfl rfl) ?_))
 refine l_reg fun u5 hu5 => sd rfl (v_loadG rfl G_hit rfl rfl) (sv rfl (bs h fun v2 hv2 h => s_call rfl rfl all2_refl (ref03_before_ok _ _  _ hv2) (.inl rfl) (sv rfl (s_nil (l_seq (lr (fun u6 hu6 => sv rfl (s_nil (js h fun z1 hz1 h => l_join (fun s => ∃ (y1 : Unit) (g1 : Unit), z1 = .inl y1 ∧ Sb ⟨T [], G []⟩ s) ?_ ?_)))))))))
 refine l_block (l_loop (ref03_whole_l1 p1 p2 v2) (fun (x1 : Int) (g2 : Unit) => ⟨T [(3, (.ptr (3, u1) 0)), (4, (.ptr (4, u1) 0)), (9, (dl eInt_i64 v2)), (10, (di x1))], G [((3, u1), some (.box 27 (dMap p1))), ((4, u1), some (.box 45 [(dl ePart p2.Parts), (di p2.Signal_)]))]⟩) 0 () _ hz1 (sbr rfl rfl) ?_)
 intro x1 g2 z2 hz2 ez2
 unfold ref03_whole_l1 at hz2
 refine l_seq (lr (fun u7 hu7 => sv rfl (sv rfl (sd rfl (v_len rfl) (sv rfl (s_nil (cc rfl hz2 (fun c2 hz2 => ?_) (fun c2 hz2 => ?_))))))))
 refine l_skip (l_seq (l_block (l_seq (l_draw rfl fun u8 hu8 => sd rfl (v_loadG rfl (gq rfl) rfl rfl) (sv rfl (sv rfl (bs hz2 fun v3 hv3 hz2 => sd rfl (v_idx rfl rfl hv3 rfl) (sd rfl (v_loadL rfl hv3 rfl) (bs hz2 fun v4 hv4 hz2 => s_call rfl rfl all2_refl (ref03_part_ok _ _  _ hv4) (.inl rfl) (sv rfl (sv rfl (sv rfl (sn rfl rfl (sst rfl G_hit (dPart v4.1) rfl (sv rfl (s_nil (l_seq (l_sub (s0 := ⟨T [(3, (.ptr _ _)), (4, (.ptr _ _)), (9, (.d _)), (10, (.d _)), (11, (.ptr _ _)), (12, (.d _))], G [((3, u1), some (.box 27 _)), ((4, u1), some (.box 45 _)), ((11, u8), some (.box 91 _))]⟩) (sbr rfl rfl) ?_))))))))))))))))))
 refine l_draw rfl fun u9 hu9 => sv rfl (s_val (.d (bo (!v4.2))) rfl rfl (sv rfl (gp rfl (gw_f rfl) (fun _ => rfl) (gf rfl (vl rfl (gq rfl) rfl) (gf rfl (fun w6 => (v_loadG rfl G_hit rfl rfl)) (gf rfl (fun _ => rfl) (gf rfl (fun _ => rfl) (bs hz2 fun v5 hv5 hz2 => gf rfl (fun w9 => (v_idx (gd_pos w9) (gd_pos w9) (cond_t w9 hv5) rfl)) (gf rfl (fun w10 => (v_loadL (gd_pos w10) (cond_t w10 hv5) rfl)) (bs hz2 fun v6 hv6 hz2 => ?_))))))))))
 refine g_call _ (i64 v6) (gw_f rfl) (fun w11 => ⟨_, [(.d (.agg (eMap p1))), (di v5)], _, _, (by simp only [gd_pos w11]; rfl), rfl, all2_refl, ref03_length_ok _ _  _ (cond_t w11 hv6), (.inl rfl)⟩) ?_
 refine gf rfl (fun w12 => (v_bin (gd_pos w12) (gd_pos w12) rfl)) (sd rfl (v_or rfl rfl (fun hc => gd_pos (not_t hc))) (s_nil (cc rfl hz2 (fun c3 hz2 => ?_) (fun c3 hz2 => ?_))))
 refine lr (fun u10 hu10 => sv rfl (s_nil (l_ret ?_)))
 cases hz2
 obtain rfl := ez2 _ rfl
 refine ⟨nofun, awl_ret ?_⟩
 rw [Sum.elim_inr] at h
 cases h
 exact fin_ok (.inr rfl) (resD1 (res_t rfl) rf_d) (.refl _)
 refine l_skip (l_end (l_reg fun u11 hu11 => sv rfl (sv rfl (sv rfl (s_nil (l_nil ?_))))))
 cases hz2
 exact ⟨rfl, (), (sbr rfl rfl)⟩
 refine l_exitN rfl ?_
 cases hz2
 obtain rfl := ez2 _ rfl
 refine ⟨nofun, awl_pop rfl (l_j ?_)⟩
 exact ⟨_, (), rfl, (sbr rfl rfl)⟩
 rintro _ ⟨y1, g1, rfl, q1⟩
 rw [Sum.elim_inl] at h
 refine l_sub q1 (lr (fun u12 hu12 => sv rfl (s_nil (l_ret ?_))))
 cases h
 exact fin_ok (.inr rfl) (resD1 (res_t rfl) rf_d) (.refl _)

noncomputable def ref03_leads_b_l1 (rc : (Map → Int → Int → Option Bool)) (p1 : Map) (p3 : Int) (v1 : Lane) (x1 : Int) : Option (Stp Int (Sum Unit Bool)) :=
  cond (decide (x1 < (v1.Next.length : Int))) ((geti v1.Next x1).bind fun v2 => ((cond (!(v2 == p3)) (geti v1.Next x1) (some default))).bind fun v3 => ((cond (!(v2 == p3)) (rc p1 v3 p3) (some default))).bind fun v4 => cond ((v2 == p3) || v4) (some (.out (.inr true))) (some (.go (w64 (x1 + 1))))) (some (.out (.inl ())))
noncomputable def ref03_leads_b (rc : (Map → Int → Int → Option Bool)) (p1 : Map) (p2 : Int) (p3 : Int) : Option Bool :=
  (geti p1.Lanes p2).bind fun v1 => thenS (loop (ref03_leads_b_l1 rc p1 p3 v1) 0) (fun _ => some false) (fun r => some r)
noncomputable def ref03_leads_n : Nat → Map → Int → Int → Option Bool
  | 0 => fun _ _ _ => none
  | n + 1 => ref03_leads_b (ref03_leads_n n)
noncomputable def ref03_leads : Map → Int → Int → Option Bool := ref03_leads_n 100

theorem ref03_leads_b_ok (rc : (Map → Int → Int → Option Bool)) (rc_ok : ∀ (p1 : Map) (p2 : Int) (p3 : Int) (r : Bool), rc p1 p2 p3 = some r → PCall Tryz.prog 249 [(.agg (eMap p1)), (i64 p2), (i64 p3)] (bo r)) (p1 : Map) (p2 : Int) (p3 : Int) (r : Bool) (h : ref03_leads_b rc p1 p2 p3 = some r) : PCall Tryz.prog 249 [(.agg (eMap p1)), (i64 p2), (i64 p3)] (bo r) := by
 refine l_call (fk Tryz.func249 Tryz.ntmps249 m0 (by with_unfolding_all rfl)) (nl rfl) ?_
 unfold ref03_leads_b at h
 refine l_sub (s0 := ⟨T [(0, (.d _)), (1, (.d _)), (2, (.d _))], G []⟩) (sbr rfl rfl) ?_
 refine lr (fun u1 hu1 => sn rfl rfl (sv rfl (s_nil (lr (fun u2 hu2 => sp rfl rfl (sl rfl G_hit rfl (sv rfl (bs h fun v1 hv1 h => sd rfl (v_idx rfl rfl hv1 rfl) (sv rfl (sd rfl (v_loadL rfl hv1 rfl) (sv rfl (s_nil (l_seq (lr (fun u3 hu3 => sv rfl (s_nil (js h fun z1 hz1 h => l_join (fun s => ∃ (y1 : Unit) (g1 : Unit), z1 = .inl y1 ∧ Sb ⟨T [], G []⟩ s) ?_ ?_)))))))))))))))))
 refine l_block (l_loop (ref03_leads_b_l1 rc p1 p3 v1) (fun (x1 : Int) (g2 : Unit) => ⟨T [(2, (di p3)), (3, (.ptr (3, u1) 0)), (7, (dl eInt_i64 v1.Next)), (8, (di x1))], G [((3, u1), some (.box 27 (dMap p1)))]⟩) 0 () _ hz1 (sbr rfl rfl) ?_)
 intro x1 g2 z2 hz2 ez2
 unfold ref03_leads_b_l1 at hz2
 refine l_seq (lr (fun u4 hu4 => sv rfl (sv rfl (sd rfl (v_len rfl) (sv rfl (s_nil (cc rfl hz2 (fun c1 hz2 => ?_) (fun c1 hz2 => ?_))))))))
 refine l_skip (l_seq (l_block (l_seq (l_draw rfl fun u5 hu5 => sv rfl (sv rfl (bs hz2 fun v2 hv2 hz2 => sd rfl (v_idx rfl rfl hv2 rfl) (sd rfl (v_loadL rfl hv2 rfl) (sv rfl (sv rfl (sv rfl (gf rfl (fun w1 => (v_loadG rfl G_hit rfl rfl)) (gf rfl (fun _ => rfl) (gf rfl (fun _ => rfl) (bs hz2 fun v3 hv3 hz2 => gf rfl (fun w4 => (v_idx (gd_pos w4) (gd_pos w4) (cond_t w4 hv3) rfl)) (gf rfl (fun w5 => (v_loadL (gd_pos w5) (cond_t w5 hv3) rfl)) (gf rfl (fun _ => rfl) (bs hz2 fun v4 hv4 hz2 => ?_)))))))))))))))))
 refine g_call _ (bo v4) (gw_f rfl) (fun w7 => ⟨_, [(.d (.agg (eMap p1))), (di v3), (di p3)], _, _, (by simp only [gd_pos w7]; rfl), rfl, all2_refl, rc_ok _ _ _  _ (cond_t w7 hv4), (.inl rfl)⟩) ?_
 refine sd rfl (v_or rfl rfl (fun hc => gd_pos (not_t hc))) (s_nil (cc rfl hz2 (fun c2 hz2 => ?_) (fun c2 hz2 => ?_)))
 refine l_seq (l_sub (s0 := ⟨T [], G []⟩) (sbr rfl rfl) ?_)
 refine l_reg fun u6 hu6 => sv rfl (s_nil (l_ret ?_))
 cases hz2
 obtain rfl := ez2 _ rfl
 refine ⟨nofun, awl_ret ?_⟩
 rw [Sum.elim_inr] at h
 cases h
 exact fin_ok (.inr rfl) (resD1 (res_t rfl) rf_d) (.refl _)
 refine l_skip (l_end (l_sub (s0 := ⟨T [(2, (.d _)), (3, (.ptr _ _)), (7, (.d _)), (8, (.d _))], G [((3, u1), some (.box 27 _))]⟩) (sbr rfl rfl) ?_))
 refine l_reg fun u7 hu7 => sv rfl (sv rfl (sv rfl (s_nil (l_nil ?_))))
 cases hz2
 exact ⟨rfl, (), (sbr rfl rfl)⟩
 refine l_exitN rfl ?_
 cases hz2
 obtain rfl := ez2 _ rfl
 refine ⟨nofun, awl_pop rfl (l_j ?_)⟩
 exact ⟨_, (), rfl, (sbr rfl rfl)⟩
 rintro _ ⟨y1, g1, rfl, q1⟩
 rw [Sum.elim_inl] at h
 refine l_sub q1 (lr (fun u8 hu8 => sv rfl (s_nil (l_ret ?_))))
 cases h
 exact fin_ok (.inr rfl) (resD1 (res_t rfl) rf_d) (.refl _)
theorem ref03_leads_n_ok : ∀ (n : Nat) (p1 : Map) (p2 : Int) (p3 : Int) (r : Bool) (h : ref03_leads_n n p1 p2 p3 = some r), PCall Tryz.prog 249 [(.agg (eMap p1)), (i64 p2), (i64 p3)] (bo r)
  | 0, _, _, _, _, h => nomatch h
  | n + 1, _, _, _, _, h => ref03_leads_b_ok (ref03_leads_n n) (ref03_leads_n_ok n) _ _ _ _ h
theorem ref03_leads_ok (p1 : Map) (p2 : Int) (p3 : Int) (r : Bool) (h : ref03_leads p1 p2 p3 = some r) : PCall Tryz.prog 249 [(.agg (eMap p1)), (i64 p2), (i64 p3)] (bo r) := ref03_leads_n_ok 100 p1 p2 p3 r h

noncomputable def ref03_entry_l1 (p1 : Map) (p2 : Zone) (p3 : Int) (x1 : Int) : Option (Stp Int (Sum Unit Bool)) :=
  cond (decide (x1 < (p2.Parts.length : Int))) ((geti p2.Parts x1).bind fun v1 => ((cond (v1.Lane_ != p3) (geti p2.Parts x1) (some default))).bind fun v2 => ((cond (v1.Lane_ != p3) (ref03_leads p1 v2.Lane_ p3) (some default))).bind fun v3 => cond ((v1.Lane_ != p3) && v3) (some (.out (.inr false))) (some (.go (w64 (x1 + 1))))) (some (.out (.inl ())))
noncomputable def ref03_entry (p1 : Map) (p2 : Zone) (p3 : Int) : Option Bool :=
  thenS (loop (ref03_entry_l1 p1 p2 p3) 0) (fun _ => some true) (fun r => some r)

theorem ref03_entry_ok (p1 : Map) (p2 : Zone) (p3 : Int) (r : Bool) (h : ref03_entry p1 p2 p3 = some r) : PCall Tryz.prog 191 [(.agg (eMap p1)), (.agg [(.list (List.map ePart p2.Parts)), (i64 p2.Signal_)]), (i64 p3)] (bo r) := by
 refine l_call (fk Tryz.func191 Tryz.ntmps191 m0 (by with_unfolding_all rfl)) (nl rfl) ?_
 unfold ref03_entry at h
 refine l_sub (s0 := ⟨T [(0, (.d _)), (1, (.d _)), (2, (.d _))], G []⟩) (sbr rfl rfl) ?_
 refine lr (fun u1 hu1 => sn rfl rfl (sn rfl rfl (sv rfl (s_nil (l_seq (lr (fun u2 hu2 => sv rfl (s_nil (js h fun z1 hz1 h => l_join (fun s => ∃ (y1 : Unit) (g1 : Unit), z1 = .inl y1 ∧ Sb ⟨T [], G []⟩ s) ?_ ?_)))))))))
 refine l_block (l_loop (ref03_entry_l1 p1 p2 p3) (fun (x1 : Int) (g2 : Unit) => ⟨T [(2, (di p3)), (3, (.ptr (3, u1) 0)), (4, (.ptr (4, u1) 0)), (7, (di x1))], G [((3, u1), some (.box 27 (dMap p1))), ((4, u1), some (.box 45 [(dl ePart p2.Parts), (di p2.Signal_)]))]⟩) 0 () _ hz1 (sbr rfl rfl) ?_)
 intro x1 g2 z2 hz2 ez2
 unfold ref03_entry_l1 at hz2
 refine l_seq (lr (fun u3 hu3 => sv rfl (sp rfl rfl (sl rfl (gq rfl) rfl (sd rfl (v_len rfl) (sv rfl (s_nil (cc rfl hz2 (fun c1 hz2 => ?_) (fun c1 hz2 => ?_)))))))))
 refine l_skip (l_seq (l_block (l_seq (l_draw rfl fun u4 hu4 => sp rfl rfl (sl rfl (gq rfl) rfl (sv rfl (bs hz2 fun v1 hv1 hz2 => sd rfl (v_idx rfl rfl hv1 rfl) (sv rfl (sd rfl (v_loadL rfl hv1 rfl) (sv rfl (sv rfl (sv rfl (gt rfl (fun w1 => (v_loadG rfl G_hit rfl rfl)) (gp rfl (gw_t rfl) (fun _ => rfl) (gt rfl (vl rfl (gq rfl) rfl) (gt rfl (fun _ => rfl) (bs hz2 fun v2 hv2 hz2 => gt rfl (fun w5 => (v_idx (gd_pos w5) (gd_pos w5) (cond_t w5 hv2) rfl)) ?_)))))))))))))))))
 refine gt rfl (fun w6 => (by simp only [gd_pos w6]; rfl)) ?_
 refine gt rfl (fun w7 => (v_loadL (gd_pos w7) (cond_t w7 hv2) rfl)) (gt rfl (fun _ => rfl) (bs hz2 fun v3 hv3 hz2 => ?_))
 refine g_call _ (bo v3) (gw_t rfl) (fun w9 => ⟨_, [(.d (.agg (eMap p1))), (di v2.Lane_), (di p3)], _, _, (by simp only [gd_pos w9]; rfl), rfl, all2_refl, ref03_leads_ok _ _ _  _ (cond_t w9 hv3), (.inl rfl)⟩) ?_
 refine sa rfl rfl rfl (s_nil (cc rfl hz2 (fun c2 hz2 => ?_) (fun c2 hz2 => ?_)))
 refine l_seq (l_sub (s0 := ⟨T [], G []⟩) (sbr rfl rfl) ?_)
 refine l_reg fun u5 hu5 => sv rfl (s_nil (l_ret ?_))
 cases hz2
 obtain rfl := ez2 _ rfl
 refine ⟨nofun, awl_ret ?_⟩
 rw [Sum.elim_inr] at h
 cases h
 exact fin_ok (.inr rfl) (resD1 (res_t rfl) rf_d) (.refl _)
 refine l_skip (l_end (l_sub (s0 := ⟨T [(2, (.d _)), (3, (.ptr _ _)), (4, (.ptr _ _)), (7, (.d _))], G [((3, u1), some (.box 27 _)), ((4, u1), some (.box 45 _))]⟩) (sbr rfl rfl) ?_))
 refine l_reg fun u6 hu6 => sv rfl (sv rfl (sv rfl (s_nil (l_nil ?_))))
 cases hz2
 exact ⟨rfl, (), (sbr rfl rfl)⟩
 refine l_exitN rfl ?_
 cases hz2
 obtain rfl := ez2 _ rfl
 refine ⟨nofun, awl_pop rfl (l_j ?_)⟩
 exact ⟨_, (), rfl, (sbr rfl rfl)⟩
 rintro _ ⟨y1, g1, rfl, q1⟩
 rw [Sum.elim_inl] at h
 refine l_sub q1 (lr (fun u7 hu7 => sv rfl (s_nil (l_ret ?_))))
 cases h
 exact fin_ok (.inr rfl) (resD1 (res_t rfl) rf_d) (.refl _)

noncomputable def ref03_apart_l1 (p1 : Map) (p2 : Zone) (v1 : (List Int)) (x1 : Int) : Option (Stp Int (Sum Unit Bool)) :=
  cond (decide (x1 < (v1.length : Int))) ((geti v1 x1).bind fun v2 => (ref03_entry p1 p2 v2).bind fun v3 => cond (!v3) (some (.out (.inr false))) (some (.go (w64 (x1 + 1))))) (some (.out (.inl ())))
noncomputable def ref03_apart (p1 : Map) (p2 : Zone) (p3 : Int) : Option Bool :=
  (ref03_before p1 p3).bind fun v1 => thenS (loop (ref03_apart_l1 p1 p2 v1) 0) (fun _ => some true) (fun r => some r)

theorem ref03_apart_ok (p1 : Map) (p2 : Zone) (p3 : Int) (r : Bool) (h : ref03_apart p1 p2 p3 = some r) : PCall Tryz.prog 190 [(.agg (eMap p1)), (.agg [(.list (List.map ePart p2.Parts)), (i64 p2.Signal_)]), (i64 p3)] (bo r) := by
 refine l_call (fk Tryz.func190 Tryz.ntmps190 m0 (by with_unfolding_all rfl)) (nl rfl) ?_
 unfold ref03_apart at h
 refine l_sub (s0 := ⟨T [(0, (.d _)), (1, (.d _)), (2, (.d _))], G []⟩) (sbr rfl rfl) ?_
 refine lr (fun u1 hu1 => sn rfl rfl (sn rfl rfl (sv rfl (s_nil (lr (fun u2 hu2 => sd rfl (v_loadG rfl (gq rfl) rfl rfl) (sv rfl (bs h fun v1 hv1 h => s_call rfl rfl all2_refl (ref03_before_ok _ _  _ hv1) (.inl rfl) (sv rfl (s_nil (l_seq (lr (fun u3 hu3 => sv rfl (s_nil (js h fun z1 hz1 h => l_join (fun s => ∃ (y1 : Unit) (g1 : Unit), z1 = .inl y1 ∧ Sb ⟨T [], G []⟩ s) ?_ ?_)))))))))))))))
 refine l_block (l_loop (ref03_apart_l1 p1 p2 v1) (fun (x1 : Int) (g2 : Unit) => ⟨T [(3, (.ptr (3, u1) 0)), (4, (.ptr (4, u1) 0)), (7, (dl eInt_i64 v1)), (8, (di x1))], G [((3, u1), some (.box 27 (dMap p1))), ((4, u1), some (.box 45 [(dl ePart p2.Parts), (di p2.Signal_)]))]⟩) 0 () _ hz1 (sbr rfl rfl) ?_)
 intro x1 g2 z2 hz2 ez2
 unfold ref03_apart_l1 at hz2
 refine l_seq (lr (fun u4 hu4 => sv rfl (sv rfl (sd rfl (v_len rfl) (sv rfl (s_nil (cc rfl hz2 (fun c1 hz2 => ?_) (fun c1 hz2 => ?_))))))))
 refine l_skip (l_seq (l_block (l_seq (l_draw rfl fun u5 hu5 => sd rfl (v_loadG rfl G_hit rfl rfl) (sd rfl (v_loadG rfl (gq rfl) rfl rfl) (sv rfl (sv rfl (bs hz2 fun v2 hv2 hz2 => sd rfl (v_idx rfl rfl hv2 rfl) (sd rfl (v_loadL rfl hv2 rfl) (bs hz2 fun v3 hv3 hz2 => s_call rfl rfl all2_refl (ref03_entry_ok _ _ _  _ hv3) (.inl rfl) (s_val (.d (bo (!v3))) rfl rfl (s_nil (cc rfl hz2 (fun c2 hz2 => ?_) (fun c2 hz2 => ?_))))))))))))))
 refine lr (fun u6 hu6 => sv rfl (s_nil (l_ret ?_)))
 cases hz2
 obtain rfl := ez2 _ rfl
 refine ⟨nofun, awl_ret ?_⟩
 rw [Sum.elim_inr] at h
 cases h
 exact fin_ok (.inr rfl) (resD1 (res_t rfl) rf_d) (.refl _)
 refine l_skip (l_end (l_reg fun u7 hu7 => sv rfl (sv rfl (sv rfl (s_nil (l_nil ?_))))))
 cases hz2
 exact ⟨rfl, (), (sbr rfl rfl)⟩
 refine l_exitN rfl ?_
 cases hz2
 obtain rfl := ez2 _ rfl
 refine ⟨nofun, awl_pop rfl (l_j ?_)⟩
 exact ⟨_, (), rfl, (sbr rfl rfl)⟩
 rintro _ ⟨y1, g1, rfl, q1⟩
 rw [Sum.elim_inl] at h
 refine l_sub q1 (lr (fun u8 hu8 => sv rfl (s_nil (l_ret ?_))))
 cases h
 exact fin_ok (.inr rfl) (resD1 (res_t rfl) rf_d) (.refl _)

noncomputable def ref03_merges_l2 (p1 : Map) (x1 : ((List Clash) × Int)) (x2 : (Bool × Int)) : Option (Stp (Bool × Int) Bool) :=
  cond (decide (x2.2 < (p1.Zones.length : Int))) (((cond (!x2.1) (geti p1.Zones x2.2) (some default))).bind fun v2 => ((cond (!x2.1) (ref03_whole p1 v2 x1.2) (some default))).bind fun v3 => ((cond ((!x2.1) && v3) (geti p1.Zones x2.2) (some default))).bind fun v4 => ((cond ((!x2.1) && v3) (ref03_apart p1 v4 x1.2) (some default))).bind fun v5 => some (.go ((x2.1 || (v3 && v5)), (w64 (x2.2 + 1))))) (some (.out x2.1))
noncomputable def ref03_merges_l1 (p1 : Map) (x1 : ((List Clash) × Int)) : Option (Stp ((List Clash) × Int) (List Clash)) :=
  cond (decide (x1.2 < (p1.Lanes.length : Int))) ((ref03_before p1 x1.2).bind fun v1 => (loop (ref03_merges_l2 p1 x1) ((decide ((v1.length : Int) < 2)), 0)).bind fun y2 => cond (!y2) ((appc x1.1 [(Clash.mk 1 (-1) x1.2 (-1))]).bind fun v6 => some (.go (v6, (w64 (x1.2 + 1))))) (some (.go (x1.1, (w64 (x1.2 + 1)))))) (some (.out x1.1))
noncomputable def ref03_merges (p1 : Map) : Option (List Clash) :=
  (loop (ref03_merges_l1 p1) ([], 0)).bind fun y1 => some y1

theorem ref03_merges_ok (p1 : Map) (r : (List Clash)) (h : ref03_merges p1 = some r) : PCall Tryz.prog 81 [(.agg (eMap p1))] (.list (List.map eClash r)) := by
 refine l_call (fk Tryz.func81 Tryz.ntmps81 (fun r => if r == 11 then [1003] else []) (by with_unfolding_all rfl)) (nl rfl) ?_
 unfold ref03_merges at h
 refine l_sub (s0 := ⟨T [(0, (.d _))], G []⟩) (sbr rfl rfl) ?_
 refine lr (fun u1 hu1 => sn rfl rfl (sv rfl (s_nil (lr (fun u2 hu2 => sv rfl (s_nil (l_seq (lr (fun u3 hu3 => sv rfl (s_nil (bs h fun y1 hy1 h => l_join (fun s => ∃ g1 : Nat, Sb ⟨T [(3, (oS y1 (53, g1)))], G [((53, g1), oB 93 4 eClash y1)]⟩ s) ?_ ?_)))))))))))
 refine l_block (l_loop (ref03_merges_l1 p1) (fun (x1 : ((List Clash) × Int)) (g2 : Nat) => ⟨T [(1, (.ptr (1, u1) 0)), (3, (oS x1.1 (53, g2))), (4, (di x1.2))], G [((1, u1), some (.box 27 (dMap p1))), ((53, g2), oB 93 4 eClash x1.1)]⟩) ([], 0) 0 _ hy1 (sb_of ⟨.of rfl, .of rfl, .of rfl, trivial⟩ (sbG_some G_hit (.of rfl) (sbG_nil trivial))) ?_)
 intro x1 g2 z1 hz1 ez1
 unfold ref03_merges_l1 at hz1
 refine l_seq (lr (fun u4 hu4 => sv rfl (sp rfl rfl (sl rfl G_hit rfl (sd rfl (v_len rfl) (sv rfl (s_nil (cc rfl hz1 (fun c1 hz1 => ?_) (fun c1 hz1 => ?_)))))))))
 refine l_skip (l_seq (l_block (lr (fun u5 hu5 => sd rfl (v_loadG rfl G_hit rfl rfl) (sv rfl (bs hz1 fun v1 hv1 hz1 => s_call rfl rfl all2_refl (ref03_before_ok _ _  _ hv1) (.inl rfl) (sd rfl (v_len rfl) (sv rfl (sv rfl (s_nil (l_seq (lr (fun u6 hu6 => sv rfl (s_nil (bs hz1 fun y2 hy2 hz1 => l_join (fun s => ∃ g3 : Unit, Sb ⟨T [(1, (.ptr (1, u1) 0)), (3, (oS x1.1 (53, g2))), (4, (di x1.2)), (5, (.d (bo y2)))], G [((1, u1), some (.box 27 (dMap p1))), ((53, g2), oB 93 4 eClash x1.1)]⟩ s) ?_ ?_)))))))))))))))
 refine l_block (l_loop (ref03_merges_l2 p1 x1) (fun (x2 : (Bool × Int)) (g4 : Unit) => ⟨T [(1, (.ptr (1, u1) 0)), (3, (oS x1.1 (53, g2))), (4, (di x1.2)), (5, (.d (bo x2.1))), (6, (di x2.2))], G [((1, u1), some (.box 27 (dMap p1))), ((53, g2), oB 93 4 eClash x1.1)]⟩) ((decide ((v1.length : Int) < 2)), 0) () _ hy2 (sb_of ⟨.of rfl, .of rfl, .of rfl, .of rfl, .of rfl, trivial⟩ (sbG_some G_hit (.of rfl) (sbG_oB (gq rfl) trivial))) ?_)
 intro x2 g4 z2 hz2 ez2
 unfold ref03_merges_l2 at hz2
 refine l_seq (lr (fun u7 hu7 => sv rfl (sp rfl rfl (sl rfl G_hit rfl (sd rfl (v_len rfl) (sv rfl (s_nil (cc rfl hz2 (fun c2 hz2 => ?_) (fun c2 hz2 => ?_)))))))))
 refine l_skip (l_seq (l_block (l_draw rfl fun u8 hu8 => sv rfl (sv rfl (gf rfl (fun w1 => (v_loadG rfl G_hit rfl rfl)) (gp rfl (gw_f rfl) (fun _ => rfl) (gf rfl (vl rfl G_hit rfl) (gf rfl (fun _ => rfl) (bs hz2 fun v2 hv2 hz2 => gf rfl (fun w5 => (v_idx (gd_pos w5) (gd_pos w5) (cond_t w5 hv2) rfl)) (gf rfl (fun w6 => (v_loadLG (gd_pos w6) (cond_t w6 hv2) rfl rfl)) (gf rfl (fun _ => rfl) (bs hz2 fun v3 hv3 hz2 => ?_))))))))))))
 refine g_call _ (bo v3) (gw_f rfl) (fun w8 => ⟨_, [(.d (.agg (eMap p1))), (.d (.agg [(.list (List.map ePart v2.Parts)), (i64 v2.Signal_)])), (di x1.2)], _, _, (by simp only [gd_pos w8]; rfl), rfl, all2_refl, ref03_whole_ok _ _ _  _ (cond_t w8 hv3), (.inl rfl)⟩) ?_
 refine gf rfl (fun w9 => (v_mv (gd_pos w9))) (gv rfl (gw_gt rfl) (fun w10 => (v_loadG rfl G_hit rfl rfl)) (g_val _ (.ptr _ _) rfl (gw_gt rfl) (fun _ => rfl) (gv rfl (gw_gt rfl) (vl rfl G_hit rfl) (gv rfl (gw_gt rfl) (fun _ => rfl) (bs hz2 fun v4 hv4 hz2 => gv rfl (gw_gt rfl) (fun w14 => (v_idx (gd_pos w14) (gd_pos w14) (cond_t w14 hv4) rfl)) (gv rfl (gw_gt rfl) (fun w15 => (v_loadLG (gd_pos w15) (cond_t w15 hv4) rfl rfl)) (gv rfl (gw_gt rfl) (fun _ => rfl) (bs hz2 fun v5 hv5 hz2 => ?_))))))))
 refine g_call _ (bo v5) (gw_gt rfl) (fun w17 => ⟨_, [(.d (.agg (eMap p1))), (.d (.agg [(.list (List.map ePart v4.Parts)), (i64 v4.Signal_)])), (di x1.2)], _, _, (by simp only [gd_pos w17]; rfl), rfl, all2_refl, ref03_apart_ok _ _ _  _ (cond_t w17 hv5), (.inl rfl)⟩) ?_
 refine gf rfl (fun w18 => (v_and (gd_pos w18) (fun hc => gd_pos (and_i w18 hc)) rfl)) (sd rfl (v_or rfl rfl (fun hc => gd_pos (not_t hc))) (sv rfl (s_nil (l_end (l_sub (s0 := ⟨T [(1, (.ptr (1, u1) 0)), (3, (oS x1.1 (53, g2))), (4, (di x1.2)), (5, (.d (bo (x2.1 || (v3 && v5))))), (6, (di x2.2))], G [((1, u1), some (.box 27 (dMap p1))), ((53, g2), oB 93 4 eClash x1.1)]⟩) (sb_of ⟨.of rfl, .of rfl, .of rfl, .of rfl, .of rfl, trivial⟩ (sbG_some G_hit (.of rfl) (sbG_oB (gq rfl) trivial))) ?_)))))
 refine l_reg fun u9 hu9 => sv rfl (sv rfl (sv rfl (s_nil (l_nil ?_))))
 cases hz2
 exact ⟨rfl, (), (sb_of ⟨.of rfl, .of rfl, .of rfl, .of rfl, .of rfl, trivial⟩ (sbG_some G_hit (.of rfl) (sbG_oB (gq rfl) trivial)))⟩
 refine l_exitN rfl ?_
 cases hz2
 obtain rfl := ez2 _ rfl
 refine ⟨nofun, awl_pop rfl (l_j ?_)⟩
 exact ⟨(), (sb_of ⟨.of rfl, .of rfl, .of rfl, .of rfl, trivial⟩ (sbG_some G_hit (.of rfl) (sbG_oB (gq rfl) trivial)))⟩
 rintro _ ⟨g3, q1⟩
 refine l_sub q1 (lr (fun u10 hu10 => sv rfl (s_val (.d (bo (!y2))) rfl rfl (s_nil (cc rfl hz1 (fun c3 hz1 => ?_) (fun c3 hz1 => ?_))))))
 refine l_reg fun u11 hu11 => s_val (oS x1.1 (53, g2)) rfl rfl (sv rfl (sv rfl (s_val (dl eClash [(Clash.mk 1 (-1) x1.2 (-1))]) rfl rfl (bs hz1 fun v6 hv6 hz1 => s_appendO eClash (53, g2) x1.1 (Clash.mk 1 (-1) x1.2 (-1)) [] _ (elems_list (fun _ => rfl)) rfl (gq rfl) hv6 (ss rfl (s_nil (l_end (l_reg fun u12 hu12 => sv rfl (sv rfl (sv rfl (s_nil (l_nil ?_))))))))))))
 cases hz1
 exact ⟨rfl, u11, (sb_of ⟨.of rfl, (.of (oS_ne (appc_ne hv6)).symm), .of rfl, trivial⟩ (sg rfl (sbG_own G_hit trivial)))⟩
 refine l_skip (l_end (l_reg fun u13 hu13 => sv rfl (sv rfl (sv rfl (s_nil (l_nil ?_))))))
 cases hz1
 exact ⟨rfl, g2, (sb_of ⟨.of rfl, .of rfl, .of rfl, trivial⟩ (sbG_some G_hit (.of rfl) (sbG_oB (gq rfl) trivial)))⟩
 refine l_exitN rfl ?_
 cases hz1
 obtain rfl := ez1 _ rfl
 refine ⟨nofun, awl_pop rfl (l_j ?_)⟩
 exact ⟨g2, (sb_of ⟨.of rfl, trivial⟩ (sbG_oB (gq rfl) trivial))⟩
 rintro _ ⟨g1, q2⟩
 refine l_sub q2 (lr (fun u14 hu14 => s_val (oS y1 (53, g1)) rfl rfl (s_val (oS y1 (53, g1)) rfl rfl (s_nil (l_ret ?_)))))
 cases h
 exact fin_ok (.inr rfl) (resD1 (res_t rfl) (rf_oS G_hit)) oD_le

noncomputable def ref03_chains_l2 (p1 : Map) (x1 : ((List Clash) × Int)) (v1 : Zone) (x2 : ((List Clash) × Int)) : Option (Stp ((List Clash) × Int) (List Clash)) :=
  cond (decide (x2.2 < (v1.Parts.length : Int))) ((geti v1.Parts x2.2).bind fun v2 => (ref03_entry p1 v1 v2.Lane_).bind fun v3 => ((cond (!v3) (ref03_whole p1 v1 v2.Lane_) (some default))).bind fun v4 => cond ((!v3) && (!v4)) ((appc x2.1 [(Clash.mk 2 x1.2 v2.Lane_ (-1))]).bind fun v5 => some (.go (v5, (w64 (x2.2 + 1))))) (some (.go (x2.1, (w64 (x2.2 + 1)))))) (some (.out x2.1))
noncomputable def ref03_chains_l1 (p1 : Map) (x1 : ((List Clash) × Int)) : Option (Stp ((List Clash) × Int) (List Clash)) :=
  cond (decide (x1.2 < (p1.Zones.length : Int))) ((geti p1.Zones x1.2).bind fun v1 => (loop (ref03_chains_l2 p1 x1 v1) (x1.1, 0)).bind fun y2 => some (.go (y2, (w64 (x1.2 + 1))))) (some (.out x1.1))
noncomputable def ref03_chains (p1 : Map) : Option (List Clash) :=
  (loop (ref03_chains_l1 p1) ([], 0)).bind fun y1 => some y1

theorem ref03_chains_ok (p1 : Map) (r : (List Clash)) (h : ref03_chains p1 = some r) : PCall Tryz.prog 82 [(.agg (eMap p1))] (.list (List.map eClash r)) := by
 refine l_call (fk Tryz.func82 Tryz.ntmps82 (fun r => if r == 11 then [1004] else []) (by with_unfolding_all rfl)) (nl rfl) ?_
 unfold ref03_chains at h
 refine l_sub (s0 := ⟨T [(0, (.d _))], G []⟩) (sbr rfl rfl) ?_
 refine lr (fun u1 hu1 => sn rfl rfl (sv rfl (s_nil (lr (fun u2 hu2 => sv rfl (s_nil (l_seq (lr (fun u3 hu3 => sv rfl (s_nil (bs h fun y1 hy1 h => l_join (fun s => ∃ g1 : Nat, Sb ⟨T [(3, (oS y1 (50, g1)))], G [((50, g1), oB 93 4 eClash y1)]⟩ s) ?_ ?_)))))))))))
 refine l_block (l_loop (ref03_chains_l1 p1) (fun (x1 : ((List Clash) × Int)) (g2 : Nat) => ⟨T [(1, (.ptr (1, u1) 0)), (3, (oS x1.1 (50, g2))), (4, (di x1.2))], G [((1, u1), some (.box 27 (dMap p1))), ((50, g2), oB 93 4 eClash x1.1)]⟩) ([], 0) 0 _ hy1 (sb_of ⟨.of rfl, .of rfl, .of rfl, trivial⟩ (sbG_some G_hit (.of rfl) (sbG_nil trivial))) ?_)
 intro x1 g2 z1 hz1 ez1
 unfold ref03_chains_l1 at hz1
 refine l_seq (lr (fun u4 hu4 => sv rfl (sp rfl rfl (sl rfl G_hit rfl (sd rfl (v_len rfl) (sv rfl (s_nil (cc rfl hz1 (fun c1 hz1 => ?_) (fun c1 hz1 => ?_)))))))))
 refine l_skip (l_seq (l_block (lr (fun u5 hu5 => sp rfl rfl (sl rfl G_hit rfl (sv rfl (bs hz1 fun v1 hv1 hz1 => sd rfl (v_idx rfl rfl hv1 rfl) (sd rfl (v_loadLG rfl hv1 rfl rfl) (sn rfl rfl (sst rfl G_hit [(dl ePart v1.Parts), (di v1.Signal_)] rfl (s_nil (lr (fun u6 hu6 => sv rfl (s_nil (bs hz1 fun y2 hy2 hz1 => l_join (fun s => ∃ g3 : Nat, Sb ⟨T [(1, (.ptr (1, u1) 0)), (3, (oS y2 (50, g3))), (4, (di x1.2))], G [((1, u1), some (.box 27 (dMap p1))), ((50, g3), oB 93 4 eClash y2)]⟩ s) ?_ ?_)))))))))))))))
 refine l_block (l_loop (ref03_chains_l2 p1 x1 v1) (fun (x2 : ((List Clash) × Int)) (g4 : Nat) => ⟨T [(1, (.ptr (1, u1) 0)), (3, (oS x2.1 (50, g4))), (4, (di x1.2)), (5, (.ptr (5, u5) 0)), (6, (di x2.2))], G [((1, u1), some (.box 27 (dMap p1))), ((5, u5), some (.box 45 [(dl ePart v1.Parts), (di v1.Signal_)])), ((50, g4), oB 93 4 eClash x2.1)]⟩) (x1.1, 0) g2 _ hy2 (sb_of ⟨.of rfl, .of rfl, .of rfl, .of rfl, .of rfl, trivial⟩ (sg rfl (sbG_some G_hit (.of rfl) (sbG_oB (gq rfl) trivial)))) ?_)
 intro x2 g4 z2 hz2 ez2
 unfold ref03_chains_l2 at hz2
 refine l_seq (lr (fun u7 hu7 => sv rfl (sp rfl rfl (sl rfl (gq rfl) rfl (sd rfl (v_len rfl) (sv rfl (s_nil (cc rfl hz2 (fun c2 hz2 => ?_) (fun c2 hz2 => ?_)))))))))
 refine l_skip (l_seq (l_block (lr (fun u8 hu8 => sp rfl rfl (sl rfl (gq rfl) rfl (sv rfl (bs hz2 fun v2 hv2 hz2 => sd rfl (v_idx rfl rfl hv2 rfl) (sv rfl (sd rfl (v_loadL rfl hv2 rfl) (sv rfl (s_nil (lr (fun u9 hu9 => sd rfl (v_loadG rfl G_hit rfl rfl) (sd rfl (v_loadG rfl (gq rfl) rfl rfl) (sv rfl (bs hz2 fun v3 hv3 hz2 => s_call rfl rfl all2_refl (ref03_entry_ok _ _ _  _ hv3) (.inl rfl) (s_val (.d (bo (!v3))) rfl rfl (sv rfl (gt rfl (fun w1 => (v_loadG rfl G_hit rfl rfl)) (gt rfl (fun w2 => (v_loadG rfl (gq rfl) rfl rfl)) (gt rfl (fun _ => rfl) (bs hz2 fun v4 hv4 hz2 => ?_))))))))))))))))))))))
 refine g_call _ (bo v4) (gw_t rfl) (fun w4 => ⟨_, [(.d (.agg (eMap p1))), (.d (.agg [(.list (List.map ePart v1.Parts)), (i64 v1.Signal_)])), (di v2.Lane_)], _, _, (by simp only [gd_pos w4]; rfl), rfl, all2_refl, ref03_whole_ok _ _ _  _ (cond_t w4 hv4), (.inl rfl)⟩) ?_
 refine g_val _ (.d (bo (!v4))) rfl (gw_t rfl) (fun w5 => (by simp only [gd_pos w5]; rfl)) ?_
 refine sa rfl rfl rfl (s_nil (cc rfl hz2 (fun c3 hz2 => ?_) (fun c3 hz2 => ?_)))
 refine l_sub (s0 := ⟨T [(1, (.ptr (1, u1) 0)), (3, (oS x2.1 (50, g4))), (4, (di x1.2)), (5, (.ptr (5, u5) 0)), (6, (di x2.2)), (7, (di v2.Lane_))], G [((1, u1), some (.box 27 (dMap p1))), ((50, g4), oB 93 4 eClash x2.1), ((5, u5), some (.box 45 [(dl ePart v1.Parts), (di v1.Signal_)]))]⟩) (sb_of ⟨.of rfl, .of rfl, .of rfl, .of rfl, .of rfl, .of rfl, trivial⟩ (sbG_some G_hit (.of rfl) (sbG_oB (gq rfl) (sg rfl trivial)))) ?_
 refine l_reg fun u10 hu10 => s_val (oS x2.1 (50, g4)) rfl rfl (sv rfl (sv rfl (sv rfl (s_val (dl eClash [(Clash.mk 2 x1.2 v2.Lane_ (-1))]) rfl rfl (bs hz2 fun v5 hv5 hz2 => s_appendO eClash (50, g4) x2.1 (Clash.mk 2 x1.2 v2.Lane_ (-1)) [] _ (elems_list (fun _ => rfl)) rfl (gq rfl) hv5 (ss rfl (s_nil (l_end (l_reg fun u11 hu11 => sv rfl (sv rfl (sv rfl (s_nil (l_nil ?_)))))))))))))
 cases hz2
 exact ⟨rfl, u10, (sb_of ⟨.of rfl, (.of (oS_ne (appc_ne hv5)).symm), .of rfl, .of rfl, .of rfl, trivial⟩ (sg rfl (sg rfl (sbG_own G_hit trivial))))⟩
 refine l_skip (l_end (l_sub (s0 := ⟨T [(1, (.ptr (1, u1) 0)), (3, (oS x2.1 (50, g4))), (4, (di x1.2)), (5, (.ptr (5, u5) 0)), (6, (di x2.2))], G [((1, u1), some (.box 27 (dMap p1))), ((50, g4), oB 93 4 eClash x2.1), ((5, u5), some (.box 45 [(dl ePart v1.Parts), (di v1.Signal_)]))]⟩) (sb_of ⟨.of rfl, .of rfl, .of rfl, .of rfl, .of rfl, trivial⟩ (sbG_some G_hit (.of rfl) (sbG_oB (gq rfl) (sg rfl trivial)))) ?_))
 refine l_reg fun u12 hu12 => sv rfl (sv rfl (sv rfl (s_nil (l_nil ?_))))
 cases hz2
 exact ⟨rfl, g4, (sb_of ⟨.of rfl, .of rfl, .of rfl, .of rfl, .of rfl, trivial⟩ (sbG_some G_hit (.of rfl) (sg rfl (sbG_oB (gq rfl) trivial))))⟩
 refine l_exitN rfl ?_
 cases hz2
 obtain rfl := ez2 _ rfl
 refine ⟨nofun, awl_pop rfl (l_j ?_)⟩
 exact ⟨g4, (sb_of ⟨.of rfl, .of rfl, .of rfl, trivial⟩ (sbG_some G_hit (.of rfl) (sbG_oB (gq rfl) trivial)))⟩
 rintro _ ⟨g3, q1⟩
 refine l_end (l_sub q1 (l_reg fun u13 hu13 => sv rfl (sv rfl (sv rfl (s_nil (l_nil ?_))))))
 cases hz1
 exact ⟨rfl, g3, (sb_of ⟨.of rfl, .of rfl, .of rfl, trivial⟩ (sbG_some G_hit (.of rfl) (sbG_oB (gq rfl) trivial)))⟩
 refine l_exitN rfl ?_
 cases hz1
 obtain rfl := ez1 _ rfl
 refine ⟨nofun, awl_pop rfl (l_j ?_)⟩
 exact ⟨g2, (sb_of ⟨.of rfl, trivial⟩ (sbG_oB (gq rfl) trivial))⟩
 rintro _ ⟨g1, q2⟩
 refine l_sub q2 (lr (fun u14 hu14 => s_val (oS y1 (50, g1)) rfl rfl (s_val (oS y1 (50, g1)) rfl rfl (s_nil (l_ret ?_)))))
 cases h
 exact fin_ok (.inr rfl) (resD1 (res_t rfl) (rf_oS G_hit)) oD_le

noncomputable def ref03_entries_l1 (p1 : Map) (p2 : Zone) (x1 : ((List Int) × Int)) : Option (Stp ((List Int) × Int) (List Int)) :=
  cond (decide (x1.2 < (p2.Parts.length : Int))) ((geti p2.Parts x1.2).bind fun v1 => (ref03_entry p1 p2 v1.Lane_).bind fun v2 => cond v2 ((geti p2.Parts x1.2).bind fun v3 => (appc x1.1 [v3.Lane_]).bind fun v4 => some (.go (v4, (w64 (x1.2 + 1))))) (some (.go (x1.1, (w64 (x1.2 + 1)))))) (some (.out x1.1))
noncomputable def ref03_entries (p1 : Map) (p2 : Zone) : Option (List Int) :=
  (loop (ref03_entries_l1 p1 p2) ([], 0)).bind fun y1 => some y1

theorem ref03_entries_ok (p1 : Map) (p2 : Zone) (r : (List Int)) (h : ref03_entries p1 p2 = some r) : PCall Tryz.prog 192 [(.agg (eMap p1)), (.agg [(.list (List.map ePart p2.Parts)), (i64 p2.Signal_)])] (.list (List.map eInt_i64 r)) := by
 refine l_call (fk Tryz.func192 Tryz.ntmps192 (fun r => if r == 6 then [1007] else []) (by with_unfolding_all rfl)) (nl rfl) ?_
 unfold ref03_entries at h
 refine l_sub (s0 := ⟨T [(0, (.d _)), (1, (.d _))], G []⟩) (sbr rfl rfl) ?_
 refine lr (fun u1 hu1 => sn rfl rfl (sn rfl rfl (sv rfl (s_nil (lr (fun u2 hu2 => sv rfl (s_nil (l_seq (lr (fun u3 hu3 => sv rfl (s_nil (bs h fun y1 hy1 h => l_join (fun s => ∃ g1 : Nat, Sb ⟨T [(5, (oS y1 (31, g1)))], G [((31, g1), oB 3 1 eInt_i64 y1)]⟩ s) ?_ ?_))))))))))))
 refine l_block (l_loop (ref03_entries_l1 p1 p2) (fun (x1 : ((List Int) × Int)) (g2 : Nat) => ⟨T [(2, (.ptr (2, u1) 0)), (3, (.ptr (3, u1) 0)), (5, (oS x1.1 (31, g2))), (6, (di x1.2))], G [((2, u1), some (.box 27 (dMap p1))), ((3, u1), some (.box 45 [(dl ePart p2.Parts), (di p2.Signal_)])), ((31, g2), oB 3 1 eInt_i64 x1.1)]⟩) ([], 0) 0 _ hy1 (sb_of ⟨.of rfl, .of rfl, .of rfl, .of rfl, trivial⟩ (sg rfl (sbG_some G_hit (.of rfl) (sbG_nil trivial)))) ?_)
 intro x1 g2 z1 hz1 ez1
 unfold ref03_entries_l1 at hz1
 refine l_seq (lr (fun u4 hu4 => sv rfl (sp rfl rfl (sl rfl (gq rfl) rfl (sd rfl (v_len rfl) (sv rfl (s_nil (cc rfl hz1 (fun c1 hz1 => ?_) (fun c1 hz1 => ?_)))))))))
 refine l_skip (l_seq (l_block (l_seq (l_draw rfl fun u5 hu5 => sd rfl (v_loadG rfl G_hit rfl rfl) (sd rfl (v_loadG rfl (gq rfl) rfl rfl) (sp rfl rfl (sl rfl (gq rfl) rfl (sv rfl (bs hz1 fun v1 hv1 hz1 => sd rfl (v_idx rfl rfl hv1 rfl) (sv rfl (sd rfl (v_loadL rfl hv1 rfl) (bs hz1 fun v2 hv2 hz1 => s_call rfl rfl all2_refl (ref03_entry_ok _ _ _  _ hv2) (.inl rfl) (s_nil (cc rfl hz1 (fun c2 hz1 => ?_) (fun c2 hz1 => ?_)))))))))))))))
 refine l_reg fun u6 hu6 => s_val (oS x1.1 (31, g2)) rfl rfl (sp rfl rfl (sl rfl (gq rfl) rfl (sv rfl (bs hz1 fun v3 hv3 hz1 => sd rfl (v_idx rfl rfl hv3 rfl) (sv rfl (sd rfl (v_loadL rfl hv3 rfl) (s_val (dl eInt_i64 [v3.Lane_]) rfl rfl (bs hz1 fun v4 hv4 hz1 => s_appendO eInt_i64 (31, g2) x1.1 v3.Lane_ [] _ (elems_list (fun _ => rfl)) rfl (gq rfl) hv4 (ss rfl (s_nil (l_end (l_sub (s0 := ⟨T [(2, (.ptr _ _)), (3, (.ptr _ _)), (5, (.sl _)), (6, (.d _))], G [((2, u1), some (.box 27 _)), ((3, u1), some (.box 45 _)), ((31, u6), some _)]⟩) (sbr rfl rfl) ?_))))))))))))
 refine l_reg fun u7 hu7 => sv rfl (sv rfl (sv rfl (s_nil (l_nil ?_))))
 cases hz1
 exact ⟨rfl, u6, (sb_of ⟨.of rfl, .of rfl, (.of (oS_ne (appc_ne hv4)).symm), .of rfl, trivial⟩ (sbG_some G_hit (.of rfl) (sg rfl (sbG_own (gq rfl) trivial))))⟩
 refine l_skip (l_end (l_reg fun u8 hu8 => sv rfl (sv rfl (sv rfl (s_nil (l_nil ?_))))))
 cases hz1
 exact ⟨rfl, g2, (sb_of ⟨.of rfl, .of rfl, .of rfl, .of rfl, trivial⟩ (sbG_some G_hit (.of rfl) (sg rfl (sbG_oB (gq rfl) trivial))))⟩
 refine l_exitN rfl ?_
 cases hz1
 obtain rfl := ez1 _ rfl
 refine ⟨nofun, awl_pop rfl (l_j ?_)⟩
 exact ⟨g2, (sb_of ⟨.of rfl, trivial⟩ (sbG_oB (gq rfl) trivial))⟩
 rintro _ ⟨g1, q1⟩
 refine l_sub q1 (lr (fun u9 hu9 => s_val (oS y1 (31, g1)) rfl rfl (s_val (oS y1 (31, g1)) rfl rfl (s_nil (l_ret ?_)))))
 cases h
 exact fin_ok (.inr rfl) (resD1 (res_t rfl) (rf_oS G_hit)) oD_le

noncomputable def ref03_both_l1 (p1 : Signal) (p2 : Int) (p3 : Int) (x1 : Int) : Option (Stp Int (Sum Unit Bool)) :=
  cond (decide (x1 < (p1.Phases.length : Int))) ((geti p1.Phases x1).bind fun v1 => (ref03_has v1.Green p2).bind fun v2 => ((cond v2 (geti p1.Phases x1) (some default))).bind fun v3 => ((cond v2 (ref03_has v3.Green p3) (some default))).bind fun v4 => cond (v2 && v4) (some (.out (.inr true))) (some (.go (w64 (x1 + 1))))) (some (.out (.inl ())))
noncomputable def ref03_both (p1 : Signal) (p2 : Int) (p3 : Int) : Option Bool :=
  thenS (loop (ref03_both_l1 p1 p2 p3) 0) (fun _ => some false) (fun r => some r)

theorem ref03_both_ok (p1 : Signal) (p2 : Int) (p3 : Int) (r : Bool) (h : ref03_both p1 p2 p3 = some r) : PCall Tryz.prog 193 [(.agg [(i64 p1.Offset), (.list (List.map ePhase p1.Phases))]), (i64 p2), (i64 p3)] (bo r) := by
 refine l_call (fk Tryz.func193 Tryz.ntmps193 m0 (by with_unfolding_all rfl)) (nl rfl) ?_
 unfold ref03_both at h
 refine l_sub (s0 := ⟨T [(0, (.d _)), (1, (.d _)), (2, (.d _))], G []⟩) (sbr rfl rfl) ?_
 refine lr (fun u1 hu1 => sn rfl rfl (sv rfl (s_nil (l_seq (lr (fun u2 hu2 => sv rfl (s_nil (js h fun z1 hz1 h => l_join (fun s => ∃ (y1 : Unit) (g1 : Unit), z1 = .inl y1 ∧ Sb ⟨T [], G []⟩ s) ?_ ?_))))))))
 refine l_block (l_loop (ref03_both_l1 p1 p2 p3) (fun (x1 : Int) (g2 : Unit) => ⟨T [(1, (di p2)), (2, (di p3)), (3, (.ptr (3, u1) 0)), (7, (di x1))], G [((3, u1), some (.box 48 [(di p1.Offset), (dl ePhase p1.Phases)]))]⟩) 0 () _ hz1 (sbr rfl rfl) ?_)
 intro x1 g2 z2 hz2 ez2
 unfold ref03_both_l1 at hz2
 refine l_seq (lr (fun u3 hu3 => sv rfl (sp rfl rfl (sl rfl G_hit rfl (sd rfl (v_len rfl) (sv rfl (s_nil (cc rfl hz2 (fun c1 hz2 => ?_) (fun c1 hz2 => ?_)))))))))
 refine l_skip (l_seq (l_block (lr (fun u4 hu4 => sp rfl rfl (sl rfl G_hit rfl (sv rfl (bs hz2 fun v1 hv1 hz2 => sd rfl (v_idx rfl rfl hv1 rfl) (sv rfl (sd rfl (v_loadL rfl hv1 rfl) (sv rfl (bs hz2 fun v2 hv2 hz2 => s_call rfl rfl all2_refl (ref03_has_ok _ _  _ hv2) (.inl rfl) (sv rfl (gp rfl (gw_t rfl) (fun _ => rfl) (gt rfl (vl rfl G_hit rfl) (gt rfl (fun _ => rfl) (bs hz2 fun v3 hv3 hz2 => gt rfl (fun w4 => (v_idx (gd_pos w4) (gd_pos w4) (cond_t w4 hv3) rfl)) ?_))))))))))))))))
 refine gt rfl (fun w5 => (by simp only [gd_pos w5]; rfl)) ?_
 refine gt rfl (fun w6 => (v_loadL (gd_pos w6) (cond_t w6 hv3) rfl)) (gt rfl (fun _ => rfl) (bs hz2 fun v4 hv4 hz2 => ?_))
 refine g_call v2 (bo v4) (gw_t rfl) (fun w8 => ⟨_, [(dl eInt_i64 v3.Green), (di p3)], _, _, (by simp only [gd_pos w8]; rfl), rfl, all2_refl, ref03_has_ok _ _  _ (cond_t w8 hv4), (.inl rfl)⟩) ?_
 refine sa rfl rfl rfl (s_nil (cc rfl hz2 (fun c2 hz2 => ?_) (fun c2 hz2 => ?_)))
 refine l_seq (l_sub (s0 := ⟨T [], G []⟩) (sbr rfl rfl) ?_)
 refine l_reg fun u5 hu5 => sv rfl (s_nil (l_ret ?_))
 cases hz2
 obtain rfl := ez2 _ rfl
 refine ⟨nofun, awl_ret ?_⟩
 rw [Sum.elim_inr] at h
 cases h
 exact fin_ok (.inr rfl) (resD1 (res_t rfl) rf_d) (.refl _)
 refine l_skip (l_end (l_sub (s0 := ⟨T [(1, (.d _)), (2, (.d _)), (3, (.ptr _ _)), (7, (.d _))], G [((3, u1), some (.box 48 _))]⟩) (sbr rfl rfl) ?_))
 refine l_reg fun u6 hu6 => sv rfl (sv rfl (sv rfl (s_nil (l_nil ?_))))
 cases hz2
 exact ⟨rfl, (), (sbr rfl rfl)⟩
 refine l_exitN rfl ?_
 cases hz2
 obtain rfl := ez2 _ rfl
 refine ⟨nofun, awl_pop rfl (l_j ?_)⟩
 exact ⟨_, (), rfl, (sbr rfl rfl)⟩
 rintro _ ⟨y1, g1, rfl, q1⟩
 rw [Sum.elim_inl] at h
 refine l_sub q1 (lr (fun u7 hu7 => sv rfl (s_nil (l_ret ?_))))
 cases h
 exact fin_ok (.inr rfl) (resD1 (res_t rfl) rf_d) (.refl _)

noncomputable def ref03_pairs_l3 (p1 : Map) (p2 : Int) (x1 : ((List Clash) × Int)) (v1 : Zone) (v2 : (List Int)) (x2 : ((List Clash) × Int)) (x3 : ((List Clash) × Int)) : Option (Stp ((List Clash) × Int) (List Clash)) :=
  cond (decide (x3.2 < (v2.length : Int))) (((geti v2 x2.2).bind fun v3 => (ref03_part v1 v3).bind fun v4 => (geti v2 x3.2).bind fun v5 => (ref03_part v1 v5).bind fun v6 => (cond (p2 == 4) (((cond (decide (v1.Signal_ > 0)) (geti p1.Signals (w64 (v1.Signal_ - 1))) (some default))).bind fun v7 => ((cond (decide (v1.Signal_ > 0)) (geti v2 x2.2) (some default))).bind fun v8 => ((cond (decide (v1.Signal_ > 0)) (geti v2 x3.2) (some default))).bind fun v9 => ((cond (decide (v1.Signal_ > 0)) (ref03_both v7 v8 v9) (some default))).bind fun v10 => some ((decide (v1.Signal_ > 0)) && v10)) (some ((v1.Signal_ == 0) && (v4.1.Rank == v6.1.Rank)))).bind fun y5 => cond y5 ((geti v2 x2.2).bind fun v11 => (geti v2 x3.2).bind fun v12 => (appc x3.1 [(Clash.mk p2 x1.2 v11 v12)]).bind fun v13 => some v13) (some x3.1)).bind fun y4 => some (.go (y4, (w64 (x3.2 + 1))))) (some (.out x3.1))
noncomputable def ref03_pairs_l2 (p1 : Map) (p2 : Int) (x1 : ((List Clash) × Int)) (v1 : Zone) (v2 : (List Int)) (x2 : ((List Clash) × Int)) : Option (Stp ((List Clash) × Int) (List Clash)) :=
  cond (decide (x2.2 < (v2.length : Int))) ((loop (ref03_pairs_l3 p1 p2 x1 v1 v2 x2) (x2.1, (w64 (x2.2 + 1)))).bind fun y3 => some (.go (y3, (w64 (x2.2 + 1))))) (some (.out x2.1))
noncomputable def ref03_pairs_l1 (p1 : Map) (p2 : Int) (x1 : ((List Clash) × Int)) : Option (Stp ((List Clash) × Int) (List Clash)) :=
  cond (decide (x1.2 < (p1.Zones.length : Int))) ((geti p1.Zones x1.2).bind fun v1 => (ref03_entries p1 v1).bind fun v2 => (loop (ref03_pairs_l2 p1 p2 x1 v1 v2) (x1.1, 0)).bind fun y2 => some (.go (y2, (w64 (x1.2 + 1))))) (some (.out x1.1))
noncomputable def ref03_pairs (p1 : Map) (p2 : Int) : Option (List Clash) :=
  (loop (ref03_pairs_l1 p1 p2) ([], 0)).bind fun y1 => some y1

theorem ref03_pairs_ok (p1 : Map) (p2 : Int) (r : (List Clash)) (h : ref03_pairs p1 p2 = some r) : PCall Tryz.prog 83 [(.agg (eMap p1)), (i64 p2)] (.list (List.map eClash r)) := by
 refine l_call (fk Tryz.func83 Tryz.ntmps83 (fun r => if r == 19 then [1012] else []) (by with_unfolding_all rfl)) (nl rfl) ?_
 unfold ref03_pairs at h
 refine l_sub (s0 := ⟨T [(0, (.d _)), (1, (.d _))], G []⟩) (sbr rfl rfl) ?_
 refine lr (fun u1 hu1 => sn rfl rfl (sv rfl (s_nil (lr (fun u2 hu2 => sv rfl (s_nil (l_seq (lr (fun u3 hu3 => sv rfl (s_nil (bs h fun y1 hy1 h => l_join (fun s => ∃ g1 : Nat, Sb ⟨T [(5, (oS y1 (110, g1)))], G [((110, g1), oB 93 4 eClash y1)]⟩ s) ?_ ?_)))))))))))
 refine l_block (l_loop (ref03_pairs_l1 p1 p2) (fun (x1 : ((List Clash) × Int)) (g2 : Nat) => ⟨T [(1, (di p2)), (2, (.ptr (2, u1) 0)), (5, (oS x1.1 (110, g2))), (6, (di x1.2))], G [((2, u1), some (.box 27 (dMap p1))), ((110, g2), oB 93 4 eClash x1.1)]⟩) ([], 0) 0 _ hy1 (sb_of ⟨.of rfl, .of rfl, .of rfl, .of rfl, trivial⟩ (sbG_some G_hit (.of rfl) (sbG_nil trivial))) ?_)
 intro x1 g2 z1 hz1 ez1
 unfold ref03_pairs_l1 at hz1
 refine l_seq (lr (fun u4 hu4 => sv rfl (sp rfl rfl (sl rfl G_hit rfl (sd rfl (v_len rfl) (sv rfl (s_nil (cc rfl hz1 (fun c1 hz1 => ?_) (fun c1 hz1 => ?_)))))))))
 refine l_skip (l_seq (l_block (lr (fun u5 hu5 => sp rfl rfl (sl rfl G_hit rfl (sv rfl (bs hz1 fun v1 hv1 hz1 => sd rfl (v_idx rfl rfl hv1 rfl) (sd rfl (v_loadLG rfl hv1 rfl rfl) (sn rfl rfl (sst rfl G_hit [(dl ePart v1.Parts), (di v1.Signal_)] rfl (s_nil (lr (fun u6 hu6 => sd rfl (v_loadG rfl (gq rfl) rfl rfl) (sd rfl (v_loadG rfl G_hit rfl rfl) (bs hz1 fun v2 hv2 hz1 => s_call rfl rfl all2_refl (ref03_entries_ok _ _  _ hv2) (.inl rfl) (sv rfl (s_nil (l_seq (l_sub (s0 := ⟨T [(1, (di p2)), (2, (.ptr (2, u1) 0)), (5, (oS x1.1 (110, g2))), (6, (di x1.2)), (7, (.ptr (7, u5) 0)), (8, (dl eInt_i64 v2))], G [((2, u1), some (.box 27 (dMap p1))), ((110, g2), oB 93 4 eClash x1.1), ((7, u5), some (.box 45 [(dl ePart v1.Parts), (di v1.Signal_)]))]⟩) (sb_of ⟨.of rfl, .of rfl, .of rfl, .of rfl, .of rfl, .of rfl, trivial⟩ (sg rfl (sbG_oB (gq rfl) (sbG_some G_hit (.of rfl) trivial)))) ?_)))))))))))))))))))
 refine l_reg fun u7 hu7 => sv rfl (s_nil (bs hz1 fun y2 hy2 hz1 => l_join (fun s => ∃ g3 : Nat, Sb ⟨T [(1, (di p2)), (2, (.ptr (2, u1) 0)), (5, (oS y2 (110, g3))), (6, (di x1.2))], G [((2, u1), some (.box 27 (dMap p1))), ((110, g3), oB 93 4 eClash y2)]⟩ s) ?_ ?_))
 refine l_block (l_loop (ref03_pairs_l2 p1 p2 x1 v1 v2) (fun (x2 : ((List Clash) × Int)) (g4 : Nat) => ⟨T [(1, (di p2)), (2, (.ptr (2, u1) 0)), (5, (oS x2.1 (110, g4))), (6, (di x1.2)), (7, (.ptr (7, u5) 0)), (8, (dl eInt_i64 v2)), (9, (di x2.2))], G [((2, u1), some (.box 27 (dMap p1))), ((7, u5), some (.box 45 [(dl ePart v1.Parts), (di v1.Signal_)])), ((110, g4), oB 93 4 eClash x2.1)]⟩) (x1.1, 0) g2 _ hy2 (sb_of ⟨.of rfl, .of rfl, .of rfl, .of rfl, .of rfl, .of rfl, .of rfl, trivial⟩ (sbG_some G_hit (.of rfl) (sg rfl (sbG_oB (gq rfl) trivial)))) ?_)
 intro x2 g4 z2 hz2 ez2
 unfold ref03_pairs_l2 at hz2
 refine l_seq (lr (fun u8 hu8 => sv rfl (sv rfl (sd rfl (v_len rfl) (sv rfl (s_nil (cc rfl hz2 (fun c2 hz2 => ?_) (fun c2 hz2 => ?_))))))))
 refine l_skip (l_seq (l_block (lr (fun u9 hu9 => sv rfl (sv rfl (sv rfl (s_nil (bs hz2 fun y3 hy3 hz2 => l_join (fun s => ∃ g5 : Nat, Sb ⟨T [(1, (di p2)), (2, (.ptr (2, u1) 0)), (5, (oS y3 (110, g5))), (6, (di x1.2)), (7, (.ptr (7, u5) 0)), (8, (dl eInt_i64 v2)), (9, (di x2.2))], G [((2, u1), some (.box 27 (dMap p1))), ((7, u5), some (.box 45 [(dl ePart v1.Parts), (di v1.Signal_)])), ((110, g5), oB 93 4 eClash y3)]⟩ s) ?_ ?_))))))))
 refine l_block (l_loop (ref03_pairs_l3 p1 p2 x1 v1 v2 x2) (fun (x3 : ((List Clash) × Int)) (g6 : Nat) => ⟨T [(1, (di p2)), (2, (.ptr (2, u1) 0)), (5, (oS x3.1 (110, g6))), (6, (di x1.2)), (7, (.ptr (7, u5) 0)), (8, (dl eInt_i64 v2)), (9, (di x2.2)), (10, (di x3.2))], G [((2, u1), some (.box 27 (dMap p1))), ((7, u5), some (.box 45 [(dl ePart v1.Parts), (di v1.Signal_)])), ((110, g6), oB 93 4 eClash x3.1)]⟩) (x2.1, (w64 (x2.2 + 1))) g4 _ hy3 (sb_of ⟨.of rfl, .of rfl, .of rfl, .of rfl, .of rfl, .of rfl, .of rfl, .of rfl, trivial⟩ (sbG_some G_hit (.of rfl) (sg rfl (sbG_oB (gq rfl) trivial)))) ?_)
 intro x3 g6 z3 hz3 ez3
 unfold ref03_pairs_l3 at hz3
 refine l_seq (lr (fun u10 hu10 => sv rfl (sv rfl (sd rfl (v_len rfl) (sv rfl (s_nil (cc rfl hz3 (fun c3 hz3 => ?_) (fun c3 hz3 => ?_))))))))
 refine l_skip (l_seq (bs hz3 fun y4 hy4 hz3 => l_join (fun s => ∃ g7 : Nat, Sb ⟨T [(1, (di p2)), (2, (.ptr (2, u1) 0)), (5, (oS y4 (110, g7))), (6, (di x1.2)), (7, (.ptr (7, u5) 0)), (8, (dl eInt_i64 v2)), (9, (di x2.2)), (10, (di x3.2))], G [((2, u1), some (.box 27 (dMap p1))), ((7, u5), some (.box 45 [(dl ePart v1.Parts), (di v1.Signal_)])), ((110, g7), oB 93 4 eClash y4)]⟩ s) ?_ ?_))
 refine l_block (l_seq (l_draw rfl fun u11 hu11 => sd rfl (v_loadG rfl (gq rfl) rfl rfl) (sv rfl (sv rfl (bs hy4 fun v3 hv3 hy4 => sd rfl (v_idx rfl rfl hv3 rfl) (sd rfl (v_loadL rfl hv3 rfl) (bs hy4 fun v4 hv4 hy4 => s_call rfl rfl all2_refl (ref03_part_ok _ _  _ hv4) (.inl rfl) (sv rfl (sv rfl (sv rfl (sn rfl rfl (sst rfl G_hit (dPart v4.1) rfl (sv rfl (s_nil (l_seq (l_sub (s0 := ⟨T [(1, (di p2)), (2, (.ptr (2, u1) 0)), (5, (oS x3.1 (110, g6))), (6, (di x1.2)), (7, (.ptr (7, u5) 0)), (8, (dl eInt_i64 v2)), (9, (di x2.2)), (10, (di x3.2)), (11, (.ptr (11, u11) 0))], G [((2, u1), some (.box 27 (dMap p1))), ((110, g6), oB 93 4 eClash x3.1), ((7, u5), some (.box 45 [(dl ePart v1.Parts), (di v1.Signal_)])), ((11, u11), some (.box 91 (dPart v4.1)))]⟩) (sb_of ⟨.of rfl, .of rfl, .of rfl, .of rfl, .of rfl, .of rfl, .of rfl, .of rfl, .of rfl, trivial⟩ (sg rfl (sbG_oB (gq rfl) (sg rfl (sbG_some G_hit (.of rfl) trivial))))) ?_))))))))))))))))
 refine l_draw rfl fun u12 hu12 => sd rfl (v_loadG rfl (gq rfl) rfl rfl) (sv rfl (sv rfl (bs hy4 fun v5 hv5 hy4 => sd rfl (v_idx rfl rfl hv5 rfl) (sd rfl (v_loadL rfl hv5 rfl) (bs hy4 fun v6 hv6 hy4 => s_call rfl rfl all2_refl (ref03_part_ok _ _  _ hv6) (.inl rfl) (sv rfl (sv rfl (sv rfl (sn rfl rfl (sst rfl G_hit (dPart v6.1) rfl (sv rfl (s_nil (l_seq (l_sub (s0 := ⟨T [(1, (di p2)), (2, (.ptr (2, u1) 0)), (5, (oS x3.1 (110, g6))), (6, (di x1.2)), (7, (.ptr (7, u5) 0)), (8, (dl eInt_i64 v2)), (9, (di x2.2)), (10, (di x3.2)), (11, (.ptr (11, u11) 0)), (13, (.ptr (13, u12) 0))], G [((2, u1), some (.box 27 (dMap p1))), ((110, g6), oB 93 4 eClash x3.1), ((7, u5), some (.box 45 [(dl ePart v1.Parts), (di v1.Signal_)])), ((11, u11), some (.box 91 (dPart v4.1))), ((13, u12), some (.box 91 (dPart v6.1)))]⟩) (sb_of ⟨.of rfl, .of rfl, .of rfl, .of rfl, .of rfl, .of rfl, .of rfl, .of rfl, .of rfl, .of rfl, trivial⟩ (sg rfl (sbG_oB (gq rfl) (sg rfl (sg rfl (sbG_some G_hit (.of rfl) trivial)))))) ?_))))))))))))))
 refine l_reg fun u13 hu13 => sp rfl rfl (sl rfl (gq rfl) rfl (sv rfl (sv rfl (gp rfl (gw_t rfl) (fun _ => rfl) (gt rfl (vl rfl (gq rfl) rfl) (gp rfl (gw_t rfl) (fun _ => rfl) (gt rfl (vl rfl (gq rfl) rfl) (gt rfl (fun w5 => (v_bin (gd_pos w5) (gd_pos w5) rfl)) (sa rfl rfl rfl (sv rfl (s_nil (l_seq (l_seq (l_sub (s0 := ⟨T [(1, (di p2)), (2, (.ptr (2, u1) 0)), (5, (oS x3.1 (110, g6))), (6, (di x1.2)), (7, (.ptr (7, u5) 0)), (8, (dl eInt_i64 v2)), (9, (di x2.2)), (10, (di x3.2)), (15, (.d (bo ((v1.Signal_ == 0) && (v4.1.Rank == v6.1.Rank)))))], G [((2, u1), some (.box 27 (dMap p1))), ((110, g6), oB 93 4 eClash x3.1), ((7, u5), some (.box 45 [(dl ePart v1.Parts), (di v1.Signal_)]))]⟩) (sb_of ⟨.of rfl, .of rfl, .of rfl, .of rfl, .of rfl, .of rfl, .of rfl, .of rfl, .of rfl, trivial⟩ (sbG_some G_hit (.of rfl) (sbG_oB (gq rfl) (sg rfl trivial)))) ?_))))))))))))))
 refine l_reg fun u14 hu14 => sv rfl (sv rfl (s_nil (bs hy4 fun y5 hy5 hy4 => l_join (fun s => ∃ g8 : Unit, Sb ⟨T [(1, (di p2)), (2, (.ptr (2, u1) 0)), (5, (oS x3.1 (110, g6))), (6, (di x1.2)), (7, (.ptr (7, u5) 0)), (8, (dl eInt_i64 v2)), (9, (di x2.2)), (10, (di x3.2)), (15, (.d (bo y5)))], G [((2, u1), some (.box 27 (dMap p1))), ((110, g6), oB 93 4 eClash x3.1), ((7, u5), some (.box 45 [(dl ePart v1.Parts), (di v1.Signal_)]))]⟩ s) ?_ ?_)))
 refine cc rfl hy5 (fun c4 hy5 => ?_) (fun c4 hy5 => ?_)
 refine l_draw rfl fun u15 hu15 => sp rfl rfl (sl rfl (gq rfl) rfl (sv rfl (sv rfl (gp rfl (gw_t rfl) (fun _ => rfl) (gt rfl (vl rfl G_hit rfl) (gp rfl (gw_t rfl) (fun _ => rfl) (gt rfl (vl rfl (gq rfl) rfl) (gt rfl (vb rfl rfl rfl) (bs hy5 fun v7 hv7 hy5 => gt rfl (fun w11 => (v_idx (gd_pos w11) (gd_pos w11) (cond_t w11 hv7) rfl)) (gt rfl (fun w12 => (v_loadLG (gd_pos w12) (cond_t w12 hv7) rfl rfl)) (gt rfl (fun _ => rfl) (gt rfl (fun _ => rfl) (bs hy5 fun v8 hv8 hy5 => gt rfl (fun w15 => (v_idx (gd_pos w15) (gd_pos w15) (cond_t w15 hv8) rfl)) (gt rfl (fun w16 => (v_loadL (gd_pos w16) (cond_t w16 hv8) rfl)) (gt rfl (fun _ => rfl) (gt rfl (fun _ => rfl) (bs hy5 fun v9 hv9 hy5 => gt rfl (fun w19 => (v_idx (gd_pos w19) (gd_pos w19) (cond_t w19 hv9) rfl)) (gt rfl (fun w20 => (v_loadL (gd_pos w20) (cond_t w20 hv9) rfl)) (bs hy5 fun v10 hv10 hy5 => ?_)))))))))))))))))))
 refine g_call _ (bo v10) (gw_t rfl) (fun w21 => ⟨_, [(.d (.agg [(i64 v7.Offset), (.list (List.map ePhase v7.Phases))])), (di v8), (di v9)], _, _, (by simp only [gd_pos w21]; rfl), rfl, all2_refl, ref03_both_ok _ _ _  _ (cond_t w21 hv10), (.inl rfl)⟩) ?_
 refine sa rfl rfl rfl (sv rfl (s_nil ?_))
 cases hy5
 exact l_j ⟨(), (sb_of ⟨.of rfl, .of rfl, .of rfl, .of rfl, .of rfl, .of rfl, .of rfl, .of rfl, .of rfl, trivial⟩ (sbG_some G_hit (.of rfl) (sbG_oB (gq rfl) (sg rfl trivial))))⟩
 refine l_skip ?_
 cases hy5
 exact l_j ⟨(), (sb_of ⟨.of rfl, .of rfl, .of rfl, .of rfl, .of rfl, .of rfl, .of rfl, .of rfl, .of rfl, trivial⟩ (sbG_some G_hit (.of rfl) (sbG_oB (gq rfl) (sg rfl trivial))))⟩
 rintro _ ⟨g8, q1⟩
 refine l_sub q1 (lr (fun u16 hu16 => sv rfl (s_nil (cc rfl hy4 (fun c5 hy4 => ?_) (fun c5 hy4 => ?_)))))
 refine l_draw rfl fun u17 hu17 => s_val (oS x3.1 (110, g6)) rfl rfl (sv rfl (sv rfl (sv rfl (sv rfl (bs hy4 fun v11 hv11 hy4 => sd rfl (v_idx rfl rfl hv11 rfl) (sd rfl (v_loadL rfl hv11 rfl) (sv rfl (sv rfl (bs hy4 fun v12 hv12 hy4 => sd rfl (v_idx rfl rfl hv12 rfl) (sd rfl (v_loadL rfl hv12 rfl) (sv rfl (s_val (dl eClash [(Clash.mk p2 x1.2 v11 v12)]) rfl rfl (bs hy4 fun v13 hv13 hy4 => s_appendO eClash (110, g6) x3.1 (Clash.mk p2 x1.2 v11 v12) [] _ (elems_list (fun _ => rfl)) rfl (gq rfl) hv13 (ss rfl (s_nil (l_end ?_))))))))))))))))
 cases hy4
 exact l_j ⟨u17, (sb_of ⟨.of rfl, .of rfl, (.of (oS_ne (appc_ne hv13)).symm), .of rfl, .of rfl, .of rfl, .of rfl, .of rfl, trivial⟩ (sg rfl (sg rfl (sbG_own G_hit trivial))))⟩
 refine l_skip (l_end ?_)
 cases hy4
 exact l_j ⟨g6, (sb_of ⟨.of rfl, .of rfl, .of rfl, .of rfl, .of rfl, .of rfl, .of rfl, .of rfl, trivial⟩ (sbG_some G_hit (.of rfl) (sg rfl (sbG_oB (gq rfl) trivial))))⟩
 rintro _ ⟨g7, q2⟩
 refine l_sub q2 (l_reg fun u18 hu18 => sv rfl (sv rfl (sv rfl (s_nil (l_nil ?_)))))
 cases hz3
 exact ⟨rfl, g7, (sb_of ⟨.of rfl, .of rfl, .of rfl, .of rfl, .of rfl, .of rfl, .of rfl, .of rfl, trivial⟩ (sbG_some G_hit (.of rfl) (sg rfl (sbG_oB (gq rfl) trivial))))⟩
 refine l_exitN rfl ?_
 cases hz3
 obtain rfl := ez3 _ rfl
 refine ⟨nofun, awl_pop rfl (l_j ?_)⟩
 exact ⟨g6, (sb_of ⟨.of rfl, .of rfl, .of rfl, .of rfl, .of rfl, .of rfl, .of rfl, trivial⟩ (sbG_some G_hit (.of rfl) (sg rfl (sbG_oB (gq rfl) trivial))))⟩
 rintro _ ⟨g5, q3⟩
 refine l_end (l_sub q3 (l_reg fun u19 hu19 => sv rfl (sv rfl (sv rfl (s_nil (l_nil ?_))))))
 cases hz2
 exact ⟨rfl, g5, (sb_of ⟨.of rfl, .of rfl, .of rfl, .of rfl, .of rfl, .of rfl, .of rfl, trivial⟩ (sbG_some G_hit (.of rfl) (sg rfl (sbG_oB (gq rfl) trivial))))⟩
 refine l_exitN rfl ?_
 cases hz2
 obtain rfl := ez2 _ rfl
 refine ⟨nofun, awl_pop rfl (l_j ?_)⟩
 exact ⟨g4, (sb_of ⟨.of rfl, .of rfl, .of rfl, .of rfl, trivial⟩ (sbG_some G_hit (.of rfl) (sbG_oB (gq rfl) trivial)))⟩
 rintro _ ⟨g3, q4⟩
 refine l_end (l_sub q4 (l_reg fun u20 hu20 => sv rfl (sv rfl (sv rfl (s_nil (l_nil ?_))))))
 cases hz1
 exact ⟨rfl, g3, (sb_of ⟨.of rfl, .of rfl, .of rfl, .of rfl, trivial⟩ (sbG_some G_hit (.of rfl) (sbG_oB (gq rfl) trivial)))⟩
 refine l_exitN rfl ?_
 cases hz1
 obtain rfl := ez1 _ rfl
 refine ⟨nofun, awl_pop rfl (l_j ?_)⟩
 exact ⟨g2, (sb_of ⟨.of rfl, trivial⟩ (sbG_oB (gq rfl) trivial))⟩
 rintro _ ⟨g1, q5⟩
 refine l_sub q5 (lr (fun u21 hu21 => s_val (oS y1 (110, g1)) rfl rfl (s_val (oS y1 (110, g1)) rfl rfl (s_nil (l_ret ?_)))))
 cases h
 exact fin_ok (.inr rfl) (resD1 (res_t rfl) (rf_oS G_hit)) oD_le

noncomputable def ref03_Fit (p1 : Map) : Option Bool :=
  (ref03_Check p1).bind fun v1 => cond (v1 != 0) (some false) ((ref03_merges p1).bind fun v2 => (ref03_chains p1).bind fun v3 => (ref03_pairs p1 3).bind fun v4 => (ref03_pairs p1 4).bind fun v5 => some ((w64 ((w64 ((w64 ((v2.length : Int) + (v3.length : Int))) + (v4.length : Int))) + (v5.length : Int))) == 0))

theorem ref03_Fit_ok (p1 : Map) (r : Bool) (h : ref03_Fit p1 = some r) : PCall Tryz.prog 19 [(.agg (eMap p1))] (bo r) := by
 refine l_call (fk Tryz.func19 Tryz.ntmps19 m0 (by with_unfolding_all rfl)) (nl rfl) ?_
 unfold ref03_Fit at h
 refine l_sub (s0 := ⟨T [(0, (.d _))], G []⟩) (sbr rfl rfl) ?_
 refine lr (fun u1 hu1 => sn rfl rfl (sv rfl (s_nil (l_seq (lr (fun u2 hu2 => sd rfl (v_loadG rfl G_hit rfl rfl) (bs h fun v1 hv1 h => s_call rfl rfl all2_refl (ref03_Check_ok _  _ hv1) (.inl rfl) (sv rfl (s_nil (cc rfl h (fun c1 h => ?_) (fun c1 h => ?_)))))))))))
 refine lr (fun u3 hu3 => sv rfl (s_nil (l_ret ?_)))
 cases h
 exact fin_ok (.inr rfl) (resD1 (res_t rfl) rf_d) (.refl _)
 refine l_skip (l_seq (l_draw rfl fun u4 hu4 => sd rfl (v_loadG rfl G_hit rfl rfl) (bs h fun v2 hv2 h => s_call rfl rfl all2_refl (ref03_merges_ok _  _ hv2) (.inl rfl) (sd rfl (v_len rfl) (sd rfl (v_loadG rfl G_hit rfl rfl) (bs h fun v3 hv3 h => s_call rfl rfl all2_refl (ref03_chains_ok _  _ hv3) (.inl rfl) (sd rfl (v_len rfl) (sv rfl (sd rfl (v_loadG rfl G_hit rfl rfl) (bs h fun v4 hv4 h => s_call rfl rfl all2_refl (ref03_pairs_ok _ _  _ hv4) (.inl rfl) (sd rfl (v_len rfl) (sv rfl (sd rfl (v_loadG rfl G_hit rfl rfl) (bs h fun v5 hv5 h => s_call rfl rfl all2_refl (ref03_pairs_ok _ _  _ hv5) (.inl rfl) (sd rfl (v_len rfl) (sv rfl (sv rfl (sv rfl (s_nil (l_ret ?_))))))))))))))))))))
 cases h
 exact fin_ok (.inr rfl) (resD1 (res_t rfl) rf_d) (.refl _)

noncomputable def ref03_rows (p1 : Map) (p2 : Int) : Option Int :=
  (geti [(p1.Lanes.length : Int), (p1.Zones.length : Int), (p1.Signals.length : Int), (p1.Works.length : Int)] (w64 (p2 - 1))).bind fun v1 => some v1

theorem ref03_rows_ok (p1 : Map) (p2 : Int) (r : Int) (h : ref03_rows p1 p2 = some r) : PCall Tryz.prog 84 [(.agg (eMap p1)), (i64 p2)] (i64 r) := by
 refine l_call (fk Tryz.func84 Tryz.ntmps84 (fun r => if r == 1 then [1012] else []) (by with_unfolding_all rfl)) (nl rfl) ?_
 unfold ref03_rows at h
 refine l_sub (s0 := ⟨T [(0, (.d _)), (1, (.d _))], G []⟩) (sbr rfl rfl) ?_
 refine lr (fun u1 hu1 => sn rfl rfl (sv rfl (s_nil (lr (fun u2 hu2 => sp rfl rfl (sl rfl G_hit rfl (sd rfl (v_len rfl) (sp rfl rfl (sl rfl G_hit rfl (sd rfl (v_len rfl) (sp rfl rfl (sl rfl G_hit rfl (sd rfl (v_len rfl) (sp rfl rfl (sl rfl G_hit rfl (sd rfl (v_len rfl) (s_val (dl eInt_i64 [(p1.Lanes.length : Int), (p1.Zones.length : Int), (p1.Signals.length : Int), (p1.Works.length : Int)]) rfl rfl (sv rfl (sv rfl (bs h fun v1 hv1 h => sd rfl (v_idx rfl rfl hv1 rfl) (sd rfl (v_loadL rfl hv1 rfl) (sv rfl (s_nil (l_ret ?_))))))))))))))))))))))))
 cases h
 exact fin_ok (.inr rfl) (resD1 (res_t rfl) rf_d) (.refl _)

noncomputable def ref01_Same_l1 (p1 : Curve) (p2 : Curve) (x1 : Int) : Option (Stp Int (Sum Unit Bool)) :=
  cond (decide (x1 < (p1.Pts.length : Int))) ((geti p1.Pts x1).bind fun v1 => (geti p2.Pts x1).bind fun v2 => cond (!(v1.X == v2.X && (v1.Y == v2.Y && true))) (some (.out (.inr false))) (some (.go (w64 (x1 + 1))))) (some (.out (.inl ())))
noncomputable def ref01_Same (p1 : Curve) (p2 : Curve) : Option Bool :=
  cond ((p1.Pts.length : Int) != (p2.Pts.length : Int)) (some false) (thenS (loop (ref01_Same_l1 p1 p2) 0) (fun _ => some true) (fun r => some r))

theorem ref01_Same_ok (p1 : Curve) (p2 : Curve) (r : Bool) (h : ref01_Same p1 p2 = some r) : PCall Tryz.prog 204 [(.agg [(.list (List.map eSpot p1.Pts))]), (.agg [(.list (List.map eSpot p2.Pts))])] (bo r) := by
 refine l_call (fk Tryz.func204 Tryz.ntmps204 m0 (by with_unfolding_all rfl)) (nl rfl) ?_
 unfold ref01_Same at h
 refine l_sub (s0 := ⟨T [(0, (.d _)), (1, (.d _))], G []⟩) (sbr rfl rfl) ?_
 refine lr (fun u1 hu1 => sn rfl rfl (sn rfl rfl (sv rfl (s_nil (l_seq (lr (fun u2 hu2 => sp rfl rfl (sl rfl (gq rfl) rfl (sd rfl (v_len rfl) (sp rfl rfl (sl rfl G_hit rfl (sd rfl (v_len rfl) (sv rfl (s_nil (cc rfl h (fun c1 h => ?_) (fun c1 h => ?_))))))))))))))))
 refine lr (fun u3 hu3 => sv rfl (s_nil (l_ret ?_)))
 cases h
 exact fin_ok (.inr rfl) (resD1 (res_t rfl) rf_d) (.refl _)
 refine l_skip (l_seq (lr (fun u4 hu4 => sv rfl (s_nil (js h fun z1 hz1 h => l_join (fun s => ∃ (y1 : Unit) (g1 : Unit), z1 = .inl y1 ∧ Sb ⟨T [], G []⟩ s) ?_ ?_)))))
 refine l_block (l_loop (ref01_Same_l1 p1 p2) (fun (x1 : Int) (g2 : Unit) => ⟨T [(2, (.ptr (2, u1) 0)), (3, (.ptr (3, u1) 0)), (5, (di x1))], G [((2, u1), some (.box 39 [(dl eSpot p1.Pts)])), ((3, u1), some (.box 39 [(dl eSpot p2.Pts)]))]⟩) 0 () _ hz1 (sbr rfl rfl) ?_)
 intro x1 g2 z2 hz2 ez2
 unfold ref01_Same_l1 at hz2
 refine l_seq (lr (fun u5 hu5 => sv rfl (sp rfl rfl (sl rfl G_hit rfl (sd rfl (v_len rfl) (sv rfl (s_nil (cc rfl hz2 (fun c2 hz2 => ?_) (fun c2 hz2 => ?_)))))))))
 refine l_skip (l_seq (l_block (l_seq (l_draw rfl fun u6 hu6 => sp rfl rfl (sl rfl G_hit rfl (sv rfl (bs hz2 fun v1 hv1 hz2 => sd rfl (v_idx rfl rfl hv1 rfl) (sd rfl (v_loadLG rfl hv1 rfl rfl) (sp rfl rfl (sl rfl (gq rfl) rfl (sv rfl (bs hz2 fun v2 hv2 hz2 => sd rfl (v_idx rfl rfl hv2 rfl) (sd rfl (v_loadLG rfl hv2 rfl rfl) (s_val (.d (bo (!(v1.X == v2.X && (v1.Y == v2.Y && true))))) rfl rfl (s_nil (cc rfl hz2 (fun c3 hz2 => ?_) (fun c3 hz2 => ?_)))))))))))))))))
 refine lr (fun u7 hu7 => sv rfl (s_nil (l_ret ?_)))
 cases hz2
 obtain rfl := ez2 _ rfl
 refine ⟨nofun, awl_ret ?_⟩
 rw [Sum.elim_inr] at h
 cases h
 exact fin_ok (.inr rfl) (resD1 (res_t rfl) rf_d) (.refl _)
 refine l_skip (l_end (l_reg fun u8 hu8 => sv rfl (sv rfl (sv rfl (s_nil (l_nil ?_))))))
 cases hz2
 exact ⟨rfl, (), (sbr rfl rfl)⟩
 refine l_exitN rfl ?_
 cases hz2
 obtain rfl := ez2 _ rfl
 refine ⟨nofun, awl_pop rfl (l_j ?_)⟩
 exact ⟨_, (), rfl, (sbr rfl rfl)⟩
 rintro _ ⟨y1, g1, rfl, q1⟩
 rw [Sum.elim_inl] at h
 refine l_sub q1 (lr (fun u9 hu9 => sv rfl (s_nil (l_ret ?_))))
 cases h
 exact fin_ok (.inr rfl) (resD1 (res_t rfl) rf_d) (.refl _)

noncomputable def ref03_sameInts_l1 (p1 : (List Int)) (p2 : (List Int)) (x1 : Int) : Option (Stp Int (Sum Unit Bool)) :=
  cond ((decide (x1 < (p1.length : Int))) && (decide (x1 < (p2.length : Int)))) ((geti p1 x1).bind fun v1 => (geti p2 x1).bind fun v2 => cond (v1 != v2) (some (.out (.inr false))) (some (.go (w64 (x1 + 1))))) (some (.out (.inl ())))
noncomputable def ref03_sameInts (p1 : (List Int)) (p2 : (List Int)) : Option Bool :=
  thenS (loop (ref03_sameInts_l1 p1 p2) 0) (fun _ => some ((p1.length : Int) == (p2.length : Int))) (fun r => some r)

theorem ref03_sameInts_ok (p1 : (List Int)) (p2 : (List Int)) (r : Bool) (h : ref03_sameInts p1 p2 = some r) : PCall Tryz.prog 205 [(.list (List.map eInt_i64 p1)), (.list (List.map eInt_i64 p2))] (bo r) := by
 refine l_call (fk Tryz.func205 Tryz.ntmps205 m0 (by with_unfolding_all rfl)) (nl rfl) ?_
 unfold ref03_sameInts at h
 refine l_sub (s0 := ⟨T [(0, (.d _)), (1, (.d _))], G []⟩) (sbr rfl rfl) ?_
 refine lr (fun u1 hu1 => sv rfl (s_nil (l_seq (lr (fun u2 hu2 => sv rfl (s_nil (js h fun z1 hz1 h => l_join (fun s => ∃ (y1 : Unit) (g1 : Unit), z1 = .inl y1 ∧ Sb ⟨T [(0, (dl eInt_i64 p1)), (1, (dl eInt_i64 p2))], G []⟩ s) ?_ ?_)))))))
 refine l_block (l_loop (ref03_sameInts_l1 p1 p2) (fun (x1 : Int) (g2 : Unit) => ⟨T [(0, (dl eInt_i64 p1)), (1, (dl eInt_i64 p2)), (5, (di x1))], G []⟩) 0 () _ hz1 (sbr rfl rfl) ?_)
 intro x1 g2 z2 hz2 ez2
 unfold ref03_sameInts_l1 at hz2
 refine l_seq (lr (fun u3 hu3 => sv rfl (sv rfl (sd rfl (v_len rfl) (sv rfl (sv rfl (gt rfl (fun _ => rfl) (gt rfl (fun _ => rfl) (gt rfl (fun w3 => (v_len (gd_pos w3))) (gt rfl (fun w4 => (v_bin (gd_pos w4) (gd_pos w4) rfl)) (sa rfl rfl rfl (s_nil (cc rfl hz2 (fun c1 hz2 => ?_) (fun c1 hz2 => ?_))))))))))))))
 refine l_skip (l_seq (l_block (l_seq (l_draw rfl fun u4 hu4 => sv rfl (sv rfl (bs hz2 fun v1 hv1 hz2 => sd rfl (v_idx rfl rfl hv1 rfl) (sd rfl (v_loadL rfl hv1 rfl) (sv rfl (sv rfl (bs hz2 fun v2 hv2 hz2 => sd rfl (v_idx rfl rfl hv2 rfl) (sd rfl (v_loadL rfl hv2 rfl) (sv rfl (s_nil (cc rfl hz2 (fun c2 hz2 => ?_) (fun c2 hz2 => ?_)))))))))))))))
 refine lr (fun u5 hu5 => sv rfl (s_nil (l_ret ?_)))
 cases hz2
 obtain rfl := ez2 _ rfl
 refine ⟨nofun, awl_ret ?_⟩
 rw [Sum.elim_inr] at h
 cases h
 exact fin_ok (.inr rfl) (resD1 (res_t rfl) rf_d) (.refl _)
 refine l_skip (l_end (l_reg fun u6 hu6 => sv rfl (sv rfl (sv rfl (s_nil (l_nil ?_))))))
 cases hz2
 exact ⟨rfl, (), (sbr rfl rfl)⟩
 refine l_exitN rfl ?_
 cases hz2
 obtain rfl := ez2 _ rfl
 refine ⟨nofun, awl_pop rfl (l_j ?_)⟩
 exact ⟨_, (), rfl, (sbr rfl rfl)⟩
 rintro _ ⟨y1, g1, rfl, q1⟩
 rw [Sum.elim_inl] at h
 refine l_sub q1 (lr (fun u7 hu7 => sv rfl (sd rfl (v_len rfl) (sv rfl (sd rfl (v_len rfl) (sv rfl (sv rfl (s_nil (l_ret ?_)))))))))
 cases h
 exact fin_ok (.inr rfl) (resD1 (res_t rfl) rf_d) (.refl _)

noncomputable def ref03_SameLane (p1 : Lane) (p2 : Lane) : Option Bool :=
  ((cond (((p1.Kind == p2.Kind) && (p1.Half == p2.Half)) && (p1.Limit == p2.Limit)) (ref01_Same p1.Curve_ p2.Curve_) (some default))).bind fun v1 => ((cond ((((p1.Kind == p2.Kind) && (p1.Half == p2.Half)) && (p1.Limit == p2.Limit)) && v1) (ref03_sameInts p1.Next p2.Next) (some default))).bind fun v2 => some (((((p1.Kind == p2.Kind) && (p1.Half == p2.Half)) && (p1.Limit == p2.Limit)) && v1) && v2)

theorem ref03_SameLane_ok (p1 : Lane) (p2 : Lane) (r : Bool) (h : ref03_SameLane p1 p2 = some r) : PCall Tryz.prog 109 [(.agg (eLane p1)), (.agg (eLane p2))] (bo r) := by
 refine l_call (fk Tryz.func109 Tryz.ntmps109 m0 (by with_unfolding_all rfl)) (nl rfl) ?_
 unfold ref03_SameLane at h
 refine l_sub (s0 := ⟨T [(0, (.d _)), (1, (.d _))], G []⟩) (sbr rfl rfl) ?_
 refine lr (fun u1 hu1 => sn rfl rfl (sn rfl rfl (sv rfl (s_nil (lr (fun u2 hu2 => sp rfl rfl (sl rfl (gq rfl) rfl (sp rfl rfl (sl rfl G_hit rfl (sv rfl (sv rfl (gp rfl (gw_t rfl) (fun _ => rfl) (gt rfl (vl rfl (gq rfl) rfl) (gp rfl (gw_t rfl) (fun _ => rfl) (gt rfl (vl rfl G_hit rfl) (gt rfl (fun w5 => (v_bin (gd_pos w5) (gd_pos w5) rfl)) (sa rfl rfl rfl (sv rfl (gp rfl (gw_t rfl) (fun _ => rfl) (gt rfl (vl rfl (gq rfl) rfl) (gp rfl (gw_t rfl) (fun _ => rfl) (gt rfl (vl rfl G_hit rfl) (gt rfl (fun w10 => (v_bin (gd_pos w10) (gd_pos w10) rfl)) (sa rfl rfl rfl (sv rfl (gp rfl (gw_t rfl) (fun _ => rfl) (gt rfl (fun w12 => (v_loadG (gd_pos w12) (gq rfl) rfl rfl)) (gp rfl (gw_t rfl) (fun _ => rfl) (gt rfl (fun w14 => (v_loadG (gd_pos w14) G_hit rfl rfl)) (bs h fun v1 hv1 h => ?_))))))))))))))))))))))))))))))
 refine g_call _ (bo v1) (gw_t rfl) (fun w15 => ⟨_, [(.d (.agg [(.list (List.map eSpot p1.Curve_.Pts))])), (.d (.agg [(.list (List.map eSpot p2.Curve_.Pts))]))], _, _, (by simp only [gd_pos w15]; rfl), rfl, all2_refl, ref01_Same_ok _ _  _ (cond_t w15 hv1), (.inl rfl)⟩) ?_
 refine sa rfl rfl rfl (sv rfl (gp rfl (gw_t rfl) (fun _ => rfl) (gt rfl (vl rfl (gq rfl) rfl) (gp rfl (gw_t rfl) (fun _ => rfl) (gt rfl (vl rfl G_hit rfl) (bs h fun v2 hv2 h => ?_))))))
 refine g_call _ (bo v2) (gw_t rfl) (fun w20 => ⟨_, [(dl eInt_i64 p1.Next), (dl eInt_i64 p2.Next)], _, _, (by simp only [gd_pos w20]; rfl), rfl, all2_refl, ref03_sameInts_ok _ _  _ (cond_t w20 hv2), (.inl rfl)⟩) ?_
 refine sa rfl rfl rfl (sv rfl (s_nil (l_ret ?_)))
 cases h
 exact fin_ok (.inr rfl) (resD1 (res_t rfl) rf_d) (.refl _)

noncomputable def ref03_SameZone_l1 (p1 : Zone) (p2 : Zone) (x1 : Int) : Option (Stp Int (Sum Unit Bool)) :=
  cond ((decide (x1 < (p1.Parts.length : Int))) && (decide (x1 < (p2.Parts.length : Int)))) ((geti p1.Parts x1).bind fun v1 => (geti p2.Parts x1).bind fun v2 => cond (!(v1.Lane_ == v2.Lane_ && (v1.From == v2.From && (v1.To == v2.To && (v1.Rank == v2.Rank && true))))) (some (.out (.inr false))) (some (.go (w64 (x1 + 1))))) (some (.out (.inl ())))
noncomputable def ref03_SameZone (p1 : Zone) (p2 : Zone) : Option Bool :=
  thenS (loop (ref03_SameZone_l1 p1 p2) 0) (fun _ => some ((p1.Signal_ == p2.Signal_) && ((p1.Parts.length : Int) == (p2.Parts.length : Int)))) (fun r => some r)

theorem ref03_SameZone_ok (p1 : Zone) (p2 : Zone) (r : Bool) (h : ref03_SameZone p1 p2 = some r) : PCall Tryz.prog 110 [(.agg [(.list (List.map ePart p1.Parts)), (i64 p1.Signal_)]), (.agg [(.list (List.map ePart p2.Parts)), (i64 p2.Signal_)])] (bo r) := by
 refine l_call (fk Tryz.func110 Tryz.ntmps110 m0 (by with_unfolding_all rfl)) (nl rfl) ?_
 unfold ref03_SameZone at h
 refine l_sub (s0 := ⟨T [(0, (.d _)), (1, (.d _))], G []⟩) (sbr rfl rfl) ?_
 refine lr (fun u1 hu1 => sn rfl rfl (sn rfl rfl (sv rfl (s_nil (l_seq (lr (fun u2 hu2 => sv rfl (s_nil (js h fun z1 hz1 h => l_join (fun s => ∃ (y1 : Unit) (g1 : Unit), z1 = .inl y1 ∧ Sb ⟨T [(2, (.ptr (2, u1) 0)), (3, (.ptr (3, u1) 0))], G [((2, u1), some (.box 45 [(dl ePart p1.Parts), (di p1.Signal_)])), ((3, u1), some (.box 45 [(dl ePart p2.Parts), (di p2.Signal_)]))]⟩ s) ?_ ?_)))))))))
 refine l_block (l_loop (ref03_SameZone_l1 p1 p2) (fun (x1 : Int) (g2 : Unit) => ⟨T [(2, (.ptr (2, u1) 0)), (3, (.ptr (3, u1) 0)), (5, (di x1))], G [((2, u1), some (.box 45 [(dl ePart p1.Parts), (di p1.Signal_)])), ((3, u1), some (.box 45 [(dl ePart p2.Parts), (di p2.Signal_)]))]⟩) 0 () _ hz1 (sbr rfl rfl) ?_)
 intro x1 g2 z2 hz2 ez2
 unfold ref03_SameZone_l1 at hz2
 refine l_seq (lr (fun u3 hu3 => sv rfl (sp rfl rfl (sl rfl G_hit rfl (sd rfl (v_len rfl) (sv rfl (sv rfl (gt rfl (fun _ => rfl) (gp rfl (gw_t rfl) (fun _ => rfl) (gt rfl (vl rfl (gq rfl) rfl) (gt rfl (fun w4 => (v_len (gd_pos w4))) (gt rfl (fun w5 => (v_bin (gd_pos w5) (gd_pos w5) rfl)) (sa rfl rfl rfl (s_nil (cc rfl hz2 (fun c1 hz2 => ?_) (fun c1 hz2 => ?_))))))))))))))))
 refine l_skip (l_seq (l_block (l_seq (l_draw rfl fun u4 hu4 => sp rfl rfl (sl rfl G_hit rfl (sv rfl (bs hz2 fun v1 hv1 hz2 => sd rfl (v_idx rfl rfl hv1 rfl) (sd rfl (v_loadLG rfl hv1 rfl rfl) (sp rfl rfl (sl rfl (gq rfl) rfl (sv rfl (bs hz2 fun v2 hv2 hz2 => sd rfl (v_idx rfl rfl hv2 rfl) (sd rfl (v_loadLG rfl hv2 rfl rfl) (s_val (.d (bo (!(v1.Lane_ == v2.Lane_ && (v1.From == v2.From && (v1.To == v2.To && (v1.Rank == v2.Rank && true))))))) rfl rfl (s_nil (cc rfl hz2 (fun c2 hz2 => ?_) (fun c2 hz2 => ?_)))))))))))))))))
 refine l_seq (l_sub (s0 := ⟨T [], G []⟩) (sbr rfl rfl) ?_)
 refine l_reg fun u5 hu5 => sv rfl (s_nil (l_ret ?_))
 cases hz2
 obtain rfl := ez2 _ rfl
 refine ⟨nofun, awl_ret ?_⟩
 rw [Sum.elim_inr] at h
 cases h
 exact fin_ok (.inr rfl) (resD1 (res_t rfl) rf_d) (.refl _)
 refine l_skip (l_end (l_sub (s0 := ⟨T [(2, (.ptr _ _)), (3, (.ptr _ _)), (5, (.d _))], G [((2, u1), some (.box 45 _)), ((3, u1), some (.box 45 _))]⟩) (sbr rfl rfl) ?_))
 refine l_reg fun u6 hu6 => sv rfl (sv rfl (sv rfl (s_nil (l_nil ?_))))
 cases hz2
 exact ⟨rfl, (), (sbr rfl rfl)⟩
 refine l_exitN rfl ?_
 cases hz2
 obtain rfl := ez2 _ rfl
 refine ⟨nofun, awl_pop rfl (l_j ?_)⟩
 exact ⟨_, (), rfl, (sbr rfl rfl)⟩
 rintro _ ⟨y1, g1, rfl, q1⟩
 rw [Sum.elim_inl] at h
 refine l_sub q1 (lr (fun u7 hu7 => sp rfl rfl (sl rfl G_hit rfl (sp rfl rfl (sl rfl (gq rfl) rfl (sv rfl (sv rfl (gp rfl (gw_t rfl) (fun _ => rfl) (gt rfl (vl rfl G_hit rfl) (gt rfl (fun w8 => (v_len (gd_pos w8))) (gp rfl (gw_t rfl) (fun _ => rfl) (gt rfl (vl rfl (gq rfl) rfl) (gt rfl (fun w11 => (v_len (gd_pos w11))) (gt rfl (fun w12 => (v_bin (gd_pos w12) (gd_pos w12) rfl)) (sa rfl rfl rfl (sv rfl (s_nil (l_ret ?_))))))))))))))))))
 cases h
 exact fin_ok (.inr rfl) (resD1 (res_t rfl) rf_d) (.refl _)

noncomputable def ref03_SameSignal_l1 (p1 : Signal) (p2 : Signal) (x1 : Int) : Option (Stp Int (Sum Unit Bool)) :=
  cond ((decide (x1 < (p1.Phases.length : Int))) && (decide (x1 < (p2.Phases.length : Int)))) ((geti p1.Phases x1).bind fun v1 => (geti p2.Phases x1).bind fun v2 => ((cond (!(v1.Ticks != v2.Ticks)) (geti p1.Phases x1) (some default))).bind fun v3 => ((cond (!(v1.Ticks != v2.Ticks)) (geti p2.Phases x1) (some default))).bind fun v4 => ((cond (!(v1.Ticks != v2.Ticks)) (ref03_sameInts v3.Green v4.Green) (some default))).bind fun v5 => cond ((v1.Ticks != v2.Ticks) || (!v5)) (some (.out (.inr false))) (some (.go (w64 (x1 + 1))))) (some (.out (.inl ())))
noncomputable def ref03_SameSignal (p1 : Signal) (p2 : Signal) : Option Bool :=
  thenS (loop (ref03_SameSignal_l1 p1 p2) 0) (fun _ => some ((p1.Offset == p2.Offset) && ((p1.Phases.length : Int) == (p2.Phases.length : Int)))) (fun r => some r)

theorem ref03_SameSignal_ok (p1 : Signal) (p2 : Signal) (r : Bool) (h : ref03_SameSignal p1 p2 = some r) : PCall Tryz.prog 111 [(.agg [(i64 p1.Offset), (.list (List.map ePhase p1.Phases))]), (.agg [(i64 p2.Offset), (.list (List.map ePhase p2.Phases))])] (bo r) := by
 refine l_call (fk Tryz.func111 Tryz.ntmps111 m0 (by with_unfolding_all rfl)) (nl rfl) ?_
 unfold ref03_SameSignal at h
 refine l_sub (s0 := ⟨T [(0, (.d _)), (1, (.d _))], G []⟩) (sbr rfl rfl) ?_
 refine lr (fun u1 hu1 => sn rfl rfl (sn rfl rfl (sv rfl (s_nil (l_seq (lr (fun u2 hu2 => sv rfl (s_nil (js h fun z1 hz1 h => l_join (fun s => ∃ (y1 : Unit) (g1 : Unit), z1 = .inl y1 ∧ Sb ⟨T [(2, (.ptr (2, u1) 0)), (3, (.ptr (3, u1) 0))], G [((2, u1), some (.box 48 [(di p1.Offset), (dl ePhase p1.Phases)])), ((3, u1), some (.box 48 [(di p2.Offset), (dl ePhase p2.Phases)]))]⟩ s) ?_ ?_)))))))))
 refine l_block (l_loop (ref03_SameSignal_l1 p1 p2) (fun (x1 : Int) (g2 : Unit) => ⟨T [(2, (.ptr (2, u1) 0)), (3, (.ptr (3, u1) 0)), (5, (di x1))], G [((2, u1), some (.box 48 [(di p1.Offset), (dl ePhase p1.Phases)])), ((3, u1), some (.box 48 [(di p2.Offset), (dl ePhase p2.Phases)]))]⟩) 0 () _ hz1 (sbr rfl rfl) ?_)
 intro x1 g2 z2 hz2 ez2
 unfold ref03_SameSignal_l1 at hz2
 refine l_seq (lr (fun u3 hu3 => sv rfl (sp rfl rfl (sl rfl G_hit rfl (sd rfl (v_len rfl) (sv rfl (sv rfl (gt rfl (fun _ => rfl) (gp rfl (gw_t rfl) (fun _ => rfl) (gt rfl (vl rfl (gq rfl) rfl) (gt rfl (fun w4 => (v_len (gd_pos w4))) (gt rfl (fun w5 => (v_bin (gd_pos w5) (gd_pos w5) rfl)) (sa rfl rfl rfl (s_nil (cc rfl hz2 (fun c1 hz2 => ?_) (fun c1 hz2 => ?_))))))))))))))))
 refine l_skip (l_seq (l_block (l_seq (l_draw rfl fun u4 hu4 => sp rfl rfl (sl rfl G_hit rfl (sv rfl (bs hz2 fun v1 hv1 hz2 => sd rfl (v_idx rfl rfl hv1 rfl) (sv rfl (sd rfl (v_loadL rfl hv1 rfl) (sp rfl rfl (sl rfl (gq rfl) rfl (sv rfl (bs hz2 fun v2 hv2 hz2 => sd rfl (v_idx rfl rfl hv2 rfl) (sv rfl (sd rfl (v_loadL rfl hv2 rfl) (sv rfl (sv rfl (gp rfl (gw_f rfl) (fun _ => rfl) (gf rfl (vl rfl G_hit rfl) (gf rfl (fun _ => rfl) (bs hz2 fun v3 hv3 hz2 => gf rfl (fun w9 => (v_idx (gd_pos w9) (gd_pos w9) (cond_t w9 hv3) rfl)) ?_)))))))))))))))))))))
 refine gf rfl (fun w10 => (by simp only [gd_pos w10]; rfl)) ?_
 refine gf rfl (fun w11 => (v_loadL (gd_pos w11) (cond_t w11 hv3) rfl)) (gp rfl (gw_f rfl) (fun _ => rfl) (gf rfl (vl rfl (gq rfl) rfl) (gf rfl (fun _ => rfl) (bs hz2 fun v4 hv4 hz2 => gf rfl (fun w15 => (v_idx (gd_pos w15) (gd_pos w15) (cond_t w15 hv4) rfl)) ?_))))
 refine gf rfl (fun w16 => (by simp only [gd_pos w16]; rfl)) ?_
 refine gf rfl (fun w17 => (v_loadL (gd_pos w17) (cond_t w17 hv4) rfl)) (bs hz2 fun v5 hv5 hz2 => ?_)
 refine g_call _ (bo v5) (gw_f rfl) (fun w18 => ⟨_, [(dl eInt_i64 v3.Green), (dl eInt_i64 v4.Green)], _, _, (by simp only [gd_pos w18]; rfl), rfl, all2_refl, ref03_sameInts_ok _ _  _ (cond_t w18 hv5), (.inl rfl)⟩) ?_
 refine g_val _ (.d (bo (!v5))) rfl (gw_f rfl) (fun w19 => (by simp only [gd_pos w19]; rfl)) ?_
 refine sd rfl (v_or rfl rfl (fun hc => gd_pos (not_t hc))) (s_nil (cc rfl hz2 (fun c2 hz2 => ?_) (fun c2 hz2 => ?_)))
 refine l_seq (l_sub (s0 := ⟨T [], G []⟩) (sbr rfl rfl) ?_)
 refine l_reg fun u5 hu5 => sv rfl (s_nil (l_ret ?_))
 cases hz2
 obtain rfl := ez2 _ rfl
 refine ⟨nofun, awl_ret ?_⟩
 rw [Sum.elim_inr] at h
 cases h
 exact fin_ok (.inr rfl) (resD1 (res_t rfl) rf_d) (.refl _)
 refine l_skip (l_end (l_sub (s0 := ⟨T [(2, (.ptr _ _)), (3, (.ptr _ _)), (5, (.d _))], G [((2, u1), some (.box 48 _)), ((3, u1), some (.box 48 _))]⟩) (sbr rfl rfl) ?_))
 refine l_reg fun u6 hu6 => sv rfl (sv rfl (sv rfl (s_nil (l_nil ?_))))
 cases hz2
 exact ⟨rfl, (), (sbr rfl rfl)⟩
 refine l_exitN rfl ?_
 cases hz2
 obtain rfl := ez2 _ rfl
 refine ⟨nofun, awl_pop rfl (l_j ?_)⟩
 exact ⟨_, (), rfl, (sbr rfl rfl)⟩
 rintro _ ⟨y1, g1, rfl, q1⟩
 rw [Sum.elim_inl] at h
 refine l_sub q1 (lr (fun u7 hu7 => sp rfl rfl (sl rfl G_hit rfl (sp rfl rfl (sl rfl (gq rfl) rfl (sv rfl (sv rfl (gp rfl (gw_t rfl) (fun _ => rfl) (gt rfl (vl rfl G_hit rfl) (gt rfl (fun w22 => (v_len (gd_pos w22))) (gp rfl (gw_t rfl) (fun _ => rfl) (gt rfl (vl rfl (gq rfl) rfl) (gt rfl (fun w25 => (v_len (gd_pos w25))) (gt rfl (fun w26 => (v_bin (gd_pos w26) (gd_pos w26) rfl)) (sa rfl rfl rfl (sv rfl (s_nil (l_ret ?_))))))))))))))))))
 cases h
 exact fin_ok (.inr rfl) (resD1 (res_t rfl) rf_d) (.refl _)

noncomputable def ref03_sameRow (p1 : Map) (p2 : Map) (p3 : Int) (p4 : Int) : Option Bool :=
  cond (p3 == 1) ((geti p1.Lanes p4).bind fun v1 => (geti p2.Lanes p4).bind fun v2 => (ref03_SameLane v1 v2).bind fun v3 => some v3) (cond (p3 == 2) ((geti p1.Zones p4).bind fun v4 => (geti p2.Zones p4).bind fun v5 => (ref03_SameZone v4 v5).bind fun v6 => some v6) (cond (p3 == 3) ((geti p1.Signals p4).bind fun v7 => (geti p2.Signals p4).bind fun v8 => (ref03_SameSignal v7 v8).bind fun v9 => some v9) ((geti p1.Works p4).bind fun v10 => (geti p2.Works p4).bind fun v11 => some (v10.Lane_ == v11.Lane_ && (v10.From == v11.From && (v10.To == v11.To && (v10.Begin == v11.Begin && (v10.End == v11.End && (v10.Limit == v11.Limit && true)))))))))

theorem ref03_sameRow_ok (p1 : Map) (p2 : Map) (p3 : Int) (p4 : Int) (r : Bool) (h : ref03_sameRow p1 p2 p3 p4 = some r) : PCall Tryz.prog 85 [(.agg (eMap p1)), (.agg (eMap p2)), (i64 p3), (i64 p4)] (bo r) := by
 refine l_call (fk Tryz.func85 Tryz.ntmps85 m0 (by with_unfolding_all rfl)) (nl rfl) ?_
 unfold ref03_sameRow at h
 refine l_sub (s0 := ⟨T [(0, (.d _)), (1, (.d _)), (2, (.d _)), (3, (.d _))], G []⟩) (sbr rfl rfl) ?_
 refine lr (fun u1 hu1 => sn rfl rfl (sn rfl rfl (sv rfl (s_nil (l_seq (lr (fun u2 hu2 => sv rfl (s_nil (l_block (lr (fun u3 hu3 => sv rfl (sv rfl (s_nil (cc rfl h (fun c1 h => ?_) (fun c1 h => ?_)))))))))))))))
 refine l_seq (l_draw rfl fun u4 hu4 => sp rfl rfl (sl rfl (gq rfl) rfl (sv rfl (bs h fun v1 hv1 h => sd rfl (v_idx rfl rfl hv1 rfl) (sd rfl (v_loadLG rfl hv1 rfl rfl) (sp rfl rfl (sl rfl G_hit rfl (sv rfl (bs h fun v2 hv2 h => sd rfl (v_idx rfl rfl hv2 rfl) (sd rfl (v_loadLG rfl hv2 rfl rfl) (bs h fun v3 hv3 h => s_call rfl rfl all2_refl (ref03_SameLane_ok _ _  _ hv3) (.inl rfl) (sv rfl (s_nil (l_ret ?_))))))))))))))
 cases h
 exact fin_ok (.inr rfl) (resD1 (res_t rfl) rf_d) (.refl _)
 refine lr (fun u5 hu5 => sv rfl (sv rfl (s_nil (cc rfl h (fun c2 h => ?_) (fun c2 h => ?_)))))
 refine l_seq (l_draw rfl fun u6 hu6 => sp rfl rfl (sl rfl (gq rfl) rfl (sv rfl (bs h fun v4 hv4 h => sd rfl (v_idx rfl rfl hv4 rfl) (sd rfl (v_loadLG rfl hv4 rfl rfl) (sp rfl rfl (sl rfl G_hit rfl (sv rfl (bs h fun v5 hv5 h => sd rfl (v_idx rfl rfl hv5 rfl) (sd rfl (v_loadLG rfl hv5 rfl rfl) (bs h fun v6 hv6 h => s_call rfl rfl all2_refl (ref03_SameZone_ok _ _  _ hv6) (.inl rfl) (sv rfl (s_nil (l_ret ?_))))))))))))))
 cases h
 exact fin_ok (.inr rfl) (resD1 (res_t rfl) rf_d) (.refl _)
 refine lr (fun u7 hu7 => sv rfl (sv rfl (s_nil (cc rfl h (fun c3 h => ?_) (fun c3 h => ?_)))))
 refine l_seq (l_draw rfl fun u8 hu8 => sp rfl rfl (sl rfl (gq rfl) rfl (sv rfl (bs h fun v7 hv7 h => sd rfl (v_idx rfl rfl hv7 rfl) (sd rfl (v_loadLG rfl hv7 rfl rfl) (sp rfl rfl (sl rfl G_hit rfl (sv rfl (bs h fun v8 hv8 h => sd rfl (v_idx rfl rfl hv8 rfl) (sd rfl (v_loadLG rfl hv8 rfl rfl) (bs h fun v9 hv9 h => s_call rfl rfl all2_refl (ref03_SameSignal_ok _ _  _ hv9) (.inl rfl) (sv rfl (s_nil (l_ret ?_))))))))))))))
 cases h
 exact fin_ok (.inr rfl) (resD1 (res_t rfl) rf_d) (.refl _)
 refine l_skip (l_end (l_seq (l_draw rfl fun u9 hu9 => sp rfl rfl (sl rfl (gq rfl) rfl (sv rfl (bs h fun v10 hv10 h => sd rfl (v_idx rfl rfl hv10 rfl) (sd rfl (v_loadLG rfl hv10 rfl rfl) (sp rfl rfl (sl rfl G_hit rfl (sv rfl (bs h fun v11 hv11 h => sd rfl (v_idx rfl rfl hv11 rfl) (sd rfl (v_loadLG rfl hv11 rfl rfl) (s_val (.d (bo (v10.Lane_ == v11.Lane_ && (v10.From == v11.From && (v10.To == v11.To && (v10.Begin == v11.Begin && (v10.End == v11.End && (v10.Limit == v11.Limit && true)))))))) rfl rfl (sv rfl (s_nil (l_ret ?_))))))))))))))))
 cases h
 exact fin_ok (.inr rfl) (resD1 (res_t rfl) rf_d) (.refl _)

noncomputable def ref03_Same_l2 (p1 : Map) (p2 : Map) (x1 : Int) (x2 : Int) : Option (Stp Int (Sum Unit Bool)) :=
  (ref03_rows p1 x1).bind fun v3 => cond (decide (x2 < v3)) ((ref03_sameRow p1 p2 x1 x2).bind fun v4 => cond (!v4) (some (.out (.inr false))) (some (.go (w64 (x2 + 1))))) (some (.out (.inl ())))
noncomputable def ref03_Same_l1 (p1 : Map) (p2 : Map) (x1 : Int) : Option (Stp Int (Sum Unit Bool)) :=
  cond (decide (x1 ≤ 4)) ((ref03_rows p1 x1).bind fun v1 => (ref03_rows p2 x1).bind fun v2 => cond (v1 != v2) (some (.out (.inr false))) (thenS (loop (ref03_Same_l2 p1 p2 x1) 0) (fun _ => some (.go (w64 (x1 + 1)))) (fun r => some (.out (.inr r))))) (some (.out (.inl ())))
noncomputable def ref03_Same (p1 : Map) (p2 : Map) : Option Bool :=
  thenS (loop (ref03_Same_l1 p1 p2) 1) (fun _ => some (p1.Version == p2.Version)) (fun r => some r)

theorem ref03_Same_ok (p1 : Map) (p2 : Map) (r : Bool) (h : ref03_Same p1 p2 = some r) : PCall Tryz.prog 20 [(.agg (eMap p1)), (.agg (eMap p2))] (bo r) := by
 refine l_call (fk Tryz.func20 Tryz.ntmps20 m0 (by with_unfolding_all rfl)) (nl rfl) ?_
 unfold ref03_Same at h
 refine l_sub (s0 := ⟨T [(0, (.d _)), (1, (.d _))], G []⟩) (sbr rfl rfl) ?_
 refine lr (fun u1 hu1 => sn rfl rfl (sn rfl rfl (sv rfl (s_nil (l_seq (lr (fun u2 hu2 => sv rfl (s_nil (js h fun z1 hz1 h => l_join (fun s => ∃ (y1 : Unit) (g1 : Unit), z1 = .inl y1 ∧ Sb ⟨T [(2, (.ptr (2, u1) 0)), (3, (.ptr (3, u1) 0))], G [((2, u1), some (.box 27 (dMap p1))), ((3, u1), some (.box 27 (dMap p2)))]⟩ s) ?_ ?_)))))))))
 refine l_block (l_loop (ref03_Same_l1 p1 p2) (fun (x1 : Int) (g2 : Unit) => ⟨T [(2, (.ptr (2, u1) 0)), (3, (.ptr (3, u1) 0)), (5, (di x1))], G [((2, u1), some (.box 27 (dMap p1))), ((3, u1), some (.box 27 (dMap p2)))]⟩) 1 () _ hz1 (sbr rfl rfl) ?_)
 intro x1 g2 z2 hz2 ez2
 unfold ref03_Same_l1 at hz2
 refine l_seq (lr (fun u3 hu3 => sv rfl (sv rfl (s_nil (cc rfl hz2 (fun c1 hz2 => ?_) (fun c1 hz2 => ?_))))))
 refine l_skip (l_seq (l_block (l_seq (l_seq (l_draw rfl fun u4 hu4 => sd rfl (v_loadG rfl G_hit rfl rfl) (sv rfl (bs hz2 fun v1 hv1 hz2 => s_call rfl rfl all2_refl (ref03_rows_ok _ _  _ hv1) (.inl rfl) (sd rfl (v_loadG rfl (gq rfl) rfl rfl) (sv rfl (bs hz2 fun v2 hv2 hz2 => s_call rfl rfl all2_refl (ref03_rows_ok _ _  _ hv2) (.inl rfl) (sv rfl (s_nil (cc rfl hz2 (fun c2 hz2 => ?_) (fun c2 hz2 => ?_))))))))))))))
 refine lr (fun u5 hu5 => sv rfl (s_nil (l_ret ?_)))
 cases hz2
 obtain rfl := ez2 _ rfl
 refine ⟨nofun, awl_ret ?_⟩
 rw [Sum.elim_inr] at h
 cases h
 exact fin_ok (.inr rfl) (resD1 (res_t rfl) rf_d) (.refl _)
 refine l_skip (lr (fun u6 hu6 => sv rfl (s_nil (js hz2 fun z3 hz3 hz2 => l_join (fun s => ∃ (y2 : Unit) (g3 : Unit), z3 = .inl y2 ∧ Sb ⟨T [(2, (.ptr (2, u1) 0)), (3, (.ptr (3, u1) 0)), (5, (di x1))], G [((2, u1), some (.box 27 (dMap p1))), ((3, u1), some (.box 27 (dMap p2)))]⟩ s) ?_ ?_))))
 refine l_block (l_loop (ref03_Same_l2 p1 p2 x1) (fun (x2 : Int) (g4 : Unit) => ⟨T [(2, (.ptr (2, u1) 0)), (3, (.ptr (3, u1) 0)), (5, (di x1)), (6, (di x2))], G [((2, u1), some (.box 27 (dMap p1))), ((3, u1), some (.box 27 (dMap p2)))]⟩) 0 () _ hz3 (sbr rfl rfl) ?_)
 intro x2 g4 z4 hz4 ez4
 unfold ref03_Same_l2 at hz4
 refine l_seq (lr (fun u7 hu7 => sv rfl (sd rfl (v_loadG rfl G_hit rfl rfl) (sv rfl (bs hz4 fun v3 hv3 hz4 => s_call rfl rfl all2_refl (ref03_rows_ok _ _  _ hv3) (.inl rfl) (sv rfl (s_nil (cc rfl hz4 (fun c3 hz4 => ?_) (fun c3 hz4 => ?_)))))))))
 refine l_skip (l_seq (l_block (lr (fun u8 hu8 => sd rfl (v_loadG rfl G_hit rfl rfl) (sd rfl (v_loadG rfl (gq rfl) rfl rfl) (sv rfl (sv rfl (bs hz4 fun v4 hv4 hz4 => s_call rfl rfl all2_refl (ref03_sameRow_ok _ _ _ _  _ hv4) (.inl rfl) (s_val (.d (bo (!v4))) rfl rfl (s_nil (cc rfl hz4 (fun c4 hz4 => ?_) (fun c4 hz4 => ?_))))))))))))
 refine lr (fun u9 hu9 => sv rfl (s_nil (l_ret ?_)))
 cases hz4
 obtain rfl := ez4 _ rfl
 refine ⟨nofun, awl_ret ?_⟩
 rw [Sum.elim_inr] at hz2
 cases hz2
 obtain rfl := ez2 _ rfl
 refine ⟨nofun, awl_ret ?_⟩
 rw [Sum.elim_inr] at h
 cases h
 exact fin_ok (.inr rfl) (resD1 (res_t rfl) rf_d) (.refl _)
 refine l_skip (l_end (l_reg fun u10 hu10 => sv rfl (sv rfl (sv rfl (s_nil (l_nil ?_))))))
 cases hz4
 exact ⟨rfl, (), (sbr rfl rfl)⟩
 refine l_exitN rfl ?_
 cases hz4
 obtain rfl := ez4 _ rfl
 refine ⟨nofun, awl_pop rfl (l_j ?_)⟩
 exact ⟨_, (), rfl, (sbr rfl rfl)⟩
 rintro _ ⟨y2, g3, rfl, q1⟩
 rw [Sum.elim_inl] at hz2
 refine l_end (l_sub q1 (l_reg fun u11 hu11 => sv rfl (sv rfl (sv rfl (s_nil (l_nil ?_))))))
 cases hz2
 exact ⟨rfl, (), (sbr rfl rfl)⟩
 refine l_exitN rfl ?_
 cases hz2
 obtain rfl := ez2 _ rfl
 refine ⟨nofun, awl_pop rfl (l_j ?_)⟩
 exact ⟨_, (), rfl, (sbr rfl rfl)⟩
 rintro _ ⟨y1, g1, rfl, q2⟩
 rw [Sum.elim_inl] at h
 refine l_sub q2 (lr (fun u12 hu12 => sp rfl rfl (sl rfl G_hit rfl (sp rfl rfl (sl rfl (gq rfl) rfl (sv rfl (sv rfl (s_nil (l_ret ?_)))))))))
 cases h
 exact fin_ok (.inr rfl) (resD1 (res_t rfl) rf_d) (.refl _)

noncomputable def law03_RoadsChecks (p1 : Map) : Option Bool :=
  (kit_Small p1).bind fun v1 => cond (!v1) ((law03_awake).bind fun v2 => some v2) ((ref03_Copy p1).bind fun v3 => (roads_Check v3).bind fun v4 => (ref03_Check p1).bind fun v5 => ((cond (v4 == v5) (roads_Fit v3) (some default))).bind fun v6 => ((cond (v4 == v5) (ref03_Fit p1) (some default))).bind fun v7 => ((cond ((v4 == v5) && (v6 == v7)) (ref03_Same v3 p1) (some default))).bind fun v8 => ((cond (((v4 == v5) && (v6 == v7)) && v8) (law03_awake) (some default))).bind fun v9 => some ((((v4 == v5) && (v6 == v7)) && v8) && v9))

theorem law03_RoadsChecks_ok (p1 : Map) (r : Bool) (h : law03_RoadsChecks p1 = some r) : PCall Tryz.prog 3 [(.agg (eMap p1))] (bo r) := by
 refine l_call (fk Tryz.func3 Tryz.ntmps3 m0 (by with_unfolding_all rfl)) (nl rfl) ?_
 unfold law03_RoadsChecks at h
 refine l_sub (s0 := ⟨T [(0, (.d _))], G []⟩) (sbr rfl rfl) ?_
 refine lr (fun u1 hu1 => sn rfl rfl (sv rfl (s_nil (l_seq (lr (fun u2 hu2 => sd rfl (v_loadG rfl G_hit rfl rfl) (bs h fun v1 hv1 h => s_call rfl rfl all2_refl (kit_Small_ok _  _ hv1) (.inl rfl) (s_val (.d (bo (!v1))) rfl rfl (s_nil (cc rfl h (fun c1 h => ?_) (fun c1 h => ?_)))))))))))
 refine lr (fun u3 hu3 => bs h fun v2 hv2 h => s_call rfl rfl all2_refl (law03_awake_ok  _ hv2) (.inl rfl) (sv rfl (s_nil (l_ret ?_))))
 cases h
 exact fin_ok (.inr rfl) (resD1 (res_t rfl) rf_d) (.refl _)
 refine l_skip (lr (fun u4 hu4 => sd rfl (v_loadG rfl G_hit rfl rfl) (bs h fun v3 hv3 h => s_call rfl rfl all2_refl (ref03_Copy_ok _  _ hv3) (.inl rfl) (sn rfl rfl (sst rfl G_hit (dMap v3) rfl (s_nil (l_seq (l_draw rfl fun u5 hu5 => sd rfl (v_loadG rfl G_hit rfl rfl) (bs h fun v4 hv4 h => s_call rfl rfl all2_refl (roads_Check_ok _  _ hv4) (.inl rfl) (sd rfl (v_loadG rfl (gq rfl) rfl rfl) (bs h fun v5 hv5 h => s_call rfl rfl all2_refl (ref03_Check_ok _  _ hv5) (.inl rfl) (sv rfl (sv rfl (gt rfl (fun w1 => (v_loadG rfl G_hit rfl rfl)) (bs h fun v6 hv6 h => ?_)))))))))))))))
 refine g_call _ (bo v6) (gw_t rfl) (fun w2 => ⟨_, [(.d (.agg (eMap v3)))], _, _, (by simp only [gd_pos w2]; rfl), rfl, all2_refl, roads_Fit_ok _  _ (cond_t w2 hv6), (.inl rfl)⟩) ?_
 refine gt rfl (fun w3 => (v_loadG rfl (gq rfl) rfl rfl)) (bs h fun v7 hv7 h => ?_)
 refine g_call _ (bo v7) (gw_t rfl) (fun w4 => ⟨_, [(.d (.agg (eMap p1)))], _, _, (by simp only [gd_pos w4]; rfl), rfl, all2_refl, ref03_Fit_ok _  _ (cond_t w4 hv7), (.inl rfl)⟩) ?_
 refine g_val _ (.d (bo (v6 == v7))) rfl (gw_t rfl) (fun w5 => (by simp only [gd_pos w5]; rfl)) ?_
 refine sa rfl rfl rfl (sv rfl (gt rfl (fun w6 => (v_loadG rfl G_hit rfl rfl)) (gt rfl (fun w7 => (v_loadG rfl (gq rfl) rfl rfl)) (bs h fun v8 hv8 h => ?_))))
 refine g_call _ (bo v8) (gw_t rfl) (fun w8 => ⟨_, [(.d (.agg (eMap v3))), (.d (.agg (eMap p1)))], _, _, (by simp only [gd_pos w8]; rfl), rfl, all2_refl, ref03_Same_ok _ _  _ (cond_t w8 hv8), (.inl rfl)⟩) ?_
 refine sa rfl rfl rfl (sv rfl (bs h fun v9 hv9 h => g_call _ (bo v9) (gw_t rfl) (fun w9 => ⟨_, _, _, _, rfl, rfl, all2_refl, law03_awake_ok  _ (cond_t w9 hv9), (.inl rfl)⟩) (sa rfl rfl rfl (sv rfl (s_nil (l_ret ?_))))))
 cases h
 exact fin_ok (.inr rfl) (resD1 (res_t rfl) rf_d) (.refl _)
end Go.Abs.Roadsz
