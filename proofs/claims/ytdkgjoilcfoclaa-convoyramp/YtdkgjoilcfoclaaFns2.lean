/-
  The functions, part 2.
-/
import Derived.Test.YtdkgjoilcfoclaaFns1
set_option maxRecDepth 20000
set_option linter.unusedVariables false
namespace Go.Abs.Convoy
open Go Go.Abs Go.Proofs
attribute [local irreducible] regW regT AWL

noncomputable def convoy_orders_l2 (p1 : Convoy) (x2 : Int) : Option (Stp Int (Sum Unit Int)) :=
  cond (decide (x2 < (p1.Mates.length : Int))) ((geti p1.Mates x2).bind fun v2 => ((cond (decide (x2 > 0)) (geti p1.Mates (w64 (x2 - 1))) (some default))).bind fun v3 => ((cond (decide (x2 > 0)) (convoy_rear v3) (some default))).bind fun v4 => cond ((decide (x2 > 0)) && (decide (v2.S ≥ v4))) (some (.out (.inr 11))) (some (.go (w64 (x2 + 1))))) (some (.out (.inl ())))
noncomputable def convoy_orders_l1 (p1 : Convoy) (x1 : (Int × (List Int))) : Option (Stp (Int × (List Int)) (Sum Unit Int)) :=
  cond (decide (x1.1 < (p1.Mates.length : Int))) ((geti p1.Mates x1.1).bind fun v1 => cond (x1.2.contains v1.ID) (some (.out (.inr 9))) (some (.go ((w64 (x1.1 + 1)), (insm x1.2 v1.ID))))) (some (.out (.inl ())))
noncomputable def convoy_orders (p1 : Convoy) : Option Int :=
  thenS (loop (convoy_orders_l1 p1) (0, (insm ([] : List Int) p1.Guest_.ID))) (fun _ => thenS (loop (convoy_orders_l2 p1) 0) (fun _ => some 0) (fun r => some r)) (fun r => some r)

/-- kerbstone/convoy.orders -/
def ac_convoy_orders : AC := (.seq (.reg [oo 1 (.box 38 true (.t 0)), oo 2 (.mv (ci 0))]) (.seq (.reg [oo 8 (.mkmap), oo 9 (.fieldA 3 (.t 1)), oo 10 (.fieldA 0 (.t 9)), oo 11 (.load 1 false (.t 10)), oe (.mins (.t 8) (.t 11)), oo 12 (.mv (.t 8)), oo 3 (.mv (.t 12))]) (.seq (.seq (.reg [oo 13 (.fieldA 2 (.t 1)), oo 14 (.load 1 false (.t 13)), oo 15 (.len (.t 14)), oo 16 (.mv (ci 0))]) (.block 0 (.loop (.seq (.reg [oo 17 (.bin .lss (.t 16) (.t 15))]) (.seq (.cond (.t 17) .skip (.exit 0)) (.seq (.block 1 (.seq (.reg [oo 18 (.idxS 12 (.t 14) (.t 16)), oo 19 (.load 12 true (.t 18)), oo 5 (.alloc 65 [z0, z0, z0, z0, z0, z0, z0, zf, z0, z0, z0, z0]), oe (.store 12 (.t 5) (.t 19))]) (.seq (.seq (.reg [oo 20 (.mv (.t 3)), oo 21 (.fieldA 0 (.t 5)), oo 22 (.load 1 false (.t 21)), oo 23 (.mlook (.t 20) (.t 22))]) (.cond (.t 23) (.seq (.reg [oo 2 (.mv (ci 9))]) .ret) .skip)) (.reg [oo 24 (.mv (.t 3)), oo 25 (.fieldA 0 (.t 5)), oo 26 (.load 1 false (.t 25)), oe (.mins (.t 24) (.t 26))])))) (.reg [oo 27 (.bin .add (.t 16) (ci 1)), oo 16 (.mv (.t 27))]))))))) (.seq (.seq (.reg [oo 28 (.fieldA 2 (.t 1)), oo 29 (.load 1 false (.t 28)), oo 30 (.len (.t 29)), oo 31 (.mv (ci 0))]) (.block 2 (.loop (.seq (.reg [oo 32 (.bin .lss (.t 31) (.t 30))]) (.seq (.cond (.t 32) .skip (.exit 2)) (.seq (.block 3 (.seq (.reg [oo 33 (.mv (.t 31)), oo 34 (.idxS 12 (.t 29) (.t 31)), oo 35 (.load 12 true (.t 34)), oo 7 (.alloc 65 [z0, z0, z0, z0, z0, z0, z0, zf, z0, z0, z0, z0]), oo 6 (.mv (.t 33)), oe (.store 12 (.t 7) (.t 35))]) (.seq (.draw [oo 36 (.mv (.t 6)), oo 37 (.bin .gtr (.t 36) (ci 0)), oo 38 (.mv (.t 37)), og 39 (.fieldA 1 (.t 7)) 38, og 40 (.load 1 false (.t 39)) 38, og 41 (.fieldA 2 (.t 1)) 38, og 42 (.load 1 false (.t 41)) 38, og 43 (.mv (.t 6)) 38, og 44 (.bin .sub (.t 43) (ci 1)) 38, og 45 (.idxS 12 (.t 42) (.t 44)) 38, og 46 (.load 12 true (.t 45)) 38, og 47 (.call (cf 67) [(.t 46)]) 38, og 48 (.bin .geq (.t 40) (.t 47)) 38, oo 49 (.pick (.t 38) (.t 48) (.c zf))] []) (.cond (.t 49) (.seq (.reg [oo 2 (.mv (ci 11))]) .ret) .skip)))) (.reg [oo 50 (.bin .add (.t 31) (ci 1)), oo 31 (.mv (.t 50))]))))))) (.seq (.reg [oo 2 (.mv (ci 0))]) .ret)))))
theorem fn_convoy_orders : FnOK Try.prog 74 51 [.t 2] ac_convoy_orders := ⟨_, _, Try.func74, rfl, Try.ntmps74, by kernel_rfl, ⟨fun _ => [], by kernel_rfl⟩, by kernel_rfl⟩
set_option maxHeartbeats 4000000 in
theorem convoy_orders_ok (p1 : Convoy) (r : Int) (h : convoy_orders p1 = some r) : PCall Try.prog 74 [(.agg (eConvoy p1))] (i64 r) := by
  refine l_call fn_convoy_orders (nl rfl) ?_
  unfold convoy_orders at h
  unfold ac_convoy_orders
  refine l_sub (s0 := ⟨T [(0, (.d _))], G []⟩) (sbr rfl rfl) ?_
  refine lr (fun u1 hu1 => sn rfl rfl (sv rfl (s_nil (lr (fun u2 hu2 => s_new (.sl _) (.mp _) rfl rfl (sp rfl rfl (sp rfl rfl (sl rfl (gq rfl) rfl (s_mins rfl rfl G_hit (ss rfl (ss rfl (s_nil (l_seq (lr (fun u3 hu3 => sp rfl rfl (sl rfl (gq rfl) rfl (sd rfl (v_len rfl) (sv rfl (s_nil (js h fun z1 hz1 h => l_join (fun s => ∃ (y1 : Unit) (g1 : Unit), z1 = .inl y1 ∧ Sb ⟨T [(1, (.ptr (1, u1) 0))], G [((1, u1), some (.box 38 (dConvoy p1)))]⟩ s) ?_ ?_))))))))))))))))))))
  · refine l_block (l_loop (convoy_orders_l1 p1) (fun (x1 : (Int × (List Int))) (g2 : Unit) => ⟨T [(1, (.ptr (1, u1) 0)), (3, (.sl (8, u2))), (14, (dl eMate p1.Mates)), (15, (di (p1.Mates.length : Int))), (16, (di x1.1))], G [((1, u1), some (.box 38 (dConvoy p1))), ((8, u2), some (.mp x1.2))]⟩) (0, (insm ([] : List Int) p1.Guest_.ID)) () _ hz1 (sbr rfl rfl) ?_)
    intro x1 g2 z2 hz2 ez2
    unfold convoy_orders_l1 at hz2
    refine lr (fun u4 hu4 => sv rfl (s_nil (l_seq (cc rfl hz2 (fun c1 hz2 => ?_) (fun c1 hz2 => ?_)))))
    · refine l_skip (l_seq (l_block (lr (fun u5 hu5 => bs hz2 fun v1 hv1 hz2 => sd rfl (v_idx rfl rfl hv1 rfl) (sd rfl (v_loadLG rfl hv1 rfl rfl) (sn rfl rfl (sst rfl G_hit (dMate v1) rfl (s_nil (l_seq (lr (fun u6 hu6 => ss rfl (sp rfl rfl (sl rfl G_hit rfl (sd rfl (v_mlook rfl rfl (gq rfl)) (s_nil (cc rfl hz2 (fun c2 hz2 => ?_) (fun c2 hz2 => ?_)))))))))))))))))
      · refine lr (fun u7 hu7 => sv rfl (s_nil (l_ret ?_)))
        obtain rfl := Option.some.inj hz2
        obtain rfl := ez2 _ rfl
        refine ⟨nofun, awl_ret ?_⟩
        rw [Sum.elim_inr] at h
        obtain rfl := Option.some.inj h
        exact fin_ok (.inr rfl) (resD1 (res_t rfl) rf_d) (.refl _)
      · refine l_skip (l_reg fun u8 hu8 => ss rfl (sp rfl rfl (sl rfl G_hit rfl (s_mins rfl rfl (gq rfl) (s_nil (l_end (l_reg fun u9 hu9 => sv rfl (sv rfl (s_nil (l_nil ?_))))))))))
        obtain rfl := Option.some.inj hz2
        exact ⟨rfl, (), (sbr rfl rfl)⟩
    · refine l_exitN rfl ?_
      obtain rfl := Option.some.inj hz2
      obtain rfl := ez2 _ rfl
      refine ⟨nofun, awl_pop rfl (l_j ?_)⟩
      exact ⟨_, (), rfl, (sbr rfl rfl)⟩
  · rintro _ ⟨y1, g1, rfl, q1⟩
    rw [Sum.elim_inl] at h
    refine l_sub q1 (l_seq (lr (fun u10 hu10 => sp rfl rfl (sl rfl G_hit rfl (sd rfl (v_len rfl) (sv rfl (s_nil (js h fun z3 hz3 h => l_join (fun s => ∃ (y2 : Unit) (g3 : Unit), z3 = .inl y2 ∧ Sb ⟨T [], G []⟩ s) ?_ ?_))))))))
    · refine l_block (l_loop (convoy_orders_l2 p1) (fun (x2 : Int) (g4 : Unit) => ⟨T [(1, (.ptr (1, u1) 0)), (29, (dl eMate p1.Mates)), (30, (di (p1.Mates.length : Int))), (31, (di x2))], G [((1, u1), some (.box 38 (dConvoy p1)))]⟩) 0 () _ hz3 (sbr rfl rfl) ?_)
      intro x2 g4 z4 hz4 ez4
      unfold convoy_orders_l2 at hz4
      refine lr (fun u11 hu11 => sv rfl (s_nil (l_seq (cc rfl hz4 (fun c3 hz4 => ?_) (fun c3 hz4 => ?_)))))
      · refine l_skip (l_seq (l_block (lr (fun u12 hu12 => sv rfl (bs hz4 fun v2 hv2 hz4 => sd rfl (v_idx rfl rfl hv2 rfl) (sd rfl (v_loadLG rfl hv2 rfl rfl) (sn rfl rfl (sv rfl (sst rfl G_hit (dMate v2) rfl (s_nil (l_seq (l_draw rfl fun u13 hu13 => sv rfl (sv rfl (sv rfl (gp rfl (gw_t rfl) (fun _ => rfl) (gt rfl (vl rfl G_hit rfl) (gp rfl (gw_t rfl) (fun _ => rfl) (gt rfl (vl rfl (gq rfl) rfl) (gt rfl (fun _ => rfl) (gt rfl (vb rfl rfl rfl) (bs hz4 fun v3 hv3 hz4 => gt rfl (fun w7 => (v_idx (gd_pos w7) (gd_pos w7) (cond_t w7 hv3) rfl)) (gt rfl (fun w8 => (v_loadLG (gd_pos w8) (cond_t w8 hv3) rfl rfl)) (bs hz4 fun v4 hv4 hz4 => ?_)))))))))))))))))))))))
        refine g_call _ (i64 v4) (gw_t rfl) (fun w9 => ⟨_, [(.d (.agg (eMate v3)))], _, _, (by simp only [gd_pos w9]; rfl), rfl, all2_refl, convoy_rear_ok _  _ (cond_t w9 hv4), (.inl rfl)⟩) ?_
        refine gt rfl (fun w10 => (v_bin (gd_pos w10) (gd_pos w10) rfl)) (sa rfl rfl rfl (s_nil (cc rfl hz4 (fun c4 hz4 => ?_) (fun c4 hz4 => ?_))))
        · refine l_seq (l_sub (s0 := ⟨T [], G []⟩) (sbr rfl rfl) ?_)
          refine l_reg fun u14 hu14 => sv rfl (s_nil (l_ret ?_))
          obtain rfl := Option.some.inj hz4
          obtain rfl := ez4 _ rfl
          refine ⟨nofun, awl_ret ?_⟩
          rw [Sum.elim_inr] at h
          obtain rfl := Option.some.inj h
          exact fin_ok (.inr rfl) (resD1 (res_t rfl) rf_d) (.refl _)
        · refine l_skip (l_end (l_sub (s0 := ⟨T [(1, (.ptr _ _)), (29, (.d _)), (30, (.d _)), (31, (.d _))], G [((1, u1), some (.box 38 _))]⟩) (sbr rfl rfl) ?_))
          refine l_reg fun u15 hu15 => sv rfl (sv rfl (s_nil (l_nil ?_)))
          obtain rfl := Option.some.inj hz4
          exact ⟨rfl, (), (sbr rfl rfl)⟩
      · refine l_exitN rfl ?_
        obtain rfl := Option.some.inj hz4
        obtain rfl := ez4 _ rfl
        refine ⟨nofun, awl_pop rfl (l_j ?_)⟩
        exact ⟨_, (), rfl, (sbr rfl rfl)⟩
    · rintro _ ⟨y2, g3, rfl, q2⟩
      rw [Sum.elim_inl] at h
      refine l_sub q2 (lr (fun u16 hu16 => sv rfl (s_nil (l_ret ?_))))
      obtain rfl := Option.some.inj h
      exact fin_ok (.inr rfl) (resD1 (res_t rfl) rf_d) (.refl _)

noncomputable def convoy_sane_1 (p1 : Int) : Option Bool :=
  (convoy_within p1 (-4398046511104) 4398046511104).bind fun v1 => some (!v1)

/-- kerbstone/convoy.sane$1 -/
def ac_convoy_sane_1 : AC := (.seq (.reg [oo 2 (.mv (.c zf))]) (.seq (.reg [oo 3 (.mv (.t 0)), oo 4 (.call (cf 95) [(.t 3), (ci (-4398046511104)), (ci 4398046511104)]), oo 5 (.un .not (.t 4)), oo 2 (.mv (.t 5))]) .ret))
theorem fn_convoy_sane_1 : FnOK Try.prog 94 6 [.t 2] ac_convoy_sane_1 := ⟨_, _, Try.func94, rfl, Try.ntmps94, by kernel_rfl, ⟨fun _ => [], by kernel_rfl⟩, by kernel_rfl⟩
theorem convoy_sane_1_ok (p1 : Int) (r : Bool) (h : convoy_sane_1 p1 = some r) : PCall Try.prog 94 [(i64 p1)] (bo r) := by
  refine l_call fn_convoy_sane_1 (nl rfl) ?_
  unfold convoy_sane_1 at h
  unfold ac_convoy_sane_1
  refine l_sub (s0 := ⟨T [(0, (.d _))], G []⟩) (sbr rfl rfl) ?_
  refine lr (fun u1 hu1 => sv rfl (s_nil (lr (fun u2 hu2 => sv rfl (bs h fun v1 hv1 h => s_call rfl rfl all2_refl (convoy_within_ok _ _ _  _ hv1) (.inl rfl) (s_val (.d (bo (!v1))) rfl rfl (sv rfl (s_nil (l_ret ?_)))))))))
  obtain rfl := Option.some.inj h
  exact fin_ok (.inr rfl) (resD1 (res_t rfl) rf_d) (.refl _)

noncomputable def slices_IndexFunc_int64_int64_convoy_sane_1_l1 (p1 : (List Int)) (x1 : Int) : Option (Stp Int (Sum Unit Int)) :=
  cond (decide (x1 < (p1.length : Int))) ((geti p1 x1).bind fun v1 => (convoy_sane_1 v1).bind fun v2 => cond v2 (some (.out (.inr x1))) (some (.go (w64 (x1 + 1))))) (some (.out (.inl ())))
noncomputable def slices_IndexFunc_int64_int64_convoy_sane_1 (p1 : (List Int)) : Option Int :=
  thenS (loop (slices_IndexFunc_int64_int64_convoy_sane_1_l1 p1) 0) (fun _ => some (-1)) (fun r => some r)

/-- slices.IndexFunc[[]int64,int64] -/
def ac_slices_IndexFunc_int64_int64_convoy_sane_1 : AC := (.seq (.reg [oo 4 (.mv (ci 0))]) (.seq (.seq (.reg [oo 6 (.mv (.t 0)), oo 7 (.len (.t 6)), oo 8 (.mv (ci 0))]) (.block 0 (.loop (.seq (.reg [oo 9 (.bin .lss (.t 8) (.t 7))]) (.seq (.cond (.t 9) .skip (.exit 0)) (.seq (.block 1 (.seq (.reg [oo 10 (.mv (.t 8)), oo 5 (.mv (.t 10))]) (.seq (.reg [oo 11 (.mv (.t 1)), oo 12 (.mv (.t 0)), oo 13 (.mv (.t 5)), oo 14 (.idxS 1 (.t 12) (.t 13)), oo 15 (.load 1 false (.t 14)), oo 16 (.call (.t 11) [(.t 15)])]) (.cond (.t 16) (.seq (.reg [oo 17 (.mv (.t 5)), oo 4 (.mv (.t 17))]) .ret) .skip)))) (.reg [oo 18 (.bin .add (.t 8) (ci 1)), oo 8 (.mv (.t 18))]))))))) (.seq (.reg [oo 4 (.mv (ci (-1)))]) .ret)))
theorem fn_slices_IndexFunc_int64_int64_convoy_sane_1 : FnOK Try.prog 121 19 [.t 4] ac_slices_IndexFunc_int64_int64_convoy_sane_1 := ⟨_, _, Try.func121, rfl, Try.ntmps121, by kernel_rfl, ⟨fun _ => [], by kernel_rfl⟩, by kernel_rfl⟩
set_option maxHeartbeats 4000000 in
theorem slices_IndexFunc_int64_int64_convoy_sane_1_ok (p1 : (List Int)) (r : Int) (h : slices_IndexFunc_int64_int64_convoy_sane_1 p1 = some r) : PCall Try.prog 121 [(.list (List.map eInt_i64 p1)), (.fn (.func 94) [] [])] (i64 r) := by
  refine l_call fn_slices_IndexFunc_int64_int64_convoy_sane_1 (nl rfl) ?_
  unfold slices_IndexFunc_int64_int64_convoy_sane_1 at h
  unfold ac_slices_IndexFunc_int64_int64_convoy_sane_1
  refine l_sub (s0 := ⟨T [(0, (.d _)), (1, (.d _))], G []⟩) (sbr rfl rfl) ?_
  refine lr (fun u1 hu1 => sv rfl (s_nil (l_seq (lr (fun u2 hu2 => sv rfl (sd rfl (v_len rfl) (sv rfl (s_nil (js h fun z1 hz1 h => l_join (fun s => ∃ (y1 : Unit) (g1 : Unit), z1 = .inl y1 ∧ Sb ⟨T [], G []⟩ s) ?_ ?_)))))))))
  · refine l_block (l_loop (slices_IndexFunc_int64_int64_convoy_sane_1_l1 p1) (fun (x1 : Int) (g2 : Unit) => ⟨T [(0, (dl eInt_i64 p1)), (1, (.d (.fn (.func 94) [] []))), (7, (di (p1.length : Int))), (8, (di x1))], G []⟩) 0 () _ hz1 (sbr rfl rfl) ?_)
    intro x1 g2 z2 hz2 ez2
    unfold slices_IndexFunc_int64_int64_convoy_sane_1_l1 at hz2
    refine lr (fun u3 hu3 => sv rfl (s_nil (l_seq (cc rfl hz2 (fun c1 hz2 => ?_) (fun c1 hz2 => ?_)))))
    · refine l_skip (l_seq (l_block (lr (fun u4 hu4 => sv rfl (sv rfl (s_nil (lr (fun u5 hu5 => sv rfl (sv rfl (sv rfl (bs hz2 fun v1 hv1 hz2 => sd rfl (v_idx rfl rfl hv1 rfl) (sd rfl (v_loadL rfl hv1 rfl) (bs hz2 fun v2 hv2 hz2 => s_call rfl rfl all2_refl (convoy_sane_1_ok _  _ hv2) (.inl rfl) (s_nil (cc rfl hz2 (fun c2 hz2 => ?_) (fun c2 hz2 => ?_))))))))))))))))
      · refine lr (fun u6 hu6 => sv rfl (sv rfl (s_nil (l_ret ?_))))
        obtain rfl := Option.some.inj hz2
        obtain rfl := ez2 _ rfl
        refine ⟨nofun, awl_ret ?_⟩
        rw [Sum.elim_inr] at h
        obtain rfl := Option.some.inj h
        exact fin_ok (.inr rfl) (resD1 (res_t rfl) rf_d) (.refl _)
      · refine l_skip (l_end (l_reg fun u7 hu7 => sv rfl (sv rfl (s_nil (l_nil ?_)))))
        obtain rfl := Option.some.inj hz2
        exact ⟨rfl, (), (sbr rfl rfl)⟩
    · refine l_exitN rfl ?_
      obtain rfl := Option.some.inj hz2
      obtain rfl := ez2 _ rfl
      refine ⟨nofun, awl_pop rfl (l_j ?_)⟩
      exact ⟨_, (), rfl, (sbr rfl rfl)⟩
  · rintro _ ⟨y1, g1, rfl, q1⟩
    rw [Sum.elim_inl] at h
    refine l_sub q1 (lr (fun u8 hu8 => sv rfl (s_nil (l_ret ?_))))
    obtain rfl := Option.some.inj h
    exact fin_ok (.inr rfl) (resD1 (res_t rfl) rf_d) (.refl _)

noncomputable def slices_ContainsFunc_int64_int64_convoy_sane_1 (p1 : (List Int)) : Option Bool :=
  (slices_IndexFunc_int64_int64_convoy_sane_1 p1).bind fun v1 => some (decide (v1 ≥ 0))

/-- slices.ContainsFunc[[]int64,int64] -/
def ac_slices_ContainsFunc_int64_int64_convoy_sane_1 : AC := (.seq (.reg [oo 4 (.mv (.c zf))]) (.seq (.reg [oo 5 (.mv (.t 0)), oo 6 (.mv (.t 1)), oo 7 (.call (cf 121) [(.t 5), (.t 6)]), oo 8 (.bin .geq (.t 7) (ci 0)), oo 4 (.mv (.t 8))]) .ret))
theorem fn_slices_ContainsFunc_int64_int64_convoy_sane_1 : FnOK Try.prog 93 9 [.t 4] ac_slices_ContainsFunc_int64_int64_convoy_sane_1 := ⟨_, _, Try.func93, rfl, Try.ntmps93, by kernel_rfl, ⟨fun _ => [], by kernel_rfl⟩, by kernel_rfl⟩
theorem slices_ContainsFunc_int64_int64_convoy_sane_1_ok (p1 : (List Int)) (r : Bool) (h : slices_ContainsFunc_int64_int64_convoy_sane_1 p1 = some r) : PCall Try.prog 93 [(.list (List.map eInt_i64 p1)), (.fn (.func 94) [] [])] (bo r) := by
  refine l_call fn_slices_ContainsFunc_int64_int64_convoy_sane_1 (nl rfl) ?_
  unfold slices_ContainsFunc_int64_int64_convoy_sane_1 at h
  unfold ac_slices_ContainsFunc_int64_int64_convoy_sane_1
  refine l_sub (s0 := ⟨T [(0, (.d _)), (1, (.d _))], G []⟩) (sbr rfl rfl) ?_
  refine lr (fun u1 hu1 => sv rfl (s_nil (lr (fun u2 hu2 => sv rfl (sv rfl (bs h fun v1 hv1 h => s_call rfl rfl all2_refl (slices_IndexFunc_int64_int64_convoy_sane_1_ok _  _ hv1) (.inl rfl) (sv rfl (sv rfl (s_nil (l_ret ?_))))))))))
  obtain rfl := Option.some.inj h
  exact fin_ok (.inr rfl) (resD1 (res_t rfl) rf_d) (.refl _)

noncomputable def convoy_sane (p1 : (List Int)) : Option Bool :=
  (slices_ContainsFunc_int64_int64_convoy_sane_1 p1).bind fun v1 => some (!v1)

/-- kerbstone/convoy.sane -/
def ac_convoy_sane : AC := (.seq (.reg [oo 2 (.mv (.c zf))]) (.seq (.reg [oo 3 (.mv (.t 0)), oo 4 (.call (cf 93) [(.t 3), (cf 94)]), oo 5 (.un .not (.t 4)), oo 2 (.mv (.t 5))]) .ret))
theorem fn_convoy_sane : FnOK Try.prog 59 6 [.t 2] ac_convoy_sane := ⟨_, _, Try.func59, rfl, Try.ntmps59, by kernel_rfl, ⟨fun _ => [], by kernel_rfl⟩, by kernel_rfl⟩
theorem convoy_sane_ok (p1 : (List Int)) (r : Bool) (h : convoy_sane p1 = some r) : PCall Try.prog 59 [(.list (List.map eInt_i64 p1))] (bo r) := by
  refine l_call fn_convoy_sane (nl rfl) ?_
  unfold convoy_sane at h
  unfold ac_convoy_sane
  refine l_sub (s0 := ⟨T [(0, (.d _))], G []⟩) (sbr rfl rfl) ?_
  refine lr (fun u1 hu1 => sv rfl (s_nil (lr (fun u2 hu2 => sv rfl (bs h fun v1 hv1 h => s_call rfl rfl all2_refl (slices_ContainsFunc_int64_int64_convoy_sane_1_ok _  _ hv1) (.inl rfl) (s_val (.d (bo (!v1))) rfl rfl (sv rfl (s_nil (l_ret ?_)))))))))
  obtain rfl := Option.some.inj h
  exact fin_ok (.inr rfl) (resD1 (res_t rfl) rf_d) (.refl _)

noncomputable def world_Stop (p1 : Int) (p2 : Int) : Option Int :=
  cond ((decide (p1 < 1)) || (decide (p2 < 1))) (some 0) ((quoc .i64 (w64 ((mm2 false p1 1000000) - 1)) (mm2 false p2 1000000)).bind fun v1 => some (w64 ((w64 (v1 * (mm2 false p1 1000000))) - (w64 ((mm2 false p2 1000000) * (w64 ((w64 (v1 * (w64 (v1 + 1)))).tdiv 2)))))))

/-- kerbstone/world.Stop -/
def ac_world_Stop : AC := (.seq (.reg [oo 4 (.mv (ci 0))]) (.seq (.seq (.reg [oo 6 (.mv (.t 0)), oo 7 (.bin .lss (.t 6) (ci 1)), oo 8 (.mv (.t 7)), oh 9 (.mv (.t 1)) 8, oh 10 (.bin .lss (.t 9) (ci 1)) 8, oo 11 (.pick (.t 8) (.c (.v (.bool true))) (.t 10))]) (.cond (.t 11) (.seq (.reg [oo 4 (.mv (ci 0))]) .ret) .skip)) (.seq (.reg [oo 12 (.mv (.t 0)), oo 13 (.mm false (.t 12) [(ci 1000000)]), oo 14 (.mv (.t 1)), oo 15 (.mm false (.t 14) [(ci 1000000)]), oo 0 (.mv (.t 13)), oo 1 (.mv (.t 15))]) (.seq (.reg [oo 16 (.mv (.t 0)), oo 17 (.bin .sub (.t 16) (ci 1)), oo 18 (.mv (.t 1)), oo 19 (.bin .quo (.t 17) (.t 18)), oo 5 (.mv (.t 19))]) (.seq (.reg [oo 20 (.mv (.t 5)), oo 21 (.mv (.t 0)), oo 22 (.bin .mul (.t 20) (.t 21)), oo 23 (.mv (.t 1)), oo 24 (.mv (.t 5)), oo 25 (.mv (.t 5)), oo 26 (.bin .add (.t 25) (ci 1)), oo 27 (.bin .mul (.t 24) (.t 26)), oo 28 (.bin .quo (.t 27) (ci 2)), oo 29 (.bin .mul (.t 23) (.t 28)), oo 30 (.bin .sub (.t 22) (.t 29)), oo 4 (.mv (.t 30))]) .ret)))))
theorem fn_world_Stop : FnOK Try.prog 96 31 [.t 4] ac_world_Stop := ⟨_, _, Try.func96, rfl, Try.ntmps96, by kernel_rfl, ⟨fun _ => [], by kernel_rfl⟩, by kernel_rfl⟩
set_option maxHeartbeats 4000000 in
theorem world_Stop_ok (p1 : Int) (p2 : Int) (r : Int) (h : world_Stop p1 p2 = some r) : PCall Try.prog 96 [(i64 p1), (i64 p2)] (i64 r) := by
  refine l_call fn_world_Stop (nl rfl) ?_
  unfold world_Stop at h
  unfold ac_world_Stop
  refine l_sub (s0 := ⟨T [(0, (.d _)), (1, (.d _))], G []⟩) (sbr rfl rfl) ?_
  refine lr (fun u1 hu1 => sv rfl (s_nil (l_seq (lr (fun u2 hu2 => sv rfl (sv rfl (sv rfl (gf rfl (fun _ => rfl) (gf rfl (vb rfl rfl rfl) (sd rfl (v_or rfl rfl (fun hc => gd_pos (not_t hc))) (s_nil (cc rfl h (fun c1 h => ?_) (fun c1 h => ?_)))))))))))))
  · refine lr (fun u3 hu3 => sv rfl (s_nil (l_ret ?_)))
    obtain rfl := Option.some.inj h
    exact fin_ok (.inr rfl) (resD1 (res_t rfl) rf_d) (.refl _)
  · refine l_skip (lr (fun u4 hu4 => sv rfl (sv rfl (sv rfl (sv rfl (sv rfl (sv rfl (s_nil (lr (fun u5 hu5 => sv rfl (sv rfl (sv rfl (bs h fun v1 hv1 h => sd rfl (v_quo rfl rfl hv1) (sv rfl (s_nil (lr (fun u6 hu6 => sv rfl (sv rfl (sv rfl (sv rfl (sv rfl (sv rfl (sv rfl (sv rfl (sv rfl (sv rfl (sv rfl (sv rfl (s_nil (l_ret ?_))))))))))))))))))))))))))))))
    obtain rfl := Option.some.inj h
    exact fin_ok (.inr rfl) (resD1 (res_t rfl) rf_d) (.refl _)

noncomputable def convoy_stop (p1 : Int) : Option Int :=
  (world_Stop p1 90).bind fun v1 => some v1

/-- kerbstone/convoy.stop -/
def ac_convoy_stop : AC := (.seq (.reg [oo 2 (.mv (ci 0))]) (.seq (.reg [oo 3 (.mv (.t 0)), oo 4 (.call (cf 96) [(.t 3), (ci 90)]), oo 2 (.mv (.t 4))]) .ret))
theorem fn_convoy_stop : FnOK Try.prog 62 5 [.t 2] ac_convoy_stop := ⟨_, _, Try.func62, rfl, Try.ntmps62, by kernel_rfl, ⟨fun _ => [], by kernel_rfl⟩, by kernel_rfl⟩
theorem convoy_stop_ok (p1 : Int) (r : Int) (h : convoy_stop p1 = some r) : PCall Try.prog 62 [(i64 p1)] (i64 r) := by
  refine l_call fn_convoy_stop (nl rfl) ?_
  unfold convoy_stop at h
  unfold ac_convoy_stop
  refine l_sub (s0 := ⟨T [(0, (.d _))], G []⟩) (sbr rfl rfl) ?_
  refine lr (fun u1 hu1 => sv rfl (s_nil (lr (fun u2 hu2 => sv rfl (bs h fun v1 hv1 h => s_call rfl rfl all2_refl (world_Stop_ok _ _  _ hv1) (.inl rfl) (sv rfl (s_nil (l_ret ?_))))))))
  obtain rfl := Option.some.inj h
  exact fin_ok (.inr rfl) (resD1 (res_t rfl) rf_d) (.refl _)

noncomputable def convoy_end (p1 : Guess) : Option Int :=
  (convoy_stop p1.V).bind fun v1 => some (w64 (p1.R + v1))

/-- kerbstone/convoy.end -/
def ac_convoy_end : AC := (.seq (.reg [oo 1 (.box 23 true (.t 0)), oo 2 (.mv (ci 0))]) (.seq (.draw [oo 3 (.fieldA 0 (.t 1)), oo 4 (.load 1 false (.t 3)), oo 5 (.fieldA 1 (.t 1)), oo 6 (.load 1 false (.t 5)), oo 7 (.call (cf 62) [(.t 6)]), oo 8 (.bin .add (.t 4) (.t 7)), oo 2 (.mv (.t 8))] []) .ret))
theorem fn_convoy_end : FnOK Try.prog 61 9 [.t 2] ac_convoy_end := ⟨_, _, Try.func61, rfl, Try.ntmps61, by kernel_rfl, ⟨fun _ => [], by kernel_rfl⟩, by kernel_rfl⟩
theorem convoy_end_ok (p1 : Guess) (r : Int) (h : convoy_end p1 = some r) : PCall Try.prog 61 [(.agg [(i64 p1.R), (i64 p1.V)])] (i64 r) := by
  refine l_call fn_convoy_end (nl rfl) ?_
  unfold convoy_end at h
  unfold ac_convoy_end
  refine l_sub (s0 := ⟨T [(0, (.d _))], G []⟩) (sbr rfl rfl) ?_
  refine lr (fun u1 hu1 => sn rfl rfl (sv rfl (s_nil (l_seq (l_draw rfl fun u2 hu2 => sp rfl rfl (sl rfl G_hit rfl (sp rfl rfl (sl rfl G_hit rfl (bs h fun v1 hv1 h => s_call rfl rfl all2_refl (convoy_stop_ok _  _ hv1) (.inl rfl) (sv rfl (sv rfl (s_nil (l_ret ?_)))))))))))))
  obtain rfl := Option.some.inj h
  exact fin_ok (.inr rfl) (resD1 (res_t rfl) rf_d) (.refl _)

noncomputable def convoy_Safe (p1 : Int) (p2 : Int) (p3 : Int) (p4 : Guess) : Option Bool :=
  (convoy_sane [p1, p2, p3, p4.R, p4.V]).bind fun v1 => ((cond (v1 && (decide (p1 ≤ (w64 (p4.R - p3))))) (convoy_stop p2) (some default))).bind fun v2 => ((cond (v1 && (decide (p1 ≤ (w64 (p4.R - p3))))) (convoy_end p4) (some default))).bind fun v3 => some ((v1 && (decide (p1 ≤ (w64 (p4.R - p3))))) && (decide ((w64 (p1 + v2)) ≤ (w64 (v3 - p3)))))

/-- kerbstone/convoy.Safe -/
def ac_convoy_Safe : AC := (.seq (.reg [oo 7 (.box 23 true (.t 3)), oo 8 (.mv (.c zf))]) (.seq (.draw [oo 9 (.mv (.t 0)), oo 10 (.mv (.t 1)), oo 11 (.mv (.t 2)), oo 12 (.fieldA 0 (.t 7)), oo 13 (.load 1 false (.t 12)), oo 14 (.fieldA 1 (.t 7)), oo 15 (.load 1 false (.t 14)), oo 16 (.dslice 2 1 5 [z0] [(0, 1, (.t 9)), (1, 1, (.t 10)), (2, 1, (.t 11)), (3, 1, (.t 13)), (4, 1, (.t 15))]), oo 17 (.call (cf 59) [(.t 16)]), oo 18 (.mv (.t 17)), og 19 (.mv (.t 0)) 18, og 20 (.fieldA 0 (.t 7)) 18, og 21 (.load 1 false (.t 20)) 18, og 22 (.mv (.t 2)) 18, og 23 (.bin .sub (.t 21) (.t 22)) 18, og 24 (.bin .leq (.t 19) (.t 23)) 18, oo 25 (.pick (.t 18) (.t 24) (.c zf)), oo 26 (.mv (.t 25)), og 27 (.mv (.t 0)) 26, og 28 (.mv (.t 1)) 26, og 29 (.call (cf 62) [(.t 28)]) 26, og 30 (.bin .add (.t 27) (.t 29)) 26, og 31 (.load 2 true (.t 7)) 26, og 32 (.call (cf 61) [(.t 31)]) 26, og 33 (.mv (.t 2)) 26, og 34 (.bin .sub (.t 32) (.t 33)) 26, og 35 (.bin .leq (.t 30) (.t 34)) 26, oo 36 (.pick (.t 26) (.t 35) (.c zf)), oo 8 (.mv (.t 36))] []) .ret))
theorem fn_convoy_Safe : FnOK Try.prog 21 37 [.t 8] ac_convoy_Safe := ⟨_, _, Try.func21, rfl, Try.ntmps21, by kernel_rfl, ⟨fun r => if r == 1 then [1007] else [], by kernel_rfl⟩, by kernel_rfl⟩
theorem convoy_Safe_ok (p1 : Int) (p2 : Int) (p3 : Int) (p4 : Guess) (r : Bool) (h : convoy_Safe p1 p2 p3 p4 = some r) : PCall Try.prog 21 [(i64 p1), (i64 p2), (i64 p3), (.agg [(i64 p4.R), (i64 p4.V)])] (bo r) := by
  refine l_call fn_convoy_Safe (nl rfl) ?_
  unfold convoy_Safe at h
  unfold ac_convoy_Safe
  refine l_sub (s0 := ⟨T [(0, (.d _)), (1, (.d _)), (2, (.d _)), (3, (.d _))], G []⟩) (sbr rfl rfl) ?_
  refine lr (fun u1 hu1 => sn rfl rfl (sv rfl (s_nil (l_seq (l_draw rfl fun u2 hu2 => sv rfl (sv rfl (sv rfl (sp rfl rfl (sl rfl G_hit rfl (sp rfl rfl (sl rfl G_hit rfl (s_val (dl eInt_i64 [p1, p2, p3, p4.R, p4.V]) rfl rfl (bs h fun v1 hv1 h => s_call rfl rfl all2_refl (convoy_sane_ok _  _ hv1) (.inl rfl) (sv rfl (gt rfl (fun _ => rfl) (gp rfl (gw_t rfl) (fun _ => rfl) (gt rfl (vl rfl G_hit rfl) (gt rfl (fun _ => rfl) (gt rfl (fun w5 => (v_bin (gd_pos w5) (gd_pos w5) rfl)) (gt rfl (fun w6 => (v_bin (gd_pos w6) (gd_pos w6) rfl)) (sa rfl rfl rfl (sv rfl (gt rfl (fun _ => rfl) (gt rfl (fun _ => rfl) (bs h fun v2 hv2 h => ?_)))))))))))))))))))))))))
  refine g_call _ (i64 v2) (gw_t rfl) (fun w9 => ⟨_, [(di p2)], _, _, (by simp only [gd_pos w9]; rfl), rfl, all2_refl, convoy_stop_ok _  _ (cond_t w9 hv2), (.inl rfl)⟩) ?_
  refine gt rfl (fun w10 => (v_bin (gd_pos w10) (gd_pos w10) rfl)) (gt rfl (fun w11 => (v_loadG rfl G_hit rfl rfl)) (bs h fun v3 hv3 h => ?_))
  refine g_call _ (i64 v3) (gw_t rfl) (fun w12 => ⟨_, [(.d (.agg [(i64 p4.R), (i64 p4.V)]))], _, _, (by simp only [gd_pos w12]; rfl), rfl, all2_refl, convoy_end_ok _  _ (cond_t w12 hv3), (.inl rfl)⟩) ?_
  refine gt rfl (fun _ => rfl) (gt rfl (fun w14 => (v_bin (gd_pos w14) (gd_pos w14) rfl)) (gt rfl (fun w15 => (v_bin (gd_pos w15) (gd_pos w15) rfl)) (sa rfl rfl rfl (sv rfl (s_nil (l_ret ?_))))))
  obtain rfl := Option.some.inj h
  exact fin_ok (.inr rfl) (resD1 (res_t rfl) rf_d) (.refl _)

noncomputable def convoy_keeps (p1 : Int) (p2 : Mate) (p3 : Int) (p4 : Int) (p5 : Guess) (p6 : Guess) : Option Bool :=
  ((cond (!(p2.Ahead == 0)) (convoy_Safe p3 p4 p1 p5) (some default))).bind fun v1 => ((cond (((p2.Ahead == 0) || v1) && (!(p2.Until == 0))) (convoy_Safe p3 p4 p1 p6) (some default))).bind fun v2 => some (((p2.Ahead == 0) || v1) && ((p2.Until == 0) || v2))

/-- kerbstone/convoy.keeps -/
def ac_convoy_keeps : AC := (.seq (.reg [oo 7 (.box 65 true (.t 1)), oo 10 (.box 23 true (.t 4)), oo 11 (.box 23 true (.t 5)), oo 12 (.mv (.c zf))]) (.seq (.reg [oo 13 (.fieldA 4 (.t 7)), oo 14 (.load 1 false (.t 13)), oo 15 (.bin .eql (.t 14) (ci 0)), oo 16 (.mv (.t 15)), oh 17 (.mv (.t 2)) 16, oh 18 (.mv (.t 3)) 16, oh 19 (.mv (.t 0)) 16, oh 20 (.load 2 true (.t 10)) 16, oh 21 (.call (cf 21) [(.t 17), (.t 18), (.t 19), (.t 20)]) 16, oo 22 (.pick (.t 16) (.c (.v (.bool true))) (.t 21)), oo 23 (.mv (.t 22)), og 24 (.fieldA 11 (.t 7)) 23, og 25 (.load 1 false (.t 24)) 23, og 26 (.bin .eql (.t 25) (ci 0)) 23, og 27 (.mv (.t 26)) 23, oh 28 (.mv (.t 2)) 27, oh 29 (.mv (.t 3)) 27, oh 30 (.mv (.t 0)) 27, oh 31 (.load 2 true (.t 11)) 27, oh 32 (.call (cf 21) [(.t 28), (.t 29), (.t 30), (.t 31)]) 27, og 33 (.pick (.t 27) (.c (.v (.bool true))) (.t 32)) 23, oo 34 (.pick (.t 23) (.t 33) (.c zf)), oo 12 (.mv (.t 34))]) .ret))
theorem fn_convoy_keeps : FnOK Try.prog 76 35 [.t 12] ac_convoy_keeps := ⟨_, _, Try.func76, rfl, Try.ntmps76, by kernel_rfl, ⟨fun _ => [], by kernel_rfl⟩, by kernel_rfl⟩
theorem convoy_keeps_ok (p1 : Int) (p2 : Mate) (p3 : Int) (p4 : Int) (p5 : Guess) (p6 : Guess) (r : Bool) (h : convoy_keeps p1 p2 p3 p4 p5 p6 = some r) : PCall Try.prog 76 [(i64 p1), (.agg (eMate p2)), (i64 p3), (i64 p4), (.agg [(i64 p5.R), (i64 p5.V)]), (.agg [(i64 p6.R), (i64 p6.V)])] (bo r) := by
  refine l_call fn_convoy_keeps (nl rfl) ?_
  unfold convoy_keeps at h
  unfold ac_convoy_keeps
  refine l_sub (s0 := ⟨T [(0, (.d _)), (1, (.d _)), (2, (.d _)), (3, (.d _)), (4, (.d _)), (5, (.d _))], G []⟩) (sbr rfl rfl) ?_
  refine lr (fun u1 hu1 => sn rfl rfl (sn rfl rfl (sn rfl rfl (sv rfl (s_nil (lr (fun u2 hu2 => sp rfl rfl (sl rfl (gq rfl) rfl (sv rfl (sv rfl (gf rfl (fun _ => rfl) (gf rfl (fun _ => rfl) (gf rfl (fun _ => rfl) (gf rfl (fun w4 => (v_loadG rfl (gq rfl) rfl rfl)) (bs h fun v1 hv1 h => ?_)))))))))))))))
  refine g_call _ (bo v1) (gw_f rfl) (fun w5 => ⟨_, [(di p3), (di p4), (di p1), (.d (.agg [(i64 p5.R), (i64 p5.V)]))], _, _, (by simp only [gd_pos w5]; rfl), rfl, all2_refl, convoy_Safe_ok _ _ _ _  _ (cond_t w5 hv1), (.inl rfl)⟩) ?_
  refine sd rfl (v_or rfl rfl (fun hc => gd_pos (not_t hc))) (sv rfl (gp rfl (gw_t rfl) (fun _ => rfl) (gt rfl (vl rfl (gq rfl) rfl) (gt rfl (vb rfl rfl rfl) (gt rfl (fun w9 => (v_mv (gd_pos w9))) (gv rfl (gw_gf rfl) (fun _ => rfl) (gv rfl (gw_gf rfl) (fun _ => rfl) (gv rfl (gw_gf rfl) (fun _ => rfl) (gv rfl (gw_gf rfl) (fun w13 => (v_loadG rfl G_hit rfl rfl)) (bs h fun v2 hv2 h => ?_))))))))))
  refine g_call _ (bo v2) (gw_gf rfl) (fun w14 => ⟨_, [(di p3), (di p4), (di p1), (.d (.agg [(i64 p6.R), (i64 p6.V)]))], _, _, (by simp only [gd_pos w14]; rfl), rfl, all2_refl, convoy_Safe_ok _ _ _ _  _ (cond_t w14 hv2), (.inl rfl)⟩) ?_
  refine gt rfl (fun w15 => (v_or (gd_pos w15) rfl (fun hc => gd_pos (and_i w15 (not_t hc))))) (sa rfl rfl rfl (sv rfl (s_nil (l_ret ?_))))
  obtain rfl := Option.some.inj h
  exact fin_ok (.inr rfl) (resD1 (res_t rfl) rf_d) (.refl _)

noncomputable def convoy_Check_1_b (p1 : Mate) (p2 : Convoy) : Option Bool :=
  (convoy_keeps p2.Gap p1 p1.S p1.V p1.Guess_ p1.WardGuess).bind fun v1 => some (!v1)

/-- kerbstone/convoy.Check$1 -/
def ac_convoy_Check_1_b : AC := (.seq (.reg [oo 2 (.box 65 true (.t 0)), oo 3 (.mv (.c zf))]) (.seq (.reg [oo 4 (.fieldA 1 (.t 1)), oo 5 (.load 1 false (.t 4)), oo 6 (.load 12 true (.t 2)), oo 7 (.fieldA 1 (.t 2)), oo 8 (.load 1 false (.t 7)), oo 9 (.fieldA 2 (.t 2)), oo 10 (.load 1 false (.t 9)), oo 11 (.fieldA 5 (.t 2)), oo 12 (.load 2 true (.t 11)), oo 13 (.fieldA 9 (.t 2)), oo 14 (.load 2 true (.t 13)), oo 15 (.call (cf 76) [(.t 5), (.t 6), (.t 8), (.t 10), (.t 12), (.t 14)]), oo 16 (.un .not (.t 15)), oo 3 (.mv (.t 16))]) .ret))
theorem fn_convoy_Check_1_b : FnOK Try.prog 75 17 [.t 3] ac_convoy_Check_1_b := ⟨_, _, Try.func75, rfl, Try.ntmps75, by kernel_rfl, ⟨fun _ => [], by kernel_rfl⟩, by kernel_rfl⟩
theorem convoy_Check_1_b_ok (p1 : Mate) (p2 : Convoy) (r : Bool) (h : convoy_Check_1_b p1 p2 = some r) : PCall Try.prog 75 [(.agg (eMate p1)), (.bp (eConvoy p2) 0)] (bo r) := by
  refine l_call fn_convoy_Check_1_b (nl rfl) ?_
  unfold convoy_Check_1_b at h
  unfold ac_convoy_Check_1_b
  refine l_sub (s0 := ⟨T [(0, (.d _)), (1, (.d _))], G []⟩) (sbr rfl rfl) ?_
  refine lr (fun u1 hu1 => sn rfl rfl (sv rfl (s_nil (lr (fun u2 hu2 => sv rfl (sv rfl (sd rfl (v_loadG rfl G_hit rfl rfl) (sp rfl rfl (sl rfl G_hit rfl (sp rfl rfl (sl rfl G_hit rfl (sp rfl rfl (sd rfl (v_loadG rfl G_hit rfl rfl) (sp rfl rfl (sd rfl (v_loadG rfl G_hit rfl rfl) (bs h fun v1 hv1 h => s_call rfl rfl all2_refl (convoy_keeps_ok _ _ _ _ _ _  _ hv1) (.inl rfl) (s_val (.d (bo (!v1))) rfl rfl (sv rfl (s_nil (l_ret ?_))))))))))))))))))))
  obtain rfl := Option.some.inj h
  exact fin_ok (.inr rfl) (resD1 (res_t rfl) rf_d) (.refl _)

noncomputable def slices_IndexFunc_Mate_Mate_convoy_Check_1b_l1 (p1 : (List Mate)) (p2 : Convoy) (x1 : Int) : Option (Stp Int (Sum Unit Int)) :=
  cond (decide (x1 < (p1.length : Int))) ((geti p1 x1).bind fun v1 => (convoy_Check_1_b v1 p2).bind fun v2 => cond v2 (some (.out (.inr x1))) (some (.go (w64 (x1 + 1))))) (some (.out (.inl ())))
noncomputable def slices_IndexFunc_Mate_Mate_convoy_Check_1b (p1 : (List Mate)) (p2 : Convoy) : Option Int :=
  thenS (loop (slices_IndexFunc_Mate_Mate_convoy_Check_1b_l1 p1 p2) 0) (fun _ => some (-1)) (fun r => some r)

/-- slices.IndexFunc[[]kerbstone/api.Mate,kerbstone/api.Mate] -/
def ac_slices_IndexFunc_Mate_Mate_convoy_Check_1b : AC := (.seq (.reg [oo 4 (.mv (ci 0))]) (.seq (.seq (.reg [oo 6 (.mv (.t 0)), oo 7 (.len (.t 6)), oo 8 (.mv (ci 0))]) (.block 0 (.loop (.seq (.reg [oo 9 (.bin .lss (.t 8) (.t 7))]) (.seq (.cond (.t 9) .skip (.exit 0)) (.seq (.block 1 (.seq (.reg [oo 10 (.mv (.t 8)), oo 5 (.mv (.t 10))]) (.seq (.reg [oo 11 (.mv (.t 1)), oo 12 (.mv (.t 0)), oo 13 (.mv (.t 5)), oo 14 (.idxS 12 (.t 12) (.t 13)), oo 15 (.load 12 true (.t 14)), oo 16 (.call (.t 11) [(.t 15)])]) (.cond (.t 16) (.seq (.reg [oo 17 (.mv (.t 5)), oo 4 (.mv (.t 17))]) .ret) .skip)))) (.reg [oo 18 (.bin .add (.t 8) (ci 1)), oo 8 (.mv (.t 18))]))))))) (.seq (.reg [oo 4 (.mv (ci (-1)))]) .ret)))
theorem fn_slices_IndexFunc_Mate_Mate_convoy_Check_1b : FnOK Try.prog 98 19 [.t 4] ac_slices_IndexFunc_Mate_Mate_convoy_Check_1b := ⟨_, _, Try.func98, rfl, Try.ntmps98, by kernel_rfl, ⟨fun _ => [], by kernel_rfl⟩, by kernel_rfl⟩
set_option maxHeartbeats 4000000 in
theorem slices_IndexFunc_Mate_Mate_convoy_Check_1b_ok (p1 : (List Mate)) (p2 : Convoy) (r : Int) (h : slices_IndexFunc_Mate_Mate_convoy_Check_1b p1 p2 = some r) : PCall Try.prog 98 [(.list (List.map eMate p1)), (.fn (.func 75) [] [(.bp (eConvoy p2) 0)])] (i64 r) := by
  refine l_call fn_slices_IndexFunc_Mate_Mate_convoy_Check_1b (nl rfl) ?_
  unfold slices_IndexFunc_Mate_Mate_convoy_Check_1b at h
  unfold ac_slices_IndexFunc_Mate_Mate_convoy_Check_1b
  refine l_sub (s0 := ⟨T [(0, (.d _)), (1, (.d _))], G []⟩) (sbr rfl rfl) ?_
  refine lr (fun u1 hu1 => sv rfl (s_nil (l_seq (lr (fun u2 hu2 => sv rfl (sd rfl (v_len rfl) (sv rfl (s_nil (js h fun z1 hz1 h => l_join (fun s => ∃ (y1 : Unit) (g1 : Unit), z1 = .inl y1 ∧ Sb ⟨T [], G []⟩ s) ?_ ?_)))))))))
  · refine l_block (l_loop (slices_IndexFunc_Mate_Mate_convoy_Check_1b_l1 p1 p2) (fun (x1 : Int) (g2 : Unit) => ⟨T [(0, (dl eMate p1)), (1, (.d (.fn (.func 75) [] [(.bp (eConvoy p2) 0)]))), (7, (di (p1.length : Int))), (8, (di x1))], G []⟩) 0 () _ hz1 (sbr rfl rfl) ?_)
    intro x1 g2 z2 hz2 ez2
    unfold slices_IndexFunc_Mate_Mate_convoy_Check_1b_l1 at hz2
    refine lr (fun u3 hu3 => sv rfl (s_nil (l_seq (cc rfl hz2 (fun c1 hz2 => ?_) (fun c1 hz2 => ?_)))))
    · refine l_skip (l_seq (l_block (lr (fun u4 hu4 => sv rfl (sv rfl (s_nil (lr (fun u5 hu5 => sv rfl (sv rfl (sv rfl (bs hz2 fun v1 hv1 hz2 => sd rfl (v_idx rfl rfl hv1 rfl) (sd rfl (v_loadLG rfl hv1 rfl rfl) (bs hz2 fun v2 hv2 hz2 => s_call rfl rfl all2_refl (convoy_Check_1_b_ok _ _  _ hv2) (.inl rfl) (s_nil (cc rfl hz2 (fun c2 hz2 => ?_) (fun c2 hz2 => ?_))))))))))))))))
      · refine lr (fun u6 hu6 => sv rfl (sv rfl (s_nil (l_ret ?_))))
        obtain rfl := Option.some.inj hz2
        obtain rfl := ez2 _ rfl
        refine ⟨nofun, awl_ret ?_⟩
        rw [Sum.elim_inr] at h
        obtain rfl := Option.some.inj h
        exact fin_ok (.inr rfl) (resD1 (res_t rfl) rf_d) (.refl _)
      · refine l_skip (l_end (l_reg fun u7 hu7 => sv rfl (sv rfl (s_nil (l_nil ?_)))))
        obtain rfl := Option.some.inj hz2
        exact ⟨rfl, (), (sbr rfl rfl)⟩
    · refine l_exitN rfl ?_
      obtain rfl := Option.some.inj hz2
      obtain rfl := ez2 _ rfl
      refine ⟨nofun, awl_pop rfl (l_j ?_)⟩
      exact ⟨_, (), rfl, (sbr rfl rfl)⟩
  · rintro _ ⟨y1, g1, rfl, q1⟩
    rw [Sum.elim_inl] at h
    refine l_sub q1 (lr (fun u8 hu8 => sv rfl (s_nil (l_ret ?_))))
    obtain rfl := Option.some.inj h
    exact fin_ok (.inr rfl) (resD1 (res_t rfl) rf_d) (.refl _)

noncomputable def slices_ContainsFunc_Mate_Mate_convoy_Check_1b (p1 : (List Mate)) (p2 : Convoy) : Option Bool :=
  (slices_IndexFunc_Mate_Mate_convoy_Check_1b p1 p2).bind fun v1 => some (decide (v1 ≥ 0))

/-- slices.ContainsFunc[[]kerbstone/api.Mate,kerbstone/api.Mate] -/
def ac_slices_ContainsFunc_Mate_Mate_convoy_Check_1b : AC := (.seq (.reg [oo 4 (.mv (.c zf))]) (.seq (.reg [oo 5 (.mv (.t 0)), oo 6 (.mv (.t 1)), oo 7 (.call (cf 98) [(.t 5), (.t 6)]), oo 8 (.bin .geq (.t 7) (ci 0)), oo 4 (.mv (.t 8))]) .ret))
theorem fn_slices_ContainsFunc_Mate_Mate_convoy_Check_1b : FnOK Try.prog 77 9 [.t 4] ac_slices_ContainsFunc_Mate_Mate_convoy_Check_1b := ⟨_, _, Try.func77, rfl, Try.ntmps77, by kernel_rfl, ⟨fun _ => [], by kernel_rfl⟩, by kernel_rfl⟩
theorem slices_ContainsFunc_Mate_Mate_convoy_Check_1b_ok (p1 : (List Mate)) (p2 : Convoy) (r : Bool) (h : slices_ContainsFunc_Mate_Mate_convoy_Check_1b p1 p2 = some r) : PCall Try.prog 77 [(.list (List.map eMate p1)), (.fn (.func 75) [] [(.bp (eConvoy p2) 0)])] (bo r) := by
  refine l_call fn_slices_ContainsFunc_Mate_Mate_convoy_Check_1b (nl rfl) ?_
  unfold slices_ContainsFunc_Mate_Mate_convoy_Check_1b at h
  unfold ac_slices_ContainsFunc_Mate_Mate_convoy_Check_1b
  refine l_sub (s0 := ⟨T [(0, (.d _)), (1, (.d _))], G []⟩) (sbr rfl rfl) ?_
  refine lr (fun u1 hu1 => sv rfl (s_nil (lr (fun u2 hu2 => sv rfl (sv rfl (bs h fun v1 hv1 h => s_call rfl rfl all2_refl (slices_IndexFunc_Mate_Mate_convoy_Check_1b_ok _ _  _ hv1) (.inl rfl) (sv rfl (sv rfl (s_nil (l_ret ?_))))))))))
  obtain rfl := Option.some.inj h
  exact fin_ok (.inr rfl) (resD1 (res_t rfl) rf_d) (.refl _)

noncomputable def convoy_Check_l1 (p1 : Convoy) (x1 : Int) : Option (Stp Int (Sum Unit Int)) :=
  cond (decide (x1 < (p1.Mates.length : Int))) ((geti p1.Mates x1).bind fun v3 => cond ((((x1 == 0) && (v3.Ahead != 0)) || (((decide (x1 > 0)) && (v3.Until == 0)) && (v3.Ahead == 0))) || ((v3.Ward == 0) && (v3.Until != 0))) (some (.out (.inr 10))) (some (.go (w64 (x1 + 1))))) (some (.out (.inl ())))
noncomputable def convoy_Check (p1 : Convoy) : Option Int :=
  (convoy_numbers p1).bind fun v1 => cond (v1 != 0) (some v1) ((convoy_orders p1).bind fun v2 => cond (v2 != 0) (some v2) (thenS (loop (convoy_Check_l1 p1) 0) (fun _ => (slices_ContainsFunc_Mate_Mate_convoy_Check_1b p1.Mates p1).bind fun v4 => ((cond ((!v4) && (p1.Guest_.ID != 0)) (convoy_stop p1.Guest_.V) (some default))).bind fun v5 => cond (v4 || ((p1.Guest_.ID != 0) && (decide ((w64 (p1.Guest_.S + v5)) ≥ p1.Guest_.End)))) (some 12) (some 0)) (fun r => some r)))

/-- kerbstone/convoy.Check -/
def ac_convoy_Check : AC := (.seq (.reg [oo 1 (.box 38 true (.t 0)), oo 2 (.mv (ci 0))]) (.seq (.seq (.reg [oo 9 (.load 13 true (.t 1)), oo 10 (.call (cf 73) [(.t 9)]), oo 3 (.mv (.t 10))]) (.seq (.reg [oo 11 (.mv (.t 3)), oo 12 (.bin .neq (.t 11) (ci 0))]) (.cond (.t 12) (.seq (.reg [oo 13 (.mv (.t 3)), oo 2 (.mv (.t 13))]) .ret) .skip))) (.seq (.seq (.reg [oo 14 (.load 13 true (.t 1)), oo 15 (.call (cf 74) [(.t 14)]), oo 4 (.mv (.t 15))]) (.seq (.reg [oo 16 (.mv (.t 4)), oo 17 (.bin .neq (.t 16) (ci 0))]) (.cond (.t 17) (.seq (.reg [oo 18 (.mv (.t 4)), oo 2 (.mv (.t 18))]) .ret) .skip))) (.seq (.seq (.reg [oo 19 (.fieldA 2 (.t 1)), oo 20 (.load 1 false (.t 19)), oo 21 (.len (.t 20)), oo 22 (.mv (ci 0))]) (.block 0 (.loop (.seq (.reg [oo 23 (.bin .lss (.t 22) (.t 21))]) (.seq (.cond (.t 23) .skip (.exit 0)) (.seq (.block 1 (.seq (.reg [oo 24 (.mv (.t 22)), oo 25 (.idxS 12 (.t 20) (.t 22)), oo 26 (.load 12 true (.t 25)), oo 6 (.alloc 65 [z0, z0, z0, z0, z0, z0, z0, zf, z0, z0, z0, z0]), oo 5 (.mv (.t 24)), oe (.store 12 (.t 6) (.t 26))]) (.seq (.reg [oo 27 (.mv (.t 5)), oo 28 (.bin .gtr (.t 27) (ci 0)), oo 29 (.mv (.t 28)), og 30 (.fieldA 11 (.t 6)) 29, og 31 (.load 1 false (.t 30)) 29, og 32 (.bin .eql (.t 31) (ci 0)) 29, oo 33 (.pick (.t 29) (.t 32) (.c zf)), oo 34 (.mv (.t 33)), og 35 (.fieldA 4 (.t 6)) 34, og 36 (.load 1 false (.t 35)) 34, og 37 (.bin .eql (.t 36) (ci 0)) 34, oo 38 (.pick (.t 34) (.t 37) (.c zf)), oo 7 (.mv (.t 38))]) (.seq (.reg [oo 39 (.mv (.t 5)), oo 40 (.bin .eql (.t 39) (ci 0)), oo 41 (.mv (.t 40)), og 42 (.fieldA 4 (.t 6)) 41, og 43 (.load 1 false (.t 42)) 41, og 44 (.bin .neq (.t 43) (ci 0)) 41, oo 45 (.pick (.t 41) (.t 44) (.c zf)), oo 46 (.mv (.t 45)), oh 47 (.mv (.t 7)) 46, oo 48 (.pick (.t 46) (.c (.v (.bool true))) (.t 47)), oo 49 (.mv (.t 48)), oh 50 (.fieldA 8 (.t 6)) 49, oh 51 (.load 1 false (.t 50)) 49, oh 52 (.bin .eql (.t 51) (ci 0)) 49, oh 53 (.mv (.t 52)) 49, og 54 (.fieldA 11 (.t 6)) 53, og 55 (.load 1 false (.t 54)) 53, og 56 (.bin .neq (.t 55) (ci 0)) 53, oh 57 (.pick (.t 53) (.t 56) (.c zf)) 49, oo 58 (.pick (.t 49) (.c (.v (.bool true))) (.t 57))]) (.cond (.t 58) (.seq (.reg [oo 2 (.mv (ci 10))]) .ret) .skip))))) (.reg [oo 59 (.bin .add (.t 22) (ci 1)), oo 22 (.mv (.t 59))]))))))) (.seq (.reg [oo 60 (.mkfn (.func 75) [] [(.t 1)]), oo 8 (.mv (.t 60))]) (.seq (.seq (.draw [oo 61 (.fieldA 2 (.t 1)), oo 62 (.load 1 false (.t 61)), oo 63 (.mv (.t 8)), oo 64 (.call (cf 77) [(.t 62), (.t 63)]), oo 65 (.mv (.t 64)), oh 66 (.fieldA 3 (.t 1)) 65, oh 67 (.fieldA 0 (.t 66)) 65, oh 68 (.load 1 false (.t 67)) 65, oh 69 (.bin .neq (.t 68) (ci 0)) 65, oh 70 (.mv (.t 69)) 65, og 71 (.fieldA 3 (.t 1)) 70, og 72 (.fieldA 1 (.t 71)) 70, og 73 (.load 1 false (.t 72)) 70, og 74 (.fieldA 3 (.t 1)) 70, og 75 (.fieldA 2 (.t 74)) 70, og 76 (.load 1 false (.t 75)) 70, og 77 (.call (cf 62) [(.t 76)]) 70, og 78 (.bin .add (.t 73) (.t 77)) 70, og 79 (.fieldA 3 (.t 1)) 70, og 80 (.fieldA 4 (.t 79)) 70, og 81 (.load 1 false (.t 80)) 70, og 82 (.bin .geq (.t 78) (.t 81)) 70, oh 83 (.pick (.t 70) (.t 82) (.c zf)) 65, oo 84 (.pick (.t 65) (.c (.v (.bool true))) (.t 83))] []) (.cond (.t 84) (.seq (.reg [oo 2 (.mv (ci 12))]) .ret) .skip)) (.seq (.reg [oo 2 (.mv (ci 0))]) .ret)))))))
theorem fn_convoy_Check : FnOK Try.prog 32 85 [.t 2] ac_convoy_Check := ⟨_, _, Try.func32, rfl, Try.ntmps32, by kernel_rfl, ⟨fun _ => [], by kernel_rfl⟩, by kernel_rfl⟩
set_option maxHeartbeats 4000000 in
theorem convoy_Check_ok (p1 : Convoy) (r : Int) (h : convoy_Check p1 = some r) : PCall Try.prog 32 [(.agg (eConvoy p1))] (i64 r) := by
  refine l_call fn_convoy_Check (nl rfl) ?_
  unfold convoy_Check at h
  unfold ac_convoy_Check
  refine l_sub (s0 := ⟨T [(0, (.d _))], G []⟩) (sbr rfl rfl) ?_
  refine lr (fun u1 hu1 => sn rfl rfl (sv rfl (s_nil (l_seq (lr (fun u2 hu2 => sd rfl (v_loadG rfl G_hit rfl rfl) (bs h fun v1 hv1 h => s_call rfl rfl all2_refl (convoy_numbers_ok _  _ hv1) (.inl rfl) (sv rfl (s_nil (lr (fun u3 hu3 => sv rfl (sv rfl (s_nil (cc rfl h (fun c1 h => ?_) (fun c1 h => ?_)))))))))))))))
  · refine lr (fun u4 hu4 => sv rfl (sv rfl (s_nil (l_ret ?_))))
    obtain rfl := Option.some.inj h
    exact fin_ok (.inr rfl) (resD1 (res_t rfl) rf_d) (.refl _)
  · refine l_skip (l_seq (lr (fun u5 hu5 => sd rfl (v_loadG rfl G_hit rfl rfl) (bs h fun v2 hv2 h => s_call rfl rfl all2_refl (convoy_orders_ok _  _ hv2) (.inl rfl) (sv rfl (s_nil (lr (fun u6 hu6 => sv rfl (sv rfl (s_nil (cc rfl h (fun c2 h => ?_) (fun c2 h => ?_))))))))))))
    · refine lr (fun u7 hu7 => sv rfl (sv rfl (s_nil (l_ret ?_))))
      obtain rfl := Option.some.inj h
      exact fin_ok (.inr rfl) (resD1 (res_t rfl) rf_d) (.refl _)
    · refine l_skip (l_seq (lr (fun u8 hu8 => sp rfl rfl (sl rfl G_hit rfl (sd rfl (v_len rfl) (sv rfl (s_nil (js h fun z1 hz1 h => l_join (fun s => ∃ (y1 : Unit) (g1 : Unit), z1 = .inl y1 ∧ Sb ⟨T [(1, (.ptr (1, u1) 0))], G [((1, u1), some (.box 38 (dConvoy p1)))]⟩ s) ?_ ?_))))))))
      · refine l_block (l_loop (convoy_Check_l1 p1) (fun (x1 : Int) (g2 : Unit) => ⟨T [(1, (.ptr (1, u1) 0)), (20, (dl eMate p1.Mates)), (21, (di (p1.Mates.length : Int))), (22, (di x1))], G [((1, u1), some (.box 38 (dConvoy p1)))]⟩) 0 () _ hz1 (sbr rfl rfl) ?_)
        intro x1 g2 z2 hz2 ez2
        unfold convoy_Check_l1 at hz2
        refine lr (fun u9 hu9 => sv rfl (s_nil (l_seq (cc rfl hz2 (fun c3 hz2 => ?_) (fun c3 hz2 => ?_)))))
        · refine l_skip (l_seq (l_block (lr (fun u10 hu10 => sv rfl (bs hz2 fun v3 hv3 hz2 => sd rfl (v_idx rfl rfl hv3 rfl) (sd rfl (v_loadLG rfl hv3 rfl rfl) (sn rfl rfl (sv rfl (sst rfl G_hit (dMate v3) rfl (s_nil (lr (fun u11 hu11 => sv rfl (sv rfl (sv rfl (gp rfl (gw_t rfl) (fun _ => rfl) (gt rfl (vl rfl G_hit rfl) (gt rfl (vb rfl rfl rfl) (sa rfl rfl rfl (sv rfl (gp rfl (gw_t rfl) (fun _ => rfl) (gt rfl (vl rfl G_hit rfl) (gt rfl (vb rfl rfl rfl) (sa rfl rfl rfl (sv rfl (s_nil (l_seq (l_sub (s0 := ⟨T [(1, (.ptr _ _)), (5, (.d _)), (6, (.ptr _ _)), (7, (.d _)), (20, (.d _)), (21, (.d _)), (22, (.d _))], G [((1, u1), some (.box 38 _)), ((6, u10), some (.box 65 _))]⟩) (sbr rfl rfl) ?_)))))))))))))))))))))))))))
          refine l_reg fun u12 hu12 => sv rfl (sv rfl (sv rfl (gp rfl (gw_t rfl) (fun _ => rfl) (gt rfl (vl rfl (gq rfl) rfl) (gt rfl (vb rfl rfl rfl) (sa rfl rfl rfl (sv rfl (gf rfl (fun _ => rfl) (sd rfl (v_or rfl rfl (fun hc => gd_pos (not_t hc))) (sv rfl (gp rfl (gw_f rfl) (fun _ => rfl) (gf rfl (vl rfl (gq rfl) rfl) (gf rfl (vb rfl rfl rfl) (gf rfl (fun w14 => (v_mv (gd_pos w14))) (g_val _ (.ptr _ _) rfl (gw_gt rfl) (fun _ => rfl) (gv rfl (gw_gt rfl) (vl rfl (gq rfl) rfl) (gv rfl (gw_gt rfl) (vb rfl rfl rfl) (gf rfl (fun w18 => (v_and (gd_pos w18) (fun hc => gd_pos (and_i w18 hc)) rfl)) (sd rfl (v_or rfl rfl (fun hc => gd_pos (not_t hc))) (s_nil (cc rfl hz2 (fun c4 hz2 => ?_) (fun c4 hz2 => ?_))))))))))))))))))))))
          · refine l_seq (l_sub (s0 := ⟨T [], G []⟩) (sbr rfl rfl) ?_)
            refine l_reg fun u13 hu13 => sv rfl (s_nil (l_ret ?_))
            obtain rfl := Option.some.inj hz2
            obtain rfl := ez2 _ rfl
            refine ⟨nofun, awl_ret ?_⟩
            rw [Sum.elim_inr] at h
            obtain rfl := Option.some.inj h
            exact fin_ok (.inr rfl) (resD1 (res_t rfl) rf_d) (.refl _)
          · refine l_skip (l_end (l_sub (s0 := ⟨T [(1, (.ptr _ _)), (20, (.d _)), (21, (.d _)), (22, (.d _))], G [((1, u1), some (.box 38 _))]⟩) (sbr rfl rfl) ?_))
            refine l_reg fun u14 hu14 => sv rfl (sv rfl (s_nil (l_nil ?_)))
            obtain rfl := Option.some.inj hz2
            exact ⟨rfl, (), (sbr rfl rfl)⟩
        · refine l_exitN rfl ?_
          obtain rfl := Option.some.inj hz2
          obtain rfl := ez2 _ rfl
          refine ⟨nofun, awl_pop rfl (l_j ?_)⟩
          exact ⟨_, (), rfl, (sbr rfl rfl)⟩
      · rintro _ ⟨y1, g1, rfl, q1⟩
        rw [Sum.elim_inl] at h
        refine l_sub q1 (lr (fun u15 hu15 => s_val (.fn _ _ _) rfl rfl (s_val (.fn _ _ _) rfl rfl (s_nil (l_seq (l_seq (l_draw rfl fun u16 hu16 => sp rfl rfl (sl rfl G_hit rfl (s_val (.fn _ _ _) rfl rfl (bs h fun v4 hv4 h => s_call rfl (rfL_cons rf_d (rfL_cons (rf_fn rfL_nil (rfL_cons (rf_ptr G_hit (rfL_cons rf_d (rfL_cons rf_d (rfL_cons rf_d (rfL_cons rf_d (rfL_cons rf_d (rfL_cons rf_d (rfL_cons rf_d (rfL_cons rf_d (rfL_cons rf_d (rfL_cons rf_d (rfL_cons rf_d (rfL_cons rf_d (rfL_cons rf_d rfL_nil)))))))))))))) rfL_nil)) rfL_nil)) all2_refl (slices_ContainsFunc_Mate_Mate_convoy_Check_1b_ok _ _  _ hv4) (.inr rfl) (sv rfl (gp rfl (gw_f rfl) (fun _ => rfl) ?_))))))))))))
        refine g_val _ (.ptr _ _) rfl (gw_f rfl) (fun w20 => (by simp only [gd_pos w20]; rfl)) ?_
        refine gf rfl (vl rfl G_hit rfl) (gf rfl (vb rfl rfl rfl) (gf rfl (fun w23 => (v_mv (gd_pos w23))) (g_val _ (.ptr _ _) rfl (gw_gt rfl) (fun _ => rfl) ?_)))
        refine g_val _ (.ptr _ _) rfl (gw_gt rfl) (fun w25 => (by simp only [gd_pos w25]; rfl)) ?_
        refine gv rfl (gw_gt rfl) (vl rfl G_hit rfl) (g_val _ (.ptr _ _) rfl (gw_gt rfl) (fun _ => rfl) ?_)
        refine g_val _ (.ptr _ _) rfl (gw_gt rfl) (fun w28 => (by simp only [gd_pos w28]; rfl)) ?_
        refine gv rfl (gw_gt rfl) (vl rfl G_hit rfl) (bs h fun v5 hv5 h => ?_)
        refine g_call _ (i64 v5) (gw_gt rfl) (fun w30 => ⟨_, [(di p1.Guest_.V)], _, _, (by simp only [gd_pos w30]; rfl), rfl, all2_refl, convoy_stop_ok _  _ (cond_t w30 hv5), (.inl rfl)⟩) ?_
        refine gv rfl (gw_gt rfl) (fun w31 => (v_bin (gd_pos w31) (gd_pos w31) rfl)) (g_val _ (.ptr _ _) rfl (gw_gt rfl) (fun _ => rfl) ?_)
        refine g_val _ (.ptr _ _) rfl (gw_gt rfl) (fun w33 => (by simp only [gd_pos w33]; rfl)) ?_
        refine gv rfl (gw_gt rfl) (vl rfl G_hit rfl) (gv rfl (gw_gt rfl) (fun w35 => (v_bin (gd_pos w35) (gd_pos w35) rfl)) (gf rfl (fun w36 => (v_and (gd_pos w36) (fun hc => gd_pos (and_i w36 hc)) rfl)) (sd rfl (v_or rfl rfl (fun hc => gd_pos (not_t hc))) (s_nil (cc rfl h (fun c5 h => ?_) (fun c5 h => ?_))))))
        · refine l_seq (l_sub (s0 := ⟨T [], G []⟩) (sbr rfl rfl) ?_)
          refine l_reg fun u17 hu17 => sv rfl (s_nil (l_ret ?_))
          obtain rfl := Option.some.inj h
          exact fin_ok (.inr rfl) (resD1 (res_t rfl) rf_d) (.refl _)
        · refine l_skip (l_seq (l_sub (s0 := ⟨T [], G []⟩) (sbr rfl rfl) ?_))
          refine l_reg fun u18 hu18 => sv rfl (s_nil (l_ret ?_))
          obtain rfl := Option.some.inj h
          exact fin_ok (.inr rfl) (resD1 (res_t rfl) rf_d) (.refl _)

noncomputable def convoy_beside_1_b (p1 : Mate) (p2 : Convoy) : Option Bool :=
  some (decide (p1.S ≤ p2.Guest_.S))

/-- kerbstone/convoy.beside$1 -/
def ac_convoy_beside_1_b : AC := (.seq (.reg [oo 2 (.box 65 true (.t 0)), oo 3 (.mv (.c zf))]) (.seq (.reg [oo 4 (.fieldA 1 (.t 2)), oo 5 (.load 1 false (.t 4)), oo 6 (.fieldA 3 (.t 1)), oo 7 (.fieldA 1 (.t 6)), oo 8 (.load 1 false (.t 7)), oo 9 (.bin .leq (.t 5) (.t 8)), oo 3 (.mv (.t 9))]) .ret))
theorem fn_convoy_beside_1_b : FnOK Try.prog 100 10 [.t 3] ac_convoy_beside_1_b := ⟨_, _, Try.func100, rfl, Try.ntmps100, by kernel_rfl, ⟨fun _ => [], by kernel_rfl⟩, by kernel_rfl⟩
theorem convoy_beside_1_b_ok (p1 : Mate) (p2 : Convoy) (r : Bool) (h : convoy_beside_1_b p1 p2 = some r) : PCall Try.prog 100 [(.agg (eMate p1)), (.bp (eConvoy p2) 0)] (bo r) := by
  refine l_call fn_convoy_beside_1_b (nl rfl) ?_
  unfold convoy_beside_1_b at h
  unfold ac_convoy_beside_1_b
  refine l_sub (s0 := ⟨T [(0, (.d _)), (1, (.d _))], G []⟩) (sbr rfl rfl) ?_
  refine lr (fun u1 hu1 => sn rfl rfl (sv rfl (s_nil (lr (fun u2 hu2 => sp rfl rfl (sl rfl G_hit rfl (sv rfl (sv rfl (sv rfl (sv rfl (sv rfl (s_nil (l_ret ?_)))))))))))))
  obtain rfl := Option.some.inj h
  exact fin_ok (.inr rfl) (resD1 (res_t rfl) rf_d) (.refl _)

noncomputable def slices_IndexFunc_Mate_Mate_convoy_beside_1b_l1 (p1 : (List Mate)) (p2 : Convoy) (x1 : Int) : Option (Stp Int (Sum Unit Int)) :=
  cond (decide (x1 < (p1.length : Int))) ((geti p1 x1).bind fun v1 => (convoy_beside_1_b v1 p2).bind fun v2 => cond v2 (some (.out (.inr x1))) (some (.go (w64 (x1 + 1))))) (some (.out (.inl ())))
noncomputable def slices_IndexFunc_Mate_Mate_convoy_beside_1b (p1 : (List Mate)) (p2 : Convoy) : Option Int :=
  thenS (loop (slices_IndexFunc_Mate_Mate_convoy_beside_1b_l1 p1 p2) 0) (fun _ => some (-1)) (fun r => some r)

/-- slices.IndexFunc[[]kerbstone/api.Mate,kerbstone/api.Mate] -/
def ac_slices_IndexFunc_Mate_Mate_convoy_beside_1b : AC := (.seq (.reg [oo 4 (.mv (ci 0))]) (.seq (.seq (.reg [oo 6 (.mv (.t 0)), oo 7 (.len (.t 6)), oo 8 (.mv (ci 0))]) (.block 0 (.loop (.seq (.reg [oo 9 (.bin .lss (.t 8) (.t 7))]) (.seq (.cond (.t 9) .skip (.exit 0)) (.seq (.block 1 (.seq (.reg [oo 10 (.mv (.t 8)), oo 5 (.mv (.t 10))]) (.seq (.reg [oo 11 (.mv (.t 1)), oo 12 (.mv (.t 0)), oo 13 (.mv (.t 5)), oo 14 (.idxS 12 (.t 12) (.t 13)), oo 15 (.load 12 true (.t 14)), oo 16 (.call (.t 11) [(.t 15)])]) (.cond (.t 16) (.seq (.reg [oo 17 (.mv (.t 5)), oo 4 (.mv (.t 17))]) .ret) .skip)))) (.reg [oo 18 (.bin .add (.t 8) (ci 1)), oo 8 (.mv (.t 18))]))))))) (.seq (.reg [oo 4 (.mv (ci (-1)))]) .ret)))
theorem fn_slices_IndexFunc_Mate_Mate_convoy_beside_1b : FnOK Try.prog 98 19 [.t 4] ac_slices_IndexFunc_Mate_Mate_convoy_beside_1b := ⟨_, _, Try.func98, rfl, Try.ntmps98, by kernel_rfl, ⟨fun _ => [], by kernel_rfl⟩, by kernel_rfl⟩
set_option maxHeartbeats 4000000 in
theorem slices_IndexFunc_Mate_Mate_convoy_beside_1b_ok (p1 : (List Mate)) (p2 : Convoy) (r : Int) (h : slices_IndexFunc_Mate_Mate_convoy_beside_1b p1 p2 = some r) : PCall Try.prog 98 [(.list (List.map eMate p1)), (.fn (.func 100) [] [(.bp (eConvoy p2) 0)])] (i64 r) := by
  refine l_call fn_slices_IndexFunc_Mate_Mate_convoy_beside_1b (nl rfl) ?_
  unfold slices_IndexFunc_Mate_Mate_convoy_beside_1b at h
  unfold ac_slices_IndexFunc_Mate_Mate_convoy_beside_1b
  refine l_sub (s0 := ⟨T [(0, (.d _)), (1, (.d _))], G []⟩) (sbr rfl rfl) ?_
  refine lr (fun u1 hu1 => sv rfl (s_nil (l_seq (lr (fun u2 hu2 => sv rfl (sd rfl (v_len rfl) (sv rfl (s_nil (js h fun z1 hz1 h => l_join (fun s => ∃ (y1 : Unit) (g1 : Unit), z1 = .inl y1 ∧ Sb ⟨T [], G []⟩ s) ?_ ?_)))))))))
  · refine l_block (l_loop (slices_IndexFunc_Mate_Mate_convoy_beside_1b_l1 p1 p2) (fun (x1 : Int) (g2 : Unit) => ⟨T [(0, (dl eMate p1)), (1, (.d (.fn (.func 100) [] [(.bp (eConvoy p2) 0)]))), (7, (di (p1.length : Int))), (8, (di x1))], G []⟩) 0 () _ hz1 (sbr rfl rfl) ?_)
    intro x1 g2 z2 hz2 ez2
    unfold slices_IndexFunc_Mate_Mate_convoy_beside_1b_l1 at hz2
    refine lr (fun u3 hu3 => sv rfl (s_nil (l_seq (cc rfl hz2 (fun c1 hz2 => ?_) (fun c1 hz2 => ?_)))))
    · refine l_skip (l_seq (l_block (lr (fun u4 hu4 => sv rfl (sv rfl (s_nil (lr (fun u5 hu5 => sv rfl (sv rfl (sv rfl (bs hz2 fun v1 hv1 hz2 => sd rfl (v_idx rfl rfl hv1 rfl) (sd rfl (v_loadLG rfl hv1 rfl rfl) (bs hz2 fun v2 hv2 hz2 => s_call rfl rfl all2_refl (convoy_beside_1_b_ok _ _  _ hv2) (.inl rfl) (s_nil (cc rfl hz2 (fun c2 hz2 => ?_) (fun c2 hz2 => ?_))))))))))))))))
      · refine lr (fun u6 hu6 => sv rfl (sv rfl (s_nil (l_ret ?_))))
        obtain rfl := Option.some.inj hz2
        obtain rfl := ez2 _ rfl
        refine ⟨nofun, awl_ret ?_⟩
        rw [Sum.elim_inr] at h
        obtain rfl := Option.some.inj h
        exact fin_ok (.inr rfl) (resD1 (res_t rfl) rf_d) (.refl _)
      · refine l_skip (l_end (l_reg fun u7 hu7 => sv rfl (sv rfl (s_nil (l_nil ?_)))))
        obtain rfl := Option.some.inj hz2
        exact ⟨rfl, (), (sbr rfl rfl)⟩
    · refine l_exitN rfl ?_
      obtain rfl := Option.some.inj hz2
      obtain rfl := ez2 _ rfl
      refine ⟨nofun, awl_pop rfl (l_j ?_)⟩
      exact ⟨_, (), rfl, (sbr rfl rfl)⟩
  · rintro _ ⟨y1, g1, rfl, q1⟩
    rw [Sum.elim_inl] at h
    refine l_sub q1 (lr (fun u8 hu8 => sv rfl (s_nil (l_ret ?_))))
    obtain rfl := Option.some.inj h
    exact fin_ok (.inr rfl) (resD1 (res_t rfl) rf_d) (.refl _)

noncomputable def convoy_beside (p1 : Convoy) : Option (Int × Int) :=
  (slices_IndexFunc_Mate_Mate_convoy_beside_1b p1.Mates p1).bind fun v1 => cond (decide (v1 < 0)) (some ((w64 ((p1.Mates.length : Int) - 1)), (-1))) (some ((w64 (v1 - 1)), v1))

/-- kerbstone/convoy.beside -/
def ac_convoy_beside : AC := (.seq (.reg [oo 1 (.box 38 true (.t 0)), oo 2 (.mv (ci 0)), oo 3 (.mv (ci 0))]) (.seq (.reg [oo 5 (.fieldA 2 (.t 1)), oo 6 (.load 1 false (.t 5)), oo 7 (.mkfn (.func 100) [] [(.t 1)]), oo 8 (.call (cf 98) [(.t 6), (.t 7)]), oo 4 (.mv (.t 8))]) (.seq (.seq (.reg [oo 9 (.mv (.t 4)), oo 10 (.bin .lss (.t 9) (ci 0))]) (.cond (.t 10) (.seq (.reg [oo 11 (.fieldA 2 (.t 1)), oo 12 (.load 1 false (.t 11)), oo 13 (.len (.t 12)), oo 14 (.bin .sub (.t 13) (ci 1)), oo 2 (.mv (.t 14)), oo 3 (.mv (ci (-1)))]) .ret) .skip)) (.seq (.reg [oo 15 (.mv (.t 4)), oo 16 (.bin .sub (.t 15) (ci 1)), oo 17 (.mv (.t 4)), oo 2 (.mv (.t 16)), oo 3 (.mv (.t 17))]) .ret))))
theorem fn_convoy_beside : FnOK Try.prog 65 18 [.t 2, .t 3] ac_convoy_beside := ⟨_, _, Try.func65, rfl, Try.ntmps65, by kernel_rfl, ⟨fun _ => [], by kernel_rfl⟩, by kernel_rfl⟩
theorem convoy_beside_ok (p1 : Convoy) (r : (Int × Int)) (h : convoy_beside p1 = some r) : PCall Try.prog 65 [(.agg (eConvoy p1))] (.tup [(i64 r.1), (i64 r.2)]) := by
  refine l_call fn_convoy_beside (nl rfl) ?_
  unfold convoy_beside at h
  unfold ac_convoy_beside
  refine l_sub (s0 := ⟨T [(0, (.d _))], G []⟩) (sbr rfl rfl) ?_
  refine lr (fun u1 hu1 => sn rfl rfl (sv rfl (sv rfl (s_nil (lr (fun u2 hu2 => sp rfl rfl (sl rfl G_hit rfl (s_val (.fn _ _ _) rfl rfl (bs h fun v1 hv1 h => s_call rfl (rfL_cons rf_d (rfL_cons (rf_fn rfL_nil (rfL_cons (rf_ptr G_hit (rfL_cons rf_d (rfL_cons rf_d (rfL_cons rf_d (rfL_cons rf_d (rfL_cons rf_d (rfL_cons rf_d (rfL_cons rf_d (rfL_cons rf_d (rfL_cons rf_d (rfL_cons rf_d (rfL_cons rf_d (rfL_cons rf_d (rfL_cons rf_d rfL_nil)))))))))))))) rfL_nil)) rfL_nil)) all2_refl (slices_IndexFunc_Mate_Mate_convoy_beside_1b_ok _ _  _ hv1) (.inr rfl) (sv rfl (s_nil (l_seq (lr (fun u3 hu3 => sv rfl (sv rfl (s_nil (cc rfl h (fun c1 h => ?_) (fun c1 h => ?_))))))))))))))))))
  · refine lr (fun u4 hu4 => sp rfl rfl (sl rfl G_hit rfl (sd rfl (v_len rfl) (sv rfl (sv rfl (sv rfl (s_nil (l_ret ?_))))))))
    obtain rfl := Option.some.inj h
    exact fin_ok (.inr rfl) (resD2 (res_t rfl) (res_t rfl) rf_d rf_d) (.refl _)
  · refine l_skip (lr (fun u5 hu5 => sv rfl (sv rfl (sv rfl (sv rfl (sv rfl (s_nil (l_ret ?_))))))))
    obtain rfl := Option.some.inj h
    exact fin_ok (.inr rfl) (resD2 (res_t rfl) (res_t rfl) rf_d rf_d) (.refl _)

noncomputable def convoy_Notes_l1 (p1 : Convoy) (x1 : ((List Note) × Int)) : Option (Stp ((List Note) × Int) (List Note)) :=
  cond (decide (x1.2 < (p1.Mates.length : Int))) ((geti p1.Mates x1.2).bind fun v2 => (convoy_rear v2).bind fun v3 => (appc x1.1 [(Note.mk 1 v2.ID 0 p1.Tick v3 v2.V 0)]).bind fun v4 => (cond (decide ((w64 (x1.2 + 1)) < (p1.Mates.length : Int))) ((geti p1.Mates (w64 (x1.2 + 1))).bind fun v5 => (appc v4 [(Note.mk 4 v2.ID v5.ID p1.Tick v3 v2.V 0)]).bind fun v6 => some (v6, (Note.mk 4 v2.ID v5.ID p1.Tick v3 v2.V 0))) (some (v4, (Note.mk 1 v2.ID 0 p1.Tick v3 v2.V 0)))).bind fun y2 => cond ((v2.Until != 0) && (decide (v2.Until ≥ p1.Tick))) ((appc y2.1 [(Note.mk 3 y2.2.From v2.Ward y2.2.Stamp y2.2.R y2.2.V v2.Until)]).bind fun v7 => some (.go (v7, (w64 (x1.2 + 1))))) (some (.go (y2.1, (w64 (x1.2 + 1)))))) (some (.out x1.1))
noncomputable def convoy_Notes (p1 : Convoy) : Option (List Note) :=
  (convoy_Check p1).bind fun v1 => cond (v1 != 0) (some []) ((loop (convoy_Notes_l1 p1) ([], 0)).bind fun y1 => cond (p1.Guest_.ID != 0) ((convoy_beside p1).bind fun v8 => cond (decide (v8.2 ≥ 0)) ((geti p1.Mates v8.2).bind fun v9 => (appc y1 [(Note.mk 2 p1.Guest_.ID v9.ID p1.Tick (w64 (p1.Guest_.S - p1.Guest_.Len)) p1.Guest_.V 0)]).bind fun v10 => some v10) (some y1)) (some y1))

/-- kerbstone/convoy.Notes -/
def ac_convoy_Notes : AC := (.seq (.reg [oo 1 (.box 38 true (.t 0)), oo 2 (.mv (.c .nilS))]) (.seq (.seq (.reg [oo 10 (.load 13 true (.t 1)), oo 11 (.call (cf 32) [(.t 10)]), oo 12 (.bin .neq (.t 11) (ci 0))]) (.cond (.t 12) (.seq (.reg [oo 2 (.mv (.c .nilS))]) .ret) .skip)) (.seq (.reg [oo 3 (.mv (.c .nilS))]) (.seq (.seq (.reg [oo 13 (.fieldA 2 (.t 1)), oo 14 (.load 1 false (.t 13)), oo 15 (.len (.t 14)), oo 16 (.mv (ci 0))]) (.block 0 (.loop (.seq (.reg [oo 17 (.bin .lss (.t 16) (.t 15))]) (.seq (.cond (.t 17) .skip (.exit 0)) (.seq (.block 1 (.seq (.reg [oo 18 (.mv (.t 16)), oo 19 (.idxS 12 (.t 14) (.t 16)), oo 20 (.load 12 true (.t 19)), oo 5 (.alloc 65 [z0, z0, z0, z0, z0, z0, z0, zf, z0, z0, z0, z0]), oo 4 (.mv (.t 18)), oe (.store 12 (.t 5) (.t 20))]) (.seq (.draw [oo 21 (.fieldA 0 (.t 5)), oo 22 (.load 1 false (.t 21)), oo 23 (.fieldA 0 (.t 1)), oo 24 (.load 1 false (.t 23)), oo 25 (.load 12 true (.t 5)), oo 26 (.call (cf 67) [(.t 25)]), oo 27 (.fieldA 2 (.t 5)), oo 28 (.load 1 false (.t 27)), oo 29 (.build [z0, z0, z0, z0, z0, z0, z0] [(0, 1, (ci 1)), (1, 1, (.t 22)), (3, 1, (.t 24)), (4, 1, (.t 26)), (5, 1, (.t 28))]), oo 6 (.alloc 68 [z0, z0, z0, z0, z0, z0, z0]), oe (.store 7 (.t 6) (.t 29))] []) (.seq (.reg [oo 30 (.mv (.t 3)), oo 31 (.load 7 true (.t 6)), oo 32 (.dslice 68 7 1 [z0, z0, z0, z0, z0, z0, z0] [(0, 7, (.t 31))]), oo 33 (.append 57 68 7 (.t 30) (.t 32)), oo 3 (.mv (.t 33))]) (.seq (.seq (.reg [oo 34 (.mv (.t 4)), oo 35 (.bin .add (.t 34) (ci 1)), oo 36 (.fieldA 2 (.t 1)), oo 37 (.load 1 false (.t 36)), oo 38 (.len (.t 37)), oo 39 (.bin .lss (.t 35) (.t 38))]) (.cond (.t 39) (.seq (.draw [oo 40 (.fieldA 2 (.t 1)), oo 41 (.load 1 false (.t 40)), oo 42 (.mv (.t 4)), oo 43 (.bin .add (.t 42) (ci 1)), oo 44 (.idxS 12 (.t 41) (.t 43)), oo 45 (.fieldA 0 (.t 44)), oo 46 (.load 1 false (.t 45)), oo 47 (.fieldA 0 (.t 6)), oe (.store 1 (.t 47) (ci 4)), oo 48 (.fieldA 2 (.t 6)), oe (.store 1 (.t 48) (.t 46))] [(1, 8), (4, 8), (6, 8)]) (.reg [oo 49 (.mv (.t 3)), oo 50 (.load 7 true (.t 6)), oo 51 (.dslice 68 7 1 [z0, z0, z0, z0, z0, z0, z0] [(0, 7, (.t 50))]), oo 52 (.append 57 68 7 (.t 49) (.t 51)), oo 3 (.mv (.t 52))])) .skip)) (.seq (.reg [oo 53 (.fieldA 11 (.t 5)), oo 54 (.load 1 false (.t 53)), oo 55 (.bin .neq (.t 54) (ci 0)), oo 56 (.mv (.t 55)), og 57 (.fieldA 11 (.t 5)) 56, og 58 (.load 1 false (.t 57)) 56, og 59 (.fieldA 0 (.t 1)) 56, og 60 (.load 1 false (.t 59)) 56, og 61 (.bin .geq (.t 58) (.t 60)) 56, oo 62 (.pick (.t 56) (.t 61) (.c zf))]) (.cond (.t 62) (.seq (.draw [oo 63 (.fieldA 8 (.t 5)), oo 64 (.load 1 false (.t 63)), oo 65 (.fieldA 11 (.t 5)), oo 66 (.load 1 false (.t 65)), oo 67 (.fieldA 0 (.t 6)), oe (.store 1 (.t 67) (ci 3)), oo 68 (.fieldA 2 (.t 6)), oe (.store 1 (.t 68) (.t 64)), oo 69 (.fieldA 6 (.t 6)), oe (.store 1 (.t 69) (.t 66))] [(1, 5), (3, 5), (3, 7)]) (.reg [oo 70 (.mv (.t 3)), oo 71 (.load 7 true (.t 6)), oo 72 (.dslice 68 7 1 [z0, z0, z0, z0, z0, z0, z0] [(0, 7, (.t 71))]), oo 73 (.append 57 68 7 (.t 70) (.t 72)), oo 3 (.mv (.t 73))])) .skip))))))) (.reg [oo 74 (.bin .add (.t 16) (ci 1)), oo 16 (.mv (.t 74))]))))))) (.seq (.seq (.reg [oo 75 (.fieldA 3 (.t 1)), oo 76 (.load 10 true (.t 75)), oo 7 (.alloc 36 [z0, z0, z0, z0, z0, z0, z0, z0, z0, z0]), oe (.store 10 (.t 7) (.t 76))]) (.seq (.reg [oo 77 (.fieldA 0 (.t 7)), oo 78 (.load 1 false (.t 77)), oo 79 (.bin .neq (.t 78) (ci 0))]) (.cond (.t 79) (.seq (.reg [oo 81 (.load 13 true (.t 1)), oo 82 (.call (cf 65) [(.t 81)]), oo 80 (.mv (.t 82)), oo 83 (.ext (.t 80) 0), oo 84 (.ext (.t 80) 1), oo 8 (.mv (.t 83)), oo 9 (.mv (.t 84))]) (.seq (.reg [oo 85 (.mv (.t 9)), oo 86 (.bin .geq (.t 85) (ci 0))]) (.cond (.t 86) (.draw [oo 87 (.mv (.t 3)), oo 88 (.fieldA 0 (.t 7)), oo 89 (.load 1 false (.t 88)), oo 90 (.fieldA 2 (.t 1)), oo 91 (.load 1 false (.t 90)), oo 92 (.mv (.t 9)), oo 93 (.idxS 12 (.t 91) (.t 92)), oo 94 (.fieldA 0 (.t 93)), oo 95 (.load 1 false (.t 94)), oo 96 (.fieldA 0 (.t 1)), oo 97 (.load 1 false (.t 96)), oo 98 (.fieldA 1 (.t 7)), oo 99 (.load 1 false (.t 98)), oo 100 (.fieldA 3 (.t 7)), oo 101 (.load 1 false (.t 100)), oo 102 (.bin .sub (.t 99) (.t 101)), oo 103 (.fieldA 2 (.t 7)), oo 104 (.load 1 false (.t 103)), oo 105 (.build [z0, z0, z0, z0, z0, z0, z0] [(0, 1, (ci 2)), (1, 1, (.t 89)), (2, 1, (.t 95)), (3, 1, (.t 97)), (4, 1, (.t 102)), (5, 1, (.t 104))]), oo 106 (.dslice 68 7 1 [z0, z0, z0, z0, z0, z0, z0] [(0, 7, (.t 105))]), oo 107 (.append 57 68 7 (.t 87) (.t 106)), oo 3 (.mv (.t 107))] []) .skip))) .skip))) (.seq (.reg [oo 108 (.mv (.t 3)), oo 2 (.mv (.t 108))]) .ret))))))
theorem fn_convoy_Notes : FnOK Try.prog 40 109 [.t 2] ac_convoy_Notes := ⟨_, _, Try.func40, rfl, Try.ntmps40, by kernel_rfl, ⟨fun r => if r == 8 then [1002] else if r == 11 then [1002] else if r == 14 then [1002] else if r == 20 then [1019] else [], by kernel_rfl⟩, by kernel_rfl⟩
set_option maxHeartbeats 4000000 in
theorem convoy_Notes_ok (p1 : Convoy) (r : (List Note)) (h : convoy_Notes p1 = some r) : PCall Try.prog 40 [(.agg (eConvoy p1))] (.list (List.map eNote r)) := by
  refine l_call fn_convoy_Notes (nl rfl) ?_
  unfold convoy_Notes at h
  unfold ac_convoy_Notes
  refine l_sub (s0 := ⟨T [(0, (.d _))], G []⟩) (sbr rfl rfl) ?_
  refine lr (fun u1 hu1 => sn rfl rfl (sv rfl (s_nil (l_seq (lr (fun u2 hu2 => sd rfl (v_loadG rfl G_hit rfl rfl) (bs h fun v1 hv1 h => s_call rfl rfl all2_refl (convoy_Check_ok _  _ hv1) (.inl rfl) (sv rfl (s_nil (cc rfl h (fun c1 h => ?_) (fun c1 h => ?_)))))))))))
  · refine lr (fun u3 hu3 => sv rfl (s_nil (l_ret ?_)))
    obtain rfl := Option.some.inj h
    exact fin_ok (.inr rfl) (resD1 (res_t rfl) rf_d) DLe.nil
  · refine l_skip (lr (fun u4 hu4 => sv rfl (s_nil (l_seq (lr (fun u5 hu5 => sp rfl rfl (sl rfl G_hit rfl (sd rfl (v_len rfl) (sv rfl (s_nil (bs h fun y1 hy1 h => l_join (fun s => ∃ g1 : ({d : Nat // d ∈ [33, 52, 73]} × Nat), Sb ⟨T [(1, (.ptr (1, u1) 0)), (3, (oS y1 (g1.1.val, g1.2)))], G [((1, u1), some (.box 38 (dConvoy p1))), ((g1.1.val, g1.2), oB 68 7 eNote y1)]⟩ s) ?_ ?_)))))))))))
    · refine l_block (l_loop (convoy_Notes_l1 p1) (fun (x1 : ((List Note) × Int)) (g2 : ({d : Nat // d ∈ [33, 52, 73]} × Nat)) => ⟨T [(1, (.ptr (1, u1) 0)), (3, (oS x1.1 (g2.1.val, g2.2))), (14, (dl eMate p1.Mates)), (15, (di (p1.Mates.length : Int))), (16, (di x1.2))], G [((1, u1), some (.box 38 (dConvoy p1))), ((g2.1.val, g2.2), oB 68 7 eNote x1.1)]⟩) ([], 0) (⟨33, .head _⟩, 0) _ hy1 (sb_of ⟨.of rfl, .of rfl, .of rfl, .of rfl, .of rfl, trivial⟩ (sbG_some G_hit (.of rfl) (sbG_nil trivial))) ?_)
      intro x1 g2 z1 hz1 ez1
      unfold convoy_Notes_l1 at hz1
      refine lr (fun u6 hu6 => sv rfl (s_nil (l_seq (cc rfl hz1 (fun c2 hz1 => ?_) (fun c2 hz1 => ?_)))))
      · refine l_skip (l_seq (l_block (lr (fun u7 hu7 => sv rfl (bs hz1 fun v2 hv2 hz1 => sd rfl (v_idx rfl rfl hv2 rfl) (sd rfl (v_loadLG rfl hv2 rfl rfl) (sn rfl rfl (sv rfl (sst rfl G_hit (dMate v2) rfl (s_nil (l_seq (l_draw rfl fun u8 hu8 => sp rfl rfl (sl rfl G_hit rfl (sp rfl rfl (sl rfl (gq rfl) rfl (sd rfl (v_loadG rfl G_hit rfl rfl) (bs hz1 fun v3 hv3 hz1 => s_call rfl rfl all2_refl (convoy_rear_ok _  _ hv3) (.inl rfl) (sp rfl rfl (sl rfl G_hit rfl (sv rfl (sn rfl rfl (sst rfl G_hit [(di 1), (di v2.ID), (di 0), (di p1.Tick), (di v3), (di v2.V), (di 0)] rfl (s_nil (l_seq (l_sub (s0 := ⟨T [(1, (.ptr (1, u1) 0)), (3, (oS x1.1 (g2.1.val, g2.2))), (4, (di x1.2)), (5, (.ptr (5, u7) 0)), (6, (.ptr (6, u8) 0)), (14, (dl eMate p1.Mates)), (15, (di (p1.Mates.length : Int))), (16, (di x1.2))], G [((1, u1), some (.box 38 (dConvoy p1))), ((g2.1.val, g2.2), oB 68 7 eNote x1.1), ((5, u7), some (.box 65 (dMate v2))), ((6, u8), some (.box 68 [(di 1), (di v2.ID), (di 0), (di p1.Tick), (di v3), (di v2.V), (di 0)]))]⟩) (sb_of ⟨.of rfl, .of rfl, .of rfl, .of rfl, .of rfl, .of rfl, .of rfl, .of rfl, trivial⟩ (sbG_some (gq rfl) (.of rfl) (sbG_oB (G_skip (neL g2.1.property rfl) (G_skip (neL g2.1.property rfl) (G_skip (neL g2.1.property rfl) (G_skip (neL g2.1.property rfl) (G_skip (neL g2.1.property rfl) G_hit))))) (sbG_some (gq rfl) (.of rfl) (sbG_some G_hit (.of rfl) trivial))))) ?_)))))))))))))))))))))))))
        refine l_reg fun u9 hu9 => s_val (oS x1.1 (g2.1.val, g2.2)) rfl rfl (sd rfl (v_loadG rfl (G_skip rfl (G_skip (neR g2.1.property rfl) (gq rfl))) rfl rfl) (s_val (dl eNote [(Note.mk 1 v2.ID 0 p1.Tick v3 v2.V 0)]) rfl rfl (bs hz1 fun v4 hv4 hz1 => s_appendO eNote (g2.1.val, g2.2) x1.1 (Note.mk 1 v2.ID 0 p1.Tick v3 v2.V 0) [] _ (elems_list (fun _ => rfl)) rfl (G_skip (neL g2.1.property rfl) G_hit) hv4 (ss rfl (s_nil (l_seq (lr (fun u10 hu10 => sv rfl (sv rfl (sp rfl rfl (sd rfl (v_load rfl (G_skip rfl (G_skip (neR g2.1.property rfl) G_hit)) rfl) (sd rfl (v_len rfl) (sv rfl (s_nil (bs hz1 fun y2 hy2 hz1 => l_join (fun s => ∃ g3 : ({d : Nat // d ∈ [33, 52]} × Nat), Sb ⟨T [(1, (.ptr (1, u1) 0)), (3, (oS y2.1 (g3.1.val, g3.2))), (5, (.ptr (5, u7) 0)), (6, (.ptr (6, u8) 0)), (14, (dl eMate p1.Mates)), (15, (di (p1.Mates.length : Int))), (16, (di x1.2))], G [((1, u1), some (.box 38 (dConvoy p1))), ((5, u7), some (.box 65 (dMate v2))), ((6, u8), some (.box 68 (dNote y2.2))), ((g3.1.val, g3.2), oB 68 7 eNote y2.1)]⟩ s) ?_ ?_)))))))))))))))
        · refine cc rfl hy2 (fun c3 hy2 => ?_) (fun c3 hy2 => ?_)
          · refine l_seq (l_sub (s0 := ⟨T [(1, (.ptr (1, u1) 0)), (3, (.sl (33, u9))), (4, (di x1.2)), (5, (.ptr (5, u7) 0)), (6, (.ptr (6, u8) 0)), (14, (dl eMate p1.Mates)), (15, (di (p1.Mates.length : Int))), (16, (di x1.2))], G [((1, u1), some (.box 38 (dConvoy p1))), ((33, u9), some (.arr 68 7 (List.map eNote v4))), ((5, u7), some (.box 65 (dMate v2))), ((6, u8), some (.box 68 [(di 1), (di v2.ID), (di 0), (di p1.Tick), (di v3), (di v2.V), (di 0)]))]⟩) (sb_of ⟨.of rfl, .of rfl, .of rfl, .of rfl, .of rfl, .of rfl, .of rfl, .of rfl, trivial⟩ (sbG_some (G_skip rfl (G_skip (neR g2.1.property rfl) G_hit)) (.of rfl) (sbG_some G_hit (.of rfl) (sbG_some (G_skip rfl (G_skip (neR g2.1.property rfl) (G_skip rfl (G_skip (neR g2.1.property rfl) G_hit)))) (.of rfl) (sbG_some (G_skip rfl (G_skip (neR g2.1.property rfl) (G_skip rfl (G_skip (neR g2.1.property rfl) (gq rfl))))) (.of rfl) trivial))))) ?_)
            refine l_drawT fun u11 hu11 => t_val (.ptr _ _) rfl rfl (t_val (.d _) rfl (v_load rfl G_hit rfl) (t_val (.d _) rfl rfl (t_val (.d _) rfl rfl (bs hy2 fun v5 hv5 hy2 => t_val (.d _) rfl (v_idx rfl rfl hv5 rfl) (t_val (.d _) rfl rfl (t_val (.d _) rfl (v_loadL rfl hv5 rfl) (t_val (.ptr _ _) rfl rfl (t_store _ _ _ _ _ rfl rfl rfl (gq rfl) (nl rfl) [(di 4), (di v2.ID), (di 0), (di p1.Tick), (di v3), (di v2.V), (di 0)] rfl (t_val (.ptr _ _) rfl rfl (t_store _ _ _ _ _ rfl rfl rfl G_hit (nl rfl) [(di 4), (di v2.ID), (di v5.ID), (di p1.Tick), (di v3), (di v2.V), (di 0)] rfl (t_nil ⟨rfl, ?_⟩)))))))))))
            refine l_sub (s0 := ⟨T [(1, (.ptr _ _)), (3, (.sl _)), (5, (.ptr _ _)), (6, (.ptr _ _)), (14, (.d _)), (15, (.d _)), (16, (.d _))], G [((1, u1), some (.box 38 _)), ((33, u9), some _), ((5, u7), some (.box 65 _)), ((6, u8), some (.box 68 _))]⟩) (sbr rfl rfl) ?_
            refine l_reg fun u12 hu12 => ss rfl (sd rfl (v_loadG rfl (gq rfl) rfl rfl) (s_val (dl eNote [(Note.mk 4 v2.ID v5.ID p1.Tick v3 v2.V 0)]) rfl rfl (bs hy2 fun v6 hv6 hy2 => s_append eNote _ _ _ _ (elems_list (fun _ => rfl)) rfl (gq rfl) hv6 (ss rfl (s_nil ?_)))))
            obtain rfl := Option.some.inj hy2
            exact l_j ⟨(⟨52, .tail _ (.head _)⟩, u12), (sb_of ⟨.of rfl, (.of (oS_ne (appc_ne hv6)).symm), .of rfl, .of rfl, .of rfl, .of rfl, .of rfl, trivial⟩ (sbG_some (gq rfl) (.of rfl) (sbG_some (gq rfl) (.of rfl) (sbG_some (gq rfl) (.of rfl) (sbG_own G_hit trivial)))))⟩
          · refine l_skip ?_
            obtain rfl := Option.some.inj hy2
            exact l_j ⟨(⟨33, .head _⟩, u9), (sb_of ⟨.of rfl, (.of (oS_ne (appc_ne hv4)).symm), .of rfl, .of rfl, .of rfl, .of rfl, .of rfl, trivial⟩ (sbG_some (G_skip rfl (G_skip (neR g2.1.property rfl) G_hit)) (.of rfl) (sbG_some (G_skip rfl (G_skip (neR g2.1.property rfl) (G_skip rfl (G_skip (neR g2.1.property rfl) G_hit)))) (.of rfl) (sbG_some (G_skip rfl (G_skip (neR g2.1.property rfl) (G_skip rfl (G_skip (neR g2.1.property rfl) (gq rfl))))) (.of rfl) (sbG_own G_hit trivial)))))⟩
        · rintro _ ⟨g3, q1⟩
          refine l_sub q1 (lr (fun u13 hu13 => sp rfl rfl (sl rfl (gq rfl) rfl (sv rfl (sv rfl (gp rfl (gw_t rfl) (fun _ => rfl) (gt rfl (vl rfl (gq rfl) rfl) (gp rfl (gw_t rfl) (fun _ => rfl) (gt rfl (vl rfl G_hit rfl) (gt rfl (fun w5 => (v_bin (gd_pos w5) (gd_pos w5) rfl)) (sa rfl rfl rfl (s_nil (cc rfl hz1 (fun c4 hz1 => ?_) (fun c4 hz1 => ?_))))))))))))))
          · refine l_seq (l_drawT fun u14 hu14 => t_val (.ptr _ _) rfl rfl (t_val (.d _) rfl (v_load rfl (gq rfl) rfl) (t_val (.ptr _ _) rfl rfl (t_val (.d _) rfl (v_load rfl (gq rfl) rfl) (t_val (.ptr _ _) rfl rfl (t_store _ _ _ _ _ rfl rfl rfl (gq rfl) (nl rfl) [(di 3), (di y2.2.From), (di y2.2.To), (di y2.2.Stamp), (di y2.2.R), (di y2.2.V), (di y2.2.Until)] rfl (t_val (.ptr _ _) rfl rfl (t_store _ _ _ _ _ rfl rfl rfl G_hit (nl rfl) [(di 3), (di y2.2.From), (di v2.Ward), (di y2.2.Stamp), (di y2.2.R), (di y2.2.V), (di y2.2.Until)] rfl (t_val (.ptr _ _) rfl rfl (t_store _ _ _ _ _ rfl rfl rfl G_hit (nl rfl) [(di 3), (di y2.2.From), (di v2.Ward), (di y2.2.Stamp), (di y2.2.R), (di y2.2.V), (di v2.Until)] rfl (t_nil ⟨by first | rfl | ((generalize g3.1 = q0; rcases q0 with ⟨d0, _ | ⟨_, _ | ⟨_, h0⟩⟩⟩) <;> (generalize y2.1 = z3; cases z3) <;> first | rfl | contradiction), ?_⟩)))))))))))
            refine l_sub (s0 := ⟨T [(1, (.ptr (1, u1) 0)), (3, (oS y2.1 (g3.1.val, g3.2))), (6, (.ptr (6, u8) 0)), (14, (dl eMate p1.Mates)), (15, (di (p1.Mates.length : Int))), (16, (di x1.2))], G [((1, u1), some (.box 38 (dConvoy p1))), ((g3.1.val, g3.2), oB 68 7 eNote y2.1), ((6, u8), some (.box 68 [(di 3), (di y2.2.From), (di v2.Ward), (di y2.2.Stamp), (di y2.2.R), (di y2.2.V), (di v2.Until)]))]⟩) (sb_of ⟨.of rfl, .of rfl, .of rfl, .of rfl, .of rfl, .of rfl, trivial⟩ (sbG_some (gq rfl) (.of rfl) (sbG_oB (G_skip (neL g3.1.property rfl) (G_skip (neL g3.1.property rfl) (G_skip (neL g3.1.property rfl) (G_skip (neL g3.1.property rfl) (G_skip (neL g3.1.property rfl) (G_skip (neL g3.1.property rfl) G_hit)))))) (sbG_some G_hit (.of rfl) trivial)))) ?_
            refine l_reg fun u15 hu15 => s_val (oS y2.1 (g3.1.val, g3.2)) rfl rfl (sd rfl (v_loadG rfl (G_skip rfl (G_skip (neR g3.1.property rfl) G_hit)) rfl rfl) (s_val (dl eNote [(Note.mk 3 y2.2.From v2.Ward y2.2.Stamp y2.2.R y2.2.V v2.Until)]) rfl rfl (bs hz1 fun v7 hv7 hz1 => s_appendO eNote (g3.1.val, g3.2) y2.1 (Note.mk 3 y2.2.From v2.Ward y2.2.Stamp y2.2.R y2.2.V v2.Until) [] _ (elems_list (fun _ => rfl)) rfl (G_skip (neL g3.1.property rfl) G_hit) hv7 (ss rfl (s_nil (l_end (l_reg fun u16 hu16 => sv rfl (sv rfl (s_nil (l_nil ?_))))))))))
            obtain rfl := Option.some.inj hz1
            exact ⟨rfl, (⟨73, .tail _ (.tail _ (.head _))⟩, u15), (sb_of ⟨.of rfl, (.of (oS_ne (appc_ne hv7)).symm), .of rfl, .of rfl, .of rfl, trivial⟩ (sbG_some (G_skip rfl (G_skip (neR g3.1.property rfl) G_hit)) (.of rfl) (sbG_own G_hit trivial)))⟩
          · refine l_skip (l_end (l_reg fun u17 hu17 => sv rfl (sv rfl (s_nil (l_nil ?_)))))
            obtain rfl := Option.some.inj hz1
            exact ⟨rfl, (⟨g3.1.val, memL g3.1.property rfl⟩, g3.2), (sb_of ⟨.of rfl, .of rfl, .of rfl, .of rfl, .of rfl, trivial⟩ (sbG_some G_hit (.of rfl) (sbG_oB (G_skip (neL g3.1.property rfl) (G_skip (neL g3.1.property rfl) (G_skip (neL g3.1.property rfl) G_hit))) trivial)))⟩
      · refine l_exitN rfl ?_
        obtain rfl := Option.some.inj hz1
        obtain rfl := ez1 _ rfl
        refine ⟨nofun, awl_pop rfl (l_j ?_)⟩
        exact ⟨(g2.1, g2.2), (sb_of ⟨.of rfl, .of rfl, trivial⟩ (sbG_some G_hit (.of rfl) (sbG_oB (G_skip (neL g2.1.property rfl) G_hit) trivial)))⟩
    · rintro _ ⟨g1, q2⟩
      refine l_sub q2 (l_seq (lr (fun u18 hu18 => sp rfl rfl (sd rfl (v_loadG rfl G_hit rfl rfl) (sn rfl rfl (sst rfl G_hit (dGuest p1.Guest_) rfl (s_nil (lr (fun u19 hu19 => sp rfl rfl (sl rfl G_hit rfl (sv rfl (s_nil (cc rfl h (fun c5 h => ?_) (fun c5 h => ?_))))))))))))))
      · refine lr (fun u20 hu20 => sd rfl (v_loadG rfl (gq rfl) rfl rfl) (bs h fun v8 hv8 h => s_call rfl rfl all2_refl (convoy_beside_ok _  _ hv8) (.inl rfl) (sv rfl (sv rfl (sv rfl (sv rfl (sv rfl (s_nil (lr (fun u21 hu21 => sv rfl (sv rfl (s_nil (cc rfl h (fun c6 h => ?_) (fun c6 h => ?_))))))))))))))
        · refine l_draw rfl fun u22 hu22 => s_val (oS y1 (g1.1.val, g1.2)) rfl rfl (sp rfl rfl (sl rfl G_hit rfl (sp rfl rfl (sl rfl (gq rfl) rfl (sv rfl (bs h fun v9 hv9 h => sd rfl (v_idx rfl rfl hv9 rfl) (sv rfl (sd rfl (v_loadL rfl hv9 rfl) (sp rfl rfl (sl rfl (gq rfl) rfl (sp rfl rfl (sl rfl G_hit rfl (sp rfl rfl (sl rfl G_hit rfl (sv rfl (sp rfl rfl (sl rfl G_hit rfl (sv rfl (s_val (dl eNote [(Note.mk 2 p1.Guest_.ID v9.ID p1.Tick (w64 (p1.Guest_.S - p1.Guest_.Len)) p1.Guest_.V 0)]) rfl rfl (bs h fun v10 hv10 h => s_appendO eNote (g1.1.val, g1.2) y1 (Note.mk 2 p1.Guest_.ID v9.ID p1.Tick (w64 (p1.Guest_.S - p1.Guest_.Len)) p1.Guest_.V 0) [] _ (elems_list (fun _ => rfl)) rfl (G_skip (neL g1.1.property rfl) (G_skip (neL g1.1.property rfl) (G_skip (neL g1.1.property rfl) G_hit))) hv10 (ss rfl (s_nil (l_seq (l_sub (s0 := ⟨T [(3, (.sl _))], G [((107, u22), some _)]⟩) (sbr rfl rfl) ?_))))))))))))))))))))))))
          refine l_reg fun u23 hu23 => ss rfl (ss rfl (s_nil (l_ret ?_)))
          obtain rfl := Option.some.inj h
          exact fin_ok (.inr rfl) (resD1 (res_t rfl) (rf_sl G_hit)) (.refl _)
        · refine l_skip (lr (fun u24 hu24 => s_val (oS y1 (g1.1.val, g1.2)) rfl rfl (s_val (oS y1 (g1.1.val, g1.2)) rfl rfl (s_nil (l_ret ?_)))))
          obtain rfl := Option.some.inj h
          exact fin_ok (.inr rfl) (resD1 (res_t rfl) (rf_oS (G_skip (neL g1.1.property rfl) (G_skip (neL g1.1.property rfl) (G_skip (neL g1.1.property rfl) G_hit))))) oD_le
      · refine l_skip (lr (fun u25 hu25 => s_val (oS y1 (g1.1.val, g1.2)) rfl rfl (s_val (oS y1 (g1.1.val, g1.2)) rfl rfl (s_nil (l_ret ?_)))))
        obtain rfl := Option.some.inj h
        exact fin_ok (.inr rfl) (resD1 (res_t rfl) (rf_oS (G_skip (neL g1.1.property rfl) (G_skip (neL g1.1.property rfl) (G_skip (neL g1.1.property rfl) G_hit))))) oD_le

noncomputable def kit_Post_Send_o_l1 (p1 : KitPost) (p3 : Int) (x1 : ((List Note) × Int)) : Option (Stp ((List Note) × Int) (List Note)) :=
  cond (decide (x1.2 < (p1.sent.length : Int))) ((geti p1.sent x1.2).bind fun v1 => cond (decide (v1.Stamp ≥ (w64 ((w64 (p3 - 20)) - 1)))) ((geti p1.sent x1.2).bind fun v2 => (appc x1.1 [v2]).bind fun v3 => some (.go (v3, (w64 (x1.2 + 1))))) (some (.go (x1.1, (w64 (x1.2 + 1)))))) (some (.out x1.1))
noncomputable def kit_Post_Send_o (p1 : KitPost) (p2 : (List Note)) (p3 : Int) : Option KitPost :=
  (loop (kit_Post_Send_o_l1 p1 p3) ([], 0)).bind fun y1 => (appc y1 p2).bind fun v4 => some (KitPost.mk v4)

/-- (*kerbstone/kerbstonekit.Post).Send -/
def ac_kit_Post_Send_o : AC := (.seq (.reg [oo 6 (.mv (.c .nilS))]) (.seq (.seq (.reg [oo 7 (.mv (ci 0))]) (.block 0 (.loop (.seq (.seq (.reg [oo 8 (.mv (.t 7)), oo 9 (.mv (.t 0)), oo 10 (.nilck (.t 9)), oo 11 (.fieldA 0 (.t 10)), oo 12 (.load 1 false (.t 11)), oo 13 (.len (.t 12)), oo 14 (.bin .lss (.t 8) (.t 13))]) (.cond (.t 14) .skip (.exit 0))) (.seq (.block 1 (.seq (.reg [oo 17 (.mv (.t 0)), oo 18 (.nilck (.t 17)), oo 19 (.fieldA 0 (.t 18)), oo 20 (.load 1 false (.t 19)), oo 21 (.mv (.t 7)), oo 22 (.idxS 7 (.t 20) (.t 21)), oo 23 (.fieldA 3 (.t 22)), oo 24 (.load 1 false (.t 23)), oo 25 (.mv (.t 2)), oo 26 (.bin .sub (.t 25) (ci 20)), oo 27 (.bin .sub (.t 26) (ci 1)), oo 28 (.bin .geq (.t 24) (.t 27))]) (.cond (.t 28) (.reg [oo 29 (.mv (.t 6)), oo 30 (.mv (.t 0)), oo 31 (.nilck (.t 30)), oo 32 (.fieldA 0 (.t 31)), oo 33 (.load 1 false (.t 32)), oo 34 (.mv (.t 7)), oo 35 (.idxS 7 (.t 33) (.t 34)), oo 36 (.load 7 true (.t 35)), oo 37 (.dslice 68 7 1 [z0, z0, z0, z0, z0, z0, z0] [(0, 7, (.t 36))]), oo 38 (.append 57 68 7 (.t 29) (.t 37)), oo 6 (.mv (.t 38))]) .skip))) (.reg [oo 15 (.mv (.t 7)), oo 16 (.bin .add (.t 15) (ci 1)), oo 7 (.mv (.t 16))])))))) (.reg [oo 39 (.mv (.t 0)), oo 40 (.mv (.t 6)), oo 41 (.mv (.t 1)), oo 42 (.append 57 68 7 (.t 40) (.t 41)), oo 43 (.nilck (.t 39)), oo 44 (.fieldA 0 (.t 43)), oe (.store 1 (.t 44) (.t 42))])))
theorem fn_kit_Post_Send_o : FnOK Try.prog 54 45 [] ac_kit_Post_Send_o := ⟨_, _, Try.func54, rfl, Try.ntmps54, by kernel_rfl, ⟨fun r => if r == 5 then [1008] else [], by kernel_rfl⟩, by kernel_rfl⟩
set_option maxHeartbeats 4000000 in
theorem kit_Post_Send_o_ok (p1 : KitPost) (p2 : (List Note)) (p3 : Int) (r : KitPost) (h : kit_Post_Send_o p1 p2 p3 = some r) : MCall Try.prog 54 [(.ptr (900000, 0) 0), (dl eNote p2), (di p3)] [(.box 76 [(dl eNote p1.sent)])] (.d (.tup [])) [some (.box 76 [(dl eNote r.sent)])] [] := by
  refine m_callF fn_kit_Post_Send_o rfl (nl rfl) ?_
  unfold kit_Post_Send_o at h
  unfold ac_kit_Post_Send_o
  refine l_sub (s0 := ⟨T [(0, (.ptr _ _)), (1, (.d _)), (2, (.d _))], G [((900000, 0), some (.box 76 _))]⟩) (sbr rfl rfl) ?_
  refine lr (fun u1 hu1 => sv rfl (s_nil (l_seq (lr (fun u2 hu2 => sv rfl (s_nil (bs h fun y1 hy1 h => l_join (fun s => ∃ g1 : Nat, Sb ⟨T [(0, (.ptr (900000, 0) 0)), (1, (dl eNote p2)), (6, (oS y1 (38, g1)))], G [((900000, 0), some (.box 76 [(dl eNote p1.sent)])), ((38, g1), oB 68 7 eNote y1)]⟩ s) ?_ ?_)))))))
  · refine l_block (l_loop (kit_Post_Send_o_l1 p1 p3) (fun (x1 : ((List Note) × Int)) (g2 : Nat) => ⟨T [(0, (.ptr (900000, 0) 0)), (1, (dl eNote p2)), (2, (di p3)), (6, (oS x1.1 (38, g2))), (7, (di x1.2))], G [((900000, 0), some (.box 76 [(dl eNote p1.sent)])), ((38, g2), oB 68 7 eNote x1.1)]⟩) ([], 0) 0 _ hy1 (sb_of ⟨.of rfl, .of rfl, .of rfl, .of rfl, .of rfl, trivial⟩ (sbG_some G_hit (.of rfl) (sbG_nil trivial))) ?_)
    intro x1 g2 z1 hz1 ez1
    unfold kit_Post_Send_o_l1 at hz1
    refine l_seq (lr (fun u3 hu3 => sv rfl (sp rfl rfl (sp rfl rfl (sp rfl rfl (sl rfl G_hit rfl (sd rfl (v_len rfl) (sv rfl (s_nil (cc rfl hz1 (fun c1 hz1 => ?_) (fun c1 hz1 => ?_)))))))))))
    · refine l_skip (l_seq (l_block (lr (fun u4 hu4 => sp rfl rfl (sp rfl rfl (sp rfl rfl (sl rfl G_hit rfl (sv rfl (bs hz1 fun v1 hv1 hz1 => sd rfl (v_idx rfl rfl hv1 rfl) (sv rfl (sd rfl (v_loadL rfl hv1 rfl) (sv rfl (sv rfl (sv rfl (sv rfl (s_nil (cc rfl hz1 (fun c2 hz1 => ?_) (fun c2 hz1 => ?_))))))))))))))))))
      · refine l_sub (s0 := ⟨T [(0, (.ptr (900000, 0) 0)), (1, (dl eNote p2)), (2, (di p3)), (6, (oS x1.1 (38, g2))), (7, (di x1.2))], G [((900000, 0), some (.box 76 [(dl eNote p1.sent)])), ((38, g2), oB 68 7 eNote x1.1)]⟩) (sb_of ⟨.of rfl, .of rfl, .of rfl, .of rfl, .of rfl, trivial⟩ (sbG_some G_hit (.of rfl) (sbG_oB (gq rfl) trivial))) ?_
        refine l_reg fun u5 hu5 => s_val (oS x1.1 (38, g2)) rfl rfl (sp rfl rfl (sp rfl rfl (sp rfl rfl (sl rfl G_hit rfl (sv rfl (bs hz1 fun v2 hv2 hz1 => sd rfl (v_idx rfl rfl hv2 rfl) (sd rfl (v_loadLG rfl hv2 rfl rfl) (s_val (dl eNote [v2]) rfl rfl (bs hz1 fun v3 hv3 hz1 => s_appendO eNote (38, g2) x1.1 v2 [] _ (elems_list (fun _ => rfl)) rfl (gq rfl) hv3 (ss rfl (s_nil (l_end (l_reg fun u6 hu6 => sv rfl (sv rfl (sv rfl (s_nil (l_nil ?_)))))))))))))))))
        obtain rfl := Option.some.inj hz1
        exact ⟨rfl, u5, (sb_of ⟨.of rfl, .of rfl, .of rfl, (.of (oS_ne (appc_ne hv3)).symm), .of rfl, trivial⟩ (sbG_some (gq rfl) (.of rfl) (sbG_own G_hit trivial)))⟩
      · refine l_skip (l_end (l_sub (s0 := ⟨T [(0, (.ptr (900000, 0) 0)), (1, (dl eNote p2)), (2, (di p3)), (6, (oS x1.1 (38, g2))), (7, (di x1.2))], G [((900000, 0), some (.box 76 [(dl eNote p1.sent)])), ((38, g2), oB 68 7 eNote x1.1)]⟩) (sb_of ⟨.of rfl, .of rfl, .of rfl, .of rfl, .of rfl, trivial⟩ (sbG_some G_hit (.of rfl) (sbG_oB (gq rfl) trivial))) ?_))
        refine l_reg fun u7 hu7 => sv rfl (sv rfl (sv rfl (s_nil (l_nil ?_))))
        obtain rfl := Option.some.inj hz1
        exact ⟨rfl, g2, (sb_of ⟨.of rfl, .of rfl, .of rfl, .of rfl, .of rfl, trivial⟩ (sbG_some G_hit (.of rfl) (sbG_oB (gq rfl) trivial)))⟩
    · refine l_exitN rfl ?_
      obtain rfl := Option.some.inj hz1
      obtain rfl := ez1 _ rfl
      refine ⟨nofun, awl_pop rfl (l_j ?_)⟩
      exact ⟨g2, (sb_of ⟨.of rfl, .of rfl, .of rfl, trivial⟩ (sbG_some G_hit (.of rfl) (sbG_oB (gq rfl) trivial)))⟩
  · rintro _ ⟨g1, q1⟩
    refine l_sub q1 (l_reg fun u8 hu8 => sp rfl rfl (s_val (oS y1 (38, g1)) rfl rfl (sv rfl (bs h fun v4 hv4 h => s_appendG eNote (38, g1) y1 p2 _ (elems_list (fun _ => rfl)) rfl (gq rfl) hv4 (fresh_none hu8) (sp rfl rfl (sp rfl rfl (s_store _ _ _ _ _ (cellsV_oS _ _) rfl rfl (gq rfl) (nl rfl) [(oS v4 (42, u8))] rfl (s_nil (l_nil ?_)))))))))
    obtain rfl := Option.some.inj h
    exact fin_mf (.inl rfl) [(42, u8)] resDF0 (.refl _) ⟨⟨_, _, _, G_hit, (old_notin rfl old_notin_nil), (rfL_cons (rf_oS (rs_in (.head _) (gq rfl))) rfL_nil), (.cons oD_le .nil), rfl⟩, trivial⟩

noncomputable def law09_wanted_o_l1 (p2 : Int) (x1 : ((List Int) × Int × KitRing)) : Option (Stp ((List Int) × Int × KitRing) ((List Int) × KitRing)) :=
  cond (decide (x1.2.1 < p2)) ((kit_Ring_Next_o x1.2.2 150).bind fun v1 => (appc x1.1 [(w64 (v1.1 - 100))]).bind fun v2 => some (.go (v2, (w64 (x1.2.1 + 1)), v1.2))) (some (.out (x1.1, x1.2.2)))
noncomputable def law09_wanted_o (p1 : KitRing) (p2 : Int) : Option ((List Int) × KitRing) :=
  (loop (law09_wanted_o_l1 p2) ([], 0, p1)).bind fun y1 => some (y1.1, y1.2)

/-- kerbstone/kerbstonelaw09.wanted -/
def ac_law09_wanted_o : AC := (.seq (.reg [oo 4 (.mv (.c .nilS))]) (.seq (.reg [oo 5 (.mv (.c .nilS))]) (.seq (.seq (.reg [oo 6 (.mv (ci 0))]) (.block 0 (.loop (.seq (.seq (.reg [oo 7 (.mv (.t 6)), oo 8 (.mv (.t 1)), oo 9 (.bin .lss (.t 7) (.t 8))]) (.cond (.t 9) .skip (.exit 0))) (.seq (.block 1 (.reg [oo 12 (.mv (.t 5)), oo 13 (.mv (.t 0)), oo 14 (.ocall 10050020 (cf 49) [(.t 13), (ci 150)]), oo 15 (.bin .sub (.t 14) (ci 100)), oo 16 (.dslice 2 1 1 [z0] [(0, 1, (.t 15))]), oo 17 (.append 39 2 1 (.t 12) (.t 16)), oo 5 (.mv (.t 17))])) (.reg [oo 10 (.mv (.t 6)), oo 11 (.bin .add (.t 10) (ci 1)), oo 6 (.mv (.t 11))])))))) (.seq (.reg [oo 18 (.mv (.t 5)), oo 4 (.mv (.t 18))]) .ret))))
theorem fn_law09_wanted_o : FnOK Try.prog 51 19 [.t 4] ac_law09_wanted_o := ⟨_, _, Try.func51, rfl, Try.ntmps51, by kernel_rfl, ⟨fun r => if r == 5 then [1005002, 1004] else [], by kernel_rfl⟩, by kernel_rfl⟩
set_option maxHeartbeats 4000000 in
theorem law09_wanted_o_ok (p1 : KitRing) (p2 : Int) (r : ((List Int) × KitRing)) (h : law09_wanted_o p1 p2 = some r) : MCall Try.prog 51 [(.ptr (900000, 0) 0), (di p2)] [(.box 94 [(dl eInt_i64 p1.l), (di p1.at_)])] (dl eInt_i64 r.1) [some (.box 94 [(dl eInt_i64 r.2.l), (di r.2.at_)])] [] := by
  refine m_callF fn_law09_wanted_o rfl (nl rfl) ?_
  unfold law09_wanted_o at h
  unfold ac_law09_wanted_o
  refine l_sub (s0 := ⟨T [(0, (.ptr _ _)), (1, (.d _))], G [((900000, 0), some (.box 94 _))]⟩) (sbr rfl rfl) ?_
  refine lr (fun u1 hu1 => sv rfl (s_nil (lr (fun u2 hu2 => sv rfl (s_nil (l_seq (lr (fun u3 hu3 => sv rfl (s_nil (bs h fun y1 hy1 h => l_join (fun s => ∃ g1 : Nat, Sb ⟨T [(0, (.ptr (900000, 0) 0)), (5, (oS y1.1 (17, g1)))], G [((900000, 0), some (.box 94 [(dl eInt_i64 y1.2.l), (di y1.2.at_)])), ((17, g1), oB 2 1 eInt_i64 y1.1)]⟩ s) ?_ ?_))))))))))
  · refine l_block (l_loop (law09_wanted_o_l1 p2) (fun (x1 : ((List Int) × Int × KitRing)) (g2 : Nat) => ⟨T [(0, (.ptr (900000, 0) 0)), (1, (di p2)), (5, (oS x1.1 (17, g2))), (6, (di x1.2.1))], G [((900000, 0), some (.box 94 [(dl eInt_i64 x1.2.2.l), (di x1.2.2.at_)])), ((17, g2), oB 2 1 eInt_i64 x1.1)]⟩) ([], 0, p1) 0 _ hy1 (sb_of ⟨.of rfl, .of rfl, .of rfl, .of rfl, trivial⟩ (sbG_some G_hit (.of rfl) (sbG_nil trivial))) ?_)
    intro x1 g2 z1 hz1 ez1
    unfold law09_wanted_o_l1 at hz1
    refine l_seq (lr (fun u4 hu4 => sv rfl (sv rfl (sv rfl (s_nil (cc rfl hz1 (fun c1 hz1 => ?_) (fun c1 hz1 => ?_)))))))
    · refine l_skip (l_seq (l_block (l_reg fun u5 hu5 => s_val (oS x1.1 (17, g2)) rfl rfl (sp rfl rfl (bs hz1 fun v1 hv1 hz1 => s_oc (v := .d (i64 v1.1)) (us := [(900000, 0)]) (oc_m (kit_Ring_Next_o_ok _ _ _ hv1) [(900000, 0)] [(900000, 0)] _ (((900000, 0), some (.box 94 [(dl eInt_i64 v1.2.l), (di v1.2.at_)])) :: _) rfl all2_av (kl_cons (kr_ptr G_hit rfl) (kl_cons kr_d kl_nil)) (live_cons G_hit live_nil) ⟨⟨_, G_hit, .of rfl⟩, trivial⟩ (fun _ h => h) nd1 rfl rfl rfl) (sv rfl (s_val (dl eInt_i64 [(w64 (v1.1 - 100))]) rfl rfl (bs hz1 fun v2 hv2 hz1 => s_appendO eInt_i64 (17, g2) x1.1 (w64 (v1.1 - 100)) [] _ (elems_list (fun _ => rfl)) rfl (gq rfl) hv2 (ss rfl (s_nil (l_end (l_reg fun u6 hu6 => sv rfl (sv rfl (sv rfl (s_nil (l_nil ?_))))))))))))))))
      obtain rfl := Option.some.inj hz1
      exact ⟨rfl, u5, (sb_of ⟨.of rfl, .of rfl, (.of (oS_ne (appc_ne hv2)).symm), .of rfl, trivial⟩ (sbG_some (gq rfl) (.of rfl) (sbG_own G_hit trivial)))⟩
    · refine l_exitN rfl ?_
      obtain rfl := Option.some.inj hz1
      obtain rfl := ez1 _ rfl
      refine ⟨nofun, awl_pop rfl (l_j ?_)⟩
      exact ⟨g2, (sb_of ⟨.of rfl, .of rfl, trivial⟩ (sbG_some G_hit (.of rfl) (sbG_oB (gq rfl) trivial)))⟩
  · rintro _ ⟨g1, q1⟩
    refine l_sub q1 (lr (fun u7 hu7 => s_val (oS y1.1 (17, g1)) rfl rfl (s_val (oS y1.1 (17, g1)) rfl rfl (s_nil (l_ret ?_)))))
    obtain rfl := Option.some.inj h
    exact fin_mf (.inr rfl) [(17, g1)] (resDF1 (res_t rfl) (rf_oS (rs_in (.head _) (gq rfl)))) oD_le ⟨⟨_, _, _, G_hit, (old_notin rfl old_notin_nil), rfl, all2_d, rfl⟩, trivial⟩

noncomputable def kit_Post_Deliver_o_o_l1 (p1 : KitPost) (p3 : Int) (v1 : (Int × KitRing)) (x1 : ((List Note) × Int × KitRing)) : Option (Stp ((List Note) × Int × KitRing) ((List Note) × KitRing)) :=
  cond ((decide (x1.2.1 ≥ 0)) && (decide ((x1.1.length : Int) < 40))) (((cond (decide (v1.1 > 0)) (geti p1.sent x1.2.1) (some default))).bind fun v2 => ((cond ((decide (v1.1 > 0)) && (!((v2.Stamp == p3) && (decide (v1.1 > 1))))) (kit_Ring_Next_o x1.2.2 5) (some default))).bind fun v3 => cond ((decide (v1.1 > 0)) && (((v2.Stamp == p3) && (decide (v1.1 > 1))) || (v3.1 == 0))) ((geti p1.sent x1.2.1).bind fun v4 => (appc x1.1 [v4]).bind fun v5 => some (.go (v5, (w64 (x1.2.1 - 1)), (KitRing.mk ((cond ((decide (v1.1 > 0)) && (!((v2.Stamp == p3) && (decide (v1.1 > 1))))) v3.2 x1.2.2).l) ((cond ((decide (v1.1 > 0)) && (!((v2.Stamp == p3) && (decide (v1.1 > 1))))) v3.2 x1.2.2).at_))))) (some (.go (x1.1, (w64 (x1.2.1 - 1)), (KitRing.mk ((cond ((decide (v1.1 > 0)) && (!((v2.Stamp == p3) && (decide (v1.1 > 1))))) v3.2 x1.2.2).l) ((cond ((decide (v1.1 > 0)) && (!((v2.Stamp == p3) && (decide (v1.1 > 1))))) v3.2 x1.2.2).at_)))))) (some (.out (x1.1, x1.2.2)))
noncomputable def kit_Post_Deliver_o_o (p1 : KitPost) (p2 : KitRing) (p3 : Int) : Option ((List Note) × KitRing) :=
  (kit_Ring_Next_o p2 4).bind fun v1 => (loop (kit_Post_Deliver_o_o_l1 p1 p3 v1) ([], (w64 ((p1.sent.length : Int) - 1)), v1.2)).bind fun y1 => cond ((decide ((y1.1.length : Int) > 1)) && (v1.1 == 3)) ((kit_Ring_Next_o y1.2 (y1.1.length : Int)).bind fun v6 => (geti y1.1 v6.1).bind fun v7 => (geti y1.1 0).bind fun v8 => (geti y1.1 0).bind fun v9 => (geti (seti y1.1 0 v7) v6.1).bind fun v10 => (geti (seti (seti y1.1 0 v7) v6.1 v8) 0).bind fun v11 => (appc (seti (seti y1.1 0 v7) v6.1 v8) [v11]).bind fun v12 => some (v12, v6.2)) (some (y1.1, y1.2))

/-- (*kerbstone/kerbstonekit.Post).Deliver -/
def ac_kit_Post_Deliver_o_o : AC := (.seq (.reg [oo 6 (.mv (.c .nilS))]) (.seq (.reg [oo 7 (.mv (.c .nilS))]) (.seq (.reg [oo 11 (.mv (.t 1)), oo 12 (.ocall 10020010 (cf 49) [(.t 11), (ci 4)]), oo 8 (.mv (.t 12))]) (.seq (.seq (.reg [oo 13 (.mv (.t 0)), oo 14 (.nilck (.t 13)), oo 15 (.fieldA 0 (.t 14)), oo 16 (.load 1 false (.t 15)), oo 17 (.len (.t 16)), oo 18 (.bin .sub (.t 17) (ci 1)), oo 9 (.mv (.t 18))]) (.block 0 (.loop (.seq (.seq (.reg [oo 19 (.mv (.t 9)), oo 20 (.bin .geq (.t 19) (ci 0)), oo 21 (.mv (.t 20)), og 22 (.mv (.t 7)) 21, og 23 (.len (.t 22)) 21, og 24 (.bin .lss (.t 23) (ci 40)) 21, oo 25 (.pick (.t 21) (.t 24) (.c zf))]) (.cond (.t 25) .skip (.exit 0))) (.seq (.block 1 (.seq (.reg [oo 28 (.mv (.t 8)), oo 29 (.bin .gtr (.t 28) (ci 0)), oo 30 (.mv (.t 29)), og 31 (.mv (.t 0)) 30, og 32 (.nilck (.t 31)) 30, og 33 (.fieldA 0 (.t 32)) 30, og 34 (.load 1 false (.t 33)) 30, og 35 (.mv (.t 9)) 30, og 36 (.idxS 7 (.t 34) (.t 35)) 30, og 37 (.fieldA 3 (.t 36)) 30, og 38 (.load 1 false (.t 37)) 30, og 39 (.mv (.t 2)) 30, og 40 (.bin .eql (.t 38) (.t 39)) 30, og 41 (.mv (.t 40)) 30, og 42 (.mv (.t 8)) 41, og 43 (.bin .gtr (.t 42) (ci 1)) 41, og 44 (.pick (.t 41) (.t 43) (.c zf)) 30, og 45 (.mv (.t 44)) 30, oh 46 (.mv (.t 1)) 45, oh 47 (.ocall 10060190 (cf 49) [(.t 46), (ci 5)]) 45, oh 48 (.bin .eql (.t 47) (ci 0)) 45, og 49 (.pick (.t 45) (.c (.v (.bool true))) (.t 48)) 30, oo 50 (.pick (.t 30) (.t 49) (.c zf))]) (.cond (.t 50) (.reg [oo 51 (.mv (.t 7)), oo 52 (.mv (.t 0)), oo 53 (.nilck (.t 52)), oo 54 (.fieldA 0 (.t 53)), oo 55 (.load 1 false (.t 54)), oo 56 (.mv (.t 9)), oo 57 (.idxS 7 (.t 55) (.t 56)), oo 58 (.load 7 true (.t 57)), oo 59 (.dslice 68 7 1 [z0, z0, z0, z0, z0, z0, z0] [(0, 7, (.t 58))]), oo 60 (.append 57 68 7 (.t 51) (.t 59)), oo 7 (.mv (.t 60))]) .skip))) (.reg [oo 26 (.mv (.t 9)), oo 27 (.bin .sub (.t 26) (ci 1)), oo 9 (.mv (.t 27))])))))) (.seq (.seq (.reg [oo 61 (.mv (.t 7)), oo 62 (.len (.t 61)), oo 63 (.bin .gtr (.t 62) (ci 1)), oo 64 (.mv (.t 63)), og 65 (.mv (.t 8)) 64, og 66 (.bin .eql (.t 65) (ci 3)) 64, oo 67 (.pick (.t 64) (.t 66) (.c zf))]) (.cond (.t 67) (.seq (.reg [oo 68 (.mv (.t 1)), oo 69 (.mv (.t 7)), oo 70 (.len (.t 69)), oo 71 (.ocall 10090030 (cf 49) [(.t 68), (.t 70)]), oo 10 (.mv (.t 71))]) (.seq (.draw [oo 72 (.mv (.t 7)), oo 73 (.mv (.t 7)), oo 74 (.mv (.t 10)), oo 75 (.mv (.t 7)), oo 76 (.mv (.t 10)), oo 77 (.idxS 7 (.t 75) (.t 76)), oo 78 (.load 7 true (.t 77)), oo 79 (.mv (.t 7)), oo 80 (.idxS 7 (.t 79) (ci 0)), oo 81 (.load 7 true (.t 80)), oo 82 (.idxS 7 (.t 72) (ci 0)), oe (.store 7 (.t 82) (.t 78)), oo 83 (.idxS 7 (.t 73) (.t 74)), oe (.store 7 (.t 83) (.t 81))] []) (.reg [oo 84 (.mv (.t 7)), oo 85 (.mv (.t 7)), oo 86 (.idxS 7 (.t 85) (ci 0)), oo 87 (.load 7 true (.t 86)), oo 88 (.dslice 68 7 1 [z0, z0, z0, z0, z0, z0, z0] [(0, 7, (.t 87))]), oo 89 (.append 57 68 7 (.t 84) (.t 88)), oo 7 (.mv (.t 89))]))) .skip)) (.seq (.reg [oo 90 (.mv (.t 7)), oo 6 (.mv (.t 90))]) .ret))))))
theorem fn_kit_Post_Deliver_o_o : FnOK Try.prog 55 91 [.t 6] ac_kit_Post_Deliver_o_o := ⟨_, _, Try.func55, rfl, Try.ntmps55, by kernel_rfl, ⟨fun r => if r == 2 then [1002001] else if r == 6 then [1006019] else if r == 7 then [1008] else if r == 9 then [1009003] else if r == 11 then [1004] else [], by kernel_rfl⟩, by kernel_rfl⟩
set_option maxHeartbeats 4000000 in
theorem kit_Post_Deliver_o_o_ok (p1 : KitPost) (p2 : KitRing) (p3 : Int) (r : ((List Note) × KitRing)) (h : kit_Post_Deliver_o_o p1 p2 p3 = some r) : MCall Try.prog 55 [(.ptr (900000, 0) 0), (.ptr (900001, 0) 0), (di p3)] [(.box 76 [(dl eNote p1.sent)]), (.box 94 [(dl eInt_i64 p2.l), (di p2.at_)])] (dl eNote r.1) [some (.box 76 [(dl eNote p1.sent)]), some (.box 94 [(dl eInt_i64 r.2.l), (di r.2.at_)])] [] := by
  refine m_callF fn_kit_Post_Deliver_o_o rfl (nl rfl) ?_
  unfold kit_Post_Deliver_o_o at h
  unfold ac_kit_Post_Deliver_o_o
  refine l_sub (s0 := ⟨T [(0, (.ptr _ _)), (1, (.ptr _ _)), (2, (.d _))], G [((900000, 0), some (.box 76 _)), ((900001, 0), some (.box 94 _))]⟩) (sbr rfl rfl) ?_
  refine lr (fun u1 hu1 => sv rfl (s_nil (lr (fun u2 hu2 => sv rfl (s_nil (lr (fun u3 hu3 => sp rfl rfl (bs h fun v1 hv1 h => s_oc (v := .d (i64 v1.1)) (us := [(900001, 0)]) (oc_m (kit_Ring_Next_o_ok _ _ _ hv1) [(900001, 0)] [(900001, 0)] _ (((900001, 0), some (.box 94 [(dl eInt_i64 v1.2.l), (di v1.2.at_)])) :: _) rfl all2_av (kl_cons (kr_ptr (G_skip rfl G_hit) rfl) (kl_cons kr_d kl_nil)) (live_cons (G_skip rfl G_hit) live_nil) ⟨⟨_, (G_skip rfl G_hit), .of rfl⟩, trivial⟩ (fun _ h => h) nd1 rfl rfl rfl) (sv rfl (s_nil (l_seq (lr (fun u4 hu4 => sp rfl rfl (sp rfl rfl (sp rfl rfl (sl rfl (gq rfl) rfl (sd rfl (v_len rfl) (sv rfl (sv rfl (s_nil (bs h fun y1 hy1 h => l_join (fun s => ∃ g1 : Nat, Sb ⟨T [(0, (.ptr (900000, 0) 0)), (1, (.ptr (900001, 0) 0)), (7, (oS y1.1 (60, g1))), (8, (di v1.1))], G [((900000, 0), some (.box 76 [(dl eNote p1.sent)])), ((900001, 0), some (.box 94 [(dl eInt_i64 y1.2.l), (di y1.2.at_)])), ((60, g1), oB 68 7 eNote y1.1)]⟩ s) ?_ ?_)))))))))))))))))))))
  · refine l_block (l_loop (kit_Post_Deliver_o_o_l1 p1 p3 v1) (fun (x1 : ((List Note) × Int × KitRing)) (g2 : Nat) => ⟨T [(0, (.ptr (900000, 0) 0)), (1, (.ptr (900001, 0) 0)), (2, (di p3)), (7, (oS x1.1 (60, g2))), (8, (di v1.1)), (9, (di x1.2.1))], G [((900000, 0), some (.box 76 [(dl eNote p1.sent)])), ((900001, 0), some (.box 94 [(dl eInt_i64 x1.2.2.l), (di x1.2.2.at_)])), ((60, g2), oB 68 7 eNote x1.1)]⟩) ([], (w64 ((p1.sent.length : Int) - 1)), v1.2) 0 _ hy1 (sb_of ⟨.of rfl, .of rfl, .of rfl, .of rfl, .of rfl, .of rfl, trivial⟩ (sbG_some (gq rfl) (.of rfl) (sbG_some G_hit (.of rfl) (sbG_nil trivial)))) ?_)
    intro x1 g2 z1 hz1 ez1
    unfold kit_Post_Deliver_o_o_l1 at hz1
    refine l_seq (lr (fun u5 hu5 => sv rfl (sv rfl (sv rfl (g_val _ (oS x1.1 (60, g2)) rfl (gw_t rfl) (fun _ => rfl) (gt rfl (fun w2 => (v_lenO (f := eNote) (gd_pos w2) (gq rfl))) (gt rfl (vb rfl rfl rfl) (sa rfl rfl rfl (s_nil (cc rfl hz1 (fun c1 hz1 => ?_) (fun c1 hz1 => ?_)))))))))))
    · refine l_skip (l_seq (l_block (lr (fun u6 hu6 => sv rfl (sv rfl (sv rfl (gp rfl (gw_t rfl) (fun _ => rfl) ?_)))))))
      refine g_val _ (.ptr _ _) rfl (gw_t rfl) (fun w5 => (by simp only [gd_pos w5]; rfl)) ?_
      refine g_val _ (.ptr _ _) rfl (gw_t rfl) (fun w6 => (by simp only [gd_pos w6]; rfl)) ?_
      refine gt rfl (vl rfl G_hit rfl) (gt rfl (fun _ => rfl) (bs hz1 fun v2 hv2 hz1 => gt rfl (fun w9 => (v_idx (gd_pos w9) (gd_pos w9) (cond_t w9 hv2) rfl)) ?_))
      refine gt rfl (fun w10 => (by simp only [gd_pos w10]; rfl)) ?_
      refine gt rfl (fun w11 => (v_loadL (gd_pos w11) (cond_t w11 hv2) rfl)) (gt rfl (fun _ => rfl) (gt rfl (fun w13 => (v_bin (gd_pos w13) (gd_pos w13) rfl)) (gt rfl (fun w14 => (v_mv (gd_pos w14))) (gv rfl (gw_gt rfl) (fun _ => rfl) (gv rfl (gw_gt rfl) (vb rfl rfl rfl) (gt rfl (fun w17 => (v_and (gd_pos w17) (fun hc => gd_pos (and_i w17 hc)) rfl)) (gt rfl (fun w18 => (v_mv (gd_pos w18))) (g_val _ (.ptr _ _) rfl (gw_gf rfl) (fun _ => rfl) (bs hz1 fun v3 hv3 hz1 => ?_)))))))))
      refine g_oc ((decide (v1.1 > 0)) && (!((v2.Stamp == p3) && (decide (v1.1 > 1))))) (v := .d (i64 v3.1)) (us := [(900001, 0)]) (g' := (((900001, 0), some (.box 94 [(dl eInt_i64 ((cond ((decide (v1.1 > 0)) && (!((v2.Stamp == p3) && (decide (v1.1 > 1))))) v3.2 x1.2.2).l)), (di ((cond ((decide (v1.1 > 0)) && (!((v2.Stamp == p3) && (decide (v1.1 > 1))))) v3.2 x1.2.2).at_))])) :: _)) (gw_gf rfl) (fun w20 => oc_m (avs := [(.ptr (900001, 0) 0), (di 5)]) (kit_Ring_Next_o_ok _ _ _ (cond_t w20 hv3)) [(900001, 0)] [(900001, 0)] _ (((900001, 0), some (.box 94 [(dl eInt_i64 v3.2.l), (di v3.2.at_)])) :: _) (by simp only [gd_pos w20]; rfl) all2_av (kl_cons (kr_ptr (G_skip rfl G_hit) rfl) (kl_cons kr_d kl_nil)) (live_cons (G_skip rfl G_hit) live_nil) ⟨⟨_, (G_skip rfl G_hit), .of rfl⟩, trivial⟩ (fun _ h => h) nd1 rfl rfl rfl) (fun w20 => by rw [w20]; rfl) (fun w20 => by rw [w20]; exact (G_put (G_skip rfl G_hit))) ?_
      refine gv rfl (gw_gf rfl) (vb rfl rfl rfl) (gt rfl (fun w22 => (v_or (gd_pos w22) rfl (fun hc => gd_pos (and_i w22 (not_t hc))))) (sa rfl rfl rfl (s_nil (cc rfl hz1 (fun c2 hz1 => ?_) (fun c2 hz1 => ?_)))))
      · refine l_sub (s0 := ⟨T [(0, (.ptr (900000, 0) 0)), (1, (.ptr (900001, 0) 0)), (2, (di p3)), (7, (oS x1.1 (60, g2))), (8, (di v1.1)), (9, (di x1.2.1))], G [((900000, 0), some (.box 76 [(dl eNote p1.sent)])), ((900001, 0), some (.box 94 [(dl eInt_i64 ((cond ((decide (v1.1 > 0)) && (!((v2.Stamp == p3) && (decide (v1.1 > 1))))) v3.2 x1.2.2).l)), (di ((cond ((decide (v1.1 > 0)) && (!((v2.Stamp == p3) && (decide (v1.1 > 1))))) v3.2 x1.2.2).at_))])), ((60, g2), oB 68 7 eNote x1.1)]⟩) (sb_of ⟨.of rfl, .of rfl, .of rfl, .of rfl, .of rfl, .of rfl, trivial⟩ (sbG_some (gq rfl) (.of rfl) (sbG_some G_hit (.of rfl) (sbG_oB (gq rfl) trivial)))) ?_
        refine l_reg fun u7 hu7 => s_val (oS x1.1 (60, g2)) rfl rfl (sp rfl rfl (sp rfl rfl (sp rfl rfl (sl rfl G_hit rfl (sv rfl (bs hz1 fun v4 hv4 hz1 => sd rfl (v_idx rfl rfl hv4 rfl) (sd rfl (v_loadLG rfl hv4 rfl rfl) (s_val (dl eNote [v4]) rfl rfl (bs hz1 fun v5 hv5 hz1 => s_appendO eNote (60, g2) x1.1 v4 [] _ (elems_list (fun _ => rfl)) rfl (gq rfl) hv5 (ss rfl (s_nil (l_end (l_reg fun u8 hu8 => sv rfl (sv rfl (sv rfl (s_nil (l_nil ?_)))))))))))))))))
        obtain rfl := Option.some.inj hz1
        exact ⟨rfl, u7, (sb_of ⟨.of rfl, .of rfl, .of rfl, (.of (oS_ne (appc_ne hv5)).symm), .of rfl, .of rfl, trivial⟩ (sbG_some (gq rfl) (.of rfl) (sbG_some (gq rfl) (.of rfl) (sbG_own G_hit trivial))))⟩
      · refine l_skip (l_end (l_sub (s0 := ⟨T [(0, (.ptr (900000, 0) 0)), (1, (.ptr (900001, 0) 0)), (2, (di p3)), (7, (oS x1.1 (60, g2))), (8, (di v1.1)), (9, (di x1.2.1))], G [((900000, 0), some (.box 76 [(dl eNote p1.sent)])), ((900001, 0), some (.box 94 [(dl eInt_i64 ((cond ((decide (v1.1 > 0)) && (!((v2.Stamp == p3) && (decide (v1.1 > 1))))) v3.2 x1.2.2).l)), (di ((cond ((decide (v1.1 > 0)) && (!((v2.Stamp == p3) && (decide (v1.1 > 1))))) v3.2 x1.2.2).at_))])), ((60, g2), oB 68 7 eNote x1.1)]⟩) (sb_of ⟨.of rfl, .of rfl, .of rfl, .of rfl, .of rfl, .of rfl, trivial⟩ (sbG_some (gq rfl) (.of rfl) (sbG_some G_hit (.of rfl) (sbG_oB (gq rfl) trivial)))) ?_))
        refine l_reg fun u9 hu9 => sv rfl (sv rfl (sv rfl (s_nil (l_nil ?_))))
        obtain rfl := Option.some.inj hz1
        exact ⟨rfl, g2, (sb_of ⟨.of rfl, .of rfl, .of rfl, .of rfl, .of rfl, .of rfl, trivial⟩ (sbG_some G_hit (.of rfl) (sbG_some (gq rfl) (.of rfl) (sbG_oB (gq rfl) trivial))))⟩
    · refine l_exitN rfl ?_
      obtain rfl := Option.some.inj hz1
      obtain rfl := ez1 _ rfl
      refine ⟨nofun, awl_pop rfl (l_j ?_)⟩
      exact ⟨g2, (sb_of ⟨.of rfl, .of rfl, .of rfl, .of rfl, trivial⟩ (sbG_some G_hit (.of rfl) (sbG_some (gq rfl) (.of rfl) (sbG_oB (gq rfl) trivial))))⟩
  · rintro _ ⟨g1, q1⟩
    refine l_sub q1 (l_seq (lr (fun u10 hu10 => s_val (oS y1.1 (60, g1)) rfl rfl (sd rfl (v_lenO (f := eNote) rfl (gq rfl)) (sv rfl (sv rfl (gt rfl (fun _ => rfl) (gt rfl (vb rfl rfl rfl) (sa rfl rfl rfl (s_nil (cc rfl h (fun c3 h => ?_) (fun c3 h => ?_))))))))))))
    · refine lr (fun u11 hu11 => sp rfl rfl (s_val (oS y1.1 (60, g1)) rfl rfl (sd rfl (v_lenO (f := eNote) rfl (gq rfl)) (bs h fun v6 hv6 h => s_oc (v := .d (i64 v6.1)) (us := [(900001, 0)]) (oc_m (kit_Ring_Next_o_ok _ _ _ hv6) [(900001, 0)] [(900001, 0)] _ (((900001, 0), some (.box 94 [(dl eInt_i64 v6.2.l), (di v6.2.at_)])) :: _) rfl all2_av (kl_cons (kr_ptr (G_skip rfl G_hit) rfl) (kl_cons kr_d kl_nil)) (live_cons (G_skip rfl G_hit) live_nil) ⟨⟨_, (G_skip rfl G_hit), .of rfl⟩, trivial⟩ (fun _ h => h) nd1 rfl rfl rfl) (sv rfl (s_nil (l_seq (l_draw rfl fun u12 hu12 => s_val (oS y1.1 (60, g1)) rfl rfl (s_val (oS y1.1 (60, g1)) rfl rfl (sv rfl (s_val (oS y1.1 (60, g1)) rfl rfl (sv rfl (bs h fun v7 hv7 h => s_val (.aptr _ _ _ _) rfl (v_idxO rfl rfl (gq rfl) hv7) (sd rfl (v_loadAG rfl (look_oB (gq rfl) (geti_ne hv7)) hv7 rfl rfl) (s_val (oS y1.1 (60, g1)) rfl rfl (bs h fun v8 hv8 h => s_val (.aptr _ _ _ _) rfl (v_idxO rfl rfl (gq rfl) hv8) (sd rfl (v_loadAG rfl (look_oB (gq rfl) (geti_ne hv8)) hv8 rfl rfl) (bs h fun v9 hv9 h => s_val (.aptr _ _ _ _) rfl (v_idxO rfl rfl (gq rfl) hv9) ?_))))))))))))))))))
      rw [oS_ne (geti_ne hv9)]
      refine s_storeA eNote _ _ _ (0) _ v7 (eNote v7) rfl rfl rfl (look_oB (gq rfl) (geti_ne hv9)) hv9 (nl rfl) rfl (bs h fun v10 hv10 h => s_val (.aptr _ _ _ _) rfl (v_idxA rfl rfl G_hit hv10) (s_storeA eNote _ _ _ (v6.1) _ v8 (eNote v8) rfl rfl rfl G_hit hv10 (nl rfl) rfl (s_nil (l_sub (s0 := ⟨T [(0, (.ptr _ _)), (1, (.ptr _ _)), (7, (.sl _))], G [((900000, 0), some (.box 76 _)), ((900001, 0), some (.box 94 _)), ((60, g1), some _)]⟩) (sbr rfl rfl) ?_))))
      refine l_reg fun u13 hu13 => ss rfl (ss rfl (bs h fun v11 hv11 h => s_val (.aptr _ _ _ _) rfl (v_idxA rfl rfl (gq rfl) hv11) (sd rfl (v_loadAG rfl (gq rfl) hv11 rfl rfl) (s_val (dl eNote [v11]) rfl rfl (bs h fun v12 hv12 h => s_append eNote _ _ _ _ (elems_list (fun _ => rfl)) rfl (gq rfl) hv12 (ss rfl (s_nil (lr (fun u14 hu14 => ss rfl (ss rfl (s_nil (l_ret ?_))))))))))))
      obtain rfl := Option.some.inj h
      exact fin_mf (.inr rfl) [(89, u13)] (resDF1 (res_t rfl) (rf_sl (rs_in (.head _) G_hit))) (.refl _) ⟨⟨_, _, _, (gq rfl), (old_notin rfl old_notin_nil), rfl, all2_d, rfl⟩, ⟨_, _, _, (gq rfl), (old_notin rfl old_notin_nil), rfl, all2_d, rfl⟩, trivial⟩
    · refine l_skip (lr (fun u15 hu15 => s_val (oS y1.1 (60, g1)) rfl rfl (s_val (oS y1.1 (60, g1)) rfl rfl (s_nil (l_ret ?_)))))
      obtain rfl := Option.some.inj h
      exact fin_mf (.inr rfl) [(60, g1)] (resDF1 (res_t rfl) (rf_oS (rs_in (.head _) (gq rfl)))) oD_le ⟨⟨_, _, _, G_hit, (old_notin rfl old_notin_nil), rfl, all2_d, rfl⟩, ⟨_, _, _, (gq rfl), (old_notin rfl old_notin_nil), rfl, all2_d, rfl⟩, trivial⟩

noncomputable def convoy_find_1_b (p1 : Mate) (p2 : Int) : Option Bool :=
  some (p1.ID == p2)

/-- kerbstone/convoy.find$1 -/
def ac_convoy_find_1_b : AC := (.seq (.reg [oo 2 (.box 65 true (.t 0)), oo 3 (.mv (.c zf))]) (.seq (.reg [oo 4 (.fieldA 0 (.t 2)), oo 5 (.load 1 false (.t 4)), oo 6 (.load 1 false (.t 1)), oo 7 (.bin .eql (.t 5) (.t 6)), oo 3 (.mv (.t 7))]) .ret))
theorem fn_convoy_find_1_b : FnOK Try.prog 99 8 [.t 3] ac_convoy_find_1_b := ⟨_, _, Try.func99, rfl, Try.ntmps99, by kernel_rfl, ⟨fun _ => [], by kernel_rfl⟩, by kernel_rfl⟩
theorem convoy_find_1_b_ok (p1 : Mate) (p2 : Int) (r : Bool) (h : convoy_find_1_b p1 p2 = some r) : PCall Try.prog 99 [(.agg (eMate p1)), (.bp [(i64 p2)] 0)] (bo r) := by
  refine l_call fn_convoy_find_1_b (nl rfl) ?_
  unfold convoy_find_1_b at h
  unfold ac_convoy_find_1_b
  refine l_sub (s0 := ⟨T [(0, (.d _)), (1, (.d _))], G []⟩) (sbr rfl rfl) ?_
  refine lr (fun u1 hu1 => sn rfl rfl (sv rfl (s_nil (lr (fun u2 hu2 => sp rfl rfl (sl rfl G_hit rfl (sv rfl (sv rfl (sv rfl (s_nil (l_ret ?_)))))))))))
  obtain rfl := Option.some.inj h
  exact fin_ok (.inr rfl) (resD1 (res_t rfl) rf_d) (.refl _)

noncomputable def slices_IndexFunc_Mate_Mate_convoy_find_1b_l1 (p1 : (List Mate)) (p2 : Int) (x1 : Int) : Option (Stp Int (Sum Unit Int)) :=
  cond (decide (x1 < (p1.length : Int))) ((geti p1 x1).bind fun v1 => (convoy_find_1_b v1 p2).bind fun v2 => cond v2 (some (.out (.inr x1))) (some (.go (w64 (x1 + 1))))) (some (.out (.inl ())))
noncomputable def slices_IndexFunc_Mate_Mate_convoy_find_1b (p1 : (List Mate)) (p2 : Int) : Option Int :=
  thenS (loop (slices_IndexFunc_Mate_Mate_convoy_find_1b_l1 p1 p2) 0) (fun _ => some (-1)) (fun r => some r)

/-- slices.IndexFunc[[]kerbstone/api.Mate,kerbstone/api.Mate] -/
def ac_slices_IndexFunc_Mate_Mate_convoy_find_1b : AC := (.seq (.reg [oo 4 (.mv (ci 0))]) (.seq (.seq (.reg [oo 6 (.mv (.t 0)), oo 7 (.len (.t 6)), oo 8 (.mv (ci 0))]) (.block 0 (.loop (.seq (.reg [oo 9 (.bin .lss (.t 8) (.t 7))]) (.seq (.cond (.t 9) .skip (.exit 0)) (.seq (.block 1 (.seq (.reg [oo 10 (.mv (.t 8)), oo 5 (.mv (.t 10))]) (.seq (.reg [oo 11 (.mv (.t 1)), oo 12 (.mv (.t 0)), oo 13 (.mv (.t 5)), oo 14 (.idxS 12 (.t 12) (.t 13)), oo 15 (.load 12 true (.t 14)), oo 16 (.call (.t 11) [(.t 15)])]) (.cond (.t 16) (.seq (.reg [oo 17 (.mv (.t 5)), oo 4 (.mv (.t 17))]) .ret) .skip)))) (.reg [oo 18 (.bin .add (.t 8) (ci 1)), oo 8 (.mv (.t 18))]))))))) (.seq (.reg [oo 4 (.mv (ci (-1)))]) .ret)))
theorem fn_slices_IndexFunc_Mate_Mate_convoy_find_1b : FnOK Try.prog 98 19 [.t 4] ac_slices_IndexFunc_Mate_Mate_convoy_find_1b := ⟨_, _, Try.func98, rfl, Try.ntmps98, by kernel_rfl, ⟨fun _ => [], by kernel_rfl⟩, by kernel_rfl⟩
set_option maxHeartbeats 4000000 in
theorem slices_IndexFunc_Mate_Mate_convoy_find_1b_ok (p1 : (List Mate)) (p2 : Int) (r : Int) (h : slices_IndexFunc_Mate_Mate_convoy_find_1b p1 p2 = some r) : PCall Try.prog 98 [(.list (List.map eMate p1)), (.fn (.func 99) [] [(.bp [(i64 p2)] 0)])] (i64 r) := by
  refine l_call fn_slices_IndexFunc_Mate_Mate_convoy_find_1b (nl rfl) ?_
  unfold slices_IndexFunc_Mate_Mate_convoy_find_1b at h
  unfold ac_slices_IndexFunc_Mate_Mate_convoy_find_1b
  refine l_sub (s0 := ⟨T [(0, (.d _)), (1, (.d _))], G []⟩) (sbr rfl rfl) ?_
  refine lr (fun u1 hu1 => sv rfl (s_nil (l_seq (lr (fun u2 hu2 => sv rfl (sd rfl (v_len rfl) (sv rfl (s_nil (js h fun z1 hz1 h => l_join (fun s => ∃ (y1 : Unit) (g1 : Unit), z1 = .inl y1 ∧ Sb ⟨T [], G []⟩ s) ?_ ?_)))))))))
  · refine l_block (l_loop (slices_IndexFunc_Mate_Mate_convoy_find_1b_l1 p1 p2) (fun (x1 : Int) (g2 : Unit) => ⟨T [(0, (dl eMate p1)), (1, (.d (.fn (.func 99) [] [(.bp [(i64 p2)] 0)]))), (7, (di (p1.length : Int))), (8, (di x1))], G []⟩) 0 () _ hz1 (sbr rfl rfl) ?_)
    intro x1 g2 z2 hz2 ez2
    unfold slices_IndexFunc_Mate_Mate_convoy_find_1b_l1 at hz2
    refine lr (fun u3 hu3 => sv rfl (s_nil (l_seq (cc rfl hz2 (fun c1 hz2 => ?_) (fun c1 hz2 => ?_)))))
    · refine l_skip (l_seq (l_block (lr (fun u4 hu4 => sv rfl (sv rfl (s_nil (lr (fun u5 hu5 => sv rfl (sv rfl (sv rfl (bs hz2 fun v1 hv1 hz2 => sd rfl (v_idx rfl rfl hv1 rfl) (sd rfl (v_loadLG rfl hv1 rfl rfl) (bs hz2 fun v2 hv2 hz2 => s_call rfl rfl all2_refl (convoy_find_1_b_ok _ _  _ hv2) (.inl rfl) (s_nil (cc rfl hz2 (fun c2 hz2 => ?_) (fun c2 hz2 => ?_))))))))))))))))
      · refine lr (fun u6 hu6 => sv rfl (sv rfl (s_nil (l_ret ?_))))
        obtain rfl := Option.some.inj hz2
        obtain rfl := ez2 _ rfl
        refine ⟨nofun, awl_ret ?_⟩
        rw [Sum.elim_inr] at h
        obtain rfl := Option.some.inj h
        exact fin_ok (.inr rfl) (resD1 (res_t rfl) rf_d) (.refl _)
      · refine l_skip (l_end (l_reg fun u7 hu7 => sv rfl (sv rfl (s_nil (l_nil ?_)))))
        obtain rfl := Option.some.inj hz2
        exact ⟨rfl, (), (sbr rfl rfl)⟩
    · refine l_exitN rfl ?_
      obtain rfl := Option.some.inj hz2
      obtain rfl := ez2 _ rfl
      refine ⟨nofun, awl_pop rfl (l_j ?_)⟩
      exact ⟨_, (), rfl, (sbr rfl rfl)⟩
  · rintro _ ⟨y1, g1, rfl, q1⟩
    rw [Sum.elim_inl] at h
    refine l_sub q1 (lr (fun u8 hu8 => sv rfl (s_nil (l_ret ?_))))
    obtain rfl := Option.some.inj h
    exact fin_ok (.inr rfl) (resD1 (res_t rfl) rf_d) (.refl _)

noncomputable def convoy_find (p1 : (List Mate)) (p2 : Int) : Option Int :=
  (slices_IndexFunc_Mate_Mate_convoy_find_1b p1 p2).bind fun v1 => some v1

/-- kerbstone/convoy.find -/
def ac_convoy_find : AC := (.seq (.reg [oo 3 (.box 3 false (.t 1)), oo 4 (.mv (ci 0))]) (.seq (.reg [oo 5 (.mv (.t 0)), oo 6 (.mkfn (.func 99) [] [(.t 3)]), oo 7 (.call (cf 98) [(.t 5), (.t 6)]), oo 4 (.mv (.t 7))]) .ret))
theorem fn_convoy_find : FnOK Try.prog 64 8 [.t 4] ac_convoy_find := ⟨_, _, Try.func64, rfl, Try.ntmps64, by kernel_rfl, ⟨fun _ => [], by kernel_rfl⟩, by kernel_rfl⟩
theorem convoy_find_ok (p1 : (List Mate)) (p2 : Int) (r : Int) (h : convoy_find p1 p2 = some r) : PCall Try.prog 64 [(.list (List.map eMate p1)), (i64 p2)] (i64 r) := by
  refine l_call fn_convoy_find (nl rfl) ?_
  unfold convoy_find at h
  unfold ac_convoy_find
  refine l_sub (s0 := ⟨T [(0, (.d _)), (1, (.d _))], G []⟩) (sbr rfl rfl) ?_
  refine lr (fun u1 hu1 => sn rfl rfl (sv rfl (s_nil (lr (fun u2 hu2 => sv rfl (s_val (.fn _ _ _) rfl rfl (bs h fun v1 hv1 h => s_call rfl (rfL_cons rf_d (rfL_cons (rf_fn rfL_nil (rfL_cons (rf_ptr G_hit (rfL_cons rf_d rfL_nil)) rfL_nil)) rfL_nil)) all2_refl (slices_IndexFunc_Mate_Mate_convoy_find_1b_ok _ _  _ hv1) (.inr rfl) (sv rfl (s_nil (l_ret ?_))))))))))
  obtain rfl := Option.some.inj h
  exact fin_ok (.inr rfl) (resD1 (res_t rfl) rf_d) (.refl _)

noncomputable def convoy_Look_1_b (p1 : Int) (p2 : Int) (p3 : (List Int)) : Option Int :=
  cond (decide (p1 ≥ (p3.length : Int))) (some 0) ((geti p3 p1).bind fun v1 => (remc v1 p2).bind fun v2 => (remc (w64 (v2 + p2)) p2).bind fun v3 => some v3)

/-- kerbstone/convoy.Look$1 -/
def ac_convoy_Look_1_b : AC := (.seq (.reg [oo 5 (.mv (ci 0))]) (.seq (.seq (.reg [oo 6 (.mv (.t 0)), oo 7 (.load 1 false (.t 2)), oo 8 (.len (.t 7)), oo 9 (.bin .geq (.t 6) (.t 8))]) (.cond (.t 9) (.seq (.reg [oo 5 (.mv (ci 0))]) .ret) .skip)) (.seq (.reg [oo 10 (.load 1 false (.t 2)), oo 11 (.mv (.t 0)), oo 12 (.idxS 1 (.t 10) (.t 11)), oo 13 (.load 1 false (.t 12)), oo 14 (.mv (.t 1)), oo 15 (.bin .rem (.t 13) (.t 14)), oo 16 (.mv (.t 1)), oo 17 (.bin .add (.t 15) (.t 16)), oo 18 (.mv (.t 1)), oo 19 (.bin .rem (.t 17) (.t 18)), oo 5 (.mv (.t 19))]) .ret)))
theorem fn_convoy_Look_1_b : FnOK Try.prog 66 20 [.t 5] ac_convoy_Look_1_b := ⟨_, _, Try.func66, rfl, Try.ntmps66, by kernel_rfl, ⟨fun _ => [], by kernel_rfl⟩, by kernel_rfl⟩
theorem convoy_Look_1_b_ok (p1 : Int) (p2 : Int) (p3 : (List Int)) (r : Int) (h : convoy_Look_1_b p1 p2 p3 = some r) : PCall Try.prog 66 [(i64 p1), (i64 p2), (.bp [(.list (List.map eInt_i64 p3))] 0)] (i64 r) := by
  refine l_call fn_convoy_Look_1_b (nl rfl) ?_
  unfold convoy_Look_1_b at h
  unfold ac_convoy_Look_1_b
  refine l_sub (s0 := ⟨T [(0, (.d _)), (1, (.d _)), (2, (.d _))], G []⟩) (sbr rfl rfl) ?_
  refine lr (fun u1 hu1 => sv rfl (s_nil (l_seq (lr (fun u2 hu2 => sv rfl (sv rfl (sd rfl (v_len rfl) (sv rfl (s_nil (cc rfl h (fun c1 h => ?_) (fun c1 h => ?_)))))))))))
  · refine lr (fun u3 hu3 => sv rfl (s_nil (l_ret ?_)))
    obtain rfl := Option.some.inj h
    exact fin_ok (.inr rfl) (resD1 (res_t rfl) rf_d) (.refl _)
  · refine l_skip (lr (fun u4 hu4 => sv rfl (sv rfl (bs h fun v1 hv1 h => sd rfl (v_idx rfl rfl hv1 rfl) (sd rfl (v_loadL rfl hv1 rfl) (sv rfl (bs h fun v2 hv2 h => sd rfl (v_rem rfl rfl hv2) (sv rfl (sv rfl (sv rfl (bs h fun v3 hv3 h => sd rfl (v_rem rfl rfl hv3) (sv rfl (s_nil (l_ret ?_))))))))))))))
    obtain rfl := Option.some.inj h
    exact fin_ok (.inr rfl) (resD1 (res_t rfl) rf_d) (.refl _)

noncomputable def convoy_Look (p1 : Convoy) (p2 : Int) (p3 : (List Int)) : Option (Sight × Int) :=
  (convoy_Check p1).bind fun v1 => cond (v1 != 0) (some ((Sight.mk 0 0 0 0 0), v1)) ((convoy_find p1.Mates p2).bind fun v2 => (cond ((p2 != 0) && (p2 == p1.Guest_.ID)) ((convoy_beside p1).bind fun v3 => some v3.1) (some (w64 (v2 - 1)))).bind fun y1 => cond (decide (y1 < 0)) (some ((Sight.mk 0 0 0 0 0), 7)) ((geti p1.Mates y1).bind fun v4 => (convoy_rear v4).bind fun v5 => (convoy_Look_1_b 0 101 p3).bind fun v6 => (convoy_rear v4).bind fun v7 => (convoy_Look_1_b 1 101 p3).bind fun v8 => (convoy_Look_1_b 2 6 p3).bind fun v9 => (convoy_Look_1_b 3 6 p3).bind fun v10 => some ((Sight.mk p2 (w64 (v5 - v6)) (w64 (v7 + v8)) (mm2 true 0 (w64 (v4.V - v9))) (mm2 false 2000 (w64 (v4.V + v10)))), 0)))

/-- kerbstone/convoy.Look -/
def ac_convoy_Look : AC := (.seq (.reg [oo 3 (.box 38 true (.t 0)), oo 5 (.box 39 false (.t 2)), oo 6 (.alloc 42 [z0, z0, z0, z0, z0]), oo 7 (.mv (ci 0))]) (.seq (.seq (.reg [oo 12 (.load 13 true (.t 3)), oo 13 (.call (cf 32) [(.t 12)]), oo 8 (.mv (.t 13))]) (.seq (.reg [oo 14 (.mv (.t 8)), oo 15 (.bin .neq (.t 14) (ci 0))]) (.cond (.t 15) (.seq (.reg [oo 16 (.build [z0, z0, z0, z0, z0] []), oo 17 (.mv (.t 8)), oe (.store 5 (.t 6) (.t 16)), oo 7 (.mv (.t 17))]) .ret) .skip))) (.seq (.reg [oo 18 (.fieldA 2 (.t 3)), oo 19 (.load 1 false (.t 18)), oo 20 (.mv (.t 1)), oo 21 (.call (cf 64) [(.t 19), (.t 20)]), oo 22 (.bin .sub (.t 21) (ci 1)), oo 9 (.mv (.t 22))]) (.seq (.seq (.reg [oo 23 (.mv (.t 1)), oo 24 (.bin .neq (.t 23) (ci 0)), oo 25 (.mv (.t 24)), og 26 (.mv (.t 1)) 25, og 27 (.fieldA 3 (.t 3)) 25, og 28 (.fieldA 0 (.t 27)) 25, og 29 (.load 1 false (.t 28)) 25, og 30 (.bin .eql (.t 26) (.t 29)) 25, oo 31 (.pick (.t 25) (.t 30) (.c zf))]) (.cond (.t 31) (.reg [oo 33 (.load 13 true (.t 3)), oo 34 (.call (cf 65) [(.t 33)]), oo 32 (.mv (.t 34)), oo 35 (.ext (.t 32) 0), oo 36 (.ext (.t 32) 1), oo 9 (.mv (.t 35))]) .skip)) (.seq (.seq (.reg [oo 37 (.mv (.t 9)), oo 38 (.bin .lss (.t 37) (ci 0))]) (.cond (.t 38) (.seq (.reg [oo 39 (.build [z0, z0, z0, z0, z0] []), oe (.store 5 (.t 6) (.t 39)), oo 7 (.mv (ci 7))]) .ret) .skip)) (.seq (.reg [oo 40 (.mkfn (.func 66) [] [(.t 5)]), oo 10 (.mv (.t 40))]) (.seq (.reg [oo 41 (.fieldA 2 (.t 3)), oo 42 (.load 1 false (.t 41)), oo 43 (.mv (.t 9)), oo 44 (.idxS 12 (.t 42) (.t 43)), oo 45 (.load 12 true (.t 44)), oo 11 (.alloc 65 [z0, z0, z0, z0, z0, z0, z0, zf, z0, z0, z0, z0]), oe (.store 12 (.t 11) (.t 45))]) (.seq (.draw [oo 46 (.mv (.t 1)), oo 47 (.load 12 true (.t 11)), oo 48 (.call (cf 67) [(.t 47)]), oo 49 (.mv (.t 10)), oo 50 (.call (.t 49) [(ci 0), (ci 101)]), oo 51 (.bin .sub (.t 48) (.t 50)), oo 52 (.load 12 true (.t 11)), oo 53 (.call (cf 67) [(.t 52)]), oo 54 (.mv (.t 10)), oo 55 (.call (.t 54) [(ci 1), (ci 101)]), oo 56 (.bin .add (.t 53) (.t 55)), oo 57 (.fieldA 2 (.t 11)), oo 58 (.load 1 false (.t 57)), oo 59 (.mv (.t 10)), oo 60 (.call (.t 59) [(ci 2), (ci 6)]), oo 61 (.bin .sub (.t 58) (.t 60)), oo 62 (.mm true (ci 0) [(.t 61)]), oo 63 (.fieldA 2 (.t 11)), oo 64 (.load 1 false (.t 63)), oo 65 (.mv (.t 10)), oo 66 (.call (.t 65) [(ci 3), (ci 6)]), oo 67 (.bin .add (.t 64) (.t 66)), oo 68 (.mm false (ci 2000) [(.t 67)]), oo 69 (.build [z0, z0, z0, z0, z0] [(0, 1, (.t 46)), (1, 1, (.t 51)), (2, 1, (.t 56)), (3, 1, (.t 62)), (4, 1, (.t 68))]), oe (.store 5 (.t 6) (.t 69)), oo 7 (.mv (ci 0))] []) .ret))))))))
theorem fn_convoy_Look : FnOK Try.prog 27 70 [.cell 6 5 true, .t 7] ac_convoy_Look := ⟨_, _, Try.func27, rfl, Try.ntmps27, by kernel_rfl, ⟨fun _ => [], by kernel_rfl⟩, by kernel_rfl⟩
set_option maxHeartbeats 4000000 in
theorem convoy_Look_ok (p1 : Convoy) (p2 : Int) (p3 : (List Int)) (r : (Sight × Int)) (h : convoy_Look p1 p2 p3 = some r) : PCall Try.prog 27 [(.agg (eConvoy p1)), (i64 p2), (.list (List.map eInt_i64 p3))] (.tup [(.agg (eSight r.1)), (i64 r.2)]) := by
  refine l_call fn_convoy_Look (nl rfl) ?_
  unfold convoy_Look at h
  unfold ac_convoy_Look
  refine l_sub (s0 := ⟨T [(0, (.d _)), (1, (.d _)), (2, (.d _))], G []⟩) (sbr rfl rfl) ?_
  refine lr (fun u1 hu1 => sn rfl rfl (sn rfl rfl (sn rfl rfl (sv rfl (s_nil (l_seq (lr (fun u2 hu2 => sd rfl (v_loadG rfl (gq rfl) rfl rfl) (bs h fun v1 hv1 h => s_call rfl rfl all2_refl (convoy_Check_ok _  _ hv1) (.inl rfl) (sv rfl (s_nil (lr (fun u3 hu3 => sv rfl (sv rfl (s_nil (cc rfl h (fun c1 h => ?_) (fun c1 h => ?_)))))))))))))))))
  · refine lr (fun u4 hu4 => sv rfl (sv rfl (sst rfl G_hit [(di 0), (di 0), (di 0), (di 0), (di 0)] rfl (sv rfl (s_nil (l_ret ?_))))))
    obtain rfl := Option.some.inj h
    exact fin_ok (.inr rfl) (resD2 (res_cellG rfl G_hit (nl rfl) rfl) (res_t rfl) rf_d rf_d) (.refl _)
  · refine l_skip (lr (fun u5 hu5 => sp rfl rfl (sl rfl (gq rfl) rfl (sv rfl (bs h fun v2 hv2 h => s_call rfl rfl all2_refl (convoy_find_ok _ _  _ hv2) (.inl rfl) (sv rfl (sv rfl (s_nil (l_seq (lr (fun u6 hu6 => sv rfl (sv rfl (sv rfl (gt rfl (fun _ => rfl) (gp rfl (gw_t rfl) (fun _ => rfl) ?_)))))))))))))))
    refine g_val _ (.ptr _ _) rfl (gw_t rfl) (fun w3 => (by simp only [gd_pos w3]; rfl)) ?_
    refine gt rfl (vl rfl (gq rfl) rfl) (gt rfl (fun w5 => (v_bin (gd_pos w5) (gd_pos w5) rfl)) (sa rfl rfl rfl (s_nil (bs h fun y1 hy1 h => l_join (fun s => ∃ g1 : Unit, Sb ⟨T [(1, (di p2)), (3, (.ptr (3, u1) 0)), (5, (.ptr (5, u1) 0)), (6, (.ptr (6, u1) 0)), (9, (di y1))], G [((3, u1), some (.box 38 (dConvoy p1))), ((5, u1), some (.box 39 [(dl eInt_i64 p3)])), ((6, u1), some (.box 42 [(di 0), (di 0), (di 0), (di 0), (di 0)]))]⟩ s) ?_ ?_))))
    · refine cc rfl hy1 (fun c2 hy1 => ?_) (fun c2 hy1 => ?_)
      · refine l_sub (s0 := ⟨T [(1, (.d _)), (3, (.ptr _ _)), (5, (.ptr _ _)), (6, (.ptr _ _))], G [((3, u1), some (.box 38 _)), ((5, u1), some (.box 39 _)), ((6, u1), some (.box 42 _))]⟩) (sbr rfl rfl) ?_
        refine l_reg fun u7 hu7 => sd rfl (v_loadG rfl G_hit rfl rfl) (bs hy1 fun v3 hv3 hy1 => s_call rfl rfl all2_refl (convoy_beside_ok _  _ hv3) (.inl rfl) (sv rfl (sv rfl (sv rfl (sv rfl (s_nil ?_))))))
        obtain rfl := Option.some.inj hy1
        exact l_j ⟨(), (sbr rfl rfl)⟩
      · refine l_skip ?_
        obtain rfl := Option.some.inj hy1
        exact l_j ⟨(), (sbr rfl rfl)⟩
    · rintro _ ⟨g1, q1⟩
      refine l_sub q1 (l_seq (lr (fun u8 hu8 => sv rfl (sv rfl (s_nil (cc rfl h (fun c3 h => ?_) (fun c3 h => ?_)))))))
      · refine lr (fun u9 hu9 => sv rfl (sst rfl (gq rfl) [(di 0), (di 0), (di 0), (di 0), (di 0)] rfl (sv rfl (s_nil (l_ret ?_)))))
        obtain rfl := Option.some.inj h
        exact fin_ok (.inr rfl) (resD2 (res_cellG rfl G_hit (nl rfl) rfl) (res_t rfl) rf_d rf_d) (.refl _)
      · refine l_skip (lr (fun u10 hu10 => s_val (.fn _ _ _) rfl rfl (s_val (.fn _ _ _) rfl rfl (s_nil (lr (fun u11 hu11 => sp rfl rfl (sl rfl G_hit rfl (sv rfl (bs h fun v4 hv4 h => sd rfl (v_idx rfl rfl hv4 rfl) (sd rfl (v_loadLG rfl hv4 rfl rfl) (sn rfl rfl (sst rfl G_hit (dMate v4) rfl (s_nil (l_seq (l_draw rfl fun u12 hu12 => sv rfl (sd rfl (v_loadG rfl G_hit rfl rfl) (bs h fun v5 hv5 h => s_call rfl rfl all2_refl (convoy_rear_ok _  _ hv5) (.inl rfl) (s_val (.fn _ _ _) rfl rfl (bs h fun v6 hv6 h => s_call rfl (rfL_cons rf_d (rfL_cons rf_d (rfL_cons (rf_ptr (gq rfl) (rfL_cons rf_d rfL_nil)) rfL_nil))) all2_refl (convoy_Look_1_b_ok _ _ _  _ hv6) (.inr rfl) (sv rfl (sd rfl (v_loadG rfl G_hit rfl rfl) (bs h fun v7 hv7 h => s_call rfl rfl all2_refl (convoy_rear_ok _  _ hv7) (.inl rfl) (s_val (.fn _ _ _) rfl rfl (bs h fun v8 hv8 h => s_call rfl (rfL_cons rf_d (rfL_cons rf_d (rfL_cons (rf_ptr (gq rfl) (rfL_cons rf_d rfL_nil)) rfL_nil))) all2_refl (convoy_Look_1_b_ok _ _ _  _ hv8) (.inr rfl) (sv rfl (sp rfl rfl (sl rfl G_hit rfl (s_val (.fn _ _ _) rfl rfl (bs h fun v9 hv9 h => s_call rfl (rfL_cons rf_d (rfL_cons rf_d (rfL_cons (rf_ptr (gq rfl) (rfL_cons rf_d rfL_nil)) rfL_nil))) all2_refl (convoy_Look_1_b_ok _ _ _  _ hv9) (.inr rfl) (sv rfl (sv rfl (sp rfl rfl (sl rfl G_hit rfl (s_val (.fn _ _ _) rfl rfl (bs h fun v10 hv10 h => s_call rfl (rfL_cons rf_d (rfL_cons rf_d (rfL_cons (rf_ptr (gq rfl) (rfL_cons rf_d rfL_nil)) rfL_nil))) all2_refl (convoy_Look_1_b_ok _ _ _  _ hv10) (.inr rfl) (sv rfl (sv rfl (sv rfl (sst rfl (gq rfl) [(di p2), (di (w64 (v5 - v6))), (di (w64 (v7 + v8))), (di (mm2 true 0 (w64 (v4.V - v9)))), (di (mm2 false 2000 (w64 (v4.V + v10))))] rfl (sv rfl (s_nil (l_ret ?_))))))))))))))))))))))))))))))))))))))))))
        obtain rfl := Option.some.inj h
        exact fin_ok (.inr rfl) (resD2 (res_cellG rfl G_hit (nl rfl) rfl) (res_t rfl) rf_d rf_d) (.refl _)

noncomputable def law09_looks_o_l2 (p2 : Convoy) (p3 : Bool) (y1 : (List Int)) (x2 : ((List Sight) × Int × KitRing)) : Option (Stp ((List Sight) × Int × KitRing) ((List Sight) × KitRing)) :=
  cond (decide (x2.2.1 < (y1.length : Int))) ((geti y1 x2.2.1).bind fun v3 => (kit_Ring_Next_o x2.2.2 101).bind fun v4 => (kit_Ring_Next_o v4.2 101).bind fun v5 => (kit_Ring_Next_o v5.2 6).bind fun v6 => (kit_Ring_Next_o v6.2 6).bind fun v7 => (convoy_Look p2 v3 [v4.1, v5.1, v6.1, v7.1]).bind fun v8 => ((cond ((v8.2 == 0) && (!p3)) (kit_Ring_Next_o v7.2 2) (some default))).bind fun v9 => cond ((v8.2 == 0) && (p3 || (v9.1 == 0))) ((appc x2.1 [v8.1]).bind fun v10 => some (.go (v10, (w64 (x2.2.1 + 1)), (KitRing.mk ((cond ((v8.2 == 0) && (!p3)) v9.2 v7.2).l) ((cond ((v8.2 == 0) && (!p3)) v9.2 v7.2).at_))))) (some (.go (x2.1, (w64 (x2.2.1 + 1)), (KitRing.mk ((cond ((v8.2 == 0) && (!p3)) v9.2 v7.2).l) ((cond ((v8.2 == 0) && (!p3)) v9.2 v7.2).at_)))))) (some (.out (x2.1, x2.2.2)))
noncomputable def law09_looks_o_l1 (p2 : Convoy) (x1 : ((List Int) × Int)) : Option (Stp ((List Int) × Int) (List Int)) :=
  cond (decide (x1.2 < (p2.Mates.length : Int))) ((geti p2.Mates x1.2).bind fun v1 => (appc x1.1 [v1.ID]).bind fun v2 => some (.go (v2, (w64 (x1.2 + 1))))) (some (.out x1.1))
noncomputable def law09_looks_o (p1 : KitRing) (p2 : Convoy) (p3 : Bool) : Option ((List Sight) × KitRing) :=
  (loop (law09_looks_o_l1 p2) ([p2.Guest_.ID], 0)).bind fun y1 => (loop (law09_looks_o_l2 p2 p3 y1) ([], 0, p1)).bind fun y2 => some (y2.1, y2.2)

/-- kerbstone/kerbstonelaw09.looks -/
def ac_law09_looks_o : AC := (.seq (.reg [oo 4 (.box 38 true (.t 1)), oo 6 (.mv (.c .nilS))]) (.seq (.reg [oo 13 (.fieldA 3 (.t 4)), oo 14 (.fieldA 0 (.t 13)), oo 15 (.load 1 false (.t 14)), oo 16 (.bslice 3 1 1 [z0] [(0, 1, (.t 15))]), oo 7 (.mv (.t 16))]) (.seq (.seq (.reg [oo 8 (.mv (ci 0))]) (.block 0 (.loop (.seq (.seq (.reg [oo 17 (.mv (.t 8)), oo 18 (.fieldA 2 (.t 4)), oo 19 (.load 1 false (.t 18)), oo 20 (.len (.t 19)), oo 21 (.bin .lss (.t 17) (.t 20))]) (.cond (.t 21) .skip (.exit 0))) (.seq (.block 1 (.reg [oo 24 (.mv (.t 7)), oo 25 (.fieldA 2 (.t 4)), oo 26 (.load 1 false (.t 25)), oo 27 (.mv (.t 8)), oo 28 (.idxS 12 (.t 26) (.t 27)), oo 29 (.fieldA 0 (.t 28)), oo 30 (.load 1 false (.t 29)), oo 31 (.dslice 3 1 1 [z0] [(0, 1, (.t 30))]), oo 32 (.append 40 3 1 (.t 24) (.t 31)), oo 7 (.mv (.t 32))])) (.reg [oo 22 (.mv (.t 8)), oo 23 (.bin .add (.t 22) (ci 1)), oo 8 (.mv (.t 23))])))))) (.seq (.reg [oo 9 (.mv (.c .nilS))]) (.seq (.seq (.reg [oo 10 (.mv (ci 0))]) (.block 2 (.loop (.seq (.seq (.reg [oo 33 (.mv (.t 10)), oo 34 (.mv (.t 7)), oo 35 (.len (.t 34)), oo 36 (.bin .lss (.t 33) (.t 35))]) (.cond (.t 36) .skip (.exit 2))) (.seq (.block 3 (.seq (.draw [oo 40 (.load 13 true (.t 4)), oo 41 (.mv (.t 7)), oo 42 (.mv (.t 10)), oo 43 (.idxS 1 (.t 41) (.t 42)), oo 44 (.load 1 false (.t 43)), oo 45 (.mv (.t 0)), oo 46 (.ocall 10100060 (cf 49) [(.t 45), (ci 101)]), oo 47 (.mv (.t 0)), oo 48 (.ocall 10100080 (cf 49) [(.t 47), (ci 101)]), oo 49 (.mv (.t 0)), oo 50 (.ocall 10100100 (cf 49) [(.t 49), (ci 6)]), oo 51 (.mv (.t 0)), oo 52 (.ocall 10100120 (cf 49) [(.t 51), (ci 6)]), oo 53 (.dslice 2 1 4 [z0] [(0, 1, (.t 46)), (1, 1, (.t 48)), (2, 1, (.t 50)), (3, 1, (.t 52))]), oo 54 (.call (cf 27) [(.t 40), (.t 44), (.t 53)]), oo 39 (.mv (.t 54)), oo 55 (.ext (.t 39) 0), oo 56 (.ext (.t 39) 1), oo 11 (.alloc 42 [z0, z0, z0, z0, z0]), oe (.store 5 (.t 11) (.t 55)), oo 12 (.mv (.t 56))] [(0, 6), (3, 6), (4, 6), (0, 8), (3, 8), (4, 8), (0, 10), (3, 10), (4, 10), (0, 12), (3, 12), (4, 12), (6, 18), (8, 18), (10, 18), (12, 18)]) (.seq (.reg [oo 57 (.mv (.t 12)), oo 58 (.bin .eql (.t 57) (ci 0)), oo 59 (.mv (.t 58)), og 60 (.mv (.t 2)) 59, og 61 (.mv (.t 60)) 59, oh 62 (.mv (.t 0)) 61, oh 63 (.ocall 10110060 (cf 49) [(.t 62), (ci 2)]) 61, oh 64 (.bin .eql (.t 63) (ci 0)) 61, og 65 (.pick (.t 61) (.c (.v (.bool true))) (.t 64)) 59, oo 66 (.pick (.t 59) (.t 65) (.c zf))]) (.cond (.t 66) (.reg [oo 67 (.mv (.t 9)), oo 68 (.load 5 true (.t 11)), oo 69 (.dslice 42 5 1 [z0, z0, z0, z0, z0] [(0, 5, (.t 68))]), oo 70 (.append 72 42 5 (.t 67) (.t 69)), oo 9 (.mv (.t 70))]) .skip)))) (.reg [oo 37 (.mv (.t 10)), oo 38 (.bin .add (.t 37) (ci 1)), oo 10 (.mv (.t 38))])))))) (.seq (.reg [oo 71 (.mv (.t 9)), oo 6 (.mv (.t 71))]) .ret))))))
theorem fn_law09_looks_o : FnOK Try.prog 52 72 [.t 6] ac_law09_looks_o := ⟨_, _, Try.func52, rfl, Try.ntmps52, by kernel_rfl, ⟨fun r => if r == 5 then [1007] else if r == 10 then [1010006, 1010008, 1010010, 1010012, 1013] else if r == 11 then [1011006] else if r == 12 then [1002] else [], by kernel_rfl⟩, by kernel_rfl⟩
set_option maxHeartbeats 4000000 in
theorem law09_looks_o_ok (p1 : KitRing) (p2 : Convoy) (p3 : Bool) (r : ((List Sight) × KitRing)) (h : law09_looks_o p1 p2 p3 = some r) : MCall Try.prog 52 [(.ptr (900000, 0) 0), (.d (.agg (eConvoy p2))), (.d (bo p3))] [(.box 94 [(dl eInt_i64 p1.l), (di p1.at_)])] (dl eSight r.1) [some (.box 94 [(dl eInt_i64 r.2.l), (di r.2.at_)])] [] := by
  refine m_callF fn_law09_looks_o rfl (nl rfl) ?_
  unfold law09_looks_o at h
  unfold ac_law09_looks_o
  refine l_sub (s0 := ⟨T [(0, (.ptr _ _)), (1, (.d _)), (2, (.d _))], G [((900000, 0), some (.box 94 _))]⟩) (sbr rfl rfl) ?_
  refine lr (fun u1 hu1 => sn rfl rfl (sv rfl (s_nil (lr (fun u2 hu2 => sp rfl rfl (sp rfl rfl (sl rfl G_hit rfl (s_new (.sl _) (.arr 3 1 (List.map eInt_i64 ([p2.Guest_.ID] : List Int))) rfl rfl (ss rfl (s_nil (l_seq (lr (fun u3 hu3 => sv rfl (s_nil (bs h fun y1 hy1 h => l_join (fun s => ∃ g1 : ({d : Nat // d ∈ [16, 32]} × Nat), Sb ⟨T [(0, (.ptr (900000, 0) 0)), (2, (.d (bo p3))), (4, (.ptr (4, u1) 0)), (7, (oS y1 (g1.1.val, g1.2)))], G [((900000, 0), some (.box 94 [(dl eInt_i64 p1.l), (di p1.at_)])), ((4, u1), some (.box 38 (dConvoy p2))), ((g1.1.val, g1.2), oB 3 1 eInt_i64 y1)]⟩ s) ?_ ?_)))))))))))))))
  · refine l_block (l_loop (law09_looks_o_l1 p2) (fun (x1 : ((List Int) × Int)) (g2 : ({d : Nat // d ∈ [16, 32]} × Nat)) => ⟨T [(0, (.ptr (900000, 0) 0)), (2, (.d (bo p3))), (4, (.ptr (4, u1) 0)), (7, (oS x1.1 (g2.1.val, g2.2))), (8, (di x1.2))], G [((900000, 0), some (.box 94 [(dl eInt_i64 p1.l), (di p1.at_)])), ((4, u1), some (.box 38 (dConvoy p2))), ((g2.1.val, g2.2), oB 3 1 eInt_i64 x1.1)]⟩) ([p2.Guest_.ID], 0) (⟨16, .head _⟩, u2) _ hy1 (sb_of ⟨.of rfl, .of rfl, .of rfl, (.of (oS_ne (List.cons_ne_nil _ _)).symm), .of rfl, trivial⟩ (sbG_some (gq rfl) (.of rfl) (sbG_some (gq rfl) (.of rfl) (sbG_own G_hit trivial)))) ?_)
    intro x1 g2 z1 hz1 ez1
    unfold law09_looks_o_l1 at hz1
    refine l_seq (lr (fun u4 hu4 => sv rfl (sp rfl rfl (sl rfl (gq rfl) rfl (sd rfl (v_len rfl) (sv rfl (s_nil (cc rfl hz1 (fun c1 hz1 => ?_) (fun c1 hz1 => ?_)))))))))
    · refine l_skip (l_seq (l_block (l_reg fun u5 hu5 => s_val (oS x1.1 (g2.1.val, g2.2)) rfl rfl (sp rfl rfl (sl rfl (gq rfl) rfl (sv rfl (bs hz1 fun v1 hv1 hz1 => sd rfl (v_idx rfl rfl hv1 rfl) (sv rfl (sd rfl (v_loadL rfl hv1 rfl) (s_val (dl eInt_i64 [v1.ID]) rfl rfl (bs hz1 fun v2 hv2 hz1 => s_appendO eInt_i64 (g2.1.val, g2.2) x1.1 v1.ID [] _ (elems_list (fun _ => rfl)) rfl (G_skip (neL g2.1.property rfl) (G_skip (neL g2.1.property rfl) G_hit)) hv2 (ss rfl (s_nil (l_end (l_sub (s0 := ⟨T [(0, (.ptr (900000, 0) 0)), (2, (.d (bo p3))), (4, (.ptr (4, u1) 0)), (7, (.sl (32, u5))), (8, (di x1.2))], G [((900000, 0), some (.box 94 [(dl eInt_i64 p1.l), (di p1.at_)])), ((4, u1), some (.box 38 (dConvoy p2))), ((32, u5), some (.arr 3 1 (List.map eInt_i64 v2)))]⟩) (sb_of ⟨.of rfl, .of rfl, .of rfl, .of rfl, .of rfl, trivial⟩ (sbG_some (G_skip rfl (G_skip (neR g2.1.property rfl) G_hit)) (.of rfl) (sbG_some (G_skip rfl (G_skip (neR g2.1.property rfl) (gq rfl))) (.of rfl) (sbG_some G_hit (.of rfl) trivial)))) ?_)))))))))))))))
      refine l_reg fun u6 hu6 => sv rfl (sv rfl (sv rfl (s_nil (l_nil ?_))))
      obtain rfl := Option.some.inj hz1
      exact ⟨rfl, (⟨32, .tail _ (.head _)⟩, u5), (sb_of ⟨.of rfl, .of rfl, .of rfl, (.of (oS_ne (appc_ne hv2)).symm), .of rfl, trivial⟩ (sbG_some G_hit (.of rfl) (sbG_some (gq rfl) (.of rfl) (sbG_own (gq rfl) trivial))))⟩
    · refine l_exitN rfl ?_
      obtain rfl := Option.some.inj hz1
      obtain rfl := ez1 _ rfl
      refine ⟨nofun, awl_pop rfl (l_j ?_)⟩
      exact ⟨(g2.1, g2.2), (sb_of ⟨.of rfl, .of rfl, .of rfl, .of rfl, trivial⟩ (sbG_some G_hit (.of rfl) (sbG_some (gq rfl) (.of rfl) (sbG_oB (G_skip (neL g2.1.property rfl) (G_skip (neL g2.1.property rfl) G_hit)) trivial))))⟩
  · rintro _ ⟨g1, q1⟩
    refine l_sub q1 (lr (fun u7 hu7 => sv rfl (s_nil (l_seq (lr (fun u8 hu8 => sv rfl (s_nil (bs h fun y2 hy2 h => l_join (fun s => ∃ g3 : Nat, Sb ⟨T [(0, (.ptr (900000, 0) 0)), (9, (oS y2.1 (70, g3)))], G [((900000, 0), some (.box 94 [(dl eInt_i64 y2.2.l), (di y2.2.at_)])), ((70, g3), oB 42 5 eSight y2.1)]⟩ s) ?_ ?_))))))))
    · refine l_block (l_loop (law09_looks_o_l2 p2 p3 y1) (fun (x2 : ((List Sight) × Int × KitRing)) (g4 : Nat) => ⟨T [(0, (.ptr (900000, 0) 0)), (2, (.d (bo p3))), (4, (.ptr (4, u1) 0)), (7, (oS y1 (g1.1.val, g1.2))), (9, (oS x2.1 (70, g4))), (10, (di x2.2.1))], G [((900000, 0), some (.box 94 [(dl eInt_i64 x2.2.2.l), (di x2.2.2.at_)])), ((4, u1), some (.box 38 (dConvoy p2))), ((g1.1.val, g1.2), oB 3 1 eInt_i64 y1), ((70, g4), oB 42 5 eSight x2.1)]⟩) ([], 0, p1) 0 _ hy2 (sb_of ⟨.of rfl, .of rfl, .of rfl, .of rfl, .of rfl, .of rfl, trivial⟩ (sbG_some G_hit (.of rfl) (sbG_some (gq rfl) (.of rfl) (sbG_oB (G_skip (neL g1.1.property rfl) (G_skip (neL g1.1.property rfl) G_hit)) (sbG_nil trivial))))) ?_)
      intro x2 g4 z2 hz2 ez2
      unfold law09_looks_o_l2 at hz2
      refine l_seq (lr (fun u9 hu9 => sv rfl (s_val (oS y1 (g1.1.val, g1.2)) rfl rfl (sd rfl (v_lenO (f := eInt_i64) rfl (G_skip (neL g1.1.property rfl) (G_skip (neL g1.1.property rfl) G_hit))) (sv rfl (s_nil (cc rfl hz2 (fun c2 hz2 => ?_) (fun c2 hz2 => ?_))))))))
      · refine l_skip (l_seq (l_block (l_seq (l_drawT fun u10 hu10 => t_val (.d _) rfl (v_loadG rfl (gq rfl) rfl rfl) (t_val (oS y1 (g1.1.val, g1.2)) rfl rfl (t_val (.d _) rfl rfl (bs hz2 fun v3 hv3 hz2 => t_val (.aptr _ _ _ _) rfl (v_idxO rfl rfl (G_skip (neL g1.1.property rfl) (G_skip (neL g1.1.property rfl) G_hit)) hv3) (t_val (.d _) rfl (v_loadA rfl (look_oB (G_skip (neL g1.1.property rfl) (G_skip (neL g1.1.property rfl) G_hit)) (geti_ne hv3)) hv3 rfl) (t_val (.ptr _ _) rfl rfl (bs hz2 fun v4 hv4 hz2 => t_oc (v := .d (i64 v4.1)) (us := [(900000, 0)]) (oc_m (kit_Ring_Next_o_ok _ _ _ hv4) [(900000, 0)] [(900000, 0)] _ (((900000, 0), some (.box 94 [(dl eInt_i64 v4.2.l), (di v4.2.at_)])) :: _) rfl all2_av (kl_cons (kr_ptr G_hit rfl) (kl_cons kr_d kl_nil)) (live_cons G_hit live_nil) ⟨⟨_, G_hit, .of rfl⟩, trivial⟩ (fun _ h => h) nd1 rfl rfl rfl) (t_val (.ptr _ _) rfl rfl (bs hz2 fun v5 hv5 hz2 => t_oc (v := .d (i64 v5.1)) (us := [(900000, 0)]) (oc_m (kit_Ring_Next_o_ok _ _ _ hv5) [(900000, 0)] [(900000, 0)] _ (((900000, 0), some (.box 94 [(dl eInt_i64 v5.2.l), (di v5.2.at_)])) :: _) rfl all2_av (kl_cons (kr_ptr G_hit rfl) (kl_cons kr_d kl_nil)) (live_cons G_hit live_nil) ⟨⟨_, G_hit, .of rfl⟩, trivial⟩ (fun _ h => h) nd1 rfl rfl rfl) (t_val (.ptr _ _) rfl rfl (bs hz2 fun v6 hv6 hz2 => t_oc (v := .d (i64 v6.1)) (us := [(900000, 0)]) (oc_m (kit_Ring_Next_o_ok _ _ _ hv6) [(900000, 0)] [(900000, 0)] _ (((900000, 0), some (.box 94 [(dl eInt_i64 v6.2.l), (di v6.2.at_)])) :: _) rfl all2_av (kl_cons (kr_ptr G_hit rfl) (kl_cons kr_d kl_nil)) (live_cons G_hit live_nil) ⟨⟨_, G_hit, .of rfl⟩, trivial⟩ (fun _ h => h) nd1 rfl rfl rfl) (t_val (.ptr _ _) rfl rfl (bs hz2 fun v7 hv7 hz2 => t_oc (v := .d (i64 v7.1)) (us := [(900000, 0)]) (oc_m (kit_Ring_Next_o_ok _ _ _ hv7) [(900000, 0)] [(900000, 0)] _ (((900000, 0), some (.box 94 [(dl eInt_i64 v7.2.l), (di v7.2.at_)])) :: _) rfl all2_av (kl_cons (kr_ptr G_hit rfl) (kl_cons kr_d kl_nil)) (live_cons G_hit live_nil) ⟨⟨_, G_hit, .of rfl⟩, trivial⟩ (fun _ h => h) nd1 rfl rfl rfl) (t_val (dl eInt_i64 [v4.1, v5.1, v6.1, v7.1]) rfl rfl (bs hz2 fun v8 hv8 hz2 => t_call rfl rfl all2_refl (convoy_Look_ok _ _ _  _ hv8) (.inl rfl) (t_val (.d _) rfl rfl (t_val (.d _) rfl rfl (t_val (.d _) rfl rfl (t_new (.ptr _ _) (.box _ _) rfl rfl (t_store _ _ _ _ _ rfl rfl rfl G_hit (nl rfl) (dSight v8.1) rfl (t_val (.d _) rfl rfl (t_nil ⟨by first | rfl | ((generalize g1.1 = q0; rcases q0 with ⟨d0, _ | ⟨_, _ | ⟨_, h0⟩⟩⟩) <;> (generalize y1 = z2; cases z2) <;> first | rfl | contradiction), ?_⟩)))))))))))))))))))))))))
        refine l_seq (l_sub (s0 := ⟨T [(0, (.ptr (900000, 0) 0)), (2, (.d (bo p3))), (4, (.ptr (4, u1) 0)), (7, (oS y1 (g1.1.val, g1.2))), (9, (oS x2.1 (70, g4))), (10, (di x2.2.1)), (11, (.ptr (11, u10) 0)), (12, (di v8.2))], G [((900000, 0), some (.box 94 [(dl eInt_i64 v7.2.l), (di v7.2.at_)])), ((4, u1), some (.box 38 (dConvoy p2))), ((g1.1.val, g1.2), oB 3 1 eInt_i64 y1), ((70, g4), oB 42 5 eSight x2.1), ((11, u10), some (.box 42 (dSight v8.1)))]⟩) (sb_of ⟨.of rfl, .of rfl, .of rfl, .of rfl, .of rfl, .of rfl, .of rfl, .of rfl, trivial⟩ (sbG_some (gq rfl) (.of rfl) (sbG_some (gq rfl) (.of rfl) (sbG_oB (G_skip (neL g1.1.property rfl) (G_skip (neL g1.1.property rfl) (G_skip (neL g1.1.property rfl) (G_skip (neL g1.1.property rfl) (G_skip (neL g1.1.property rfl) (G_skip (neL g1.1.property rfl) (G_skip (neL g1.1.property rfl) (G_skip (neL g1.1.property rfl) G_hit)))))))) (sbG_oB (G_skip rfl (G_skip rfl (G_skip rfl (G_skip rfl (G_skip rfl (G_skip rfl (G_skip rfl (G_skip rfl (G_skip (neR g1.1.property rfl) G_hit))))))))) (sbG_some G_hit (.of rfl) trivial)))))) ?_)
        refine l_reg fun u11 hu11 => sv rfl (sv rfl (sv rfl (gt rfl (fun _ => rfl) (gt rfl (fun w2 => (v_mv (gd_pos w2))) (g_val _ (.ptr _ _) rfl (gw_gf rfl) (fun _ => rfl) (bs hz2 fun v9 hv9 hz2 => ?_))))))
        refine g_oc ((v8.2 == 0) && (!p3)) (v := .d (i64 v9.1)) (us := [(900000, 0)]) (g' := (((900000, 0), some (.box 94 [(dl eInt_i64 ((cond ((v8.2 == 0) && (!p3)) v9.2 v7.2).l)), (di ((cond ((v8.2 == 0) && (!p3)) v9.2 v7.2).at_))])) :: _)) (gw_gf rfl) (fun w4 => oc_m (avs := [(.ptr (900000, 0) 0), (di 2)]) (kit_Ring_Next_o_ok _ _ _ (cond_t w4 hv9)) [(900000, 0)] [(900000, 0)] _ (((900000, 0), some (.box 94 [(dl eInt_i64 v9.2.l), (di v9.2.at_)])) :: _) (by simp only [gd_pos w4]; rfl) all2_av (kl_cons (kr_ptr G_hit rfl) (kl_cons kr_d kl_nil)) (live_cons G_hit live_nil) ⟨⟨_, G_hit, .of rfl⟩, trivial⟩ (fun _ h => h) nd1 rfl rfl rfl) (fun w4 => by rw [w4]; rfl) (fun w4 => by rw [w4]; exact (G_put G_hit)) ?_
        refine gv rfl (gw_gf rfl) (vb rfl rfl rfl) (gt rfl (fun w6 => (v_or (gd_pos w6) rfl (fun hc => gd_pos (and_i w6 (not_t hc))))) (sa rfl rfl rfl (s_nil (cc rfl hz2 (fun c3 hz2 => ?_) (fun c3 hz2 => ?_)))))
        · refine l_sub (s0 := ⟨T [(0, (.ptr (900000, 0) 0)), (2, (.d (bo p3))), (4, (.ptr (4, u1) 0)), (7, (oS y1 (g1.1.val, g1.2))), (9, (oS x2.1 (70, g4))), (10, (di x2.2.1)), (11, (.ptr (11, u10) 0))], G [((900000, 0), some (.box 94 [(dl eInt_i64 ((cond ((v8.2 == 0) && (!p3)) v9.2 v7.2).l)), (di ((cond ((v8.2 == 0) && (!p3)) v9.2 v7.2).at_))])), ((4, u1), some (.box 38 (dConvoy p2))), ((g1.1.val, g1.2), oB 3 1 eInt_i64 y1), ((70, g4), oB 42 5 eSight x2.1), ((11, u10), some (.box 42 (dSight v8.1)))]⟩) (sb_of ⟨.of rfl, .of rfl, .of rfl, .of rfl, .of rfl, .of rfl, .of rfl, trivial⟩ (sbG_some G_hit (.of rfl) (sbG_some (gq rfl) (.of rfl) (sbG_oB (G_skip (neL g1.1.property rfl) (G_skip (neL g1.1.property rfl) (G_skip (neL g1.1.property rfl) G_hit))) (sbG_oB (G_skip rfl (G_skip rfl (G_skip rfl (G_skip (neR g1.1.property rfl) G_hit)))) (sbG_some (G_skip rfl (G_skip rfl (G_skip rfl (G_skip (neR g1.1.property rfl) (gq rfl))))) (.of rfl) trivial)))))) ?_
          refine l_reg fun u12 hu12 => s_val (oS x2.1 (70, g4)) rfl rfl (sd rfl (v_loadG rfl (G_skip rfl (G_skip rfl (G_skip (neR g1.1.property rfl) (gq rfl)))) rfl rfl) (s_val (dl eSight [v8.1]) rfl rfl (bs hz2 fun v10 hv10 hz2 => s_appendO eSight (70, g4) x2.1 v8.1 [] _ (elems_list (fun _ => rfl)) rfl (G_skip rfl (G_skip rfl (G_skip (neR g1.1.property rfl) G_hit))) hv10 (ss rfl (s_nil (l_end (l_reg fun u13 hu13 => sv rfl (sv rfl (sv rfl (s_nil (l_nil ?_)))))))))))
          obtain rfl := Option.some.inj hz2
          exact ⟨rfl, u12, (sb_of ⟨.of rfl, .of rfl, .of rfl, .of rfl, (.of (oS_ne (appc_ne hv10)).symm), .of rfl, trivial⟩ (sbG_some (gq rfl) (.of rfl) (sbG_some (gq rfl) (.of rfl) (sbG_oB (G_skip (neL g1.1.property rfl) (G_skip (neL g1.1.property rfl) (G_skip (neL g1.1.property rfl) (G_skip (neL g1.1.property rfl) G_hit)))) (sbG_own G_hit trivial)))))⟩
        · refine l_skip (l_end (l_sub (s0 := ⟨T [(0, (.ptr (900000, 0) 0)), (2, (.d (bo p3))), (4, (.ptr (4, u1) 0)), (7, (oS y1 (g1.1.val, g1.2))), (9, (oS x2.1 (70, g4))), (10, (di x2.2.1))], G [((900000, 0), some (.box 94 [(dl eInt_i64 ((cond ((v8.2 == 0) && (!p3)) v9.2 v7.2).l)), (di ((cond ((v8.2 == 0) && (!p3)) v9.2 v7.2).at_))])), ((4, u1), some (.box 38 (dConvoy p2))), ((g1.1.val, g1.2), oB 3 1 eInt_i64 y1), ((70, g4), oB 42 5 eSight x2.1)]⟩) (sb_of ⟨.of rfl, .of rfl, .of rfl, .of rfl, .of rfl, .of rfl, trivial⟩ (sbG_some G_hit (.of rfl) (sbG_some (gq rfl) (.of rfl) (sbG_oB (G_skip (neL g1.1.property rfl) (G_skip (neL g1.1.property rfl) (G_skip (neL g1.1.property rfl) G_hit))) (sbG_oB (G_skip rfl (G_skip rfl (G_skip rfl (G_skip (neR g1.1.property rfl) G_hit)))) trivial))))) ?_))
          refine l_reg fun u14 hu14 => sv rfl (sv rfl (sv rfl (s_nil (l_nil ?_))))
          obtain rfl := Option.some.inj hz2
          exact ⟨rfl, g4, (sb_of ⟨.of rfl, .of rfl, .of rfl, .of rfl, .of rfl, .of rfl, trivial⟩ (sbG_some G_hit (.of rfl) (sbG_some (gq rfl) (.of rfl) (sbG_oB (G_skip (neL g1.1.property rfl) (G_skip (neL g1.1.property rfl) G_hit)) (sbG_oB (G_skip rfl (G_skip rfl (G_skip (neR g1.1.property rfl) G_hit))) trivial)))))⟩
      · refine l_exitN rfl ?_
        obtain rfl := Option.some.inj hz2
        obtain rfl := ez2 _ rfl
        refine ⟨nofun, awl_pop rfl (l_j ?_)⟩
        exact ⟨g4, (sb_of ⟨.of rfl, .of rfl, trivial⟩ (sbG_some G_hit (.of rfl) (sbG_oB (G_skip rfl (G_skip rfl (G_skip (neR g1.1.property rfl) G_hit))) trivial)))⟩
    · rintro _ ⟨g3, q2⟩
      refine l_sub q2 (lr (fun u15 hu15 => s_val (oS y2.1 (70, g3)) rfl rfl (s_val (oS y2.1 (70, g3)) rfl rfl (s_nil (l_ret ?_)))))
      obtain rfl := Option.some.inj h
      exact fin_mf (.inr rfl) [(70, g3)] (resDF1 (res_t rfl) (rf_oS (rs_in (.head _) (gq rfl)))) oD_le ⟨⟨_, _, _, G_hit, (old_notin rfl old_notin_nil), rfl, all2_d, rfl⟩, trivial⟩

noncomputable def convoy_Step_1 (p1 : Mate) : Option Bool :=
  some (decide (p1.S > 1099511625776))

/-- kerbstone/convoy.Step$1 -/
def ac_convoy_Step_1 : AC := (.seq (.reg [oo 1 (.box 65 true (.t 0)), oo 2 (.mv (.c zf))]) (.seq (.reg [oo 3 (.fieldA 1 (.t 1)), oo 4 (.load 1 false (.t 3)), oo 5 (.bin .gtr (.t 4) (ci 1099511625776)), oo 2 (.mv (.t 5))]) .ret))
theorem fn_convoy_Step_1 : FnOK Try.prog 84 6 [.t 2] ac_convoy_Step_1 := ⟨_, _, Try.func84, rfl, Try.ntmps84, by kernel_rfl, ⟨fun _ => [], by kernel_rfl⟩, by kernel_rfl⟩
theorem convoy_Step_1_ok (p1 : Mate) (r : Bool) (h : convoy_Step_1 p1 = some r) : PCall Try.prog 84 [(.agg (eMate p1))] (bo r) := by
  refine l_call fn_convoy_Step_1 (nl rfl) ?_
  unfold convoy_Step_1 at h
  unfold ac_convoy_Step_1
  refine l_sub (s0 := ⟨T [(0, (.d _))], G []⟩) (sbr rfl rfl) ?_
  refine lr (fun u1 hu1 => sn rfl rfl (sv rfl (s_nil (lr (fun u2 hu2 => sp rfl rfl (sl rfl G_hit rfl (sv rfl (sv rfl (s_nil (l_ret ?_))))))))))
  obtain rfl := Option.some.inj h
  exact fin_ok (.inr rfl) (resD1 (res_t rfl) rf_d) (.refl _)

noncomputable def slices_IndexFunc_Mate_Mate_convoy_Step_1_l1 (p1 : (List Mate)) (x1 : Int) : Option (Stp Int (Sum Unit Int)) :=
  cond (decide (x1 < (p1.length : Int))) ((geti p1 x1).bind fun v1 => (convoy_Step_1 v1).bind fun v2 => cond v2 (some (.out (.inr x1))) (some (.go (w64 (x1 + 1))))) (some (.out (.inl ())))
noncomputable def slices_IndexFunc_Mate_Mate_convoy_Step_1 (p1 : (List Mate)) : Option Int :=
  thenS (loop (slices_IndexFunc_Mate_Mate_convoy_Step_1_l1 p1) 0) (fun _ => some (-1)) (fun r => some r)

/-- slices.IndexFunc[[]kerbstone/api.Mate,kerbstone/api.Mate] -/
def ac_slices_IndexFunc_Mate_Mate_convoy_Step_1 : AC := (.seq (.reg [oo 4 (.mv (ci 0))]) (.seq (.seq (.reg [oo 6 (.mv (.t 0)), oo 7 (.len (.t 6)), oo 8 (.mv (ci 0))]) (.block 0 (.loop (.seq (.reg [oo 9 (.bin .lss (.t 8) (.t 7))]) (.seq (.cond (.t 9) .skip (.exit 0)) (.seq (.block 1 (.seq (.reg [oo 10 (.mv (.t 8)), oo 5 (.mv (.t 10))]) (.seq (.reg [oo 11 (.mv (.t 1)), oo 12 (.mv (.t 0)), oo 13 (.mv (.t 5)), oo 14 (.idxS 12 (.t 12) (.t 13)), oo 15 (.load 12 true (.t 14)), oo 16 (.call (.t 11) [(.t 15)])]) (.cond (.t 16) (.seq (.reg [oo 17 (.mv (.t 5)), oo 4 (.mv (.t 17))]) .ret) .skip)))) (.reg [oo 18 (.bin .add (.t 8) (ci 1)), oo 8 (.mv (.t 18))]))))))) (.seq (.reg [oo 4 (.mv (ci (-1)))]) .ret)))
theorem fn_slices_IndexFunc_Mate_Mate_convoy_Step_1 : FnOK Try.prog 98 19 [.t 4] ac_slices_IndexFunc_Mate_Mate_convoy_Step_1 := ⟨_, _, Try.func98, rfl, Try.ntmps98, by kernel_rfl, ⟨fun _ => [], by kernel_rfl⟩, by kernel_rfl⟩
set_option maxHeartbeats 4000000 in
theorem slices_IndexFunc_Mate_Mate_convoy_Step_1_ok (p1 : (List Mate)) (r : Int) (h : slices_IndexFunc_Mate_Mate_convoy_Step_1 p1 = some r) : PCall Try.prog 98 [(.list (List.map eMate p1)), (.fn (.func 84) [] [])] (i64 r) := by
  refine l_call fn_slices_IndexFunc_Mate_Mate_convoy_Step_1 (nl rfl) ?_
  unfold slices_IndexFunc_Mate_Mate_convoy_Step_1 at h
  unfold ac_slices_IndexFunc_Mate_Mate_convoy_Step_1
  refine l_sub (s0 := ⟨T [(0, (.d _)), (1, (.d _))], G []⟩) (sbr rfl rfl) ?_
  refine lr (fun u1 hu1 => sv rfl (s_nil (l_seq (lr (fun u2 hu2 => sv rfl (sd rfl (v_len rfl) (sv rfl (s_nil (js h fun z1 hz1 h => l_join (fun s => ∃ (y1 : Unit) (g1 : Unit), z1 = .inl y1 ∧ Sb ⟨T [], G []⟩ s) ?_ ?_)))))))))
  · refine l_block (l_loop (slices_IndexFunc_Mate_Mate_convoy_Step_1_l1 p1) (fun (x1 : Int) (g2 : Unit) => ⟨T [(0, (dl eMate p1)), (1, (.d (.fn (.func 84) [] []))), (7, (di (p1.length : Int))), (8, (di x1))], G []⟩) 0 () _ hz1 (sbr rfl rfl) ?_)
    intro x1 g2 z2 hz2 ez2
    unfold slices_IndexFunc_Mate_Mate_convoy_Step_1_l1 at hz2
    refine lr (fun u3 hu3 => sv rfl (s_nil (l_seq (cc rfl hz2 (fun c1 hz2 => ?_) (fun c1 hz2 => ?_)))))
    · refine l_skip (l_seq (l_block (lr (fun u4 hu4 => sv rfl (sv rfl (s_nil (lr (fun u5 hu5 => sv rfl (sv rfl (sv rfl (bs hz2 fun v1 hv1 hz2 => sd rfl (v_idx rfl rfl hv1 rfl) (sd rfl (v_loadLG rfl hv1 rfl rfl) (bs hz2 fun v2 hv2 hz2 => s_call rfl rfl all2_refl (convoy_Step_1_ok _  _ hv2) (.inl rfl) (s_nil (cc rfl hz2 (fun c2 hz2 => ?_) (fun c2 hz2 => ?_))))))))))))))))
      · refine lr (fun u6 hu6 => sv rfl (sv rfl (s_nil (l_ret ?_))))
        obtain rfl := Option.some.inj hz2
        obtain rfl := ez2 _ rfl
        refine ⟨nofun, awl_ret ?_⟩
        rw [Sum.elim_inr] at h
        obtain rfl := Option.some.inj h
        exact fin_ok (.inr rfl) (resD1 (res_t rfl) rf_d) (.refl _)
      · refine l_skip (l_end (l_reg fun u7 hu7 => sv rfl (sv rfl (s_nil (l_nil ?_)))))
        obtain rfl := Option.some.inj hz2
        exact ⟨rfl, (), (sbr rfl rfl)⟩
    · refine l_exitN rfl ?_
      obtain rfl := Option.some.inj hz2
      obtain rfl := ez2 _ rfl
      refine ⟨nofun, awl_pop rfl (l_j ?_)⟩
      exact ⟨_, (), rfl, (sbr rfl rfl)⟩
  · rintro _ ⟨y1, g1, rfl, q1⟩
    rw [Sum.elim_inl] at h
    refine l_sub q1 (lr (fun u8 hu8 => sv rfl (s_nil (l_ret ?_))))
    obtain rfl := Option.some.inj h
    exact fin_ok (.inr rfl) (resD1 (res_t rfl) rf_d) (.refl _)

noncomputable def slices_ContainsFunc_Mate_Mate_convoy_Step_1 (p1 : (List Mate)) : Option Bool :=
  (slices_IndexFunc_Mate_Mate_convoy_Step_1 p1).bind fun v1 => some (decide (v1 ≥ 0))

/-- slices.ContainsFunc[[]kerbstone/api.Mate,kerbstone/api.Mate] -/
def ac_slices_ContainsFunc_Mate_Mate_convoy_Step_1 : AC := (.seq (.reg [oo 4 (.mv (.c zf))]) (.seq (.reg [oo 5 (.mv (.t 0)), oo 6 (.mv (.t 1)), oo 7 (.call (cf 98) [(.t 5), (.t 6)]), oo 8 (.bin .geq (.t 7) (ci 0)), oo 4 (.mv (.t 8))]) .ret))
theorem fn_slices_ContainsFunc_Mate_Mate_convoy_Step_1 : FnOK Try.prog 77 9 [.t 4] ac_slices_ContainsFunc_Mate_Mate_convoy_Step_1 := ⟨_, _, Try.func77, rfl, Try.ntmps77, by kernel_rfl, ⟨fun _ => [], by kernel_rfl⟩, by kernel_rfl⟩
theorem slices_ContainsFunc_Mate_Mate_convoy_Step_1_ok (p1 : (List Mate)) (r : Bool) (h : slices_ContainsFunc_Mate_Mate_convoy_Step_1 p1 = some r) : PCall Try.prog 77 [(.list (List.map eMate p1)), (.fn (.func 84) [] [])] (bo r) := by
  refine l_call fn_slices_ContainsFunc_Mate_Mate_convoy_Step_1 (nl rfl) ?_
  unfold slices_ContainsFunc_Mate_Mate_convoy_Step_1 at h
  unfold ac_slices_ContainsFunc_Mate_Mate_convoy_Step_1
  refine l_sub (s0 := ⟨T [(0, (.d _)), (1, (.d _))], G []⟩) (sbr rfl rfl) ?_
  refine lr (fun u1 hu1 => sv rfl (s_nil (lr (fun u2 hu2 => sv rfl (sv rfl (bs h fun v1 hv1 h => s_call rfl rfl all2_refl (slices_IndexFunc_Mate_Mate_convoy_Step_1_ok _  _ hv1) (.inl rfl) (sv rfl (sv rfl (s_nil (l_ret ?_))))))))))
  obtain rfl := Option.some.inj h
  exact fin_ok (.inr rfl) (resD1 (res_t rfl) rf_d) (.refl _)

noncomputable def convoy_counts (p1 : Note) (p2 : Int) : Option Bool :=
  ((cond ((((decide (p1.Kind ≥ 1)) && (decide (p1.Kind ≤ 4))) && (decide (p1.From ≥ 1))) && (decide (p1.From ≤ 99))) (convoy_within p1.Stamp (mm2 true 0 (w64 (p2 - 20))) p2) (some default))).bind fun v1 => ((cond (((((decide (p1.Kind ≥ 1)) && (decide (p1.Kind ≤ 4))) && (decide (p1.From ≥ 1))) && (decide (p1.From ≤ 99))) && v1) (convoy_fairGuess (Guess.mk p1.R p1.V)) (some default))).bind fun v2 => ((cond ((((((decide (p1.Kind ≥ 1)) && (decide (p1.Kind ≤ 4))) && (decide (p1.From ≥ 1))) && (decide (p1.From ≤ 99))) && v1) && v2) (convoy_within p1.Until 0 2199023255552) (some default))).bind fun v3 => some (((((((decide (p1.Kind ≥ 1)) && (decide (p1.Kind ≤ 4))) && (decide (p1.From ≥ 1))) && (decide (p1.From ≤ 99))) && v1) && v2) && v3)

/-- kerbstone/convoy.counts -/
def ac_convoy_counts : AC := (.seq (.reg [oo 2 (.box 68 true (.t 0)), oo 4 (.mv (.c zf))]) (.seq (.reg [oo 5 (.fieldA 0 (.t 2)), oo 6 (.load 1 false (.t 5)), oo 7 (.bin .geq (.t 6) (ci 1)), oo 8 (.mv (.t 7)), og 9 (.fieldA 0 (.t 2)) 8, og 10 (.load 1 false (.t 9)) 8, og 11 (.bin .leq (.t 10) (ci 4)) 8, oo 12 (.pick (.t 8) (.t 11) (.c zf)), oo 13 (.mv (.t 12)), og 14 (.fieldA 1 (.t 2)) 13, og 15 (.load 1 false (.t 14)) 13, og 16 (.bin .geq (.t 15) (ci 1)) 13, oo 17 (.pick (.t 13) (.t 16) (.c zf)), oo 18 (.mv (.t 17)), og 19 (.fieldA 1 (.t 2)) 18, og 20 (.load 1 false (.t 19)) 18, og 21 (.bin .leq (.t 20) (ci 99)) 18, oo 22 (.pick (.t 18) (.t 21) (.c zf)), oo 23 (.mv (.t 22)), og 24 (.fieldA 3 (.t 2)) 23, og 25 (.load 1 false (.t 24)) 23, og 26 (.mv (.t 1)) 23, og 27 (.bin .sub (.t 26) (ci 20)) 23, og 28 (.mm true (ci 0) [(.t 27)]) 23, og 29 (.mv (.t 1)) 23, og 30 (.call (cf 95) [(.t 25), (.t 28), (.t 29)]) 23, oo 31 (.pick (.t 23) (.t 30) (.c zf)), oo 32 (.mv (.t 31)), og 33 (.fieldA 4 (.t 2)) 32, og 34 (.load 1 false (.t 33)) 32, og 35 (.fieldA 5 (.t 2)) 32, og 36 (.load 1 false (.t 35)) 32, og 37 (.build [z0, z0] [(0, 1, (.t 34)), (1, 1, (.t 36))]) 32, og 38 (.call (cf 124) [(.t 37)]) 32, oo 39 (.pick (.t 32) (.t 38) (.c zf)), oo 40 (.mv (.t 39)), og 41 (.fieldA 6 (.t 2)) 40, og 42 (.load 1 false (.t 41)) 40, og 43 (.call (cf 95) [(.t 42), (ci 0), (ci 2199023255552)]) 40, oo 44 (.pick (.t 40) (.t 43) (.c zf)), oo 4 (.mv (.t 44))]) .ret))
theorem fn_convoy_counts : FnOK Try.prog 107 45 [.t 4] ac_convoy_counts := ⟨_, _, Try.func107, rfl, Try.ntmps107, by kernel_rfl, ⟨fun _ => [], by kernel_rfl⟩, by kernel_rfl⟩
theorem convoy_counts_ok (p1 : Note) (p2 : Int) (r : Bool) (h : convoy_counts p1 p2 = some r) : PCall Try.prog 107 [(.agg (eNote p1)), (i64 p2)] (bo r) := by
  refine l_call fn_convoy_counts (nl rfl) ?_
  unfold convoy_counts at h
  unfold ac_convoy_counts
  refine l_sub (s0 := ⟨T [(0, (.d _)), (1, (.d _))], G []⟩) (sbr rfl rfl) ?_
  refine lr (fun u1 hu1 => sn rfl rfl (sv rfl (s_nil (lr (fun u2 hu2 => sp rfl rfl (sl rfl G_hit rfl (sv rfl (sv rfl (gp rfl (gw_t rfl) (fun _ => rfl) (gt rfl (vl rfl G_hit rfl) (gt rfl (vb rfl rfl rfl) (sa rfl rfl rfl (sv rfl (gp rfl (gw_t rfl) (fun _ => rfl) (gt rfl (vl rfl G_hit rfl) (gt rfl (vb rfl rfl rfl) (sa rfl rfl rfl (sv rfl (gp rfl (gw_t rfl) (fun _ => rfl) (gt rfl (vl rfl G_hit rfl) (gt rfl (vb rfl rfl rfl) (sa rfl rfl rfl (sv rfl (gp rfl (gw_t rfl) (fun _ => rfl) (gt rfl (vl rfl G_hit rfl) (gt rfl (fun _ => rfl) (gt rfl (vb rfl rfl rfl) ?_)))))))))))))))))))))))))))
  refine gt rfl (fun w14 => (by simp only [gd_pos w14]; rfl)) ?_
  refine gt rfl (fun _ => rfl) (bs h fun v1 hv1 h => ?_)
  refine g_call _ (bo v1) (gw_t rfl) (fun w16 => ⟨_, [(di p1.Stamp), (di (mm2 true 0 (w64 (p2 - 20)))), (di p2)], _, _, (by simp only [gd_pos w16]; rfl), rfl, all2_refl, convoy_within_ok _ _ _  _ (cond_t w16 hv1), (.inl rfl)⟩) ?_
  refine sa rfl rfl rfl (sv rfl (gp rfl (gw_t rfl) (fun _ => rfl) (gt rfl (vl rfl G_hit rfl) (gp rfl (gw_t rfl) (fun _ => rfl) (gt rfl (vl rfl G_hit rfl) ?_)))))
  refine gt rfl (fun w21 => (by simp only [gd_pos w21]; rfl)) ?_
  refine bs h fun v2 hv2 h => ?_
  refine g_call _ (bo v2) (gw_t rfl) (fun w22 => ⟨_, [(.d (.agg [(i64 p1.R), (i64 p1.V)]))], _, _, (by simp only [gd_pos w22]; rfl), rfl, all2_refl, convoy_fairGuess_ok _  _ (cond_t w22 hv2), (.inl rfl)⟩) ?_
  refine sa rfl rfl rfl (sv rfl (gp rfl (gw_t rfl) (fun _ => rfl) (gt rfl (vl rfl G_hit rfl) (bs h fun v3 hv3 h => ?_))))
  refine g_call _ (bo v3) (gw_t rfl) (fun w25 => ⟨_, [(di p1.Until), (di 0), (di 2199023255552)], _, _, (by simp only [gd_pos w25]; rfl), rfl, all2_refl, convoy_within_ok _ _ _  _ (cond_t w25 hv3), (.inl rfl)⟩) ?_
  refine sa rfl rfl rfl (sv rfl (s_nil (l_ret ?_)))
  obtain rfl := Option.some.inj h
  exact fin_ok (.inr rfl) (resD1 (res_t rfl) rf_d) (.refl _)

noncomputable def convoy_Age_l1 (p2 : Int) (x1 : (Int × Guess)) : Option (Stp (Int × Guess) Guess) :=
  cond (decide (x1.1 < (mm2 true 0 (mm2 false p2 30)))) (some (.go ((w64 (x1.1 + 1)), (Guess.mk (w64 (x1.2.R + (mm2 true 0 (w64 (x1.2.V - 90))))) (mm2 true 0 (w64 (x1.2.V - 90))))))) (some (.out x1.2))
noncomputable def convoy_Age (p1 : Guess) (p2 : Int) : Option Guess :=
  (convoy_sane [p1.R, p1.V]).bind fun v1 => cond (!v1) (some (Guess.mk 0 0)) ((loop (convoy_Age_l1 p2) (0, p1)).bind fun y1 => some y1)

/-- kerbstone/convoy.Age -/
def ac_convoy_Age : AC := (.seq (.reg [oo 2 (.box 23 true (.t 0)), oo 4 (.alloc 23 [z0, z0])]) (.seq (.seq (.reg [oo 5 (.fieldA 0 (.t 2)), oo 6 (.load 1 false (.t 5)), oo 7 (.fieldA 1 (.t 2)), oo 8 (.load 1 false (.t 7)), oo 9 (.dslice 2 1 2 [z0] [(0, 1, (.t 6)), (1, 1, (.t 8))]), oo 10 (.call (cf 59) [(.t 9)]), oo 11 (.un .not (.t 10))]) (.cond (.t 11) (.seq (.reg [oo 12 (.build [z0, z0] []), oe (.store 2 (.t 4) (.t 12))]) .ret) .skip)) (.seq (.seq (.reg [oo 13 (.mv (.t 1)), oo 14 (.mm false (.t 13) [(ci 30)]), oo 15 (.mm true (ci 0) [(.t 14)]), oo 16 (.mv (ci 0))]) (.block 0 (.loop (.seq (.reg [oo 17 (.bin .lss (.t 16) (.t 15))]) (.seq (.cond (.t 17) .skip (.exit 0)) (.seq (.block 1 (.seq (.reg [oo 18 (.fieldA 1 (.t 2)), oo 19 (.load 1 false (.t 18)), oo 20 (.bin .sub (.t 19) (ci 90)), oo 21 (.mm true (ci 0) [(.t 20)]), oo 22 (.fieldA 1 (.t 2)), oe (.store 1 (.t 22) (.t 21))]) (.reg [oo 23 (.fieldA 0 (.t 2)), oo 24 (.load 1 false (.t 23)), oo 25 (.fieldA 1 (.t 2)), oo 26 (.load 1 false (.t 25)), oo 27 (.bin .add (.t 24) (.t 26)), oo 28 (.fieldA 0 (.t 2)), oe (.store 1 (.t 28) (.t 27))]))) (.reg [oo 29 (.bin .add (.t 16) (ci 1)), oo 16 (.mv (.t 29))]))))))) (.seq (.reg [oo 30 (.load 2 true (.t 2)), oe (.store 2 (.t 4) (.t 30))]) .ret))))
theorem fn_convoy_Age : FnOK Try.prog 15 31 [.cell 4 2 true] ac_convoy_Age := ⟨_, _, Try.func15, rfl, Try.ntmps15, by kernel_rfl, ⟨fun r => if r == 1 then [1004] else [], by kernel_rfl⟩, by kernel_rfl⟩
set_option maxHeartbeats 4000000 in
theorem convoy_Age_ok (p1 : Guess) (p2 : Int) (r : Guess) (h : convoy_Age p1 p2 = some r) : PCall Try.prog 15 [(.agg [(i64 p1.R), (i64 p1.V)]), (i64 p2)] (.agg [(i64 r.R), (i64 r.V)]) := by
  refine l_call fn_convoy_Age (nl rfl) ?_
  unfold convoy_Age at h
  unfold ac_convoy_Age
  refine l_sub (s0 := ⟨T [(0, (.d _)), (1, (.d _))], G []⟩) (sbr rfl rfl) ?_
  refine lr (fun u1 hu1 => sn rfl rfl (sn rfl rfl (s_nil (l_seq (lr (fun u2 hu2 => sp rfl rfl (sl rfl (gq rfl) rfl (sp rfl rfl (sl rfl (gq rfl) rfl (s_val (dl eInt_i64 [p1.R, p1.V]) rfl rfl (bs h fun v1 hv1 h => s_call rfl rfl all2_refl (convoy_sane_ok _  _ hv1) (.inl rfl) (s_val (.d (bo (!v1))) rfl rfl (s_nil (cc rfl h (fun c1 h => ?_) (fun c1 h => ?_)))))))))))))))
  · refine lr (fun u3 hu3 => sv rfl (sst rfl G_hit [(di 0), (di 0)] rfl (s_nil (l_ret ?_))))
    obtain rfl := Option.some.inj h
    exact fin_ok (.inr rfl) (resD1 (res_cellG rfl G_hit (nl rfl) rfl) rf_d) (.refl _)
  · refine l_skip (l_seq (lr (fun u4 hu4 => sv rfl (sv rfl (sv rfl (sv rfl (s_nil (bs h fun y1 hy1 h => l_join (fun s => ∃ g1 : Unit, Sb ⟨T [(2, (.ptr (2, u1) 0)), (4, (.ptr (4, u1) 0))], G [((2, u1), some (.box 23 [(di y1.R), (di y1.V)])), ((4, u1), some (.box 23 [(di 0), (di 0)]))]⟩ s) ?_ ?_))))))))
    · refine l_block (l_loop (convoy_Age_l1 p2) (fun (x1 : (Int × Guess)) (g2 : Unit) => ⟨T [(2, (.ptr (2, u1) 0)), (4, (.ptr (4, u1) 0)), (15, (di (mm2 true 0 (mm2 false p2 30)))), (16, (di x1.1))], G [((2, u1), some (.box 23 [(di x1.2.R), (di x1.2.V)])), ((4, u1), some (.box 23 [(di 0), (di 0)]))]⟩) (0, p1) () _ hy1 (sbr rfl rfl) ?_)
      intro x1 g2 z1 hz1 ez1
      unfold convoy_Age_l1 at hz1
      refine lr (fun u5 hu5 => sv rfl (s_nil (l_seq (cc rfl hz1 (fun c2 hz1 => ?_) (fun c2 hz1 => ?_)))))
      · refine l_skip (l_seq (l_block (lr (fun u6 hu6 => sp rfl rfl (sl rfl G_hit rfl (sv rfl (sv rfl (sp rfl rfl (sst rfl G_hit [(di x1.2.R), (di (mm2 true 0 (w64 (x1.2.V - 90))))] rfl (s_nil (l_reg fun u7 hu7 => sp rfl rfl (sl rfl G_hit rfl (sp rfl rfl (sl rfl G_hit rfl (sv rfl (sp rfl rfl (sst rfl G_hit [(di (w64 (x1.2.R + (mm2 true 0 (w64 (x1.2.V - 90)))))), (di (mm2 true 0 (w64 (x1.2.V - 90))))] rfl (s_nil (l_end (l_reg fun u8 hu8 => sv rfl (sv rfl (s_nil (l_nil ?_)))))))))))))))))))))))
        obtain rfl := Option.some.inj hz1
        exact ⟨rfl, (), (sbr rfl rfl)⟩
      · refine l_exitN rfl ?_
        obtain rfl := Option.some.inj hz1
        obtain rfl := ez1 _ rfl
        refine ⟨nofun, awl_pop rfl (l_j ?_)⟩
        exact ⟨(), (sbr rfl rfl)⟩
    · rintro _ ⟨g1, q1⟩
      refine l_sub q1 (lr (fun u9 hu9 => sd rfl (v_loadG rfl G_hit rfl rfl) (sst rfl (gq rfl) [(di y1.R), (di y1.V)] rfl (s_nil (l_ret ?_)))))
      obtain rfl := Option.some.inj h
      exact fin_ok (.inr rfl) (resD1 (res_cellG rfl G_hit (nl rfl) rfl) rf_d) (.refl _)

noncomputable def convoy_post_l1 (p1 : (List Note)) (p2 : Int) (x1 : ((List ConvoyLetter) × Int)) : Option (Stp ((List ConvoyLetter) × Int) (List ConvoyLetter)) :=
  cond (decide (x1.2 < (p1.length : Int))) ((geti p1 x1.2).bind fun v1 => (convoy_counts v1 p2).bind fun v2 => cond v2 ((convoy_Age (Guess.mk v1.R v1.V) (w64 (p2 - v1.Stamp))).bind fun v3 => (appc x1.1 [(ConvoyLetter.mk v1 v3)]).bind fun v4 => some (.go (v4, (w64 (x1.2 + 1))))) (some (.go (x1.1, (w64 (x1.2 + 1)))))) (some (.out x1.1))
noncomputable def convoy_post (p1 : (List Note)) (p2 : Int) : Option (List ConvoyLetter) :=
  (loop (convoy_post_l1 p1 p2) ([], 0)).bind fun y1 => some y1

/-- kerbstone/convoy.post -/
def ac_convoy_post : AC := (.seq (.reg [oo 4 (.mv (.c .nilS))]) (.seq (.reg [oo 5 (.mv (.c .nilS))]) (.seq (.seq (.reg [oo 8 (.mv (.t 0)), oo 9 (.len (.t 8)), oo 10 (.mv (ci 0))]) (.block 0 (.loop (.seq (.reg [oo 11 (.bin .lss (.t 10) (.t 9))]) (.seq (.cond (.t 11) .skip (.exit 0)) (.seq (.block 1 (.seq (.reg [oo 12 (.idxS 7 (.t 8) (.t 10)), oo 13 (.load 7 true (.t 12)), oo 7 (.alloc 68 [z0, z0, z0, z0, z0, z0, z0]), oe (.store 7 (.t 7) (.t 13))]) (.seq (.reg [oo 14 (.load 7 true (.t 7)), oo 15 (.mv (.t 1)), oo 16 (.call (cf 107) [(.t 14), (.t 15)])]) (.cond (.t 16) (.draw [oo 17 (.mv (.t 5)), oo 18 (.load 7 true (.t 7)), oo 19 (.fieldA 4 (.t 7)), oo 20 (.load 1 false (.t 19)), oo 21 (.fieldA 5 (.t 7)), oo 22 (.load 1 false (.t 21)), oo 23 (.build [z0, z0] [(0, 1, (.t 20)), (1, 1, (.t 22))]), oo 24 (.mv (.t 1)), oo 25 (.fieldA 3 (.t 7)), oo 26 (.load 1 false (.t 25)), oo 27 (.bin .sub (.t 24) (.t 26)), oo 28 (.call (cf 15) [(.t 23), (.t 27)]), oo 29 (.build [z0, z0, z0, z0, z0, z0, z0, z0, z0] [(0, 7, (.t 18)), (7, 2, (.t 28))]), oo 30 (.dslice 125 9 1 [z0, z0, z0, z0, z0, z0, z0, z0, z0] [(0, 9, (.t 29))]), oo 31 (.append 103 125 9 (.t 17) (.t 30)), oo 5 (.mv (.t 31))] []) .skip)))) (.reg [oo 32 (.bin .add (.t 10) (ci 1)), oo 10 (.mv (.t 32))]))))))) (.seq (.reg [oo 33 (.mv (.t 5)), oo 4 (.mv (.t 33))]) .ret))))
theorem fn_convoy_post : FnOK Try.prog 86 34 [.t 4] ac_convoy_post := ⟨_, _, Try.func86, rfl, Try.ntmps86, by kernel_rfl, ⟨fun r => if r == 6 then [1013] else [], by kernel_rfl⟩, by kernel_rfl⟩
set_option maxHeartbeats 4000000 in
theorem convoy_post_ok (p1 : (List Note)) (p2 : Int) (r : (List ConvoyLetter)) (h : convoy_post p1 p2 = some r) : PCall Try.prog 86 [(.list (List.map eNote p1)), (i64 p2)] (.list (List.map eConvoyLetter r)) := by
  refine l_call fn_convoy_post (nl rfl) ?_
  unfold convoy_post at h
  unfold ac_convoy_post
  refine l_sub (s0 := ⟨T [(0, (.d _)), (1, (.d _))], G []⟩) (sbr rfl rfl) ?_
  refine lr (fun u1 hu1 => sv rfl (s_nil (lr (fun u2 hu2 => sv rfl (s_nil (l_seq (lr (fun u3 hu3 => sv rfl (sd rfl (v_len rfl) (sv rfl (s_nil (bs h fun y1 hy1 h => l_join (fun s => ∃ g1 : Nat, Sb ⟨T [(5, (oS y1 (31, g1)))], G [((31, g1), oB 125 9 eConvoyLetter y1)]⟩ s) ?_ ?_))))))))))))
  · refine l_block (l_loop (convoy_post_l1 p1 p2) (fun (x1 : ((List ConvoyLetter) × Int)) (g2 : Nat) => ⟨T [(1, (di p2)), (5, (oS x1.1 (31, g2))), (8, (dl eNote p1)), (9, (di (p1.length : Int))), (10, (di x1.2))], G [((31, g2), oB 125 9 eConvoyLetter x1.1)]⟩) ([], 0) 0 _ hy1 (sb_of ⟨.of rfl, .of rfl, .of rfl, .of rfl, .of rfl, trivial⟩ (sbG_nil trivial)) ?_)
    intro x1 g2 z1 hz1 ez1
    unfold convoy_post_l1 at hz1
    refine lr (fun u4 hu4 => sv rfl (s_nil (l_seq (cc rfl hz1 (fun c1 hz1 => ?_) (fun c1 hz1 => ?_)))))
    · refine l_skip (l_seq (l_block (lr (fun u5 hu5 => bs hz1 fun v1 hv1 hz1 => sd rfl (v_idx rfl rfl hv1 rfl) (sd rfl (v_loadLG rfl hv1 rfl rfl) (sn rfl rfl (sst rfl G_hit (dNote v1) rfl (s_nil (lr (fun u6 hu6 => sd rfl (v_loadG rfl G_hit rfl rfl) (sv rfl (bs hz1 fun v2 hv2 hz1 => s_call rfl rfl all2_refl (convoy_counts_ok _ _  _ hv2) (.inl rfl) (s_nil (cc rfl hz1 (fun c2 hz1 => ?_) (fun c2 hz1 => ?_)))))))))))))))
      · refine l_draw rfl fun u7 hu7 => s_val (oS x1.1 (31, g2)) rfl rfl (sd rfl (v_loadG rfl G_hit rfl rfl) (sp rfl rfl (sl rfl G_hit rfl (sp rfl rfl (sl rfl G_hit rfl (sv rfl (sv rfl (sp rfl rfl (sl rfl G_hit rfl (sv rfl (bs hz1 fun v3 hv3 hz1 => s_call rfl rfl all2_refl (convoy_Age_ok _ _  _ hv3) (.inl rfl) (sv rfl (s_val (dl eConvoyLetter [(ConvoyLetter.mk v1 v3)]) rfl (v_dsliceN eConvoyLetter ([(ConvoyLetter.mk v1 v3)] : List ConvoyLetter) (fun _ => rfl) rfl rfl ⟨rfl, rfl, rfl, trivial⟩) (bs hz1 fun v4 hv4 hz1 => s_appendO eConvoyLetter (31, g2) x1.1 (ConvoyLetter.mk v1 v3) [] _ (elems_list (fun _ => rfl)) rfl (gq rfl) hv4 (ss rfl (s_nil (l_end (l_sub (s0 := ⟨T [(1, (.d _)), (5, (.sl _)), (8, (.d _)), (9, (.d _)), (10, (.d _))], G [((31, u7), some _)]⟩) (sbr rfl rfl) ?_))))))))))))))))))
        refine l_reg fun u8 hu8 => sv rfl (sv rfl (s_nil (l_nil ?_)))
        obtain rfl := Option.some.inj hz1
        exact ⟨rfl, u7, (sb_of ⟨.of rfl, (.of (oS_ne (appc_ne hv4)).symm), .of rfl, .of rfl, .of rfl, trivial⟩ (sbG_own G_hit trivial))⟩
      · refine l_skip (l_end (l_reg fun u9 hu9 => sv rfl (sv rfl (s_nil (l_nil ?_)))))
        obtain rfl := Option.some.inj hz1
        exact ⟨rfl, g2, (sb_of ⟨.of rfl, .of rfl, .of rfl, .of rfl, .of rfl, trivial⟩ (sbG_oB (gq rfl) trivial))⟩
    · refine l_exitN rfl ?_
      obtain rfl := Option.some.inj hz1
      obtain rfl := ez1 _ rfl
      refine ⟨nofun, awl_pop rfl (l_j ?_)⟩
      exact ⟨g2, (sb_of ⟨.of rfl, trivial⟩ (sbG_oB G_hit trivial))⟩
  · rintro _ ⟨g1, q1⟩
    refine l_sub q1 (lr (fun u10 hu10 => s_val (oS y1 (31, g1)) rfl rfl (s_val (oS y1 (31, g1)) rfl rfl (s_nil (l_ret ?_)))))
    obtain rfl := Option.some.inj h
    exact fin_ok (.inr rfl) (resD1 (res_t rfl) (rf_oS G_hit)) oD_le

noncomputable def convoy_look_1_b (p1 : Sight) (p2 : Int) : Option Bool :=
  some (((((((p1.By == p2) && (decide (p1.Lo ≤ p1.Hi))) && (decide (p1.VLo ≤ p1.VHi))) && (decide (p1.Lo ≥ (-20000)))) && (decide (p1.Hi ≤ 2199023255552))) && (decide (p1.VLo ≥ 0))) && (decide (p1.VHi ≤ 2000)))

/-- kerbstone/convoy.look$1 -/
def ac_convoy_look_1_b : AC := (.seq (.reg [oo 2 (.box 42 true (.t 0)), oo 3 (.mv (.c zf))]) (.seq (.reg [oo 4 (.fieldA 0 (.t 2)), oo 5 (.load 1 false (.t 4)), oo 6 (.load 1 false (.t 1)), oo 7 (.bin .eql (.t 5) (.t 6)), oo 8 (.mv (.t 7)), og 9 (.fieldA 1 (.t 2)) 8, og 10 (.load 1 false (.t 9)) 8, og 11 (.fieldA 2 (.t 2)) 8, og 12 (.load 1 false (.t 11)) 8, og 13 (.bin .leq (.t 10) (.t 12)) 8, oo 14 (.pick (.t 8) (.t 13) (.c zf)), oo 15 (.mv (.t 14)), og 16 (.fieldA 3 (.t 2)) 15, og 17 (.load 1 false (.t 16)) 15, og 18 (.fieldA 4 (.t 2)) 15, og 19 (.load 1 false (.t 18)) 15, og 20 (.bin .leq (.t 17) (.t 19)) 15, oo 21 (.pick (.t 15) (.t 20) (.c zf)), oo 22 (.mv (.t 21)), og 23 (.fieldA 1 (.t 2)) 22, og 24 (.load 1 false (.t 23)) 22, og 25 (.bin .geq (.t 24) (ci (-20000))) 22, oo 26 (.pick (.t 22) (.t 25) (.c zf)), oo 27 (.mv (.t 26)), og 28 (.fieldA 2 (.t 2)) 27, og 29 (.load 1 false (.t 28)) 27, og 30 (.bin .leq (.t 29) (ci 2199023255552)) 27, oo 31 (.pick (.t 27) (.t 30) (.c zf)), oo 32 (.mv (.t 31)), og 33 (.fieldA 3 (.t 2)) 32, og 34 (.load 1 false (.t 33)) 32, og 35 (.bin .geq (.t 34) (ci 0)) 32, oo 36 (.pick (.t 32) (.t 35) (.c zf)), oo 37 (.mv (.t 36)), og 38 (.fieldA 4 (.t 2)) 37, og 39 (.load 1 false (.t 38)) 37, og 40 (.bin .leq (.t 39) (ci 2000)) 37, oo 41 (.pick (.t 37) (.t 40) (.c zf)), oo 3 (.mv (.t 41))]) .ret))
theorem fn_convoy_look_1_b : FnOK Try.prog 109 42 [.t 3] ac_convoy_look_1_b := ⟨_, _, Try.func109, rfl, Try.ntmps109, by kernel_rfl, ⟨fun _ => [], by kernel_rfl⟩, by kernel_rfl⟩
theorem convoy_look_1_b_ok (p1 : Sight) (p2 : Int) (r : Bool) (h : convoy_look_1_b p1 p2 = some r) : PCall Try.prog 109 [(.agg (eSight p1)), (.bp [(i64 p2)] 0)] (bo r) := by
  refine l_call fn_convoy_look_1_b (nl rfl) ?_
  unfold convoy_look_1_b at h
  unfold ac_convoy_look_1_b
  refine l_sub (s0 := ⟨T [(0, (.d _)), (1, (.d _))], G []⟩) (sbr rfl rfl) ?_
  refine lr (fun u1 hu1 => sn rfl rfl (sv rfl (s_nil (lr (fun u2 hu2 => sp rfl rfl (sl rfl G_hit rfl (sv rfl (sv rfl (sv rfl (gp rfl (gw_t rfl) (fun _ => rfl) (gt rfl (vl rfl G_hit rfl) (gp rfl (gw_t rfl) (fun _ => rfl) (gt rfl (vl rfl G_hit rfl) (gt rfl (fun w5 => (v_bin (gd_pos w5) (gd_pos w5) rfl)) (sa rfl rfl rfl (sv rfl (gp rfl (gw_t rfl) (fun _ => rfl) (gt rfl (vl rfl G_hit rfl) (gp rfl (gw_t rfl) (fun _ => rfl) (gt rfl (vl rfl G_hit rfl) (gt rfl (fun w10 => (v_bin (gd_pos w10) (gd_pos w10) rfl)) (sa rfl rfl rfl (sv rfl (gp rfl (gw_t rfl) (fun _ => rfl) (gt rfl (vl rfl G_hit rfl) (gt rfl (vb rfl rfl rfl) (sa rfl rfl rfl (sv rfl (gp rfl (gw_t rfl) (fun _ => rfl) (gt rfl (vl rfl G_hit rfl) (gt rfl (vb rfl rfl rfl) (sa rfl rfl rfl (sv rfl (gp rfl (gw_t rfl) (fun _ => rfl) (gt rfl (vl rfl G_hit rfl) (gt rfl (vb rfl rfl rfl) (sa rfl rfl rfl (sv rfl (gp rfl (gw_t rfl) (fun _ => rfl) (gt rfl (vl rfl G_hit rfl) (gt rfl (vb rfl rfl rfl) (sa rfl rfl rfl (sv rfl (s_nil (l_ret ?_)))))))))))))))))))))))))))))))))))))))))))))
  obtain rfl := Option.some.inj h
  exact fin_ok (.inr rfl) (resD1 (res_t rfl) rf_d) (.refl _)

noncomputable def slices_IndexFunc_Sight_Sight_convoy_look_1b_l1 (p1 : (List Sight)) (p2 : Int) (x1 : Int) : Option (Stp Int (Sum Unit Int)) :=
  cond (decide (x1 < (p1.length : Int))) ((geti p1 x1).bind fun v1 => (convoy_look_1_b v1 p2).bind fun v2 => cond v2 (some (.out (.inr x1))) (some (.go (w64 (x1 + 1))))) (some (.out (.inl ())))
noncomputable def slices_IndexFunc_Sight_Sight_convoy_look_1b (p1 : (List Sight)) (p2 : Int) : Option Int :=
  thenS (loop (slices_IndexFunc_Sight_Sight_convoy_look_1b_l1 p1 p2) 0) (fun _ => some (-1)) (fun r => some r)

/-- slices.IndexFunc[[]kerbstone/api.Sight,kerbstone/api.Sight] -/
def ac_slices_IndexFunc_Sight_Sight_convoy_look_1b : AC := (.seq (.reg [oo 4 (.mv (ci 0))]) (.seq (.seq (.reg [oo 6 (.mv (.t 0)), oo 7 (.len (.t 6)), oo 8 (.mv (ci 0))]) (.block 0 (.loop (.seq (.reg [oo 9 (.bin .lss (.t 8) (.t 7))]) (.seq (.cond (.t 9) .skip (.exit 0)) (.seq (.block 1 (.seq (.reg [oo 10 (.mv (.t 8)), oo 5 (.mv (.t 10))]) (.seq (.reg [oo 11 (.mv (.t 1)), oo 12 (.mv (.t 0)), oo 13 (.mv (.t 5)), oo 14 (.idxS 5 (.t 12) (.t 13)), oo 15 (.load 5 true (.t 14)), oo 16 (.call (.t 11) [(.t 15)])]) (.cond (.t 16) (.seq (.reg [oo 17 (.mv (.t 5)), oo 4 (.mv (.t 17))]) .ret) .skip)))) (.reg [oo 18 (.bin .add (.t 8) (ci 1)), oo 8 (.mv (.t 18))]))))))) (.seq (.reg [oo 4 (.mv (ci (-1)))]) .ret)))
theorem fn_slices_IndexFunc_Sight_Sight_convoy_look_1b : FnOK Try.prog 108 19 [.t 4] ac_slices_IndexFunc_Sight_Sight_convoy_look_1b := ⟨_, _, Try.func108, rfl, Try.ntmps108, by kernel_rfl, ⟨fun _ => [], by kernel_rfl⟩, by kernel_rfl⟩
set_option maxHeartbeats 4000000 in
theorem slices_IndexFunc_Sight_Sight_convoy_look_1b_ok (p1 : (List Sight)) (p2 : Int) (r : Int) (h : slices_IndexFunc_Sight_Sight_convoy_look_1b p1 p2 = some r) : PCall Try.prog 108 [(.list (List.map eSight p1)), (.fn (.func 109) [] [(.bp [(i64 p2)] 0)])] (i64 r) := by
  refine l_call fn_slices_IndexFunc_Sight_Sight_convoy_look_1b (nl rfl) ?_
  unfold slices_IndexFunc_Sight_Sight_convoy_look_1b at h
  unfold ac_slices_IndexFunc_Sight_Sight_convoy_look_1b
  refine l_sub (s0 := ⟨T [(0, (.d _)), (1, (.d _))], G []⟩) (sbr rfl rfl) ?_
  refine lr (fun u1 hu1 => sv rfl (s_nil (l_seq (lr (fun u2 hu2 => sv rfl (sd rfl (v_len rfl) (sv rfl (s_nil (js h fun z1 hz1 h => l_join (fun s => ∃ (y1 : Unit) (g1 : Unit), z1 = .inl y1 ∧ Sb ⟨T [], G []⟩ s) ?_ ?_)))))))))
  · refine l_block (l_loop (slices_IndexFunc_Sight_Sight_convoy_look_1b_l1 p1 p2) (fun (x1 : Int) (g2 : Unit) => ⟨T [(0, (dl eSight p1)), (1, (.d (.fn (.func 109) [] [(.bp [(i64 p2)] 0)]))), (7, (di (p1.length : Int))), (8, (di x1))], G []⟩) 0 () _ hz1 (sbr rfl rfl) ?_)
    intro x1 g2 z2 hz2 ez2
    unfold slices_IndexFunc_Sight_Sight_convoy_look_1b_l1 at hz2
    refine lr (fun u3 hu3 => sv rfl (s_nil (l_seq (cc rfl hz2 (fun c1 hz2 => ?_) (fun c1 hz2 => ?_)))))
    · refine l_skip (l_seq (l_block (lr (fun u4 hu4 => sv rfl (sv rfl (s_nil (lr (fun u5 hu5 => sv rfl (sv rfl (sv rfl (bs hz2 fun v1 hv1 hz2 => sd rfl (v_idx rfl rfl hv1 rfl) (sd rfl (v_loadLG rfl hv1 rfl rfl) (bs hz2 fun v2 hv2 hz2 => s_call rfl rfl all2_refl (convoy_look_1_b_ok _ _  _ hv2) (.inl rfl) (s_nil (cc rfl hz2 (fun c2 hz2 => ?_) (fun c2 hz2 => ?_))))))))))))))))
      · refine lr (fun u6 hu6 => sv rfl (sv rfl (s_nil (l_ret ?_))))
        obtain rfl := Option.some.inj hz2
        obtain rfl := ez2 _ rfl
        refine ⟨nofun, awl_ret ?_⟩
        rw [Sum.elim_inr] at h
        obtain rfl := Option.some.inj h
        exact fin_ok (.inr rfl) (resD1 (res_t rfl) rf_d) (.refl _)
      · refine l_skip (l_end (l_reg fun u7 hu7 => sv rfl (sv rfl (s_nil (l_nil ?_)))))
        obtain rfl := Option.some.inj hz2
        exact ⟨rfl, (), (sbr rfl rfl)⟩
    · refine l_exitN rfl ?_
      obtain rfl := Option.some.inj hz2
      obtain rfl := ez2 _ rfl
      refine ⟨nofun, awl_pop rfl (l_j ?_)⟩
      exact ⟨_, (), rfl, (sbr rfl rfl)⟩
  · rintro _ ⟨y1, g1, rfl, q1⟩
    rw [Sum.elim_inl] at h
    refine l_sub q1 (lr (fun u8 hu8 => sv rfl (s_nil (l_ret ?_))))
    obtain rfl := Option.some.inj h
    exact fin_ok (.inr rfl) (resD1 (res_t rfl) rf_d) (.refl _)

noncomputable def convoy_look (p1 : (List Sight)) (p2 : Int) : Option (Sight × Bool) :=
  (slices_IndexFunc_Sight_Sight_convoy_look_1b p1 p2).bind fun v1 => cond (decide (v1 < 0)) (some ((Sight.mk 0 0 0 0 0), false)) ((geti p1 v1).bind fun v2 => some (v2, true))

/-- kerbstone/convoy.look -/
def ac_convoy_look : AC := (.seq (.reg [oo 3 (.box 3 false (.t 1)), oo 4 (.alloc 42 [z0, z0, z0, z0, z0]), oo 5 (.mv (.c zf))]) (.seq (.reg [oo 7 (.mv (.t 0)), oo 8 (.mkfn (.func 109) [] [(.t 3)]), oo 9 (.call (cf 108) [(.t 7), (.t 8)]), oo 6 (.mv (.t 9))]) (.seq (.seq (.reg [oo 10 (.mv (.t 6)), oo 11 (.bin .lss (.t 10) (ci 0))]) (.cond (.t 11) (.seq (.reg [oo 12 (.build [z0, z0, z0, z0, z0] []), oe (.store 5 (.t 4) (.t 12)), oo 5 (.mv (.c zf))]) .ret) .skip)) (.seq (.reg [oo 13 (.mv (.t 0)), oo 14 (.mv (.t 6)), oo 15 (.idxS 5 (.t 13) (.t 14)), oo 16 (.load 5 true (.t 15)), oe (.store 5 (.t 4) (.t 16)), oo 5 (.mv (.c (.v (.bool true))))]) .ret))))
theorem fn_convoy_look : FnOK Try.prog 87 17 [.cell 4 5 true, .t 5] ac_convoy_look := ⟨_, _, Try.func87, rfl, Try.ntmps87, by kernel_rfl, ⟨fun _ => [], by kernel_rfl⟩, by kernel_rfl⟩
theorem convoy_look_ok (p1 : (List Sight)) (p2 : Int) (r : (Sight × Bool)) (h : convoy_look p1 p2 = some r) : PCall Try.prog 87 [(.list (List.map eSight p1)), (i64 p2)] (.tup [(.agg (eSight r.1)), (bo r.2)]) := by
  refine l_call fn_convoy_look (nl rfl) ?_
  unfold convoy_look at h
  unfold ac_convoy_look
  refine l_sub (s0 := ⟨T [(0, (.d _)), (1, (.d _))], G []⟩) (sbr rfl rfl) ?_
  refine lr (fun u1 hu1 => sn rfl rfl (sn rfl rfl (sv rfl (s_nil (lr (fun u2 hu2 => sv rfl (s_val (.fn _ _ _) rfl rfl (bs h fun v1 hv1 h => s_call rfl (rfL_cons rf_d (rfL_cons (rf_fn rfL_nil (rfL_cons (rf_ptr (gq rfl) (rfL_cons rf_d rfL_nil)) rfL_nil)) rfL_nil)) all2_refl (slices_IndexFunc_Sight_Sight_convoy_look_1b_ok _ _  _ hv1) (.inr rfl) (sv rfl (s_nil (l_seq (lr (fun u3 hu3 => sv rfl (sv rfl (s_nil (cc rfl h (fun c1 h => ?_) (fun c1 h => ?_)))))))))))))))))
  · refine lr (fun u4 hu4 => sv rfl (sst rfl G_hit [(di 0), (di 0), (di 0), (di 0), (di 0)] rfl (sv rfl (s_nil (l_ret ?_)))))
    obtain rfl := Option.some.inj h
    exact fin_ok (.inr rfl) (resD2 (res_cellG rfl G_hit (nl rfl) rfl) (res_t rfl) rf_d rf_d) (.refl _)
  · refine l_skip (lr (fun u5 hu5 => sv rfl (sv rfl (bs h fun v2 hv2 h => sd rfl (v_idx rfl rfl hv2 rfl) (sd rfl (v_loadLG rfl hv2 rfl rfl) (sst rfl G_hit (dSight v2) rfl (sv rfl (s_nil (l_ret ?_)))))))))
    obtain rfl := Option.some.inj h
    exact fin_ok (.inr rfl) (resD2 (res_cellG rfl G_hit (nl rfl) rfl) (res_t rfl) rf_d rf_d) (.refl _)

noncomputable def convoy_hears (p1 : Int) : Option Nat :=
  (getf [none, some 127, some 128, some 129, some 130] p1).bind fun v1 => some v1

/-- kerbstone/convoy.hears -/
def ac_convoy_hears : AC := (.seq (.reg [oo 2 (.mv (.c (.v .nilFunc)))]) (.seq (.reg [oo 3 (.build [(.v .nilFunc), (.v .nilFunc), (.v .nilFunc), (.v .nilFunc), (.v .nilFunc)] [(1, 1, (cf 127)), (2, 1, (cf 128)), (3, 1, (cf 129)), (4, 1, (cf 130))]), oo 4 (.mv (.t 0)), oo 5 (.idxA 5 1 false (.t 3) (.t 4)), oo 2 (.mv (.t 5))]) .ret))
theorem fn_convoy_hears : FnOK Try.prog 110 6 [.t 2] ac_convoy_hears := ⟨_, _, Try.func110, rfl, Try.ntmps110, by kernel_rfl, ⟨fun _ => [], by kernel_rfl⟩, by kernel_rfl⟩
theorem convoy_hears_ok (p1 : Int) (r : Nat) (h : convoy_hears p1 = some r) : PCall Try.prog 110 [(i64 p1)] (.fn (.func r) [] []) := by
  refine l_call fn_convoy_hears (nl rfl) ?_
  unfold convoy_hears at h
  unfold ac_convoy_hears
  refine l_sub (s0 := ⟨T [(0, (.d _))], G []⟩) (sbr rfl rfl) ?_
  refine lr (fun u1 hu1 => sv rfl (s_nil (lr (fun u2 hu2 => sv rfl (sv rfl (bs h fun v1 hv1 h => sd rfl (v_idxF (fs := [none, some 127, some 128, some 129, some 130]) rfl rfl rfl hv1) (sv rfl (s_nil (l_ret ?_)))))))))
  obtain rfl := Option.some.inj h
  exact fin_ok (.inr rfl) (resD1 (res_t rfl) rf_d) (.refl _)

noncomputable def convoy_Better (p1 : Guess) (p2 : Guess) : Option Guess :=
  (convoy_sane [p1.R, p1.V, p2.R, p2.V]).bind fun v1 => cond (!v1) (some (Guess.mk 0 0)) (((cond (decide (p2.R ≥ p1.R)) (convoy_end p2) (some default))).bind fun v2 => ((cond (decide (p2.R ≥ p1.R)) (convoy_end p1) (some default))).bind fun v3 => cond ((decide (p2.R ≥ p1.R)) && (decide (v2 ≥ v3))) (some p2) (some p1))

/-- kerbstone/convoy.Better -/
def ac_convoy_Better : AC := (.seq (.reg [oo 2 (.box 23 true (.t 0)), oo 3 (.box 23 true (.t 1)), oo 4 (.alloc 23 [z0, z0])]) (.seq (.block 0 (.seq (.reg [oo 6 (.fieldA 0 (.t 2)), oo 7 (.load 1 false (.t 6)), oo 8 (.fieldA 1 (.t 2)), oo 9 (.load 1 false (.t 8)), oo 10 (.fieldA 0 (.t 3)), oo 11 (.load 1 false (.t 10)), oo 12 (.fieldA 1 (.t 3)), oo 13 (.load 1 false (.t 12)), oo 14 (.dslice 2 1 4 [z0] [(0, 1, (.t 7)), (1, 1, (.t 9)), (2, 1, (.t 11)), (3, 1, (.t 13))]), oo 15 (.call (cf 59) [(.t 14)]), oo 16 (.un .not (.t 15)), oo 5 (.mv (.t 16))]) (.cond (.t 5) (.seq (.reg [oo 17 (.build [z0, z0] []), oe (.store 2 (.t 4) (.t 17))]) .ret) (.seq (.draw [oo 19 (.fieldA 0 (.t 3)), oo 20 (.load 1 false (.t 19)), oo 21 (.fieldA 0 (.t 2)), oo 22 (.load 1 false (.t 21)), oo 23 (.bin .geq (.t 20) (.t 22)), oo 24 (.mv (.t 23)), og 25 (.load 2 true (.t 3)) 24, og 26 (.call (cf 61) [(.t 25)]) 24, og 27 (.load 2 true (.t 2)) 24, og 28 (.call (cf 61) [(.t 27)]) 24, og 29 (.bin .geq (.t 26) (.t 28)) 24, oo 30 (.pick (.t 24) (.t 29) (.c zf)), oo 18 (.mv (.t 30))] []) (.cond (.t 18) (.seq (.reg [oo 31 (.load 2 true (.t 3)), oe (.store 2 (.t 4) (.t 31))]) .ret) .skip))))) (.seq (.reg [oo 32 (.load 2 true (.t 2)), oe (.store 2 (.t 4) (.t 32))]) .ret)))
theorem fn_convoy_Better : FnOK Try.prog 19 33 [.cell 4 2 true] ac_convoy_Better := ⟨_, _, Try.func19, rfl, Try.ntmps19, by kernel_rfl, ⟨fun r => if r == 1 then [1008] else [], by kernel_rfl⟩, by kernel_rfl⟩
set_option maxHeartbeats 4000000 in
theorem convoy_Better_ok (p1 : Guess) (p2 : Guess) (r : Guess) (h : convoy_Better p1 p2 = some r) : PCall Try.prog 19 [(.agg [(i64 p1.R), (i64 p1.V)]), (.agg [(i64 p2.R), (i64 p2.V)])] (.agg [(i64 r.R), (i64 r.V)]) := by
  refine l_call fn_convoy_Better (nl rfl) ?_
  unfold convoy_Better at h
  unfold ac_convoy_Better
  refine l_sub (s0 := ⟨T [(0, (.d _)), (1, (.d _))], G []⟩) (sbr rfl rfl) ?_
  refine lr (fun u1 hu1 => sn rfl rfl (sn rfl rfl (sn rfl rfl (s_nil (l_seq (l_block (lr (fun u2 hu2 => sp rfl rfl (sl rfl (gq rfl) rfl (sp rfl rfl (sl rfl (gq rfl) rfl (sp rfl rfl (sl rfl (gq rfl) rfl (sp rfl rfl (sl rfl (gq rfl) rfl (s_val (dl eInt_i64 [p1.R, p1.V, p2.R, p2.V]) rfl rfl (bs h fun v1 hv1 h => s_call rfl rfl all2_refl (convoy_sane_ok _  _ hv1) (.inl rfl) (s_val (.d (bo (!v1))) rfl rfl (sv rfl (s_nil (cc rfl h (fun c1 h => ?_) (fun c1 h => ?_))))))))))))))))))))))
  · refine lr (fun u3 hu3 => sv rfl (sst rfl G_hit [(di 0), (di 0)] rfl (s_nil (l_ret ?_))))
    obtain rfl := Option.some.inj h
    exact fin_ok (.inr rfl) (resD1 (res_cellG rfl G_hit (nl rfl) rfl) rf_d) (.refl _)
  · refine l_seq (l_draw rfl fun u4 hu4 => sp rfl rfl (sl rfl (gq rfl) rfl (sp rfl rfl (sl rfl (gq rfl) rfl (sv rfl (sv rfl (gt rfl (fun w1 => (v_loadG rfl (gq rfl) rfl rfl)) (bs h fun v2 hv2 h => ?_))))))))
    refine g_call _ (i64 v2) (gw_t rfl) (fun w2 => ⟨_, [(.d (.agg [(i64 p2.R), (i64 p2.V)]))], _, _, (by simp only [gd_pos w2]; rfl), rfl, all2_refl, convoy_end_ok _  _ (cond_t w2 hv2), (.inl rfl)⟩) ?_
    refine gt rfl (fun w3 => (v_loadG rfl (gq rfl) rfl rfl)) (bs h fun v3 hv3 h => ?_)
    refine g_call _ (i64 v3) (gw_t rfl) (fun w4 => ⟨_, [(.d (.agg [(i64 p1.R), (i64 p1.V)]))], _, _, (by simp only [gd_pos w4]; rfl), rfl, all2_refl, convoy_end_ok _  _ (cond_t w4 hv3), (.inl rfl)⟩) ?_
    refine gt rfl (fun w5 => (v_bin (gd_pos w5) (gd_pos w5) rfl)) (sa rfl rfl rfl (sv rfl (s_nil (cc rfl h (fun c2 h => ?_) (fun c2 h => ?_)))))
    · refine l_seq (l_sub (s0 := ⟨T [(3, (.ptr _ _)), (4, (.ptr _ _))], G [((3, u1), some (.box 23 _)), ((4, u1), some (.box 23 _))]⟩) (sbr rfl rfl) ?_)
      refine l_reg fun u5 hu5 => sd rfl (v_loadG rfl G_hit rfl rfl) (sst rfl (gq rfl) [(di p2.R), (di p2.V)] rfl (s_nil (l_ret ?_)))
      obtain rfl := Option.some.inj h
      exact fin_ok (.inr rfl) (resD1 (res_cellG rfl G_hit (nl rfl) rfl) rf_d) (.refl _)
    · refine l_skip (l_end (l_seq (l_sub (s0 := ⟨T [(2, (.ptr _ _)), (4, (.ptr _ _))], G [((2, u1), some (.box 23 _)), ((4, u1), some (.box 23 _))]⟩) (sbr rfl rfl) ?_)))
      refine l_reg fun u6 hu6 => sd rfl (v_loadG rfl G_hit rfl rfl) (sst rfl (gq rfl) [(di p1.R), (di p1.V)] rfl (s_nil (l_ret ?_)))
      obtain rfl := Option.some.inj h
      exact fin_ok (.inr rfl) (resD1 (res_cellG rfl G_hit (nl rfl) rfl) rf_d) (.refl _)
end Go.Abs.Convoy
