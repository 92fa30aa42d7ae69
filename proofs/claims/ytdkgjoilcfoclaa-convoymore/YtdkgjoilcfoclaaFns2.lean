/-
  The functions, part 2.
-/
import Derived.Test.YtdkgjoilcfoclaaFns1
set_option maxRecDepth 20000
set_option linter.unusedVariables false
namespace Go.Abs.Convoy
open Go Go.Abs Go.Proofs
attribute [local irreducible] regW regT AWL

noncomputable def convoy_numbers (p1 : Convoy) : Option Int :=
  (cond (!(p1.Guest_.ID == 0 && (p1.Guest_.S == 0 && (p1.Guest_.V == 0 && (p1.Guest_.Len == 0 && (p1.Guest_.End == 0 && (p1.Guest_.Ahead == 0 && (p1.Guest_.Guess_.R == 0 && (p1.Guest_.Guess_.V == 0 && (p1.Guest_.From == 0 && (p1.Guest_.Until == 0 && true))))))))))) (some (w64 ((p1.Mates.length : Int) + 1))) (some (p1.Mates.length : Int))).bind fun y1 => (convoy_within p1.Tick 0 1099511627776).bind fun v1 => ((cond (!(!v1)) (convoy_within p1.Gap 1 20000) (some default))).bind fun v2 => cond ((!v1) || (!v2)) (some 2) (cond ((p1.Mates.length : Int) == 0) (some 6) (cond (decide (y1 > 8)) (some 8) ((slices_ContainsFunc_Mate_Mate_convoy_numbers_1 p1.Mates).bind fun v3 => ((cond (!v3) (convoy_fairGuest p1.Guest_) (some default))).bind fun v4 => cond (v3 || (!v4)) (some 2) (some 0))))

/-- kerbstone/convoy.numbers -/
def ac_convoy_numbers : AC := (.seq (.reg [oo 1 (.box 38 true (.t 0)), oo 2 (.mv (ci 0))]) (.seq (.reg [oo 4 (.fieldA 2 (.t 1)), oo 5 (.load 1 false (.t 4)), oo 6 (.len (.t 5)), oo 3 (.mv (.t 6))]) (.seq (.seq (.reg [oo 7 (.fieldA 3 (.t 1)), oo 8 (.load 10 true (.t 7)), oo 9 (.build [z0, z0, z0, z0, z0, z0, z0, z0, z0, z0] []), oo 10 (.eqA true [false, false, false, false, false, false, false, false, false, false] (.t 8) (.t 9))]) (.cond (.t 10) (.reg [oo 11 (.mv (.t 3)), oo 12 (.bin .add (.t 11) (ci 1)), oo 3 (.mv (.t 12))]) .skip)) (.seq (.block 0 (.seq (.reg [oo 14 (.fieldA 0 (.t 1)), oo 15 (.load 1 false (.t 14)), oo 16 (.call (cf 95) [(.t 15), (ci 0), (ci 1099511627776)]), oo 17 (.un .not (.t 16)), oo 18 (.mv (.t 17)), oh 19 (.fieldA 1 (.t 1)) 18, oh 20 (.load 1 false (.t 19)) 18, oh 21 (.call (cf 95) [(.t 20), (ci 1), (ci 20000)]) 18, oh 22 (.un .not (.t 21)) 18, oo 23 (.pick (.t 18) (.c (.v (.bool true))) (.t 22)), oo 13 (.mv (.t 23))]) (.cond (.t 13) (.seq (.reg [oo 2 (.mv (ci 2))]) .ret) (.seq (.reg [oo 25 (.fieldA 2 (.t 1)), oo 26 (.load 1 false (.t 25)), oo 27 (.len (.t 26)), oo 28 (.bin .eql (.t 27) (ci 0)), oo 24 (.mv (.t 28))]) (.cond (.t 24) (.seq (.reg [oo 2 (.mv (ci 6))]) .ret) (.seq (.reg [oo 30 (.mv (.t 3)), oo 31 (.bin .gtr (.t 30) (ci 8)), oo 29 (.mv (.t 31))]) (.cond (.t 29) (.seq (.reg [oo 2 (.mv (ci 8))]) .ret) (.seq (.reg [oo 33 (.fieldA 2 (.t 1)), oo 34 (.load 1 false (.t 33)), oo 35 (.call (cf 77) [(.t 34), (cf 101)]), oo 36 (.mv (.t 35)), oh 37 (.fieldA 3 (.t 1)) 36, oh 38 (.load 10 true (.t 37)) 36, oh 39 (.call (cf 103) [(.t 38)]) 36, oh 40 (.un .not (.t 39)) 36, oo 41 (.pick (.t 36) (.c (.v (.bool true))) (.t 40)), oo 32 (.mv (.t 41))]) (.cond (.t 32) (.seq (.reg [oo 2 (.mv (ci 2))]) .ret) .skip))))))))) (.seq (.reg [oo 2 (.mv (ci 0))]) .ret)))))
theorem fn_convoy_numbers : FnOK Try.prog 73 42 [.t 2] ac_convoy_numbers := ⟨_, _, Try.func73, rfl, Try.ntmps73, by kernel_rfl, ⟨fun _ => [], by kernel_rfl⟩, by kernel_rfl⟩
set_option maxHeartbeats 4000000 in
theorem convoy_numbers_ok (p1 : Convoy) (r : Int) (h : convoy_numbers p1 = some r) : PCall Try.prog 73 [(.agg (eConvoy p1))] (i64 r) := by
  refine l_call fn_convoy_numbers (nl rfl) ?_
  unfold convoy_numbers at h
  unfold ac_convoy_numbers
  refine l_sub (s0 := ⟨T [(0, (.d _))], G []⟩) (sbr rfl rfl) ?_
  refine lr (fun u1 hu1 => sn rfl rfl (sv rfl (s_nil (lr (fun u2 hu2 => sp rfl rfl (sl rfl G_hit rfl (sd rfl (v_len rfl) (sv rfl (s_nil (l_seq (lr (fun u3 hu3 => sp rfl rfl (sd rfl (v_loadG rfl G_hit rfl rfl) (sv rfl (s_val (.d (bo (!(p1.Guest_.ID == 0 && (p1.Guest_.S == 0 && (p1.Guest_.V == 0 && (p1.Guest_.Len == 0 && (p1.Guest_.End == 0 && (p1.Guest_.Ahead == 0 && (p1.Guest_.Guess_.R == 0 && (p1.Guest_.Guess_.V == 0 && (p1.Guest_.From == 0 && (p1.Guest_.Until == 0 && true))))))))))))) rfl rfl (s_nil (bs h fun y1 hy1 h => l_join (fun s => ∃ g1 : Unit, Sb ⟨T [(1, (.ptr (1, u1) 0)), (3, (di y1))], G [((1, u1), some (.box 38 (dConvoy p1)))]⟩ s) ?_ ?_)))))))))))))))))
  · refine cc rfl hy1 (fun c1 hy1 => ?_) (fun c1 hy1 => ?_)
    · refine l_reg fun u4 hu4 => sv rfl (sv rfl (sv rfl (s_nil ?_)))
      obtain rfl := Option.some.inj hy1
      exact l_j ⟨(), (sbr rfl rfl)⟩
    · refine l_skip ?_
      obtain rfl := Option.some.inj hy1
      exact l_j ⟨(), (sbr rfl rfl)⟩
  · rintro _ ⟨g1, q1⟩
    refine l_sub q1 (l_seq (l_block (lr (fun u5 hu5 => sp rfl rfl (sl rfl G_hit rfl (bs h fun v1 hv1 h => s_call rfl rfl all2_refl (convoy_within_ok _ _ _  _ hv1) (.inl rfl) (s_val (.d (bo (!v1))) rfl rfl (sv rfl (gp rfl (gw_f rfl) (fun _ => rfl) (gf rfl (vl rfl G_hit rfl) (bs h fun v2 hv2 h => ?_)))))))))))
    refine g_call _ (bo v2) (gw_f rfl) (fun w3 => ⟨_, [(di p1.Gap), (di 1), (di 20000)], _, _, (by simp only [gd_pos w3]; rfl), rfl, all2_refl, convoy_within_ok _ _ _  _ (cond_t w3 hv2), (.inl rfl)⟩) ?_
    refine g_val _ (.d (bo (!v2))) rfl (gw_f rfl) (fun w4 => (by simp only [gd_pos w4]; rfl)) ?_
    refine sd rfl (v_or rfl rfl (fun hc => gd_pos (not_t hc))) (sv rfl (s_nil (cc rfl h (fun c2 h => ?_) (fun c2 h => ?_))))
    · refine lr (fun u6 hu6 => sv rfl (s_nil (l_ret ?_)))
      obtain rfl := Option.some.inj h
      exact fin_ok (.inr rfl) (resD1 (res_t rfl) rf_d) (.refl _)
    · refine lr (fun u7 hu7 => sp rfl rfl (sl rfl G_hit rfl (sd rfl (v_len rfl) (sv rfl (sv rfl (s_nil (cc rfl h (fun c3 h => ?_) (fun c3 h => ?_))))))))
      · refine lr (fun u8 hu8 => sv rfl (s_nil (l_ret ?_)))
        obtain rfl := Option.some.inj h
        exact fin_ok (.inr rfl) (resD1 (res_t rfl) rf_d) (.refl _)
      · refine lr (fun u9 hu9 => sv rfl (sv rfl (sv rfl (s_nil (cc rfl h (fun c4 h => ?_) (fun c4 h => ?_))))))
        · refine lr (fun u10 hu10 => sv rfl (s_nil (l_ret ?_)))
          obtain rfl := Option.some.inj h
          exact fin_ok (.inr rfl) (resD1 (res_t rfl) rf_d) (.refl _)
        · refine lr (fun u11 hu11 => sp rfl rfl (sl rfl G_hit rfl (bs h fun v3 hv3 h => s_call rfl rfl all2_refl (slices_ContainsFunc_Mate_Mate_convoy_numbers_1_ok _  _ hv3) (.inl rfl) (sv rfl (gp rfl (gw_f rfl) (fun _ => rfl) (gf rfl (fun w6 => (v_loadG (gd_pos w6) G_hit rfl rfl)) (bs h fun v4 hv4 h => ?_)))))))
          refine g_call _ (bo v4) (gw_f rfl) (fun w7 => ⟨_, [(.d (.agg (eGuest p1.Guest_)))], _, _, (by simp only [gd_pos w7]; rfl), rfl, all2_refl, convoy_fairGuest_ok _  _ (cond_t w7 hv4), (.inl rfl)⟩) ?_
          refine g_val _ (.d (bo (!v4))) rfl (gw_f rfl) (fun w8 => (by simp only [gd_pos w8]; rfl)) ?_
          refine sd rfl (v_or rfl rfl (fun hc => gd_pos (not_t hc))) (sv rfl (s_nil (cc rfl h (fun c5 h => ?_) (fun c5 h => ?_))))
          · refine l_seq (l_sub (s0 := ⟨T [], G []⟩) (sbr rfl rfl) ?_)
            refine l_reg fun u12 hu12 => sv rfl (s_nil (l_ret ?_))
            obtain rfl := Option.some.inj h
            exact fin_ok (.inr rfl) (resD1 (res_t rfl) rf_d) (.refl _)
          · refine l_skip (l_end (l_seq (l_sub (s0 := ⟨T [], G []⟩) (sbr rfl rfl) ?_)))
            refine l_reg fun u13 hu13 => sv rfl (s_nil (l_ret ?_))
            obtain rfl := Option.some.inj h
            exact fin_ok (.inr rfl) (resD1 (res_t rfl) rf_d) (.refl _)

noncomputable def convoy_rear (p1 : Mate) : Option Int :=
  some (w64 (p1.S - p1.Len))

/-- kerbstone/convoy.rear -/
def ac_convoy_rear : AC := (.seq (.reg [oo 1 (.box 65 true (.t 0)), oo 2 (.mv (ci 0))]) (.seq (.reg [oo 3 (.fieldA 1 (.t 1)), oo 4 (.load 1 false (.t 3)), oo 5 (.fieldA 3 (.t 1)), oo 6 (.load 1 false (.t 5)), oo 7 (.bin .sub (.t 4) (.t 6)), oo 2 (.mv (.t 7))]) .ret))
theorem fn_convoy_rear : FnOK Try.prog 67 8 [.t 2] ac_convoy_rear := ⟨_, _, Try.func67, rfl, Try.ntmps67, by kernel_rfl, ⟨fun _ => [], by kernel_rfl⟩, by kernel_rfl⟩
theorem convoy_rear_ok (p1 : Mate) (r : Int) (h : convoy_rear p1 = some r) : PCall Try.prog 67 [(.agg (eMate p1))] (i64 r) := by
  refine l_call fn_convoy_rear (nl rfl) ?_
  unfold convoy_rear at h
  unfold ac_convoy_rear
  refine l_sub (s0 := ⟨T [(0, (.d _))], G []⟩) (sbr rfl rfl) ?_
  refine lr (fun u1 hu1 => sn rfl rfl (sv rfl (s_nil (lr (fun u2 hu2 => sp rfl rfl (sl rfl G_hit rfl (sp rfl rfl (sl rfl G_hit rfl (sv rfl (sv rfl (s_nil (l_ret ?_))))))))))))
  obtain rfl := Option.some.inj h
  exact fin_ok (.inr rfl) (resD1 (res_t rfl) rf_d) (.refl _)

noncomputable def convoy_orders_l2 (p1 : Convoy) (x2 : Int) : Option (Stp Int (Sum Unit Int)) :=
  cond (decide (x2 < (p1.Mates.length : Int))) ((geti p1.Mates x2).bind fun v2 => ((cond (decide (x2 > 0)) (geti p1.Mates (w64 (x2 - 1))) (some default))).bind fun v3 => ((cond (decide (x2 > 0)) (convoy_rear v3) (some default))).bind fun v4 => cond ((decide (x2 > 0)) && (decide (v2.S ≥ v4))) (some (.out (.inr 11))) (some (.go (w64 (x2 + 1))))) (some (.out (.inl ())))
noncomputable def convoy_orders_l1 (p1 : Convoy) (x1 : (Int × (List Int))) : Option (Stp (Int × (List Int)) (Sum Unit Int)) :=
  cond (decide (x1.1 < (p1.Mates.length : Int))) ((geti p1.Mates x1.1).bind fun v1 => cond (x1.2.contains v1.ID) (some (.out (.inr 9))) (some (.go ((w64 (x1.1 + 1)), (insm x1.2 v1.ID))))) (some (.out (.inl ())))
noncomputable def convoy_orders (p1 : Convoy) : Option Int :=
  thenS (loop (convoy_orders_l1 p1) (0, (insm ([] : List Int) p1.Guest_.ID))) (fun _ => thenS (loop (convoy_orders_l2 p1) 0) (fun _ => some 0) (fun r => some r)) (fun r => some r)

/-- kerbstone/convoy.orders -/
def ac_convoy_orders : AC := (.seq (.reg [oo 1 (.box 38 true (.t 0)), oo 2 (.mv (ci 0))]) (.seq (.reg [oo 8 (.mkmap), oo 9 (.fieldA 3 (.t 1)), oo 10 (.fieldA 0 (.t 9)), oo 11 (.load 1 false (.t 10)), oe (.mins (.t 8) (.t 11)), oo 12 (.mv (.t 8)), oo 3 (.mv (.t 12))]) (.seq (.seq (.reg [oo 13 (.fieldA 2 (.t 1)), oo 14 (.load 1 false (.t 13)), oo 15 (.len (.t 14)), oo 16 (.mv (ci 0))]) (.block 0 (.loop (.seq (.reg [oo 17 (.bin .lss (.t 16) (.t 15))]) (.seq (.cond (.t 17) .skip (.exit 0)) (.seq (.block 1 (.seq (.reg [oo 18 (.idxS 12 (.t 14) (.t 16)), oo 19 (.load 12 true (.t 18)), oo 5 (.alloc 65 [z0, z0, z0, z0, z0, z0, z0, zf, z0, z0, z0, z0]), oe (.store 12 (.t 5) (.t 19))]) (.seq (.seq (.reg [oo 20 (.mv (.t 3)), oo 21 (.fieldA 0 (.t 5)), oo 22 (.load 1 false (.t 21)), oo 23 (.mlook (.t 20) (.t 22))]) (.cond (.t 23) (.seq (.reg [oo 2 (.mv (ci 9))]) .ret) .skip)) (.reg [oo 24 (.mv (.t 3)), oo 25 (.fieldA 0 (.t 5)), oo 26 (.load 1 false (.t 25)), oe (.mins (.t 24) (.t 26))])))) (.reg [oo 27 (.bin .add (.t 16) (ci 1)), oo 16 (.mv (.t 27))]))))))) (.seq (.seq (.reg [oo 28 (.fieldA 2 (.t 1)), oo 29 (.load 1 false (.t 28)), oo 30 (.len (.t 29)), oo 31 (.mv (ci 0))]) (.block 2 (.loop (.seq (.reg [oo 32 (.bin .lss (.t 31) (.t 30))]) (.seq (.cond (.t 32) .skip (.exit 2)) (.seq (.block 3 (.seq (.reg [oo 33 (.mv (.t 31)), oo 34 (.idxS 12 (.t 29) (.t 31)), oo 35 (.load 12 true (.t 34)), oo 7 (.alloc 65 [z0, z0, z0, z0, z0, z0, z0, zf, z0, z0, z0, z0]), oo 6 (.mv (.t 33)), oe (.store 12 (.t 7) (.t 35))]) (.seq (.draw [oo 36 (.mv (.t 6)), oo 37 (.bin .gtr (.t 36) (ci 0)), oo 38 (.mv (.t 37)), og 39 (.fieldA 1 (.t 7)) 38, og 40 (.load 1 false (.t 39)) 38, og 41 (.fieldA 2 (.t 1)) 38, og 42 (.load 1 false (.t 41)) 38, og 43 (.mv (.t 6)) 38, og 44 (.bin .sub (.t 43) (ci 1)) 38, og 45 (.idxS 12 (.t 42) (.t 44)) 38, og 46 (.load 12 true (.t 45)) 38, og 47 (.call (cf 67) [(.t 46)]) 38, og 48 (.bin .geq (.t 40) (.t 47)) 38, oo 49 (.pick (.t 38) (.t 48) (.c zf))] []) (.cond (.t 49) (.seq (.reg [oo 2 (.mv (ci 11))]) .ret) .skip)))) (.reg [oo 50 (.bin .add (.t 31) (ci 1)), oo 31 (.mv (.t 50))]))))))) (.seq (.reg [oo 2 (.mv (ci 0))]) .ret)))))
theorem fn_convoy_orders : FnOK Try.prog 74 51 [.t 2] ac_convoy_orders := ⟨_, _, Try.func74, rfl, Try.ntmps74, by kernel_rfl, ⟨fun _ => [], by kernel_rfl⟩, by kernel_rfl⟩
set_option maxHeartbeats 4000000 in
theorem convoy_orders_ok (p1 : Convoy) (r : Int) (h : convoy_orders p1 = some r) : PCall Try.prog 74 [(.agg (eConvoy p1))] (i64 r) := by
  refine l_call fn_convoy_orders (nl rfl) ?_
  unfold convoy_orders at h
  unfold ac_convoy_orders
  refine l_sub (s0 := ⟨T [(0, (.d _))], G []⟩) (sbr rfl rfl) ?_
  refine lr (fun u1 hu1 => sn rfl rfl (sv rfl (s_nil (lr (fun u2 hu2 => s_new (.sl _) (.mp _) rfl rfl (sp rfl rfl (sp rfl rfl (sl rfl (gq rfl) rfl (s_mins rfl rfl G_hit (ss rfl (ss rfl (s_nil (l_seq (lr (fun u3 hu3 => sp rfl rfl (sl rfl (gq rfl) rfl (sd rfl (v_len rfl) (sv rfl (s_nil (js h fun z1 hz1 h => l_join (fun s => ∃ (y1 : Unit) (g1 : Unit), z1 = .inl y1 ∧ Sb ⟨T [(1, (.ptr (1, u1) 0))], G [((1, u1), some (.box 38 (dConvoy p1)))]⟩ s) ?_ ?_))))))))))))))))))))
  · refine l_block (l_loop (convoy_orders_l1 p1) (fun (x1 : (Int × (List Int))) (g2 : Unit) => ⟨T [(1, (.ptr (1, u1) 0)), (3, (.sl (8, u2))), (14, (dl eMate p1.Mates)), (15, (di (p1.Mates.length : Int))), (16, (di x1.1))], G [((1, u1), some (.box 38 (dConvoy p1))), ((8, u2), some (.mp x1.2))]⟩) (0, (insm ([] : List Int) p1.Guest_.ID)) () _ hz1 (sbr rfl rfl) ?_)
    intro x1 g2 z2 hz2 ez2
    unfold convoy_orders_l1 at hz2
    refine lr (fun u4 hu4 => sv rfl (s_nil (l_seq (cc rfl hz2 (fun c1 hz2 => ?_) (fun c1 hz2 => ?_)))))
    · refine l_skip (l_seq (l_block (lr (fun u5 hu5 => bs hz2 fun v1 hv1 hz2 => sd rfl (v_idx rfl rfl hv1 rfl) (sd rfl (v_loadLG rfl hv1 rfl rfl) (sn rfl rfl (sst rfl G_hit (dMate v1) rfl (s_nil (l_seq (lr (fun u6 hu6 => ss rfl (sp rfl rfl (sl rfl G_hit rfl (sd rfl (v_mlook rfl rfl (gq rfl)) (s_nil (cc rfl hz2 (fun c2 hz2 => ?_) (fun c2 hz2 => ?_)))))))))))))))))
      · refine lr (fun u7 hu7 => sv rfl (s_nil (l_ret ?_)))
        obtain rfl := Option.some.inj hz2
        obtain rfl := ez2 _ rfl
        refine ⟨nofun, awl_ret ?_⟩
        rw [Sum.elim_inr] at h
        obtain rfl := Option.some.inj h
        exact fin_ok (.inr rfl) (resD1 (res_t rfl) rf_d) (.refl _)
      · refine l_skip (l_reg fun u8 hu8 => ss rfl (sp rfl rfl (sl rfl G_hit rfl (s_mins rfl rfl (gq rfl) (s_nil (l_end (l_reg fun u9 hu9 => sv rfl (sv rfl (s_nil (l_nil ?_))))))))))
        obtain rfl := Option.some.inj hz2
        exact ⟨rfl, (), (sbr rfl rfl)⟩
    · refine l_exitN rfl ?_
      obtain rfl := Option.some.inj hz2
      obtain rfl := ez2 _ rfl
      refine ⟨nofun, awl_pop rfl (l_j ?_)⟩
      exact ⟨_, (), rfl, (sbr rfl rfl)⟩
  · rintro _ ⟨y1, g1, rfl, q1⟩
    rw [Sum.elim_inl] at h
    refine l_sub q1 (l_seq (lr (fun u10 hu10 => sp rfl rfl (sl rfl G_hit rfl (sd rfl (v_len rfl) (sv rfl (s_nil (js h fun z3 hz3 h => l_join (fun s => ∃ (y2 : Unit) (g3 : Unit), z3 = .inl y2 ∧ Sb ⟨T [], G []⟩ s) ?_ ?_))))))))
    · refine l_block (l_loop (convoy_orders_l2 p1) (fun (x2 : Int) (g4 : Unit) => ⟨T [(1, (.ptr (1, u1) 0)), (29, (dl eMate p1.Mates)), (30, (di (p1.Mates.length : Int))), (31, (di x2))], G [((1, u1), some (.box 38 (dConvoy p1)))]⟩) 0 () _ hz3 (sbr rfl rfl) ?_)
      intro x2 g4 z4 hz4 ez4
      unfold convoy_orders_l2 at hz4
      refine lr (fun u11 hu11 => sv rfl (s_nil (l_seq (cc rfl hz4 (fun c3 hz4 => ?_) (fun c3 hz4 => ?_)))))
      · refine l_skip (l_seq (l_block (lr (fun u12 hu12 => sv rfl (bs hz4 fun v2 hv2 hz4 => sd rfl (v_idx rfl rfl hv2 rfl) (sd rfl (v_loadLG rfl hv2 rfl rfl) (sn rfl rfl (sv rfl (sst rfl G_hit (dMate v2) rfl (s_nil (l_seq (l_draw rfl fun u13 hu13 => sv rfl (sv rfl (sv rfl (gp rfl (gw_t rfl) (fun _ => rfl) (gt rfl (vl rfl G_hit rfl) (gp rfl (gw_t rfl) (fun _ => rfl) (gt rfl (vl rfl (gq rfl) rfl) (gt rfl (fun _ => rfl) (gt rfl (vb rfl rfl rfl) (bs hz4 fun v3 hv3 hz4 => gt rfl (fun w7 => (v_idx (gd_pos w7) (gd_pos w7) (cond_t w7 hv3) rfl)) (gt rfl (fun w8 => (v_loadLG (gd_pos w8) (cond_t w8 hv3) rfl rfl)) (bs hz4 fun v4 hv4 hz4 => ?_)))))))))))))))))))))))
        refine g_call _ (i64 v4) (gw_t rfl) (fun w9 => ⟨_, [(.d (.agg (eMate v3)))], _, _, (by simp only [gd_pos w9]; rfl), rfl, all2_refl, convoy_rear_ok _  _ (cond_t w9 hv4), (.inl rfl)⟩) ?_
        refine gt rfl (fun w10 => (v_bin (gd_pos w10) (gd_pos w10) rfl)) (sa rfl rfl rfl (s_nil (cc rfl hz4 (fun c4 hz4 => ?_) (fun c4 hz4 => ?_))))
        · refine l_seq (l_sub (s0 := ⟨T [], G []⟩) (sbr rfl rfl) ?_)
          refine l_reg fun u14 hu14 => sv rfl (s_nil (l_ret ?_))
          obtain rfl := Option.some.inj hz4
          obtain rfl := ez4 _ rfl
          refine ⟨nofun, awl_ret ?_⟩
          rw [Sum.elim_inr] at h
          obtain rfl := Option.some.inj h
          exact fin_ok (.inr rfl) (resD1 (res_t rfl) rf_d) (.refl _)
        · refine l_skip (l_end (l_sub (s0 := ⟨T [(1, (.ptr _ _)), (29, (.d _)), (30, (.d _)), (31, (.d _))], G [((1, u1), some (.box 38 _))]⟩) (sbr rfl rfl) ?_))
          refine l_reg fun u15 hu15 => sv rfl (sv rfl (s_nil (l_nil ?_)))
          obtain rfl := Option.some.inj hz4
          exact ⟨rfl, (), (sbr rfl rfl)⟩
      · refine l_exitN rfl ?_
        obtain rfl := Option.some.inj hz4
        obtain rfl := ez4 _ rfl
        refine ⟨nofun, awl_pop rfl (l_j ?_)⟩
        exact ⟨_, (), rfl, (sbr rfl rfl)⟩
    · rintro _ ⟨y2, g3, rfl, q2⟩
      rw [Sum.elim_inl] at h
      refine l_sub q2 (lr (fun u16 hu16 => sv rfl (s_nil (l_ret ?_))))
      obtain rfl := Option.some.inj h
      exact fin_ok (.inr rfl) (resD1 (res_t rfl) rf_d) (.refl _)

noncomputable def convoy_sane_1 (p1 : Int) : Option Bool :=
  (convoy_within p1 (-4398046511104) 4398046511104).bind fun v1 => some (!v1)

/-- kerbstone/convoy.sane$1 -/
def ac_convoy_sane_1 : AC := (.seq (.reg [oo 2 (.mv (.c zf))]) (.seq (.reg [oo 3 (.mv (.t 0)), oo 4 (.call (cf 95) [(.t 3), (ci (-4398046511104)), (ci 4398046511104)]), oo 5 (.un .not (.t 4)), oo 2 (.mv (.t 5))]) .ret))
theorem fn_convoy_sane_1 : FnOK Try.prog 94 6 [.t 2] ac_convoy_sane_1 := ⟨_, _, Try.func94, rfl, Try.ntmps94, by kernel_rfl, ⟨fun _ => [], by kernel_rfl⟩, by kernel_rfl⟩
theorem convoy_sane_1_ok (p1 : Int) (r : Bool) (h : convoy_sane_1 p1 = some r) : PCall Try.prog 94 [(i64 p1)] (bo r) := by
  refine l_call fn_convoy_sane_1 (nl rfl) ?_
  unfold convoy_sane_1 at h
  unfold ac_convoy_sane_1
  refine l_sub (s0 := ⟨T [(0, (.d _))], G []⟩) (sbr rfl rfl) ?_
  refine lr (fun u1 hu1 => sv rfl (s_nil (lr (fun u2 hu2 => sv rfl (bs h fun v1 hv1 h => s_call rfl rfl all2_refl (convoy_within_ok _ _ _  _ hv1) (.inl rfl) (s_val (.d (bo (!v1))) rfl rfl (sv rfl (s_nil (l_ret ?_)))))))))
  obtain rfl := Option.some.inj h
  exact fin_ok (.inr rfl) (resD1 (res_t rfl) rf_d) (.refl _)

noncomputable def slices_IndexFunc_int64_int64_convoy_sane_1_l1 (p1 : (List Int)) (x1 : Int) : Option (Stp Int (Sum Unit Int)) :=
  cond (decide (x1 < (p1.length : Int))) ((geti p1 x1).bind fun v1 => (convoy_sane_1 v1).bind fun v2 => cond v2 (some (.out (.inr x1))) (some (.go (w64 (x1 + 1))))) (some (.out (.inl ())))
noncomputable def slices_IndexFunc_int64_int64_convoy_sane_1 (p1 : (List Int)) : Option Int :=
  thenS (loop (slices_IndexFunc_int64_int64_convoy_sane_1_l1 p1) 0) (fun _ => some (-1)) (fun r => some r)

/-- slices.IndexFunc[[]int64,int64] -/
def ac_slices_IndexFunc_int64_int64_convoy_sane_1 : AC := (.seq (.reg [oo 4 (.mv (ci 0))]) (.seq (.seq (.reg [oo 6 (.mv (.t 0)), oo 7 (.len (.t 6)), oo 8 (.mv (ci 0))]) (.block 0 (.loop (.seq (.reg [oo 9 (.bin .lss (.t 8) (.t 7))]) (.seq (.cond (.t 9) .skip (.exit 0)) (.seq (.block 1 (.seq (.reg [oo 10 (.mv (.t 8)), oo 5 (.mv (.t 10))]) (.seq (.reg [oo 11 (.mv (.t 1)), oo 12 (.mv (.t 0)), oo 13 (.mv (.t 5)), oo 14 (.idxS 1 (.t 12) (.t 13)), oo 15 (.load 1 false (.t 14)), oo 16 (.call (.t 11) [(.t 15)])]) (.cond (.t 16) (.seq (.reg [oo 17 (.mv (.t 5)), oo 4 (.mv (.t 17))]) .ret) .skip)))) (.reg [oo 18 (.bin .add (.t 8) (ci 1)), oo 8 (.mv (.t 18))]))))))) (.seq (.reg [oo 4 (.mv (ci (-1)))]) .ret)))
theorem fn_slices_IndexFunc_int64_int64_convoy_sane_1 : FnOK Try.prog 121 19 [.t 4] ac_slices_IndexFunc_int64_int64_convoy_sane_1 := ⟨_, _, Try.func121, rfl, Try.ntmps121, by kernel_rfl, ⟨fun _ => [], by kernel_rfl⟩, by kernel_rfl⟩
set_option maxHeartbeats 4000000 in
theorem slices_IndexFunc_int64_int64_convoy_sane_1_ok (p1 : (List Int)) (r : Int) (h : slices_IndexFunc_int64_int64_convoy_sane_1 p1 = some r) : PCall Try.prog 121 [(.list (List.map eInt_i64 p1)), (.fn (.func 94) [] [])] (i64 r) := by
  refine l_call fn_slices_IndexFunc_int64_int64_convoy_sane_1 (nl rfl) ?_
  unfold slices_IndexFunc_int64_int64_convoy_sane_1 at h
  unfold ac_slices_IndexFunc_int64_int64_convoy_sane_1
  refine l_sub (s0 := ⟨T [(0, (.d _)), (1, (.d _))], G []⟩) (sbr rfl rfl) ?_
  refine lr (fun u1 hu1 => sv rfl (s_nil (l_seq (lr (fun u2 hu2 => sv rfl (sd rfl (v_len rfl) (sv rfl (s_nil (js h fun z1 hz1 h => l_join (fun s => ∃ (y1 : Unit) (g1 : Unit), z1 = .inl y1 ∧ Sb ⟨T [], G []⟩ s) ?_ ?_)))))))))
  · refine l_block (l_loop (slices_IndexFunc_int64_int64_convoy_sane_1_l1 p1) (fun (x1 : Int) (g2 : Unit) => ⟨T [(0, (dl eInt_i64 p1)), (1, (.d (.fn (.func 94) [] []))), (7, (di (p1.length : Int))), (8, (di x1))], G []⟩) 0 () _ hz1 (sbr rfl rfl) ?_)
    intro x1 g2 z2 hz2 ez2
    unfold slices_IndexFunc_int64_int64_convoy_sane_1_l1 at hz2
    refine lr (fun u3 hu3 => sv rfl (s_nil (l_seq (cc rfl hz2 (fun c1 hz2 => ?_) (fun c1 hz2 => ?_)))))
    · refine l_skip (l_seq (l_block (lr (fun u4 hu4 => sv rfl (sv rfl (s_nil (lr (fun u5 hu5 => sv rfl (sv rfl (sv rfl (bs hz2 fun v1 hv1 hz2 => sd rfl (v_idx rfl rfl hv1 rfl) (sd rfl (v_loadL rfl hv1 rfl) (bs hz2 fun v2 hv2 hz2 => s_call rfl rfl all2_refl (convoy_sane_1_ok _  _ hv2) (.inl rfl) (s_nil (cc rfl hz2 (fun c2 hz2 => ?_) (fun c2 hz2 => ?_))))))))))))))))
      · refine lr (fun u6 hu6 => sv rfl (sv rfl (s_nil (l_ret ?_))))
        obtain rfl := Option.some.inj hz2
        obtain rfl := ez2 _ rfl
        refine ⟨nofun, awl_ret ?_⟩
        rw [Sum.elim_inr] at h
        obtain rfl := Option.some.inj h
        exact fin_ok (.inr rfl) (resD1 (res_t rfl) rf_d) (.refl _)
      · refine l_skip (l_end (l_reg fun u7 hu7 => sv rfl (sv rfl (s_nil (l_nil ?_)))))
        obtain rfl := Option.some.inj hz2
        exact ⟨rfl, (), (sbr rfl rfl)⟩
    · refine l_exitN rfl ?_
      obtain rfl := Option.some.inj hz2
      obtain rfl := ez2 _ rfl
      refine ⟨nofun, awl_pop rfl (l_j ?_)⟩
      exact ⟨_, (), rfl, (sbr rfl rfl)⟩
  · rintro _ ⟨y1, g1, rfl, q1⟩
    rw [Sum.elim_inl] at h
    refine l_sub q1 (lr (fun u8 hu8 => sv rfl (s_nil (l_ret ?_))))
    obtain rfl := Option.some.inj h
    exact fin_ok (.inr rfl) (resD1 (res_t rfl) rf_d) (.refl _)

noncomputable def slices_ContainsFunc_int64_int64_convoy_sane_1 (p1 : (List Int)) : Option Bool :=
  (slices_IndexFunc_int64_int64_convoy_sane_1 p1).bind fun v1 => some (decide (v1 ≥ 0))

/-- slices.ContainsFunc[[]int64,int64] -/
def ac_slices_ContainsFunc_int64_int64_convoy_sane_1 : AC := (.seq (.reg [oo 4 (.mv (.c zf))]) (.seq (.reg [oo 5 (.mv (.t 0)), oo 6 (.mv (.t 1)), oo 7 (.call (cf 121) [(.t 5), (.t 6)]), oo 8 (.bin .geq (.t 7) (ci 0)), oo 4 (.mv (.t 8))]) .ret))
theorem fn_slices_ContainsFunc_int64_int64_convoy_sane_1 : FnOK Try.prog 93 9 [.t 4] ac_slices_ContainsFunc_int64_int64_convoy_sane_1 := ⟨_, _, Try.func93, rfl, Try.ntmps93, by kernel_rfl, ⟨fun _ => [], by kernel_rfl⟩, by kernel_rfl⟩
theorem slices_ContainsFunc_int64_int64_convoy_sane_1_ok (p1 : (List Int)) (r : Bool) (h : slices_ContainsFunc_int64_int64_convoy_sane_1 p1 = some r) : PCall Try.prog 93 [(.list (List.map eInt_i64 p1)), (.fn (.func 94) [] [])] (bo r) := by
  refine l_call fn_slices_ContainsFunc_int64_int64_convoy_sane_1 (nl rfl) ?_
  unfold slices_ContainsFunc_int64_int64_convoy_sane_1 at h
  unfold ac_slices_ContainsFunc_int64_int64_convoy_sane_1
  refine l_sub (s0 := ⟨T [(0, (.d _)), (1, (.d _))], G []⟩) (sbr rfl rfl) ?_
  refine lr (fun u1 hu1 => sv rfl (s_nil (lr (fun u2 hu2 => sv rfl (sv rfl (bs h fun v1 hv1 h => s_call rfl rfl all2_refl (slices_IndexFunc_int64_int64_convoy_sane_1_ok _  _ hv1) (.inl rfl) (sv rfl (sv rfl (s_nil (l_ret ?_))))))))))
  obtain rfl := Option.some.inj h
  exact fin_ok (.inr rfl) (resD1 (res_t rfl) rf_d) (.refl _)

noncomputable def convoy_sane (p1 : (List Int)) : Option Bool :=
  (slices_ContainsFunc_int64_int64_convoy_sane_1 p1).bind fun v1 => some (!v1)

/-- kerbstone/convoy.sane -/
def ac_convoy_sane : AC := (.seq (.reg [oo 2 (.mv (.c zf))]) (.seq (.reg [oo 3 (.mv (.t 0)), oo 4 (.call (cf 93) [(.t 3), (cf 94)]), oo 5 (.un .not (.t 4)), oo 2 (.mv (.t 5))]) .ret))
theorem fn_convoy_sane : FnOK Try.prog 59 6 [.t 2] ac_convoy_sane := ⟨_, _, Try.func59, rfl, Try.ntmps59, by kernel_rfl, ⟨fun _ => [], by kernel_rfl⟩, by kernel_rfl⟩
theorem convoy_sane_ok (p1 : (List Int)) (r : Bool) (h : convoy_sane p1 = some r) : PCall Try.prog 59 [(.list (List.map eInt_i64 p1))] (bo r) := by
  refine l_call fn_convoy_sane (nl rfl) ?_
  unfold convoy_sane at h
  unfold ac_convoy_sane
  refine l_sub (s0 := ⟨T [(0, (.d _))], G []⟩) (sbr rfl rfl) ?_
  refine lr (fun u1 hu1 => sv rfl (s_nil (lr (fun u2 hu2 => sv rfl (bs h fun v1 hv1 h => s_call rfl rfl all2_refl (slices_ContainsFunc_int64_int64_convoy_sane_1_ok _  _ hv1) (.inl rfl) (s_val (.d (bo (!v1))) rfl rfl (sv rfl (s_nil (l_ret ?_)))))))))
  obtain rfl := Option.some.inj h
  exact fin_ok (.inr rfl) (resD1 (res_t rfl) rf_d) (.refl _)

noncomputable def world_Stop (p1 : Int) (p2 : Int) : Option Int :=
  cond ((decide (p1 < 1)) || (decide (p2 < 1))) (some 0) ((quoc .i64 (w64 ((mm2 false p1 1000000) - 1)) (mm2 false p2 1000000)).bind fun v1 => some (w64 ((w64 (v1 * (mm2 false p1 1000000))) - (w64 ((mm2 false p2 1000000) * (w64 ((w64 (v1 * (w64 (v1 + 1)))).tdiv 2)))))))

/-- kerbstone/world.Stop -/
def ac_world_Stop : AC := (.seq (.reg [oo 4 (.mv (ci 0))]) (.seq (.seq (.reg [oo 6 (.mv (.t 0)), oo 7 (.bin .lss (.t 6) (ci 1)), oo 8 (.mv (.t 7)), oh 9 (.mv (.t 1)) 8, oh 10 (.bin .lss (.t 9) (ci 1)) 8, oo 11 (.pick (.t 8) (.c (.v (.bool true))) (.t 10))]) (.cond (.t 11) (.seq (.reg [oo 4 (.mv (ci 0))]) .ret) .skip)) (.seq (.reg [oo 12 (.mv (.t 0)), oo 13 (.mm false (.t 12) [(ci 1000000)]), oo 14 (.mv (.t 1)), oo 15 (.mm false (.t 14) [(ci 1000000)]), oo 0 (.mv (.t 13)), oo 1 (.mv (.t 15))]) (.seq (.reg [oo 16 (.mv (.t 0)), oo 17 (.bin .sub (.t 16) (ci 1)), oo 18 (.mv (.t 1)), oo 19 (.bin .quo (.t 17) (.t 18)), oo 5 (.mv (.t 19))]) (.seq (.reg [oo 20 (.mv (.t 5)), oo 21 (.mv (.t 0)), oo 22 (.bin .mul (.t 20) (.t 21)), oo 23 (.mv (.t 1)), oo 24 (.mv (.t 5)), oo 25 (.mv (.t 5)), oo 26 (.bin .add (.t 25) (ci 1)), oo 27 (.bin .mul (.t 24) (.t 26)), oo 28 (.bin .quo (.t 27) (ci 2)), oo 29 (.bin .mul (.t 23) (.t 28)), oo 30 (.bin .sub (.t 22) (.t 29)), oo 4 (.mv (.t 30))]) .ret)))))
theorem fn_world_Stop : FnOK Try.prog 96 31 [.t 4] ac_world_Stop := ⟨_, _, Try.func96, rfl, Try.ntmps96, by kernel_rfl, ⟨fun _ => [], by kernel_rfl⟩, by kernel_rfl⟩
set_option maxHeartbeats 4000000 in
theorem world_Stop_ok (p1 : Int) (p2 : Int) (r : Int) (h : world_Stop p1 p2 = some r) : PCall Try.prog 96 [(i64 p1), (i64 p2)] (i64 r) := by
  refine l_call fn_world_Stop (nl rfl) ?_
  unfold world_Stop at h
  unfold ac_world_Stop
  refine l_sub (s0 := ⟨T [(0, (.d _)), (1, (.d _))], G []⟩) (sbr rfl rfl) ?_
  refine lr (fun u1 hu1 => sv rfl (s_nil (l_seq (lr (fun u2 hu2 => sv rfl (sv rfl (sv rfl (gf rfl (fun _ => rfl) (gf rfl (vb rfl rfl rfl) (sd rfl (v_or rfl rfl (fun hc => gd_pos (not_t hc))) (s_nil (cc rfl h (fun c1 h => ?_) (fun c1 h => ?_)))))))))))))
  · refine lr (fun u3 hu3 => sv rfl (s_nil (l_ret ?_)))
    obtain rfl := Option.some.inj h
    exact fin_ok (.inr rfl) (resD1 (res_t rfl) rf_d) (.refl _)
  · refine l_skip (lr (fun u4 hu4 => sv rfl (sv rfl (sv rfl (sv rfl (sv rfl (sv rfl (s_nil (lr (fun u5 hu5 => sv rfl (sv rfl (sv rfl (bs h fun v1 hv1 h => sd rfl (v_quo rfl rfl hv1) (sv rfl (s_nil (lr (fun u6 hu6 => sv rfl (sv rfl (sv rfl (sv rfl (sv rfl (sv rfl (sv rfl (sv rfl (sv rfl (sv rfl (sv rfl (sv rfl (s_nil (l_ret ?_))))))))))))))))))))))))))))))
    obtain rfl := Option.some.inj h
    exact fin_ok (.inr rfl) (resD1 (res_t rfl) rf_d) (.refl _)

noncomputable def convoy_stop (p1 : Int) : Option Int :=
  (world_Stop p1 90).bind fun v1 => some v1

/-- kerbstone/convoy.stop -/
def ac_convoy_stop : AC := (.seq (.reg [oo 2 (.mv (ci 0))]) (.seq (.reg [oo 3 (.mv (.t 0)), oo 4 (.call (cf 96) [(.t 3), (ci 90)]), oo 2 (.mv (.t 4))]) .ret))
theorem fn_convoy_stop : FnOK Try.prog 62 5 [.t 2] ac_convoy_stop := ⟨_, _, Try.func62, rfl, Try.ntmps62, by kernel_rfl, ⟨fun _ => [], by kernel_rfl⟩, by kernel_rfl⟩
theorem convoy_stop_ok (p1 : Int) (r : Int) (h : convoy_stop p1 = some r) : PCall Try.prog 62 [(i64 p1)] (i64 r) := by
  refine l_call fn_convoy_stop (nl rfl) ?_
  unfold convoy_stop at h
  unfold ac_convoy_stop
  refine l_sub (s0 := ⟨T [(0, (.d _))], G []⟩) (sbr rfl rfl) ?_
  refine lr (fun u1 hu1 => sv rfl (s_nil (lr (fun u2 hu2 => sv rfl (bs h fun v1 hv1 h => s_call rfl rfl all2_refl (world_Stop_ok _ _  _ hv1) (.inl rfl) (sv rfl (s_nil (l_ret ?_))))))))
  obtain rfl := Option.some.inj h
  exact fin_ok (.inr rfl) (resD1 (res_t rfl) rf_d) (.refl _)

noncomputable def convoy_end (p1 : Guess) : Option Int :=
  (convoy_stop p1.V).bind fun v1 => some (w64 (p1.R + v1))

/-- kerbstone/convoy.end -/
def ac_convoy_end : AC := (.seq (.reg [oo 1 (.box 23 true (.t 0)), oo 2 (.mv (ci 0))]) (.seq (.draw [oo 3 (.fieldA 0 (.t 1)), oo 4 (.load 1 false (.t 3)), oo 5 (.fieldA 1 (.t 1)), oo 6 (.load 1 false (.t 5)), oo 7 (.call (cf 62) [(.t 6)]), oo 8 (.bin .add (.t 4) (.t 7)), oo 2 (.mv (.t 8))] []) .ret))
theorem fn_convoy_end : FnOK Try.prog 61 9 [.t 2] ac_convoy_end := ⟨_, _, Try.func61, rfl, Try.ntmps61, by kernel_rfl, ⟨fun _ => [], by kernel_rfl⟩, by kernel_rfl⟩
theorem convoy_end_ok (p1 : Guess) (r : Int) (h : convoy_end p1 = some r) : PCall Try.prog 61 [(.agg [(i64 p1.R), (i64 p1.V)])] (i64 r) := by
  refine l_call fn_convoy_end (nl rfl) ?_
  unfold convoy_end at h
  unfold ac_convoy_end
  refine l_sub (s0 := ⟨T [(0, (.d _))], G []⟩) (sbr rfl rfl) ?_
  refine lr (fun u1 hu1 => sn rfl rfl (sv rfl (s_nil (l_seq (l_draw rfl fun u2 hu2 => sp rfl rfl (sl rfl G_hit rfl (sp rfl rfl (sl rfl G_hit rfl (bs h fun v1 hv1 h => s_call rfl rfl all2_refl (convoy_stop_ok _  _ hv1) (.inl rfl) (sv rfl (sv rfl (s_nil (l_ret ?_)))))))))))))
  obtain rfl := Option.some.inj h
  exact fin_ok (.inr rfl) (resD1 (res_t rfl) rf_d) (.refl _)

noncomputable def convoy_Safe (p1 : Int) (p2 : Int) (p3 : Int) (p4 : Guess) : Option Bool :=
  (convoy_sane [p1, p2, p3, p4.R, p4.V]).bind fun v1 => ((cond (v1 && (decide (p1 ≤ (w64 (p4.R - p3))))) (convoy_stop p2) (some default))).bind fun v2 => ((cond (v1 && (decide (p1 ≤ (w64 (p4.R - p3))))) (convoy_end p4) (some default))).bind fun v3 => some ((v1 && (decide (p1 ≤ (w64 (p4.R - p3))))) && (decide ((w64 (p1 + v2)) ≤ (w64 (v3 - p3)))))

/-- kerbstone/convoy.Safe -/
def ac_convoy_Safe : AC := (.seq (.reg [oo 7 (.box 23 true (.t 3)), oo 8 (.mv (.c zf))]) (.seq (.draw [oo 9 (.mv (.t 0)), oo 10 (.mv (.t 1)), oo 11 (.mv (.t 2)), oo 12 (.fieldA 0 (.t 7)), oo 13 (.load 1 false (.t 12)), oo 14 (.fieldA 1 (.t 7)), oo 15 (.load 1 false (.t 14)), oo 16 (.dslice 2 1 5 [z0] [(0, 1, (.t 9)), (1, 1, (.t 10)), (2, 1, (.t 11)), (3, 1, (.t 13)), (4, 1, (.t 15))]), oo 17 (.call (cf 59) [(.t 16)]), oo 18 (.mv (.t 17)), og 19 (.mv (.t 0)) 18, og 20 (.fieldA 0 (.t 7)) 18, og 21 (.load 1 false (.t 20)) 18, og 22 (.mv (.t 2)) 18, og 23 (.bin .sub (.t 21) (.t 22)) 18, og 24 (.bin .leq (.t 19) (.t 23)) 18, oo 25 (.pick (.t 18) (.t 24) (.c zf)), oo 26 (.mv (.t 25)), og 27 (.mv (.t 0)) 26, og 28 (.mv (.t 1)) 26, og 29 (.call (cf 62) [(.t 28)]) 26, og 30 (.bin .add (.t 27) (.t 29)) 26, og 31 (.load 2 true (.t 7)) 26, og 32 (.call (cf 61) [(.t 31)]) 26, og 33 (.mv (.t 2)) 26, og 34 (.bin .sub (.t 32) (.t 33)) 26, og 35 (.bin .leq (.t 30) (.t 34)) 26, oo 36 (.pick (.t 26) (.t 35) (.c zf)), oo 8 (.mv (.t 36))] []) .ret))
theorem fn_convoy_Safe : FnOK Try.prog 21 37 [.t 8] ac_convoy_Safe := ⟨_, _, Try.func21, rfl, Try.ntmps21, by kernel_rfl, ⟨fun r => if r == 1 then [1007] else [], by kernel_rfl⟩, by kernel_rfl⟩
theorem convoy_Safe_ok (p1 : Int) (p2 : Int) (p3 : Int) (p4 : Guess) (r : Bool) (h : convoy_Safe p1 p2 p3 p4 = some r) : PCall Try.prog 21 [(i64 p1), (i64 p2), (i64 p3), (.agg [(i64 p4.R), (i64 p4.V)])] (bo r) := by
  refine l_call fn_convoy_Safe (nl rfl) ?_
  unfold convoy_Safe at h
  unfold ac_convoy_Safe
  refine l_sub (s0 := ⟨T [(0, (.d _)), (1, (.d _)), (2, (.d _)), (3, (.d _))], G []⟩) (sbr rfl rfl) ?_
  refine lr (fun u1 hu1 => sn rfl rfl (sv rfl (s_nil (l_seq (l_draw rfl fun u2 hu2 => sv rfl (sv rfl (sv rfl (sp rfl rfl (sl rfl G_hit rfl (sp rfl rfl (sl rfl G_hit rfl (s_val (dl eInt_i64 [p1, p2, p3, p4.R, p4.V]) rfl rfl (bs h fun v1 hv1 h => s_call rfl rfl all2_refl (convoy_sane_ok _  _ hv1) (.inl rfl) (sv rfl (gt rfl (fun _ => rfl) (gp rfl (gw_t rfl) (fun _ => rfl) (gt rfl (vl rfl G_hit rfl) (gt rfl (fun _ => rfl) (gt rfl (fun w5 => (v_bin (gd_pos w5) (gd_pos w5) rfl)) (gt rfl (fun w6 => (v_bin (gd_pos w6) (gd_pos w6) rfl)) (sa rfl rfl rfl (sv rfl (gt rfl (fun _ => rfl) (gt rfl (fun _ => rfl) (bs h fun v2 hv2 h => ?_)))))))))))))))))))))))))
  refine g_call _ (i64 v2) (gw_t rfl) (fun w9 => ⟨_, [(di p2)], _, _, (by simp only [gd_pos w9]; rfl), rfl, all2_refl, convoy_stop_ok _  _ (cond_t w9 hv2), (.inl rfl)⟩) ?_
  refine gt rfl (fun w10 => (v_bin (gd_pos w10) (gd_pos w10) rfl)) (gt rfl (fun w11 => (v_loadG rfl G_hit rfl rfl)) (bs h fun v3 hv3 h => ?_))
  refine g_call _ (i64 v3) (gw_t rfl) (fun w12 => ⟨_, [(.d (.agg [(i64 p4.R), (i64 p4.V)]))], _, _, (by simp only [gd_pos w12]; rfl), rfl, all2_refl, convoy_end_ok _  _ (cond_t w12 hv3), (.inl rfl)⟩) ?_
  refine gt rfl (fun _ => rfl) (gt rfl (fun w14 => (v_bin (gd_pos w14) (gd_pos w14) rfl)) (gt rfl (fun w15 => (v_bin (gd_pos w15) (gd_pos w15) rfl)) (sa rfl rfl rfl (sv rfl (s_nil (l_ret ?_))))))
  obtain rfl := Option.some.inj h
  exact fin_ok (.inr rfl) (resD1 (res_t rfl) rf_d) (.refl _)

noncomputable def convoy_keeps (p1 : Int) (p2 : Mate) (p3 : Int) (p4 : Int) (p5 : Guess) (p6 : Guess) : Option Bool :=
  ((cond (!(p2.Ahead == 0)) (convoy_Safe p3 p4 p1 p5) (some default))).bind fun v1 => ((cond (((p2.Ahead == 0) || v1) && (!(p2.Until == 0))) (convoy_Safe p3 p4 p1 p6) (some default))).bind fun v2 => some (((p2.Ahead == 0) || v1) && ((p2.Until == 0) || v2))

/-- kerbstone/convoy.keeps -/
def ac_convoy_keeps : AC := (.seq (.reg [oo 7 (.box 65 true (.t 1)), oo 10 (.box 23 true (.t 4)), oo 11 (.box 23 true (.t 5)), oo 12 (.mv (.c zf))]) (.seq (.reg [oo 13 (.fieldA 4 (.t 7)), oo 14 (.load 1 false (.t 13)), oo 15 (.bin .eql (.t 14) (ci 0)), oo 16 (.mv (.t 15)), oh 17 (.mv (.t 2)) 16, oh 18 (.mv (.t 3)) 16, oh 19 (.mv (.t 0)) 16, oh 20 (.load 2 true (.t 10)) 16, oh 21 (.call (cf 21) [(.t 17), (.t 18), (.t 19), (.t 20)]) 16, oo 22 (.pick (.t 16) (.c (.v (.bool true))) (.t 21)), oo 23 (.mv (.t 22)), og 24 (.fieldA 11 (.t 7)) 23, og 25 (.load 1 false (.t 24)) 23, og 26 (.bin .eql (.t 25) (ci 0)) 23, og 27 (.mv (.t 26)) 23, oh 28 (.mv (.t 2)) 27, oh 29 (.mv (.t 3)) 27, oh 30 (.mv (.t 0)) 27, oh 31 (.load 2 true (.t 11)) 27, oh 32 (.call (cf 21) [(.t 28), (.t 29), (.t 30), (.t 31)]) 27, og 33 (.pick (.t 27) (.c (.v (.bool true))) (.t 32)) 23, oo 34 (.pick (.t 23) (.t 33) (.c zf)), oo 12 (.mv (.t 34))]) .ret))
theorem fn_convoy_keeps : FnOK Try.prog 76 35 [.t 12] ac_convoy_keeps := ⟨_, _, Try.func76, rfl, Try.ntmps76, by kernel_rfl, ⟨fun _ => [], by kernel_rfl⟩, by kernel_rfl⟩
theorem convoy_keeps_ok (p1 : Int) (p2 : Mate) (p3 : Int) (p4 : Int) (p5 : Guess) (p6 : Guess) (r : Bool) (h : convoy_keeps p1 p2 p3 p4 p5 p6 = some r) : PCall Try.prog 76 [(i64 p1), (.agg (eMate p2)), (i64 p3), (i64 p4), (.agg [(i64 p5.R), (i64 p5.V)]), (.agg [(i64 p6.R), (i64 p6.V)])] (bo r) := by
  refine l_call fn_convoy_keeps (nl rfl) ?_
  unfold convoy_keeps at h
  unfold ac_convoy_keeps
  refine l_sub (s0 := ⟨T [(0, (.d _)), (1, (.d _)), (2, (.d _)), (3, (.d _)), (4, (.d _)), (5, (.d _))], G []⟩) (sbr rfl rfl) ?_
  refine lr (fun u1 hu1 => sn rfl rfl (sn rfl rfl (sn rfl rfl (sv rfl (s_nil (lr (fun u2 hu2 => sp rfl rfl (sl rfl (gq rfl) rfl (sv rfl (sv rfl (gf rfl (fun _ => rfl) (gf rfl (fun _ => rfl) (gf rfl (fun _ => rfl) (gf rfl (fun w4 => (v_loadG rfl (gq rfl) rfl rfl)) (bs h fun v1 hv1 h => ?_)))))))))))))))
  refine g_call _ (bo v1) (gw_f rfl) (fun w5 => ⟨_, [(di p3), (di p4), (di p1), (.d (.agg [(i64 p5.R), (i64 p5.V)]))], _, _, (by simp only [gd_pos w5]; rfl), rfl, all2_refl, convoy_Safe_ok _ _ _ _  _ (cond_t w5 hv1), (.inl rfl)⟩) ?_
  refine sd rfl (v_or rfl rfl (fun hc => gd_pos (not_t hc))) (sv rfl (gp rfl (gw_t rfl) (fun _ => rfl) (gt rfl (vl rfl (gq rfl) rfl) (gt rfl (vb rfl rfl rfl) (gt rfl (fun w9 => (v_mv (gd_pos w9))) (gv rfl (gw_gf rfl) (fun _ => rfl) (gv rfl (gw_gf rfl) (fun _ => rfl) (gv rfl (gw_gf rfl) (fun _ => rfl) (gv rfl (gw_gf rfl) (fun w13 => (v_loadG rfl G_hit rfl rfl)) (bs h fun v2 hv2 h => ?_))))))))))
  refine g_call _ (bo v2) (gw_gf rfl) (fun w14 => ⟨_, [(di p3), (di p4), (di p1), (.d (.agg [(i64 p6.R), (i64 p6.V)]))], _, _, (by simp only [gd_pos w14]; rfl), rfl, all2_refl, convoy_Safe_ok _ _ _ _  _ (cond_t w14 hv2), (.inl rfl)⟩) ?_
  refine gt rfl (fun w15 => (v_or (gd_pos w15) rfl (fun hc => gd_pos (and_i w15 (not_t hc))))) (sa rfl rfl rfl (sv rfl (s_nil (l_ret ?_))))
  obtain rfl := Option.some.inj h
  exact fin_ok (.inr rfl) (resD1 (res_t rfl) rf_d) (.refl _)

noncomputable def convoy_Check_1_b (p1 : Mate) (p2 : Convoy) : Option Bool :=
  (convoy_keeps p2.Gap p1 p1.S p1.V p1.Guess_ p1.WardGuess).bind fun v1 => some (!v1)

/-- kerbstone/convoy.Check$1 -/
def ac_convoy_Check_1_b : AC := (.seq (.reg [oo 2 (.box 65 true (.t 0)), oo 3 (.mv (.c zf))]) (.seq (.reg [oo 4 (.fieldA 1 (.t 1)), oo 5 (.load 1 false (.t 4)), oo 6 (.load 12 true (.t 2)), oo 7 (.fieldA 1 (.t 2)), oo 8 (.load 1 false (.t 7)), oo 9 (.fieldA 2 (.t 2)), oo 10 (.load 1 false (.t 9)), oo 11 (.fieldA 5 (.t 2)), oo 12 (.load 2 true (.t 11)), oo 13 (.fieldA 9 (.t 2)), oo 14 (.load 2 true (.t 13)), oo 15 (.call (cf 76) [(.t 5), (.t 6), (.t 8), (.t 10), (.t 12), (.t 14)]), oo 16 (.un .not (.t 15)), oo 3 (.mv (.t 16))]) .ret))
theorem fn_convoy_Check_1_b : FnOK Try.prog 75 17 [.t 3] ac_convoy_Check_1_b := ⟨_, _, Try.func75, rfl, Try.ntmps75, by kernel_rfl, ⟨fun _ => [], by kernel_rfl⟩, by kernel_rfl⟩
theorem convoy_Check_1_b_ok (p1 : Mate) (p2 : Convoy) (r : Bool) (h : convoy_Check_1_b p1 p2 = some r) : PCall Try.prog 75 [(.agg (eMate p1)), (.bp (eConvoy p2) 0)] (bo r) := by
  refine l_call fn_convoy_Check_1_b (nl rfl) ?_
  unfold convoy_Check_1_b at h
  unfold ac_convoy_Check_1_b
  refine l_sub (s0 := ⟨T [(0, (.d _)), (1, (.d _))], G []⟩) (sbr rfl rfl) ?_
  refine lr (fun u1 hu1 => sn rfl rfl (sv rfl (s_nil (lr (fun u2 hu2 => sv rfl (sv rfl (sd rfl (v_loadG rfl G_hit rfl rfl) (sp rfl rfl (sl rfl G_hit rfl (sp rfl rfl (sl rfl G_hit rfl (sp rfl rfl (sd rfl (v_loadG rfl G_hit rfl rfl) (sp rfl rfl (sd rfl (v_loadG rfl G_hit rfl rfl) (bs h fun v1 hv1 h => s_call rfl rfl all2_refl (convoy_keeps_ok _ _ _ _ _ _  _ hv1) (.inl rfl) (s_val (.d (bo (!v1))) rfl rfl (sv rfl (s_nil (l_ret ?_))))))))))))))))))))
  obtain rfl := Option.some.inj h
  exact fin_ok (.inr rfl) (resD1 (res_t rfl) rf_d) (.refl _)

noncomputable def slices_IndexFunc_Mate_Mate_convoy_Check_1b_l1 (p1 : (List Mate)) (p2 : Convoy) (x1 : Int) : Option (Stp Int (Sum Unit Int)) :=
  cond (decide (x1 < (p1.length : Int))) ((geti p1 x1).bind fun v1 => (convoy_Check_1_b v1 p2).bind fun v2 => cond v2 (some (.out (.inr x1))) (some (.go (w64 (x1 + 1))))) (some (.out (.inl ())))
noncomputable def slices_IndexFunc_Mate_Mate_convoy_Check_1b (p1 : (List Mate)) (p2 : Convoy) : Option Int :=
  thenS (loop (slices_IndexFunc_Mate_Mate_convoy_Check_1b_l1 p1 p2) 0) (fun _ => some (-1)) (fun r => some r)

/-- slices.IndexFunc[[]kerbstone/api.Mate,kerbstone/api.Mate] -/
def ac_slices_IndexFunc_Mate_Mate_convoy_Check_1b : AC := (.seq (.reg [oo 4 (.mv (ci 0))]) (.seq (.seq (.reg [oo 6 (.mv (.t 0)), oo 7 (.len (.t 6)), oo 8 (.mv (ci 0))]) (.block 0 (.loop (.seq (.reg [oo 9 (.bin .lss (.t 8) (.t 7))]) (.seq (.cond (.t 9) .skip (.exit 0)) (.seq (.block 1 (.seq (.reg [oo 10 (.mv (.t 8)), oo 5 (.mv (.t 10))]) (.seq (.reg [oo 11 (.mv (.t 1)), oo 12 (.mv (.t 0)), oo 13 (.mv (.t 5)), oo 14 (.idxS 12 (.t 12) (.t 13)), oo 15 (.load 12 true (.t 14)), oo 16 (.call (.t 11) [(.t 15)])]) (.cond (.t 16) (.seq (.reg [oo 17 (.mv (.t 5)), oo 4 (.mv (.t 17))]) .ret) .skip)))) (.reg [oo 18 (.bin .add (.t 8) (ci 1)), oo 8 (.mv (.t 18))]))))))) (.seq (.reg [oo 4 (.mv (ci (-1)))]) .ret)))
theorem fn_slices_IndexFunc_Mate_Mate_convoy_Check_1b : FnOK Try.prog 98 19 [.t 4] ac_slices_IndexFunc_Mate_Mate_convoy_Check_1b := ⟨_, _, Try.func98, rfl, Try.ntmps98, by kernel_rfl, ⟨fun _ => [], by kernel_rfl⟩, by kernel_rfl⟩
set_option maxHeartbeats 4000000 in
theorem slices_IndexFunc_Mate_Mate_convoy_Check_1b_ok (p1 : (List Mate)) (p2 : Convoy) (r : Int) (h : slices_IndexFunc_Mate_Mate_convoy_Check_1b p1 p2 = some r) : PCall Try.prog 98 [(.list (List.map eMate p1)), (.fn (.func 75) [] [(.bp (eConvoy p2) 0)])] (i64 r) := by
  refine l_call fn_slices_IndexFunc_Mate_Mate_convoy_Check_1b (nl rfl) ?_
  unfold slices_IndexFunc_Mate_Mate_convoy_Check_1b at h
  unfold ac_slices_IndexFunc_Mate_Mate_convoy_Check_1b
  refine l_sub (s0 := ⟨T [(0, (.d _)), (1, (.d _))], G []⟩) (sbr rfl rfl) ?_
  refine lr (fun u1 hu1 => sv rfl (s_nil (l_seq (lr (fun u2 hu2 => sv rfl (sd rfl (v_len rfl) (sv rfl (s_nil (js h fun z1 hz1 h => l_join (fun s => ∃ (y1 : Unit) (g1 : Unit), z1 = .inl y1 ∧ Sb ⟨T [], G []⟩ s) ?_ ?_)))))))))
  · refine l_block (l_loop (slices_IndexFunc_Mate_Mate_convoy_Check_1b_l1 p1 p2) (fun (x1 : Int) (g2 : Unit) => ⟨T [(0, (dl eMate p1)), (1, (.d (.fn (.func 75) [] [(.bp (eConvoy p2) 0)]))), (7, (di (p1.length : Int))), (8, (di x1))], G []⟩) 0 () _ hz1 (sbr rfl rfl) ?_)
    intro x1 g2 z2 hz2 ez2
    unfold slices_IndexFunc_Mate_Mate_convoy_Check_1b_l1 at hz2
    refine lr (fun u3 hu3 => sv rfl (s_nil (l_seq (cc rfl hz2 (fun c1 hz2 => ?_) (fun c1 hz2 => ?_)))))
    · refine l_skip (l_seq (l_block (lr (fun u4 hu4 => sv rfl (sv rfl (s_nil (lr (fun u5 hu5 => sv rfl (sv rfl (sv rfl (bs hz2 fun v1 hv1 hz2 => sd rfl (v_idx rfl rfl hv1 rfl) (sd rfl (v_loadLG rfl hv1 rfl rfl) (bs hz2 fun v2 hv2 hz2 => s_call rfl rfl all2_refl (convoy_Check_1_b_ok _ _  _ hv2) (.inl rfl) (s_nil (cc rfl hz2 (fun c2 hz2 => ?_) (fun c2 hz2 => ?_))))))))))))))))
      · refine lr (fun u6 hu6 => sv rfl (sv rfl (s_nil (l_ret ?_))))
        obtain rfl := Option.some.inj hz2
        obtain rfl := ez2 _ rfl
        refine ⟨nofun, awl_ret ?_⟩
        rw [Sum.elim_inr] at h
        obtain rfl := Option.some.inj h
        exact fin_ok (.inr rfl) (resD1 (res_t rfl) rf_d) (.refl _)
      · refine l_skip (l_end (l_reg fun u7 hu7 => sv rfl (sv rfl (s_nil (l_nil ?_)))))
        obtain rfl := Option.some.inj hz2
        exact ⟨rfl, (), (sbr rfl rfl)⟩
    · refine l_exitN rfl ?_
      obtain rfl := Option.some.inj hz2
      obtain rfl := ez2 _ rfl
      refine ⟨nofun, awl_pop rfl (l_j ?_)⟩
      exact ⟨_, (), rfl, (sbr rfl rfl)⟩
  · rintro _ ⟨y1, g1, rfl, q1⟩
    rw [Sum.elim_inl] at h
    refine l_sub q1 (lr (fun u8 hu8 => sv rfl (s_nil (l_ret ?_))))
    obtain rfl := Option.some.inj h
    exact fin_ok (.inr rfl) (resD1 (res_t rfl) rf_d) (.refl _)

noncomputable def slices_ContainsFunc_Mate_Mate_convoy_Check_1b (p1 : (List Mate)) (p2 : Convoy) : Option Bool :=
  (slices_IndexFunc_Mate_Mate_convoy_Check_1b p1 p2).bind fun v1 => some (decide (v1 ≥ 0))

/-- slices.ContainsFunc[[]kerbstone/api.Mate,kerbstone/api.Mate] -/
def ac_slices_ContainsFunc_Mate_Mate_convoy_Check_1b : AC := (.seq (.reg [oo 4 (.mv (.c zf))]) (.seq (.reg [oo 5 (.mv (.t 0)), oo 6 (.mv (.t 1)), oo 7 (.call (cf 98) [(.t 5), (.t 6)]), oo 8 (.bin .geq (.t 7) (ci 0)), oo 4 (.mv (.t 8))]) .ret))
theorem fn_slices_ContainsFunc_Mate_Mate_convoy_Check_1b : FnOK Try.prog 77 9 [.t 4] ac_slices_ContainsFunc_Mate_Mate_convoy_Check_1b := ⟨_, _, Try.func77, rfl, Try.ntmps77, by kernel_rfl, ⟨fun _ => [], by kernel_rfl⟩, by kernel_rfl⟩
theorem slices_ContainsFunc_Mate_Mate_convoy_Check_1b_ok (p1 : (List Mate)) (p2 : Convoy) (r : Bool) (h : slices_ContainsFunc_Mate_Mate_convoy_Check_1b p1 p2 = some r) : PCall Try.prog 77 [(.list (List.map eMate p1)), (.fn (.func 75) [] [(.bp (eConvoy p2) 0)])] (bo r) := by
  refine l_call fn_slices_ContainsFunc_Mate_Mate_convoy_Check_1b (nl rfl) ?_
  unfold slices_ContainsFunc_Mate_Mate_convoy_Check_1b at h
  unfold ac_slices_ContainsFunc_Mate_Mate_convoy_Check_1b
  refine l_sub (s0 := ⟨T [(0, (.d _)), (1, (.d _))], G []⟩) (sbr rfl rfl) ?_
  refine lr (fun u1 hu1 => sv rfl (s_nil (lr (fun u2 hu2 => sv rfl (sv rfl (bs h fun v1 hv1 h => s_call rfl rfl all2_refl (slices_IndexFunc_Mate_Mate_convoy_Check_1b_ok _ _  _ hv1) (.inl rfl) (sv rfl (sv rfl (s_nil (l_ret ?_))))))))))
  obtain rfl := Option.some.inj h
  exact fin_ok (.inr rfl) (resD1 (res_t rfl) rf_d) (.refl _)

noncomputable def convoy_Check_l1 (p1 : Convoy) (x1 : Int) : Option (Stp Int (Sum Unit Int)) :=
  cond (decide (x1 < (p1.Mates.length : Int))) ((geti p1.Mates x1).bind fun v3 => cond ((((x1 == 0) && (v3.Ahead != 0)) || (((decide (x1 > 0)) && (v3.Until == 0)) && (v3.Ahead == 0))) || ((v3.Ward == 0) && (v3.Until != 0))) (some (.out (.inr 10))) (some (.go (w64 (x1 + 1))))) (some (.out (.inl ())))
noncomputable def convoy_Check (p1 : Convoy) : Option Int :=
  (convoy_numbers p1).bind fun v1 => cond (v1 != 0) (some v1) ((convoy_orders p1).bind fun v2 => cond (v2 != 0) (some v2) (thenS (loop (convoy_Check_l1 p1) 0) (fun _ => (slices_ContainsFunc_Mate_Mate_convoy_Check_1b p1.Mates p1).bind fun v4 => ((cond ((!v4) && (p1.Guest_.ID != 0)) (convoy_stop p1.Guest_.V) (some default))).bind fun v5 => cond (v4 || ((p1.Guest_.ID != 0) && (decide ((w64 (p1.Guest_.S + v5)) ≥ p1.Guest_.End)))) (some 12) (some 0)) (fun r => some r)))

/-- kerbstone/convoy.Check -/
def ac_convoy_Check : AC := (.seq (.reg [oo 1 (.box 38 true (.t 0)), oo 2 (.mv (ci 0))]) (.seq (.seq (.reg [oo 9 (.load 13 true (.t 1)), oo 10 (.call (cf 73) [(.t 9)]), oo 3 (.mv (.t 10))]) (.seq (.reg [oo 11 (.mv (.t 3)), oo 12 (.bin .neq (.t 11) (ci 0))]) (.cond (.t 12) (.seq (.reg [oo 13 (.mv (.t 3)), oo 2 (.mv (.t 13))]) .ret) .skip))) (.seq (.seq (.reg [oo 14 (.load 13 true (.t 1)), oo 15 (.call (cf 74) [(.t 14)]), oo 4 (.mv (.t 15))]) (.seq (.reg [oo 16 (.mv (.t 4)), oo 17 (.bin .neq (.t 16) (ci 0))]) (.cond (.t 17) (.seq (.reg [oo 18 (.mv (.t 4)), oo 2 (.mv (.t 18))]) .ret) .skip))) (.seq (.seq (.reg [oo 19 (.fieldA 2 (.t 1)), oo 20 (.load 1 false (.t 19)), oo 21 (.len (.t 20)), oo 22 (.mv (ci 0))]) (.block 0 (.loop (.seq (.reg [oo 23 (.bin .lss (.t 22) (.t 21))]) (.seq (.cond (.t 23) .skip (.exit 0)) (.seq (.block 1 (.seq (.reg [oo 24 (.mv (.t 22)), oo 25 (.idxS 12 (.t 20) (.t 22)), oo 26 (.load 12 true (.t 25)), oo 6 (.alloc 65 [z0, z0, z0, z0, z0, z0, z0, zf, z0, z0, z0, z0]), oo 5 (.mv (.t 24)), oe (.store 12 (.t 6) (.t 26))]) (.seq (.reg [oo 27 (.mv (.t 5)), oo 28 (.bin .gtr (.t 27) (ci 0)), oo 29 (.mv (.t 28)), og 30 (.fieldA 11 (.t 6)) 29, og 31 (.load 1 false (.t 30)) 29, og 32 (.bin .eql (.t 31) (ci 0)) 29, oo 33 (.pick (.t 29) (.t 32) (.c zf)), oo 34 (.mv (.t 33)), og 35 (.fieldA 4 (.t 6)) 34, og 36 (.load 1 false (.t 35)) 34, og 37 (.bin .eql (.t 36) (ci 0)) 34, oo 38 (.pick (.t 34) (.t 37) (.c zf)), oo 7 (.mv (.t 38))]) (.seq (.reg [oo 39 (.mv (.t 5)), oo 40 (.bin .eql (.t 39) (ci 0)), oo 41 (.mv (.t 40)), og 42 (.fieldA 4 (.t 6)) 41, og 43 (.load 1 false (.t 42)) 41, og 44 (.bin .neq (.t 43) (ci 0)) 41, oo 45 (.pick (.t 41) (.t 44) (.c zf)), oo 46 (.mv (.t 45)), oh 47 (.mv (.t 7)) 46, oo 48 (.pick (.t 46) (.c (.v (.bool true))) (.t 47)), oo 49 (.mv (.t 48)), oh 50 (.fieldA 8 (.t 6)) 49, oh 51 (.load 1 false (.t 50)) 49, oh 52 (.bin .eql (.t 51) (ci 0)) 49, oh 53 (.mv (.t 52)) 49, og 54 (.fieldA 11 (.t 6)) 53, og 55 (.load 1 false (.t 54)) 53, og 56 (.bin .neq (.t 55) (ci 0)) 53, oh 57 (.pick (.t 53) (.t 56) (.c zf)) 49, oo 58 (.pick (.t 49) (.c (.v (.bool true))) (.t 57))]) (.cond (.t 58) (.seq (.reg [oo 2 (.mv (ci 10))]) .ret) .skip))))) (.reg [oo 59 (.bin .add (.t 22) (ci 1)), oo 22 (.mv (.t 59))]))))))) (.seq (.reg [oo 60 (.mkfn (.func 75) [] [(.t 1)]), oo 8 (.mv (.t 60))]) (.seq (.seq (.draw [oo 61 (.fieldA 2 (.t 1)), oo 62 (.load 1 false (.t 61)), oo 63 (.mv (.t 8)), oo 64 (.call (cf 77) [(.t 62), (.t 63)]), oo 65 (.mv (.t 64)), oh 66 (.fieldA 3 (.t 1)) 65, oh 67 (.fieldA 0 (.t 66)) 65, oh 68 (.load 1 false (.t 67)) 65, oh 69 (.bin .neq (.t 68) (ci 0)) 65, oh 70 (.mv (.t 69)) 65, og 71 (.fieldA 3 (.t 1)) 70, og 72 (.fieldA 1 (.t 71)) 70, og 73 (.load 1 false (.t 72)) 70, og 74 (.fieldA 3 (.t 1)) 70, og 75 (.fieldA 2 (.t 74)) 70, og 76 (.load 1 false (.t 75)) 70, og 77 (.call (cf 62) [(.t 76)]) 70, og 78 (.bin .add (.t 73) (.t 77)) 70, og 79 (.fieldA 3 (.t 1)) 70, og 80 (.fieldA 4 (.t 79)) 70, og 81 (.load 1 false (.t 80)) 70, og 82 (.bin .geq (.t 78) (.t 81)) 70, oh 83 (.pick (.t 70) (.t 82) (.c zf)) 65, oo 84 (.pick (.t 65) (.c (.v (.bool true))) (.t 83))] []) (.cond (.t 84) (.seq (.reg [oo 2 (.mv (ci 12))]) .ret) .skip)) (.seq (.reg [oo 2 (.mv (ci 0))]) .ret)))))))
theorem fn_convoy_Check : FnOK Try.prog 32 85 [.t 2] ac_convoy_Check := ⟨_, _, Try.func32, rfl, Try.ntmps32, by kernel_rfl, ⟨fun _ => [], by kernel_rfl⟩, by kernel_rfl⟩
set_option maxHeartbeats 4000000 in
theorem convoy_Check_ok (p1 : Convoy) (r : Int) (h : convoy_Check p1 = some r) : PCall Try.prog 32 [(.agg (eConvoy p1))] (i64 r) := by
  refine l_call fn_convoy_Check (nl rfl) ?_
  unfold convoy_Check at h
  unfold ac_convoy_Check
  refine l_sub (s0 := ⟨T [(0, (.d _))], G []⟩) (sbr rfl rfl) ?_
  refine lr (fun u1 hu1 => sn rfl rfl (sv rfl (s_nil (l_seq (lr (fun u2 hu2 => sd rfl (v_loadG rfl G_hit rfl rfl) (bs h fun v1 hv1 h => s_call rfl rfl all2_refl (convoy_numbers_ok _  _ hv1) (.inl rfl) (sv rfl (s_nil (lr (fun u3 hu3 => sv rfl (sv rfl (s_nil (cc rfl h (fun c1 h => ?_) (fun c1 h => ?_)))))))))))))))
  · refine lr (fun u4 hu4 => sv rfl (sv rfl (s_nil (l_ret ?_))))
    obtain rfl := Option.some.inj h
    exact fin_ok (.inr rfl) (resD1 (res_t rfl) rf_d) (.refl _)
  · refine l_skip (l_seq (lr (fun u5 hu5 => sd rfl (v_loadG rfl G_hit rfl rfl) (bs h fun v2 hv2 h => s_call rfl rfl all2_refl (convoy_orders_ok _  _ hv2) (.inl rfl) (sv rfl (s_nil (lr (fun u6 hu6 => sv rfl (sv rfl (s_nil (cc rfl h (fun c2 h => ?_) (fun c2 h => ?_))))))))))))
    · refine lr (fun u7 hu7 => sv rfl (sv rfl (s_nil (l_ret ?_))))
      obtain rfl := Option.some.inj h
      exact fin_ok (.inr rfl) (resD1 (res_t rfl) rf_d) (.refl _)
    · refine l_skip (l_seq (lr (fun u8 hu8 => sp rfl rfl (sl rfl G_hit rfl (sd rfl (v_len rfl) (sv rfl (s_nil (js h fun z1 hz1 h => l_join (fun s => ∃ (y1 : Unit) (g1 : Unit), z1 = .inl y1 ∧ Sb ⟨T [(1, (.ptr (1, u1) 0))], G [((1, u1), some (.box 38 (dConvoy p1)))]⟩ s) ?_ ?_))))))))
      · refine l_block (l_loop (convoy_Check_l1 p1) (fun (x1 : Int) (g2 : Unit) => ⟨T [(1, (.ptr (1, u1) 0)), (20, (dl eMate p1.Mates)), (21, (di (p1.Mates.length : Int))), (22, (di x1))], G [((1, u1), some (.box 38 (dConvoy p1)))]⟩) 0 () _ hz1 (sbr rfl rfl) ?_)
        intro x1 g2 z2 hz2 ez2
        unfold convoy_Check_l1 at hz2
        refine lr (fun u9 hu9 => sv rfl (s_nil (l_seq (cc rfl hz2 (fun c3 hz2 => ?_) (fun c3 hz2 => ?_)))))
        · refine l_skip (l_seq (l_block (lr (fun u10 hu10 => sv rfl (bs hz2 fun v3 hv3 hz2 => sd rfl (v_idx rfl rfl hv3 rfl) (sd rfl (v_loadLG rfl hv3 rfl rfl) (sn rfl rfl (sv rfl (sst rfl G_hit (dMate v3) rfl (s_nil (lr (fun u11 hu11 => sv rfl (sv rfl (sv rfl (gp rfl (gw_t rfl) (fun _ => rfl) (gt rfl (vl rfl G_hit rfl) (gt rfl (vb rfl rfl rfl) (sa rfl rfl rfl (sv rfl (gp rfl (gw_t rfl) (fun _ => rfl) (gt rfl (vl rfl G_hit rfl) (gt rfl (vb rfl rfl rfl) (sa rfl rfl rfl (sv rfl (s_nil (l_seq (l_sub (s0 := ⟨T [(1, (.ptr _ _)), (5, (.d _)), (6, (.ptr _ _)), (7, (.d _)), (20, (.d _)), (21, (.d _)), (22, (.d _))], G [((1, u1), some (.box 38 _)), ((6, u10), some (.box 65 _))]⟩) (sbr rfl rfl) ?_)))))))))))))))))))))))))))
          refine l_reg fun u12 hu12 => sv rfl (sv rfl (sv rfl (gp rfl (gw_t rfl) (fun _ => rfl) (gt rfl (vl rfl (gq rfl) rfl) (gt rfl (vb rfl rfl rfl) (sa rfl rfl rfl (sv rfl (gf rfl (fun _ => rfl) (sd rfl (v_or rfl rfl (fun hc => gd_pos (not_t hc))) (sv rfl (gp rfl (gw_f rfl) (fun _ => rfl) (gf rfl (vl rfl (gq rfl) rfl) (gf rfl (vb rfl rfl rfl) (gf rfl (fun w14 => (v_mv (gd_pos w14))) (g_val _ (.ptr _ _) rfl (gw_gt rfl) (fun _ => rfl) (gv rfl (gw_gt rfl) (vl rfl (gq rfl) rfl) (gv rfl (gw_gt rfl) (vb rfl rfl rfl) (gf rfl (fun w18 => (v_and (gd_pos w18) (fun hc => gd_pos (and_i w18 hc)) rfl)) (sd rfl (v_or rfl rfl (fun hc => gd_pos (not_t hc))) (s_nil (cc rfl hz2 (fun c4 hz2 => ?_) (fun c4 hz2 => ?_))))))))))))))))))))))
          · refine l_seq (l_sub (s0 := ⟨T [], G []⟩) (sbr rfl rfl) ?_)
            refine l_reg fun u13 hu13 => sv rfl (s_nil (l_ret ?_))
            obtain rfl := Option.some.inj hz2
            obtain rfl := ez2 _ rfl
            refine ⟨nofun, awl_ret ?_⟩
            rw [Sum.elim_inr] at h
            obtain rfl := Option.some.inj h
            exact fin_ok (.inr rfl) (resD1 (res_t rfl) rf_d) (.refl _)
          · refine l_skip (l_end (l_sub (s0 := ⟨T [(1, (.ptr _ _)), (20, (.d _)), (21, (.d _)), (22, (.d _))], G [((1, u1), some (.box 38 _))]⟩) (sbr rfl rfl) ?_))
            refine l_reg fun u14 hu14 => sv rfl (sv rfl (s_nil (l_nil ?_)))
            obtain rfl := Option.some.inj hz2
            exact ⟨rfl, (), (sbr rfl rfl)⟩
        · refine l_exitN rfl ?_
          obtain rfl := Option.some.inj hz2
          obtain rfl := ez2 _ rfl
          refine ⟨nofun, awl_pop rfl (l_j ?_)⟩
          exact ⟨_, (), rfl, (sbr rfl rfl)⟩
      · rintro _ ⟨y1, g1, rfl, q1⟩
        rw [Sum.elim_inl] at h
        refine l_sub q1 (lr (fun u15 hu15 => s_val (.fn _ _ _) rfl rfl (s_val (.fn _ _ _) rfl rfl (s_nil (l_seq (l_seq (l_draw rfl fun u16 hu16 => sp rfl rfl (sl rfl G_hit rfl (s_val (.fn _ _ _) rfl rfl (bs h fun v4 hv4 h => s_call rfl (rfL_cons rf_d (rfL_cons (rf_fn rfL_nil (rfL_cons (rf_ptr G_hit (rfL_cons rf_d (rfL_cons rf_d (rfL_cons rf_d (rfL_cons rf_d (rfL_cons rf_d (rfL_cons rf_d (rfL_cons rf_d (rfL_cons rf_d (rfL_cons rf_d (rfL_cons rf_d (rfL_cons rf_d (rfL_cons rf_d (rfL_cons rf_d rfL_nil)))))))))))))) rfL_nil)) rfL_nil)) all2_refl (slices_ContainsFunc_Mate_Mate_convoy_Check_1b_ok _ _  _ hv4) (.inr rfl) (sv rfl (gp rfl (gw_f rfl) (fun _ => rfl) ?_))))))))))))
        refine g_val _ (.ptr _ _) rfl (gw_f rfl) (fun w20 => (by simp only [gd_pos w20]; rfl)) ?_
        refine gf rfl (vl rfl G_hit rfl) (gf rfl (vb rfl rfl rfl) (gf rfl (fun w23 => (v_mv (gd_pos w23))) (g_val _ (.ptr _ _) rfl (gw_gt rfl) (fun _ => rfl) ?_)))
        refine g_val _ (.ptr _ _) rfl (gw_gt rfl) (fun w25 => (by simp only [gd_pos w25]; rfl)) ?_
        refine gv rfl (gw_gt rfl) (vl rfl G_hit rfl) (g_val _ (.ptr _ _) rfl (gw_gt rfl) (fun _ => rfl) ?_)
        refine g_val _ (.ptr _ _) rfl (gw_gt rfl) (fun w28 => (by simp only [gd_pos w28]; rfl)) ?_
        refine gv rfl (gw_gt rfl) (vl rfl G_hit rfl) (bs h fun v5 hv5 h => ?_)
        refine g_call _ (i64 v5) (gw_gt rfl) (fun w30 => ⟨_, [(di p1.Guest_.V)], _, _, (by simp only [gd_pos w30]; rfl), rfl, all2_refl, convoy_stop_ok _  _ (cond_t w30 hv5), (.inl rfl)⟩) ?_
        refine gv rfl (gw_gt rfl) (fun w31 => (v_bin (gd_pos w31) (gd_pos w31) rfl)) (g_val _ (.ptr _ _) rfl (gw_gt rfl) (fun _ => rfl) ?_)
        refine g_val _ (.ptr _ _) rfl (gw_gt rfl) (fun w33 => (by simp only [gd_pos w33]; rfl)) ?_
        refine gv rfl (gw_gt rfl) (vl rfl G_hit rfl) (gv rfl (gw_gt rfl) (fun w35 => (v_bin (gd_pos w35) (gd_pos w35) rfl)) (gf rfl (fun w36 => (v_and (gd_pos w36) (fun hc => gd_pos (and_i w36 hc)) rfl)) (sd rfl (v_or rfl rfl (fun hc => gd_pos (not_t hc))) (s_nil (cc rfl h (fun c5 h => ?_) (fun c5 h => ?_))))))
        · refine l_seq (l_sub (s0 := ⟨T [], G []⟩) (sbr rfl rfl) ?_)
          refine l_reg fun u17 hu17 => sv rfl (s_nil (l_ret ?_))
          obtain rfl := Option.some.inj h
          exact fin_ok (.inr rfl) (resD1 (res_t rfl) rf_d) (.refl _)
        · refine l_skip (l_seq (l_sub (s0 := ⟨T [], G []⟩) (sbr rfl rfl) ?_))
          refine l_reg fun u18 hu18 => sv rfl (s_nil (l_ret ?_))
          obtain rfl := Option.some.inj h
          exact fin_ok (.inr rfl) (resD1 (res_t rfl) rf_d) (.refl _)

noncomputable def convoy_Step_1 (p1 : Mate) : Option Bool :=
  some (decide (p1.S > 1099511625776))

/-- kerbstone/convoy.Step$1 -/
def ac_convoy_Step_1 : AC := (.seq (.reg [oo 1 (.box 65 true (.t 0)), oo 2 (.mv (.c zf))]) (.seq (.reg [oo 3 (.fieldA 1 (.t 1)), oo 4 (.load 1 false (.t 3)), oo 5 (.bin .gtr (.t 4) (ci 1099511625776)), oo 2 (.mv (.t 5))]) .ret))
theorem fn_convoy_Step_1 : FnOK Try.prog 84 6 [.t 2] ac_convoy_Step_1 := ⟨_, _, Try.func84, rfl, Try.ntmps84, by kernel_rfl, ⟨fun _ => [], by kernel_rfl⟩, by kernel_rfl⟩
theorem convoy_Step_1_ok (p1 : Mate) (r : Bool) (h : convoy_Step_1 p1 = some r) : PCall Try.prog 84 [(.agg (eMate p1))] (bo r) := by
  refine l_call fn_convoy_Step_1 (nl rfl) ?_
  unfold convoy_Step_1 at h
  unfold ac_convoy_Step_1
  refine l_sub (s0 := ⟨T [(0, (.d _))], G []⟩) (sbr rfl rfl) ?_
  refine lr (fun u1 hu1 => sn rfl rfl (sv rfl (s_nil (lr (fun u2 hu2 => sp rfl rfl (sl rfl G_hit rfl (sv rfl (sv rfl (s_nil (l_ret ?_))))))))))
  obtain rfl := Option.some.inj h
  exact fin_ok (.inr rfl) (resD1 (res_t rfl) rf_d) (.refl _)

noncomputable def slices_IndexFunc_Mate_Mate_convoy_Step_1_l1 (p1 : (List Mate)) (x1 : Int) : Option (Stp Int (Sum Unit Int)) :=
  cond (decide (x1 < (p1.length : Int))) ((geti p1 x1).bind fun v1 => (convoy_Step_1 v1).bind fun v2 => cond v2 (some (.out (.inr x1))) (some (.go (w64 (x1 + 1))))) (some (.out (.inl ())))
noncomputable def slices_IndexFunc_Mate_Mate_convoy_Step_1 (p1 : (List Mate)) : Option Int :=
  thenS (loop (slices_IndexFunc_Mate_Mate_convoy_Step_1_l1 p1) 0) (fun _ => some (-1)) (fun r => some r)

/-- slices.IndexFunc[[]kerbstone/api.Mate,kerbstone/api.Mate] -/
def ac_slices_IndexFunc_Mate_Mate_convoy_Step_1 : AC := (.seq (.reg [oo 4 (.mv (ci 0))]) (.seq (.seq (.reg [oo 6 (.mv (.t 0)), oo 7 (.len (.t 6)), oo 8 (.mv (ci 0))]) (.block 0 (.loop (.seq (.reg [oo 9 (.bin .lss (.t 8) (.t 7))]) (.seq (.cond (.t 9) .skip (.exit 0)) (.seq (.block 1 (.seq (.reg [oo 10 (.mv (.t 8)), oo 5 (.mv (.t 10))]) (.seq (.reg [oo 11 (.mv (.t 1)), oo 12 (.mv (.t 0)), oo 13 (.mv (.t 5)), oo 14 (.idxS 12 (.t 12) (.t 13)), oo 15 (.load 12 true (.t 14)), oo 16 (.call (.t 11) [(.t 15)])]) (.cond (.t 16) (.seq (.reg [oo 17 (.mv (.t 5)), oo 4 (.mv (.t 17))]) .ret) .skip)))) (.reg [oo 18 (.bin .add (.t 8) (ci 1)), oo 8 (.mv (.t 18))]))))))) (.seq (.reg [oo 4 (.mv (ci (-1)))]) .ret)))
theorem fn_slices_IndexFunc_Mate_Mate_convoy_Step_1 : FnOK Try.prog 98 19 [.t 4] ac_slices_IndexFunc_Mate_Mate_convoy_Step_1 := ⟨_, _, Try.func98, rfl, Try.ntmps98, by kernel_rfl, ⟨fun _ => [], by kernel_rfl⟩, by kernel_rfl⟩
set_option maxHeartbeats 4000000 in
theorem slices_IndexFunc_Mate_Mate_convoy_Step_1_ok (p1 : (List Mate)) (r : Int) (h : slices_IndexFunc_Mate_Mate_convoy_Step_1 p1 = some r) : PCall Try.prog 98 [(.list (List.map eMate p1)), (.fn (.func 84) [] [])] (i64 r) := by
  refine l_call fn_slices_IndexFunc_Mate_Mate_convoy_Step_1 (nl rfl) ?_
  unfold slices_IndexFunc_Mate_Mate_convoy_Step_1 at h
  unfold ac_slices_IndexFunc_Mate_Mate_convoy_Step_1
  refine l_sub (s0 := ⟨T [(0, (.d _)), (1, (.d _))], G []⟩) (sbr rfl rfl) ?_
  refine lr (fun u1 hu1 => sv rfl (s_nil (l_seq (lr (fun u2 hu2 => sv rfl (sd rfl (v_len rfl) (sv rfl (s_nil (js h fun z1 hz1 h => l_join (fun s => ∃ (y1 : Unit) (g1 : Unit), z1 = .inl y1 ∧ Sb ⟨T [], G []⟩ s) ?_ ?_)))))))))
  · refine l_block (l_loop (slices_IndexFunc_Mate_Mate_convoy_Step_1_l1 p1) (fun (x1 : Int) (g2 : Unit) => ⟨T [(0, (dl eMate p1)), (1, (.d (.fn (.func 84) [] []))), (7, (di (p1.length : Int))), (8, (di x1))], G []⟩) 0 () _ hz1 (sbr rfl rfl) ?_)
    intro x1 g2 z2 hz2 ez2
    unfold slices_IndexFunc_Mate_Mate_convoy_Step_1_l1 at hz2
    refine lr (fun u3 hu3 => sv rfl (s_nil (l_seq (cc rfl hz2 (fun c1 hz2 => ?_) (fun c1 hz2 => ?_)))))
    · refine l_skip (l_seq (l_block (lr (fun u4 hu4 => sv rfl (sv rfl (s_nil (lr (fun u5 hu5 => sv rfl (sv rfl (sv rfl (bs hz2 fun v1 hv1 hz2 => sd rfl (v_idx rfl rfl hv1 rfl) (sd rfl (v_loadLG rfl hv1 rfl rfl) (bs hz2 fun v2 hv2 hz2 => s_call rfl rfl all2_refl (convoy_Step_1_ok _  _ hv2) (.inl rfl) (s_nil (cc rfl hz2 (fun c2 hz2 => ?_) (fun c2 hz2 => ?_))))))))))))))))
      · refine lr (fun u6 hu6 => sv rfl (sv rfl (s_nil (l_ret ?_))))
        obtain rfl := Option.some.inj hz2
        obtain rfl := ez2 _ rfl
        refine ⟨nofun, awl_ret ?_⟩
        rw [Sum.elim_inr] at h
        obtain rfl := Option.some.inj h
        exact fin_ok (.inr rfl) (resD1 (res_t rfl) rf_d) (.refl _)
      · refine l_skip (l_end (l_reg fun u7 hu7 => sv rfl (sv rfl (s_nil (l_nil ?_)))))
        obtain rfl := Option.some.inj hz2
        exact ⟨rfl, (), (sbr rfl rfl)⟩
    · refine l_exitN rfl ?_
      obtain rfl := Option.some.inj hz2
      obtain rfl := ez2 _ rfl
      refine ⟨nofun, awl_pop rfl (l_j ?_)⟩
      exact ⟨_, (), rfl, (sbr rfl rfl)⟩
  · rintro _ ⟨y1, g1, rfl, q1⟩
    rw [Sum.elim_inl] at h
    refine l_sub q1 (lr (fun u8 hu8 => sv rfl (s_nil (l_ret ?_))))
    obtain rfl := Option.some.inj h
    exact fin_ok (.inr rfl) (resD1 (res_t rfl) rf_d) (.refl _)

noncomputable def slices_ContainsFunc_Mate_Mate_convoy_Step_1 (p1 : (List Mate)) : Option Bool :=
  (slices_IndexFunc_Mate_Mate_convoy_Step_1 p1).bind fun v1 => some (decide (v1 ≥ 0))

/-- slices.ContainsFunc[[]kerbstone/api.Mate,kerbstone/api.Mate] -/
def ac_slices_ContainsFunc_Mate_Mate_convoy_Step_1 : AC := (.seq (.reg [oo 4 (.mv (.c zf))]) (.seq (.reg [oo 5 (.mv (.t 0)), oo 6 (.mv (.t 1)), oo 7 (.call (cf 98) [(.t 5), (.t 6)]), oo 8 (.bin .geq (.t 7) (ci 0)), oo 4 (.mv (.t 8))]) .ret))
theorem fn_slices_ContainsFunc_Mate_Mate_convoy_Step_1 : FnOK Try.prog 77 9 [.t 4] ac_slices_ContainsFunc_Mate_Mate_convoy_Step_1 := ⟨_, _, Try.func77, rfl, Try.ntmps77, by kernel_rfl, ⟨fun _ => [], by kernel_rfl⟩, by kernel_rfl⟩
theorem slices_ContainsFunc_Mate_Mate_convoy_Step_1_ok (p1 : (List Mate)) (r : Bool) (h : slices_ContainsFunc_Mate_Mate_convoy_Step_1 p1 = some r) : PCall Try.prog 77 [(.list (List.map eMate p1)), (.fn (.func 84) [] [])] (bo r) := by
  refine l_call fn_slices_ContainsFunc_Mate_Mate_convoy_Step_1 (nl rfl) ?_
  unfold slices_ContainsFunc_Mate_Mate_convoy_Step_1 at h
  unfold ac_slices_ContainsFunc_Mate_Mate_convoy_Step_1
  refine l_sub (s0 := ⟨T [(0, (.d _)), (1, (.d _))], G []⟩) (sbr rfl rfl) ?_
  refine lr (fun u1 hu1 => sv rfl (s_nil (lr (fun u2 hu2 => sv rfl (sv rfl (bs h fun v1 hv1 h => s_call rfl rfl all2_refl (slices_IndexFunc_Mate_Mate_convoy_Step_1_ok _  _ hv1) (.inl rfl) (sv rfl (sv rfl (s_nil (l_ret ?_))))))))))
  obtain rfl := Option.some.inj h
  exact fin_ok (.inr rfl) (resD1 (res_t rfl) rf_d) (.refl _)

noncomputable def convoy_counts (p1 : Note) (p2 : Int) : Option Bool :=
  ((cond ((((decide (p1.Kind ≥ 1)) && (decide (p1.Kind ≤ 4))) && (decide (p1.From ≥ 1))) && (decide (p1.From ≤ 99))) (convoy_within p1.Stamp (mm2 true 0 (w64 (p2 - 20))) p2) (some default))).bind fun v1 => ((cond (((((decide (p1.Kind ≥ 1)) && (decide (p1.Kind ≤ 4))) && (decide (p1.From ≥ 1))) && (decide (p1.From ≤ 99))) && v1) (convoy_fairGuess (Guess.mk p1.R p1.V)) (some default))).bind fun v2 => ((cond ((((((decide (p1.Kind ≥ 1)) && (decide (p1.Kind ≤ 4))) && (decide (p1.From ≥ 1))) && (decide (p1.From ≤ 99))) && v1) && v2) (convoy_within p1.Until 0 2199023255552) (some default))).bind fun v3 => some (((((((decide (p1.Kind ≥ 1)) && (decide (p1.Kind ≤ 4))) && (decide (p1.From ≥ 1))) && (decide (p1.From ≤ 99))) && v1) && v2) && v3)

/-- kerbstone/convoy.counts -/
def ac_convoy_counts : AC := (.seq (.reg [oo 2 (.box 68 true (.t 0)), oo 4 (.mv (.c zf))]) (.seq (.reg [oo 5 (.fieldA 0 (.t 2)), oo 6 (.load 1 false (.t 5)), oo 7 (.bin .geq (.t 6) (ci 1)), oo 8 (.mv (.t 7)), og 9 (.fieldA 0 (.t 2)) 8, og 10 (.load 1 false (.t 9)) 8, og 11 (.bin .leq (.t 10) (ci 4)) 8, oo 12 (.pick (.t 8) (.t 11) (.c zf)), oo 13 (.mv (.t 12)), og 14 (.fieldA 1 (.t 2)) 13, og 15 (.load 1 false (.t 14)) 13, og 16 (.bin .geq (.t 15) (ci 1)) 13, oo 17 (.pick (.t 13) (.t 16) (.c zf)), oo 18 (.mv (.t 17)), og 19 (.fieldA 1 (.t 2)) 18, og 20 (.load 1 false (.t 19)) 18, og 21 (.bin .leq (.t 20) (ci 99)) 18, oo 22 (.pick (.t 18) (.t 21) (.c zf)), oo 23 (.mv (.t 22)), og 24 (.fieldA 3 (.t 2)) 23, og 25 (.load 1 false (.t 24)) 23, og 26 (.mv (.t 1)) 23, og 27 (.bin .sub (.t 26) (ci 20)) 23, og 28 (.mm true (ci 0) [(.t 27)]) 23, og 29 (.mv (.t 1)) 23, og 30 (.call (cf 95) [(.t 25), (.t 28), (.t 29)]) 23, oo 31 (.pick (.t 23) (.t 30) (.c zf)), oo 32 (.mv (.t 31)), og 33 (.fieldA 4 (.t 2)) 32, og 34 (.load 1 false (.t 33)) 32, og 35 (.fieldA 5 (.t 2)) 32, og 36 (.load 1 false (.t 35)) 32, og 37 (.build [z0, z0] [(0, 1, (.t 34)), (1, 1, (.t 36))]) 32, og 38 (.call (cf 124) [(.t 37)]) 32, oo 39 (.pick (.t 32) (.t 38) (.c zf)), oo 40 (.mv (.t 39)), og 41 (.fieldA 6 (.t 2)) 40, og 42 (.load 1 false (.t 41)) 40, og 43 (.call (cf 95) [(.t 42), (ci 0), (ci 2199023255552)]) 40, oo 44 (.pick (.t 40) (.t 43) (.c zf)), oo 4 (.mv (.t 44))]) .ret))
theorem fn_convoy_counts : FnOK Try.prog 107 45 [.t 4] ac_convoy_counts := ⟨_, _, Try.func107, rfl, Try.ntmps107, by kernel_rfl, ⟨fun _ => [], by kernel_rfl⟩, by kernel_rfl⟩
theorem convoy_counts_ok (p1 : Note) (p2 : Int) (r : Bool) (h : convoy_counts p1 p2 = some r) : PCall Try.prog 107 [(.agg (eNote p1)), (i64 p2)] (bo r) := by
  refine l_call fn_convoy_counts (nl rfl) ?_
  unfold convoy_counts at h
  unfold ac_convoy_counts
  refine l_sub (s0 := ⟨T [(0, (.d _)), (1, (.d _))], G []⟩) (sbr rfl rfl) ?_
  refine lr (fun u1 hu1 => sn rfl rfl (sv rfl (s_nil (lr (fun u2 hu2 => sp rfl rfl (sl rfl G_hit rfl (sv rfl (sv rfl (gp rfl (gw_t rfl) (fun _ => rfl) (gt rfl (vl rfl G_hit rfl) (gt rfl (vb rfl rfl rfl) (sa rfl rfl rfl (sv rfl (gp rfl (gw_t rfl) (fun _ => rfl) (gt rfl (vl rfl G_hit rfl) (gt rfl (vb rfl rfl rfl) (sa rfl rfl rfl (sv rfl (gp rfl (gw_t rfl) (fun _ => rfl) (gt rfl (vl rfl G_hit rfl) (gt rfl (vb rfl rfl rfl) (sa rfl rfl rfl (sv rfl (gp rfl (gw_t rfl) (fun _ => rfl) (gt rfl (vl rfl G_hit rfl) (gt rfl (fun _ => rfl) (gt rfl (vb rfl rfl rfl) ?_)))))))))))))))))))))))))))
  refine gt rfl (fun w14 => (by simp only [gd_pos w14]; rfl)) ?_
  refine gt rfl (fun _ => rfl) (bs h fun v1 hv1 h => ?_)
  refine g_call _ (bo v1) (gw_t rfl) (fun w16 => ⟨_, [(di p1.Stamp), (di (mm2 true 0 (w64 (p2 - 20)))), (di p2)], _, _, (by simp only [gd_pos w16]; rfl), rfl, all2_refl, convoy_within_ok _ _ _  _ (cond_t w16 hv1), (.inl rfl)⟩) ?_
  refine sa rfl rfl rfl (sv rfl (gp rfl (gw_t rfl) (fun _ => rfl) (gt rfl (vl rfl G_hit rfl) (gp rfl (gw_t rfl) (fun _ => rfl) (gt rfl (vl rfl G_hit rfl) ?_)))))
  refine gt rfl (fun w21 => (by simp only [gd_pos w21]; rfl)) ?_
  refine bs h fun v2 hv2 h => ?_
  refine g_call _ (bo v2) (gw_t rfl) (fun w22 => ⟨_, [(.d (.agg [(i64 p1.R), (i64 p1.V)]))], _, _, (by simp only [gd_pos w22]; rfl), rfl, all2_refl, convoy_fairGuess_ok _  _ (cond_t w22 hv2), (.inl rfl)⟩) ?_
  refine sa rfl rfl rfl (sv rfl (gp rfl (gw_t rfl) (fun _ => rfl) (gt rfl (vl rfl G_hit rfl) (bs h fun v3 hv3 h => ?_))))
  refine g_call _ (bo v3) (gw_t rfl) (fun w25 => ⟨_, [(di p1.Until), (di 0), (di 2199023255552)], _, _, (by simp only [gd_pos w25]; rfl), rfl, all2_refl, convoy_within_ok _ _ _  _ (cond_t w25 hv3), (.inl rfl)⟩) ?_
  refine sa rfl rfl rfl (sv rfl (s_nil (l_ret ?_)))
  obtain rfl := Option.some.inj h
  exact fin_ok (.inr rfl) (resD1 (res_t rfl) rf_d) (.refl _)

noncomputable def convoy_Age_l1 (p2 : Int) (x1 : (Int × Guess)) : Option (Stp (Int × Guess) Guess) :=
  cond (decide (x1.1 < (mm2 true 0 (mm2 false p2 30)))) (some (.go ((w64 (x1.1 + 1)), (Guess.mk (w64 (x1.2.R + (mm2 true 0 (w64 (x1.2.V - 90))))) (mm2 true 0 (w64 (x1.2.V - 90))))))) (some (.out x1.2))
noncomputable def convoy_Age (p1 : Guess) (p2 : Int) : Option Guess :=
  (convoy_sane [p1.R, p1.V]).bind fun v1 => cond (!v1) (some (Guess.mk 0 0)) ((loop (convoy_Age_l1 p2) (0, p1)).bind fun y1 => some y1)

/-- kerbstone/convoy.Age -/
def ac_convoy_Age : AC := (.seq (.reg [oo 2 (.box 23 true (.t 0)), oo 4 (.alloc 23 [z0, z0])]) (.seq (.seq (.reg [oo 5 (.fieldA 0 (.t 2)), oo 6 (.load 1 false (.t 5)), oo 7 (.fieldA 1 (.t 2)), oo 8 (.load 1 false (.t 7)), oo 9 (.dslice 2 1 2 [z0] [(0, 1, (.t 6)), (1, 1, (.t 8))]), oo 10 (.call (cf 59) [(.t 9)]), oo 11 (.un .not (.t 10))]) (.cond (.t 11) (.seq (.reg [oo 12 (.build [z0, z0] []), oe (.store 2 (.t 4) (.t 12))]) .ret) .skip)) (.seq (.seq (.reg [oo 13 (.mv (.t 1)), oo 14 (.mm false (.t 13) [(ci 30)]), oo 15 (.mm true (ci 0) [(.t 14)]), oo 16 (.mv (ci 0))]) (.block 0 (.loop (.seq (.reg [oo 17 (.bin .lss (.t 16) (.t 15))]) (.seq (.cond (.t 17) .skip (.exit 0)) (.seq (.block 1 (.seq (.reg [oo 18 (.fieldA 1 (.t 2)), oo 19 (.load 1 false (.t 18)), oo 20 (.bin .sub (.t 19) (ci 90)), oo 21 (.mm true (ci 0) [(.t 20)]), oo 22 (.fieldA 1 (.t 2)), oe (.store 1 (.t 22) (.t 21))]) (.reg [oo 23 (.fieldA 0 (.t 2)), oo 24 (.load 1 false (.t 23)), oo 25 (.fieldA 1 (.t 2)), oo 26 (.load 1 false (.t 25)), oo 27 (.bin .add (.t 24) (.t 26)), oo 28 (.fieldA 0 (.t 2)), oe (.store 1 (.t 28) (.t 27))]))) (.reg [oo 29 (.bin .add (.t 16) (ci 1)), oo 16 (.mv (.t 29))]))))))) (.seq (.reg [oo 30 (.load 2 true (.t 2)), oe (.store 2 (.t 4) (.t 30))]) .ret))))
theorem fn_convoy_Age : FnOK Try.prog 15 31 [.cell 4 2 true] ac_convoy_Age := ⟨_, _, Try.func15, rfl, Try.ntmps15, by kernel_rfl, ⟨fun r => if r == 1 then [1004] else [], by kernel_rfl⟩, by kernel_rfl⟩
set_option maxHeartbeats 4000000 in
theorem convoy_Age_ok (p1 : Guess) (p2 : Int) (r : Guess) (h : convoy_Age p1 p2 = some r) : PCall Try.prog 15 [(.agg [(i64 p1.R), (i64 p1.V)]), (i64 p2)] (.agg [(i64 r.R), (i64 r.V)]) := by
  refine l_call fn_convoy_Age (nl rfl) ?_
  unfold convoy_Age at h
  unfold ac_convoy_Age
  refine l_sub (s0 := ⟨T [(0, (.d _)), (1, (.d _))], G []⟩) (sbr rfl rfl) ?_
  refine lr (fun u1 hu1 => sn rfl rfl (sn rfl rfl (s_nil (l_seq (lr (fun u2 hu2 => sp rfl rfl (sl rfl (gq rfl) rfl (sp rfl rfl (sl rfl (gq rfl) rfl (s_val (dl eInt_i64 [p1.R, p1.V]) rfl rfl (bs h fun v1 hv1 h => s_call rfl rfl all2_refl (convoy_sane_ok _  _ hv1) (.inl rfl) (s_val (.d (bo (!v1))) rfl rfl (s_nil (cc rfl h (fun c1 h => ?_) (fun c1 h => ?_)))))))))))))))
  · refine lr (fun u3 hu3 => sv rfl (sst rfl G_hit [(di 0), (di 0)] rfl (s_nil (l_ret ?_))))
    obtain rfl := Option.some.inj h
    exact fin_ok (.inr rfl) (resD1 (res_cellG rfl G_hit (nl rfl) rfl) rf_d) (.refl _)
  · refine l_skip (l_seq (lr (fun u4 hu4 => sv rfl (sv rfl (sv rfl (sv rfl (s_nil (bs h fun y1 hy1 h => l_join (fun s => ∃ g1 : Unit, Sb ⟨T [(2, (.ptr (2, u1) 0)), (4, (.ptr (4, u1) 0))], G [((2, u1), some (.box 23 [(di y1.R), (di y1.V)])), ((4, u1), some (.box 23 [(di 0), (di 0)]))]⟩ s) ?_ ?_))))))))
    · refine l_block (l_loop (convoy_Age_l1 p2) (fun (x1 : (Int × Guess)) (g2 : Unit) => ⟨T [(2, (.ptr (2, u1) 0)), (4, (.ptr (4, u1) 0)), (15, (di (mm2 true 0 (mm2 false p2 30)))), (16, (di x1.1))], G [((2, u1), some (.box 23 [(di x1.2.R), (di x1.2.V)])), ((4, u1), some (.box 23 [(di 0), (di 0)]))]⟩) (0, p1) () _ hy1 (sbr rfl rfl) ?_)
      intro x1 g2 z1 hz1 ez1
      unfold convoy_Age_l1 at hz1
      refine lr (fun u5 hu5 => sv rfl (s_nil (l_seq (cc rfl hz1 (fun c2 hz1 => ?_) (fun c2 hz1 => ?_)))))
      · refine l_skip (l_seq (l_block (lr (fun u6 hu6 => sp rfl rfl (sl rfl G_hit rfl (sv rfl (sv rfl (sp rfl rfl (sst rfl G_hit [(di x1.2.R), (di (mm2 true 0 (w64 (x1.2.V - 90))))] rfl (s_nil (l_reg fun u7 hu7 => sp rfl rfl (sl rfl G_hit rfl (sp rfl rfl (sl rfl G_hit rfl (sv rfl (sp rfl rfl (sst rfl G_hit [(di (w64 (x1.2.R + (mm2 true 0 (w64 (x1.2.V - 90)))))), (di (mm2 true 0 (w64 (x1.2.V - 90))))] rfl (s_nil (l_end (l_reg fun u8 hu8 => sv rfl (sv rfl (s_nil (l_nil ?_)))))))))))))))))))))))
        obtain rfl := Option.some.inj hz1
        exact ⟨rfl, (), (sbr rfl rfl)⟩
      · refine l_exitN rfl ?_
        obtain rfl := Option.some.inj hz1
        obtain rfl := ez1 _ rfl
        refine ⟨nofun, awl_pop rfl (l_j ?_)⟩
        exact ⟨(), (sbr rfl rfl)⟩
    · rintro _ ⟨g1, q1⟩
      refine l_sub q1 (lr (fun u9 hu9 => sd rfl (v_loadG rfl G_hit rfl rfl) (sst rfl (gq rfl) [(di y1.R), (di y1.V)] rfl (s_nil (l_ret ?_)))))
      obtain rfl := Option.some.inj h
      exact fin_ok (.inr rfl) (resD1 (res_cellG rfl G_hit (nl rfl) rfl) rf_d) (.refl _)

noncomputable def convoy_post_l1 (p1 : (List Note)) (p2 : Int) (x1 : ((List ConvoyLetter) × Int)) : Option (Stp ((List ConvoyLetter) × Int) (List ConvoyLetter)) :=
  cond (decide (x1.2 < (p1.length : Int))) ((geti p1 x1.2).bind fun v1 => (convoy_counts v1 p2).bind fun v2 => cond v2 ((convoy_Age (Guess.mk v1.R v1.V) (w64 (p2 - v1.Stamp))).bind fun v3 => (appc x1.1 [(ConvoyLetter.mk v1 v3)]).bind fun v4 => some (.go (v4, (w64 (x1.2 + 1))))) (some (.go (x1.1, (w64 (x1.2 + 1)))))) (some (.out x1.1))
noncomputable def convoy_post (p1 : (List Note)) (p2 : Int) : Option (List ConvoyLetter) :=
  (loop (convoy_post_l1 p1 p2) ([], 0)).bind fun y1 => some y1

/-- kerbstone/convoy.post -/
def ac_convoy_post : AC := (.seq (.reg [oo 4 (.mv (.c .nilS))]) (.seq (.reg [oo 5 (.mv (.c .nilS))]) (.seq (.seq (.reg [oo 8 (.mv (.t 0)), oo 9 (.len (.t 8)), oo 10 (.mv (ci 0))]) (.block 0 (.loop (.seq (.reg [oo 11 (.bin .lss (.t 10) (.t 9))]) (.seq (.cond (.t 11) .skip (.exit 0)) (.seq (.block 1 (.seq (.reg [oo 12 (.idxS 7 (.t 8) (.t 10)), oo 13 (.load 7 true (.t 12)), oo 7 (.alloc 68 [z0, z0, z0, z0, z0, z0, z0]), oe (.store 7 (.t 7) (.t 13))]) (.seq (.reg [oo 14 (.load 7 true (.t 7)), oo 15 (.mv (.t 1)), oo 16 (.call (cf 107) [(.t 14), (.t 15)])]) (.cond (.t 16) (.draw [oo 17 (.mv (.t 5)), oo 18 (.load 7 true (.t 7)), oo 19 (.fieldA 4 (.t 7)), oo 20 (.load 1 false (.t 19)), oo 21 (.fieldA 5 (.t 7)), oo 22 (.load 1 false (.t 21)), oo 23 (.build [z0, z0] [(0, 1, (.t 20)), (1, 1, (.t 22))]), oo 24 (.mv (.t 1)), oo 25 (.fieldA 3 (.t 7)), oo 26 (.load 1 false (.t 25)), oo 27 (.bin .sub (.t 24) (.t 26)), oo 28 (.call (cf 15) [(.t 23), (.t 27)]), oo 29 (.build [z0, z0, z0, z0, z0, z0, z0, z0, z0] [(0, 7, (.t 18)), (7, 2, (.t 28))]), oo 30 (.dslice 125 9 1 [z0, z0, z0, z0, z0, z0, z0, z0, z0] [(0, 9, (.t 29))]), oo 31 (.append 103 125 9 (.t 17) (.t 30)), oo 5 (.mv (.t 31))] []) .skip)))) (.reg [oo 32 (.bin .add (.t 10) (ci 1)), oo 10 (.mv (.t 32))]))))))) (.seq (.reg [oo 33 (.mv (.t 5)), oo 4 (.mv (.t 33))]) .ret))))
theorem fn_convoy_post : FnOK Try.prog 86 34 [.t 4] ac_convoy_post := ⟨_, _, Try.func86, rfl, Try.ntmps86, by kernel_rfl, ⟨fun r => if r == 6 then [1013] else [], by kernel_rfl⟩, by kernel_rfl⟩
set_option maxHeartbeats 4000000 in
theorem convoy_post_ok (p1 : (List Note)) (p2 : Int) (r : (List ConvoyLetter)) (h : convoy_post p1 p2 = some r) : PCall Try.prog 86 [(.list (List.map eNote p1)), (i64 p2)] (.list (List.map eConvoyLetter r)) := by
  refine l_call fn_convoy_post (nl rfl) ?_
  unfold convoy_post at h
  unfold ac_convoy_post
  refine l_sub (s0 := ⟨T [(0, (.d _)), (1, (.d _))], G []⟩) (sbr rfl rfl) ?_
  refine lr (fun u1 hu1 => sv rfl (s_nil (lr (fun u2 hu2 => sv rfl (s_nil (l_seq (lr (fun u3 hu3 => sv rfl (sd rfl (v_len rfl) (sv rfl (s_nil (bs h fun y1 hy1 h => l_join (fun s => ∃ g1 : Nat, Sb ⟨T [(5, (oS y1 (31, g1)))], G [((31, g1), oB 125 9 eConvoyLetter y1)]⟩ s) ?_ ?_))))))))))))
  · refine l_block (l_loop (convoy_post_l1 p1 p2) (fun (x1 : ((List ConvoyLetter) × Int)) (g2 : Nat) => ⟨T [(1, (di p2)), (5, (oS x1.1 (31, g2))), (8, (dl eNote p1)), (9, (di (p1.length : Int))), (10, (di x1.2))], G [((31, g2), oB 125 9 eConvoyLetter x1.1)]⟩) ([], 0) 0 _ hy1 (sb_of ⟨.of rfl, .of rfl, .of rfl, .of rfl, .of rfl, trivial⟩ (sbG_nil trivial)) ?_)
    intro x1 g2 z1 hz1 ez1
    unfold convoy_post_l1 at hz1
    refine lr (fun u4 hu4 => sv rfl (s_nil (l_seq (cc rfl hz1 (fun c1 hz1 => ?_) (fun c1 hz1 => ?_)))))
    · refine l_skip (l_seq (l_block (lr (fun u5 hu5 => bs hz1 fun v1 hv1 hz1 => sd rfl (v_idx rfl rfl hv1 rfl) (sd rfl (v_loadLG rfl hv1 rfl rfl) (sn rfl rfl (sst rfl G_hit (dNote v1) rfl (s_nil (lr (fun u6 hu6 => sd rfl (v_loadG rfl G_hit rfl rfl) (sv rfl (bs hz1 fun v2 hv2 hz1 => s_call rfl rfl all2_refl (convoy_counts_ok _ _  _ hv2) (.inl rfl) (s_nil (cc rfl hz1 (fun c2 hz1 => ?_) (fun c2 hz1 => ?_)))))))))))))))
      · refine l_draw rfl fun u7 hu7 => s_val (oS x1.1 (31, g2)) rfl rfl (sd rfl (v_loadG rfl G_hit rfl rfl) (sp rfl rfl (sl rfl G_hit rfl (sp rfl rfl (sl rfl G_hit rfl (sv rfl (sv rfl (sp rfl rfl (sl rfl G_hit rfl (sv rfl (bs hz1 fun v3 hv3 hz1 => s_call rfl rfl all2_refl (convoy_Age_ok _ _  _ hv3) (.inl rfl) (sv rfl (s_val (dl eConvoyLetter [(ConvoyLetter.mk v1 v3)]) rfl (v_dsliceN eConvoyLetter ([(ConvoyLetter.mk v1 v3)] : List ConvoyLetter) (fun _ => rfl) rfl rfl ⟨rfl, rfl, rfl, trivial⟩) (bs hz1 fun v4 hv4 hz1 => s_appendO eConvoyLetter (31, g2) x1.1 (ConvoyLetter.mk v1 v3) [] _ (elems_list (fun _ => rfl)) rfl (gq rfl) hv4 (ss rfl (s_nil (l_end (l_sub (s0 := ⟨T [(1, (.d _)), (5, (.sl _)), (8, (.d _)), (9, (.d _)), (10, (.d _))], G [((31, u7), some _)]⟩) (sbr rfl rfl) ?_))))))))))))))))))
        refine l_reg fun u8 hu8 => sv rfl (sv rfl (s_nil (l_nil ?_)))
        obtain rfl := Option.some.inj hz1
        exact ⟨rfl, u7, (sb_of ⟨.of rfl, (.of (oS_ne (appc_ne hv4)).symm), .of rfl, .of rfl, .of rfl, trivial⟩ (sbG_own G_hit trivial))⟩
      · refine l_skip (l_end (l_reg fun u9 hu9 => sv rfl (sv rfl (s_nil (l_nil ?_)))))
        obtain rfl := Option.some.inj hz1
        exact ⟨rfl, g2, (sb_of ⟨.of rfl, .of rfl, .of rfl, .of rfl, .of rfl, trivial⟩ (sbG_oB (gq rfl) trivial))⟩
    · refine l_exitN rfl ?_
      obtain rfl := Option.some.inj hz1
      obtain rfl := ez1 _ rfl
      refine ⟨nofun, awl_pop rfl (l_j ?_)⟩
      exact ⟨g2, (sb_of ⟨.of rfl, trivial⟩ (sbG_oB G_hit trivial))⟩
  · rintro _ ⟨g1, q1⟩
    refine l_sub q1 (lr (fun u10 hu10 => s_val (oS y1 (31, g1)) rfl rfl (s_val (oS y1 (31, g1)) rfl rfl (s_nil (l_ret ?_)))))
    obtain rfl := Option.some.inj h
    exact fin_ok (.inr rfl) (resD1 (res_t rfl) (rf_oS G_hit)) oD_le

noncomputable def convoy_look_1_b (p1 : Sight) (p2 : Int) : Option Bool :=
  some (((((((p1.By == p2) && (decide (p1.Lo ≤ p1.Hi))) && (decide (p1.VLo ≤ p1.VHi))) && (decide (p1.Lo ≥ (-20000)))) && (decide (p1.Hi ≤ 2199023255552))) && (decide (p1.VLo ≥ 0))) && (decide (p1.VHi ≤ 2000)))

/-- kerbstone/convoy.look$1 -/
def ac_convoy_look_1_b : AC := (.seq (.reg [oo 2 (.box 42 true (.t 0)), oo 3 (.mv (.c zf))]) (.seq (.reg [oo 4 (.fieldA 0 (.t 2)), oo 5 (.load 1 false (.t 4)), oo 6 (.load 1 false (.t 1)), oo 7 (.bin .eql (.t 5) (.t 6)), oo 8 (.mv (.t 7)), og 9 (.fieldA 1 (.t 2)) 8, og 10 (.load 1 false (.t 9)) 8, og 11 (.fieldA 2 (.t 2)) 8, og 12 (.load 1 false (.t 11)) 8, og 13 (.bin .leq (.t 10) (.t 12)) 8, oo 14 (.pick (.t 8) (.t 13) (.c zf)), oo 15 (.mv (.t 14)), og 16 (.fieldA 3 (.t 2)) 15, og 17 (.load 1 false (.t 16)) 15, og 18 (.fieldA 4 (.t 2)) 15, og 19 (.load 1 false (.t 18)) 15, og 20 (.bin .leq (.t 17) (.t 19)) 15, oo 21 (.pick (.t 15) (.t 20) (.c zf)), oo 22 (.mv (.t 21)), og 23 (.fieldA 1 (.t 2)) 22, og 24 (.load 1 false (.t 23)) 22, og 25 (.bin .geq (.t 24) (ci (-20000))) 22, oo 26 (.pick (.t 22) (.t 25) (.c zf)), oo 27 (.mv (.t 26)), og 28 (.fieldA 2 (.t 2)) 27, og 29 (.load 1 false (.t 28)) 27, og 30 (.bin .leq (.t 29) (ci 2199023255552)) 27, oo 31 (.pick (.t 27) (.t 30) (.c zf)), oo 32 (.mv (.t 31)), og 33 (.fieldA 3 (.t 2)) 32, og 34 (.load 1 false (.t 33)) 32, og 35 (.bin .geq (.t 34) (ci 0)) 32, oo 36 (.pick (.t 32) (.t 35) (.c zf)), oo 37 (.mv (.t 36)), og 38 (.fieldA 4 (.t 2)) 37, og 39 (.load 1 false (.t 38)) 37, og 40 (.bin .leq (.t 39) (ci 2000)) 37, oo 41 (.pick (.t 37) (.t 40) (.c zf)), oo 3 (.mv (.t 41))]) .ret))
theorem fn_convoy_look_1_b : FnOK Try.prog 109 42 [.t 3] ac_convoy_look_1_b := ⟨_, _, Try.func109, rfl, Try.ntmps109, by kernel_rfl, ⟨fun _ => [], by kernel_rfl⟩, by kernel_rfl⟩
theorem convoy_look_1_b_ok (p1 : Sight) (p2 : Int) (r : Bool) (h : convoy_look_1_b p1 p2 = some r) : PCall Try.prog 109 [(.agg (eSight p1)), (.bp [(i64 p2)] 0)] (bo r) := by
  refine l_call fn_convoy_look_1_b (nl rfl) ?_
  unfold convoy_look_1_b at h
  unfold ac_convoy_look_1_b
  refine l_sub (s0 := ⟨T [(0, (.d _)), (1, (.d _))], G []⟩) (sbr rfl rfl) ?_
  refine lr (fun u1 hu1 => sn rfl rfl (sv rfl (s_nil (lr (fun u2 hu2 => sp rfl rfl (sl rfl G_hit rfl (sv rfl (sv rfl (sv rfl (gp rfl (gw_t rfl) (fun _ => rfl) (gt rfl (vl rfl G_hit rfl) (gp rfl (gw_t rfl) (fun _ => rfl) (gt rfl (vl rfl G_hit rfl) (gt rfl (fun w5 => (v_bin (gd_pos w5) (gd_pos w5) rfl)) (sa rfl rfl rfl (sv rfl (gp rfl (gw_t rfl) (fun _ => rfl) (gt rfl (vl rfl G_hit rfl) (gp rfl (gw_t rfl) (fun _ => rfl) (gt rfl (vl rfl G_hit rfl) (gt rfl (fun w10 => (v_bin (gd_pos w10) (gd_pos w10) rfl)) (sa rfl rfl rfl (sv rfl (gp rfl (gw_t rfl) (fun _ => rfl) (gt rfl (vl rfl G_hit rfl) (gt rfl (vb rfl rfl rfl) (sa rfl rfl rfl (sv rfl (gp rfl (gw_t rfl) (fun _ => rfl) (gt rfl (vl rfl G_hit rfl) (gt rfl (vb rfl rfl rfl) (sa rfl rfl rfl (sv rfl (gp rfl (gw_t rfl) (fun _ => rfl) (gt rfl (vl rfl G_hit rfl) (gt rfl (vb rfl rfl rfl) (sa rfl rfl rfl (sv rfl (gp rfl (gw_t rfl) (fun _ => rfl) (gt rfl (vl rfl G_hit rfl) (gt rfl (vb rfl rfl rfl) (sa rfl rfl rfl (sv rfl (s_nil (l_ret ?_)))))))))))))))))))))))))))))))))))))))))))))
  obtain rfl := Option.some.inj h
  exact fin_ok (.inr rfl) (resD1 (res_t rfl) rf_d) (.refl _)

noncomputable def slices_IndexFunc_Sight_Sight_convoy_look_1b_l1 (p1 : (List Sight)) (p2 : Int) (x1 : Int) : Option (Stp Int (Sum Unit Int)) :=
  cond (decide (x1 < (p1.length : Int))) ((geti p1 x1).bind fun v1 => (convoy_look_1_b v1 p2).bind fun v2 => cond v2 (some (.out (.inr x1))) (some (.go (w64 (x1 + 1))))) (some (.out (.inl ())))
noncomputable def slices_IndexFunc_Sight_Sight_convoy_look_1b (p1 : (List Sight)) (p2 : Int) : Option Int :=
  thenS (loop (slices_IndexFunc_Sight_Sight_convoy_look_1b_l1 p1 p2) 0) (fun _ => some (-1)) (fun r => some r)

/-- slices.IndexFunc[[]kerbstone/api.Sight,kerbstone/api.Sight] -/
def ac_slices_IndexFunc_Sight_Sight_convoy_look_1b : AC := (.seq (.reg [oo 4 (.mv (ci 0))]) (.seq (.seq (.reg [oo 6 (.mv (.t 0)), oo 7 (.len (.t 6)), oo 8 (.mv (ci 0))]) (.block 0 (.loop (.seq (.reg [oo 9 (.bin .lss (.t 8) (.t 7))]) (.seq (.cond (.t 9) .skip (.exit 0)) (.seq (.block 1 (.seq (.reg [oo 10 (.mv (.t 8)), oo 5 (.mv (.t 10))]) (.seq (.reg [oo 11 (.mv (.t 1)), oo 12 (.mv (.t 0)), oo 13 (.mv (.t 5)), oo 14 (.idxS 5 (.t 12) (.t 13)), oo 15 (.load 5 true (.t 14)), oo 16 (.call (.t 11) [(.t 15)])]) (.cond (.t 16) (.seq (.reg [oo 17 (.mv (.t 5)), oo 4 (.mv (.t 17))]) .ret) .skip)))) (.reg [oo 18 (.bin .add (.t 8) (ci 1)), oo 8 (.mv (.t 18))]))))))) (.seq (.reg [oo 4 (.mv (ci (-1)))]) .ret)))
theorem fn_slices_IndexFunc_Sight_Sight_convoy_look_1b : FnOK Try.prog 108 19 [.t 4] ac_slices_IndexFunc_Sight_Sight_convoy_look_1b := ⟨_, _, Try.func108, rfl, Try.ntmps108, by kernel_rfl, ⟨fun _ => [], by kernel_rfl⟩, by kernel_rfl⟩
set_option maxHeartbeats 4000000 in
theorem slices_IndexFunc_Sight_Sight_convoy_look_1b_ok (p1 : (List Sight)) (p2 : Int) (r : Int) (h : slices_IndexFunc_Sight_Sight_convoy_look_1b p1 p2 = some r) : PCall Try.prog 108 [(.list (List.map eSight p1)), (.fn (.func 109) [] [(.bp [(i64 p2)] 0)])] (i64 r) := by
  refine l_call fn_slices_IndexFunc_Sight_Sight_convoy_look_1b (nl rfl) ?_
  unfold slices_IndexFunc_Sight_Sight_convoy_look_1b at h
  unfold ac_slices_IndexFunc_Sight_Sight_convoy_look_1b
  refine l_sub (s0 := ⟨T [(0, (.d _)), (1, (.d _))], G []⟩) (sbr rfl rfl) ?_
  refine lr (fun u1 hu1 => sv rfl (s_nil (l_seq (lr (fun u2 hu2 => sv rfl (sd rfl (v_len rfl) (sv rfl (s_nil (js h fun z1 hz1 h => l_join (fun s => ∃ (y1 : Unit) (g1 : Unit), z1 = .inl y1 ∧ Sb ⟨T [], G []⟩ s) ?_ ?_)))))))))
  · refine l_block (l_loop (slices_IndexFunc_Sight_Sight_convoy_look_1b_l1 p1 p2) (fun (x1 : Int) (g2 : Unit) => ⟨T [(0, (dl eSight p1)), (1, (.d (.fn (.func 109) [] [(.bp [(i64 p2)] 0)]))), (7, (di (p1.length : Int))), (8, (di x1))], G []⟩) 0 () _ hz1 (sbr rfl rfl) ?_)
    intro x1 g2 z2 hz2 ez2
    unfold slices_IndexFunc_Sight_Sight_convoy_look_1b_l1 at hz2
    refine lr (fun u3 hu3 => sv rfl (s_nil (l_seq (cc rfl hz2 (fun c1 hz2 => ?_) (fun c1 hz2 => ?_)))))
    · refine l_skip (l_seq (l_block (lr (fun u4 hu4 => sv rfl (sv rfl (s_nil (lr (fun u5 hu5 => sv rfl (sv rfl (sv rfl (bs hz2 fun v1 hv1 hz2 => sd rfl (v_idx rfl rfl hv1 rfl) (sd rfl (v_loadLG rfl hv1 rfl rfl) (bs hz2 fun v2 hv2 hz2 => s_call rfl rfl all2_refl (convoy_look_1_b_ok _ _  _ hv2) (.inl rfl) (s_nil (cc rfl hz2 (fun c2 hz2 => ?_) (fun c2 hz2 => ?_))))))))))))))))
      · refine lr (fun u6 hu6 => sv rfl (sv rfl (s_nil (l_ret ?_))))
        obtain rfl := Option.some.inj hz2
        obtain rfl := ez2 _ rfl
        refine ⟨nofun, awl_ret ?_⟩
        rw [Sum.elim_inr] at h
        obtain rfl := Option.some.inj h
        exact fin_ok (.inr rfl) (resD1 (res_t rfl) rf_d) (.refl _)
      · refine l_skip (l_end (l_reg fun u7 hu7 => sv rfl (sv rfl (s_nil (l_nil ?_)))))
        obtain rfl := Option.some.inj hz2
        exact ⟨rfl, (), (sbr rfl rfl)⟩
    · refine l_exitN rfl ?_
      obtain rfl := Option.some.inj hz2
      obtain rfl := ez2 _ rfl
      refine ⟨nofun, awl_pop rfl (l_j ?_)⟩
      exact ⟨_, (), rfl, (sbr rfl rfl)⟩
  · rintro _ ⟨y1, g1, rfl, q1⟩
    rw [Sum.elim_inl] at h
    refine l_sub q1 (lr (fun u8 hu8 => sv rfl (s_nil (l_ret ?_))))
    obtain rfl := Option.some.inj h
    exact fin_ok (.inr rfl) (resD1 (res_t rfl) rf_d) (.refl _)

noncomputable def convoy_look (p1 : (List Sight)) (p2 : Int) : Option (Sight × Bool) :=
  (slices_IndexFunc_Sight_Sight_convoy_look_1b p1 p2).bind fun v1 => cond (decide (v1 < 0)) (some ((Sight.mk 0 0 0 0 0), false)) ((geti p1 v1).bind fun v2 => some (v2, true))

/-- kerbstone/convoy.look -/
def ac_convoy_look : AC := (.seq (.reg [oo 3 (.box 3 false (.t 1)), oo 4 (.alloc 42 [z0, z0, z0, z0, z0]), oo 5 (.mv (.c zf))]) (.seq (.reg [oo 7 (.mv (.t 0)), oo 8 (.mkfn (.func 109) [] [(.t 3)]), oo 9 (.call (cf 108) [(.t 7), (.t 8)]), oo 6 (.mv (.t 9))]) (.seq (.seq (.reg [oo 10 (.mv (.t 6)), oo 11 (.bin .lss (.t 10) (ci 0))]) (.cond (.t 11) (.seq (.reg [oo 12 (.build [z0, z0, z0, z0, z0] []), oe (.store 5 (.t 4) (.t 12)), oo 5 (.mv (.c zf))]) .ret) .skip)) (.seq (.reg [oo 13 (.mv (.t 0)), oo 14 (.mv (.t 6)), oo 15 (.idxS 5 (.t 13) (.t 14)), oo 16 (.load 5 true (.t 15)), oe (.store 5 (.t 4) (.t 16)), oo 5 (.mv (.c (.v (.bool true))))]) .ret))))
theorem fn_convoy_look : FnOK Try.prog 87 17 [.cell 4 5 true, .t 5] ac_convoy_look := ⟨_, _, Try.func87, rfl, Try.ntmps87, by kernel_rfl, ⟨fun _ => [], by kernel_rfl⟩, by kernel_rfl⟩
theorem convoy_look_ok (p1 : (List Sight)) (p2 : Int) (r : (Sight × Bool)) (h : convoy_look p1 p2 = some r) : PCall Try.prog 87 [(.list (List.map eSight p1)), (i64 p2)] (.tup [(.agg (eSight r.1)), (bo r.2)]) := by
  refine l_call fn_convoy_look (nl rfl) ?_
  unfold convoy_look at h
  unfold ac_convoy_look
  refine l_sub (s0 := ⟨T [(0, (.d _)), (1, (.d _))], G []⟩) (sbr rfl rfl) ?_
  refine lr (fun u1 hu1 => sn rfl rfl (sn rfl rfl (sv rfl (s_nil (lr (fun u2 hu2 => sv rfl (s_val (.fn _ _ _) rfl rfl (bs h fun v1 hv1 h => s_call rfl (rfL_cons rf_d (rfL_cons (rf_fn rfL_nil (rfL_cons (rf_ptr (gq rfl) (rfL_cons rf_d rfL_nil)) rfL_nil)) rfL_nil)) all2_refl (slices_IndexFunc_Sight_Sight_convoy_look_1b_ok _ _  _ hv1) (.inr rfl) (sv rfl (s_nil (l_seq (lr (fun u3 hu3 => sv rfl (sv rfl (s_nil (cc rfl h (fun c1 h => ?_) (fun c1 h => ?_)))))))))))))))))
  · refine lr (fun u4 hu4 => sv rfl (sst rfl G_hit [(di 0), (di 0), (di 0), (di 0), (di 0)] rfl (sv rfl (s_nil (l_ret ?_)))))
    obtain rfl := Option.some.inj h
    exact fin_ok (.inr rfl) (resD2 (res_cellG rfl G_hit (nl rfl) rfl) (res_t rfl) rf_d rf_d) (.refl _)
  · refine l_skip (lr (fun u5 hu5 => sv rfl (sv rfl (bs h fun v2 hv2 h => sd rfl (v_idx rfl rfl hv2 rfl) (sd rfl (v_loadLG rfl hv2 rfl rfl) (sst rfl G_hit (dSight v2) rfl (sv rfl (s_nil (l_ret ?_)))))))))
    obtain rfl := Option.some.inj h
    exact fin_ok (.inr rfl) (resD2 (res_cellG rfl G_hit (nl rfl) rfl) (res_t rfl) rf_d rf_d) (.refl _)

noncomputable def convoy_hears (p1 : Int) : Option Nat :=
  (getf [none, some 127, some 128, some 129, some 130] p1).bind fun v1 => some v1

/-- kerbstone/convoy.hears -/
def ac_convoy_hears : AC := (.seq (.reg [oo 2 (.mv (.c (.v .nilFunc)))]) (.seq (.reg [oo 3 (.build [(.v .nilFunc), (.v .nilFunc), (.v .nilFunc), (.v .nilFunc), (.v .nilFunc)] [(1, 1, (cf 127)), (2, 1, (cf 128)), (3, 1, (cf 129)), (4, 1, (cf 130))]), oo 4 (.mv (.t 0)), oo 5 (.idxA 5 1 false (.t 3) (.t 4)), oo 2 (.mv (.t 5))]) .ret))
theorem fn_convoy_hears : FnOK Try.prog 110 6 [.t 2] ac_convoy_hears := ⟨_, _, Try.func110, rfl, Try.ntmps110, by kernel_rfl, ⟨fun _ => [], by kernel_rfl⟩, by kernel_rfl⟩
theorem convoy_hears_ok (p1 : Int) (r : Nat) (h : convoy_hears p1 = some r) : PCall Try.prog 110 [(i64 p1)] (.fn (.func r) [] []) := by
  refine l_call fn_convoy_hears (nl rfl) ?_
  unfold convoy_hears at h
  unfold ac_convoy_hears
  refine l_sub (s0 := ⟨T [(0, (.d _))], G []⟩) (sbr rfl rfl) ?_
  refine lr (fun u1 hu1 => sv rfl (s_nil (lr (fun u2 hu2 => sv rfl (sv rfl (bs h fun v1 hv1 h => sd rfl (v_idxF (fs := [none, some 127, some 128, some 129, some 130]) rfl rfl rfl hv1) (sv rfl (s_nil (l_ret ?_)))))))))
  obtain rfl := Option.some.inj h
  exact fin_ok (.inr rfl) (resD1 (res_t rfl) rf_d) (.refl _)

noncomputable def convoy_Better (p1 : Guess) (p2 : Guess) : Option Guess :=
  (convoy_sane [p1.R, p1.V, p2.R, p2.V]).bind fun v1 => cond (!v1) (some (Guess.mk 0 0)) (((cond (decide (p2.R ≥ p1.R)) (convoy_end p2) (some default))).bind fun v2 => ((cond (decide (p2.R ≥ p1.R)) (convoy_end p1) (some default))).bind fun v3 => cond ((decide (p2.R ≥ p1.R)) && (decide (v2 ≥ v3))) (some p2) (some p1))

/-- kerbstone/convoy.Better -/
def ac_convoy_Better : AC := (.seq (.reg [oo 2 (.box 23 true (.t 0)), oo 3 (.box 23 true (.t 1)), oo 4 (.alloc 23 [z0, z0])]) (.seq (.block 0 (.seq (.reg [oo 6 (.fieldA 0 (.t 2)), oo 7 (.load 1 false (.t 6)), oo 8 (.fieldA 1 (.t 2)), oo 9 (.load 1 false (.t 8)), oo 10 (.fieldA 0 (.t 3)), oo 11 (.load 1 false (.t 10)), oo 12 (.fieldA 1 (.t 3)), oo 13 (.load 1 false (.t 12)), oo 14 (.dslice 2 1 4 [z0] [(0, 1, (.t 7)), (1, 1, (.t 9)), (2, 1, (.t 11)), (3, 1, (.t 13))]), oo 15 (.call (cf 59) [(.t 14)]), oo 16 (.un .not (.t 15)), oo 5 (.mv (.t 16))]) (.cond (.t 5) (.seq (.reg [oo 17 (.build [z0, z0] []), oe (.store 2 (.t 4) (.t 17))]) .ret) (.seq (.draw [oo 19 (.fieldA 0 (.t 3)), oo 20 (.load 1 false (.t 19)), oo 21 (.fieldA 0 (.t 2)), oo 22 (.load 1 false (.t 21)), oo 23 (.bin .geq (.t 20) (.t 22)), oo 24 (.mv (.t 23)), og 25 (.load 2 true (.t 3)) 24, og 26 (.call (cf 61) [(.t 25)]) 24, og 27 (.load 2 true (.t 2)) 24, og 28 (.call (cf 61) [(.t 27)]) 24, og 29 (.bin .geq (.t 26) (.t 28)) 24, oo 30 (.pick (.t 24) (.t 29) (.c zf)), oo 18 (.mv (.t 30))] []) (.cond (.t 18) (.seq (.reg [oo 31 (.load 2 true (.t 3)), oe (.store 2 (.t 4) (.t 31))]) .ret) .skip))))) (.seq (.reg [oo 32 (.load 2 true (.t 2)), oe (.store 2 (.t 4) (.t 32))]) .ret)))
theorem fn_convoy_Better : FnOK Try.prog 19 33 [.cell 4 2 true] ac_convoy_Better := ⟨_, _, Try.func19, rfl, Try.ntmps19, by kernel_rfl, ⟨fun r => if r == 1 then [1008] else [], by kernel_rfl⟩, by kernel_rfl⟩
set_option maxHeartbeats 4000000 in
theorem convoy_Better_ok (p1 : Guess) (p2 : Guess) (r : Guess) (h : convoy_Better p1 p2 = some r) : PCall Try.prog 19 [(.agg [(i64 p1.R), (i64 p1.V)]), (.agg [(i64 p2.R), (i64 p2.V)])] (.agg [(i64 r.R), (i64 r.V)]) := by
  refine l_call fn_convoy_Better (nl rfl) ?_
  unfold convoy_Better at h
  unfold ac_convoy_Better
  refine l_sub (s0 := ⟨T [(0, (.d _)), (1, (.d _))], G []⟩) (sbr rfl rfl) ?_
  refine lr (fun u1 hu1 => sn rfl rfl (sn rfl rfl (sn rfl rfl (s_nil (l_seq (l_block (lr (fun u2 hu2 => sp rfl rfl (sl rfl (gq rfl) rfl (sp rfl rfl (sl rfl (gq rfl) rfl (sp rfl rfl (sl rfl (gq rfl) rfl (sp rfl rfl (sl rfl (gq rfl) rfl (s_val (dl eInt_i64 [p1.R, p1.V, p2.R, p2.V]) rfl rfl (bs h fun v1 hv1 h => s_call rfl rfl all2_refl (convoy_sane_ok _  _ hv1) (.inl rfl) (s_val (.d (bo (!v1))) rfl rfl (sv rfl (s_nil (cc rfl h (fun c1 h => ?_) (fun c1 h => ?_))))))))))))))))))))))
  · refine lr (fun u3 hu3 => sv rfl (sst rfl G_hit [(di 0), (di 0)] rfl (s_nil (l_ret ?_))))
    obtain rfl := Option.some.inj h
    exact fin_ok (.inr rfl) (resD1 (res_cellG rfl G_hit (nl rfl) rfl) rf_d) (.refl _)
  · refine l_seq (l_draw rfl fun u4 hu4 => sp rfl rfl (sl rfl (gq rfl) rfl (sp rfl rfl (sl rfl (gq rfl) rfl (sv rfl (sv rfl (gt rfl (fun w1 => (v_loadG rfl (gq rfl) rfl rfl)) (bs h fun v2 hv2 h => ?_))))))))
    refine g_call _ (i64 v2) (gw_t rfl) (fun w2 => ⟨_, [(.d (.agg [(i64 p2.R), (i64 p2.V)]))], _, _, (by simp only [gd_pos w2]; rfl), rfl, all2_refl, convoy_end_ok _  _ (cond_t w2 hv2), (.inl rfl)⟩) ?_
    refine gt rfl (fun w3 => (v_loadG rfl (gq rfl) rfl rfl)) (bs h fun v3 hv3 h => ?_)
    refine g_call _ (i64 v3) (gw_t rfl) (fun w4 => ⟨_, [(.d (.agg [(i64 p1.R), (i64 p1.V)]))], _, _, (by simp only [gd_pos w4]; rfl), rfl, all2_refl, convoy_end_ok _  _ (cond_t w4 hv3), (.inl rfl)⟩) ?_
    refine gt rfl (fun w5 => (v_bin (gd_pos w5) (gd_pos w5) rfl)) (sa rfl rfl rfl (sv rfl (s_nil (cc rfl h (fun c2 h => ?_) (fun c2 h => ?_)))))
    · refine l_seq (l_sub (s0 := ⟨T [(3, (.ptr _ _)), (4, (.ptr _ _))], G [((3, u1), some (.box 23 _)), ((4, u1), some (.box 23 _))]⟩) (sbr rfl rfl) ?_)
      refine l_reg fun u5 hu5 => sd rfl (v_loadG rfl G_hit rfl rfl) (sst rfl (gq rfl) [(di p2.R), (di p2.V)] rfl (s_nil (l_ret ?_)))
      obtain rfl := Option.some.inj h
      exact fin_ok (.inr rfl) (resD1 (res_cellG rfl G_hit (nl rfl) rfl) rf_d) (.refl _)
    · refine l_skip (l_end (l_seq (l_sub (s0 := ⟨T [(2, (.ptr _ _)), (4, (.ptr _ _))], G [((2, u1), some (.box 23 _)), ((4, u1), some (.box 23 _))]⟩) (sbr rfl rfl) ?_)))
      refine l_reg fun u6 hu6 => sd rfl (v_loadG rfl G_hit rfl rfl) (sst rfl (gq rfl) [(di p1.R), (di p1.V)] rfl (s_nil (l_ret ?_)))
      obtain rfl := Option.some.inj h
      exact fin_ok (.inr rfl) (resD1 (res_cellG rfl G_hit (nl rfl) rfl) rf_d) (.refl _)

noncomputable def convoy_mind_hail_oa (p1 : ConvoyMind) (p2 : ConvoyLetter) : Option ConvoyMind :=
  (cond ((p1.Mate_.Until != 0) && (p2.Note_.From == p1.Mate_.Ward)) ((convoy_Better p1.Mate_.WardGuess p2.guess).bind fun v1 => some (ConvoyMind.mk (Mate.mk p1.Mate_.ID p1.Mate_.S p1.Mate_.V p1.Mate_.Len p1.Mate_.Ahead p1.Mate_.Guess_ p1.Mate_.Trust p1.Mate_.Ward v1 p1.Mate_.Until) p1.tick p1.gap p1.sight p1.sees)) (some p1)).bind fun y1 => cond ((y1.Mate_.Ahead == 0) || (p2.Note_.From != y1.Mate_.Ahead)) (some y1) (((cond (y1.sees && (p2.Note_.Stamp == y1.tick)) (convoy_within p2.Note_.R y1.sight.Lo y1.sight.Hi) (some default))).bind fun v2 => ((cond ((y1.sees && (p2.Note_.Stamp == y1.tick)) && (!(!v2))) (convoy_within p2.Note_.V y1.sight.VLo y1.sight.VHi) (some default))).bind fun v3 => cond ((y1.sees && (p2.Note_.Stamp == y1.tick)) && ((!v2) || (!v3))) (some (ConvoyMind.mk (Mate.mk y1.Mate_.ID y1.Mate_.S y1.Mate_.V y1.Mate_.Len y1.Mate_.Ahead y1.Mate_.Guess_ false y1.Mate_.Ward y1.Mate_.WardGuess y1.Mate_.Until) y1.tick y1.gap y1.sight y1.sees)) (cond ((!y1.sees) && y1.Mate_.Trust) ((convoy_Better y1.Mate_.Guess_ p2.guess).bind fun v4 => some (ConvoyMind.mk (Mate.mk y1.Mate_.ID y1.Mate_.S y1.Mate_.V y1.Mate_.Len y1.Mate_.Ahead v4 y1.Mate_.Trust y1.Mate_.Ward y1.Mate_.WardGuess y1.Mate_.Until) y1.tick y1.gap y1.sight y1.sees)) (some y1)))

/-- (*kerbstone/convoy.mind).hail -/
def ac_convoy_mind_hail_oa : AC := (.seq (.reg [oo 3 (.box 125 true (.t 1))]) (.seq (.seq (.draw [oo 5 (.mv (.t 0)), oo 6 (.nilck (.t 5)), oo 7 (.fieldA 0 (.t 6)), oo 8 (.fieldA 11 (.t 7)), oo 9 (.load 1 false (.t 8)), oo 10 (.bin .neq (.t 9) (ci 0)), oo 11 (.mv (.t 10)), og 12 (.fieldA 0 (.t 3)) 11, og 13 (.fieldA 1 (.t 12)) 11, og 14 (.load 1 false (.t 13)) 11, og 15 (.mv (.t 0)) 11, og 16 (.nilck (.t 15)) 11, og 17 (.fieldA 0 (.t 16)) 11, og 18 (.fieldA 8 (.t 17)) 11, og 19 (.load 1 false (.t 18)) 11, og 20 (.bin .eql (.t 14) (.t 19)) 11, oo 21 (.pick (.t 11) (.t 20) (.c zf))] []) (.cond (.t 21) (.draw [oo 22 (.mv (.t 0)), oo 23 (.mv (.t 0)), oo 24 (.nilck (.t 23)), oo 25 (.fieldA 0 (.t 24)), oo 26 (.fieldA 9 (.t 25)), oo 27 (.load 2 true (.t 26)), oo 28 (.fieldA 7 (.t 3)), oo 29 (.load 2 true (.t 28)), oo 30 (.call (cf 19) [(.t 27), (.t 29)]), oo 31 (.nilck (.t 22)), oo 32 (.fieldA 0 (.t 31)), oo 33 (.fieldA 9 (.t 32)), oe (.store 2 (.t 33) (.t 30))] []) .skip)) (.seq (.seq (.draw [oo 34 (.mv (.t 0)), oo 35 (.nilck (.t 34)), oo 36 (.fieldA 0 (.t 35)), oo 37 (.fieldA 4 (.t 36)), oo 38 (.load 1 false (.t 37)), oo 39 (.bin .eql (.t 38) (ci 0)), oo 40 (.mv (.t 39)), oh 41 (.fieldA 0 (.t 3)) 40, oh 42 (.fieldA 1 (.t 41)) 40, oh 43 (.load 1 false (.t 42)) 40, oh 44 (.mv (.t 0)) 40, oh 45 (.nilck (.t 44)) 40, oh 46 (.fieldA 0 (.t 45)) 40, oh 47 (.fieldA 4 (.t 46)) 40, oh 48 (.load 1 false (.t 47)) 40, oh 49 (.bin .neq (.t 43) (.t 48)) 40, oo 50 (.pick (.t 40) (.c (.v (.bool true))) (.t 49))] []) (.cond (.t 50) .ret .skip)) (.seq (.reg [oo 51 (.mv (.t 0)), oo 52 (.nilck (.t 51)), oo 53 (.fieldA 14 (.t 52)), oo 54 (.load 5 true (.t 53)), oo 4 (.alloc 42 [z0, z0, z0, z0, z0]), oe (.store 5 (.t 4) (.t 54))]) (.block 0 (.seq (.draw [oo 56 (.mv (.t 0)), oo 57 (.nilck (.t 56)), oo 58 (.fieldA 19 (.t 57)), oo 59 (.load 1 false (.t 58)), oo 60 (.mv (.t 59)), og 61 (.fieldA 0 (.t 3)) 60, og 62 (.fieldA 3 (.t 61)) 60, og 63 (.load 1 false (.t 62)) 60, og 64 (.mv (.t 0)) 60, og 65 (.nilck (.t 64)) 60, og 66 (.fieldA 12 (.t 65)) 60, og 67 (.load 1 false (.t 66)) 60, og 68 (.bin .eql (.t 63) (.t 67)) 60, oo 69 (.pick (.t 60) (.t 68) (.c zf)), oo 70 (.mv (.t 69)), og 71 (.fieldA 0 (.t 3)) 70, og 72 (.fieldA 4 (.t 71)) 70, og 73 (.load 1 false (.t 72)) 70, og 74 (.fieldA 1 (.t 4)) 70, og 75 (.load 1 false (.t 74)) 70, og 76 (.fieldA 2 (.t 4)) 70, og 77 (.load 1 false (.t 76)) 70, og 78 (.call (cf 95) [(.t 73), (.t 75), (.t 77)]) 70, og 79 (.un .not (.t 78)) 70, og 80 (.mv (.t 79)) 70, oh 81 (.fieldA 0 (.t 3)) 80, oh 82 (.fieldA 5 (.t 81)) 80, oh 83 (.load 1 false (.t 82)) 80, oh 84 (.fieldA 3 (.t 4)) 80, oh 85 (.load 1 false (.t 84)) 80, oh 86 (.fieldA 4 (.t 4)) 80, oh 87 (.load 1 false (.t 86)) 80, oh 88 (.call (cf 95) [(.t 83), (.t 85), (.t 87)]) 80, oh 89 (.un .not (.t 88)) 80, og 90 (.pick (.t 80) (.c (.v (.bool true))) (.t 89)) 70, oo 91 (.pick (.t 70) (.t 90) (.c zf)), oo 55 (.mv (.t 91))] []) (.cond (.t 55) (.reg [oo 92 (.mv (.t 0)), oo 93 (.nilck (.t 92)), oo 94 (.fieldA 0 (.t 93)), oo 95 (.fieldA 7 (.t 94)), oe (.store 1 (.t 95) (.c zf))]) (.seq (.reg [oo 97 (.mv (.t 0)), oo 98 (.nilck (.t 97)), oo 99 (.fieldA 19 (.t 98)), oo 100 (.load 1 false (.t 99)), oo 101 (.un .not (.t 100)), oo 102 (.mv (.t 101)), og 103 (.mv (.t 0)) 102, og 104 (.nilck (.t 103)) 102, og 105 (.fieldA 0 (.t 104)) 102, og 106 (.fieldA 7 (.t 105)) 102, og 107 (.load 1 false (.t 106)) 102, oo 108 (.pick (.t 102) (.t 107) (.c zf)), oo 96 (.mv (.t 108))]) (.cond (.t 96) (.draw [oo 109 (.mv (.t 0)), oo 110 (.mv (.t 0)), oo 111 (.nilck (.t 110)), oo 112 (.fieldA 0 (.t 111)), oo 113 (.fieldA 5 (.t 112)), oo 114 (.load 2 true (.t 113)), oo 115 (.fieldA 7 (.t 3)), oo 116 (.load 2 true (.t 115)), oo 117 (.call (cf 19) [(.t 114), (.t 116)]), oo 118 (.nilck (.t 109)), oo 119 (.fieldA 0 (.t 118)), oo 120 (.fieldA 5 (.t 119)), oe (.store 2 (.t 120) (.t 117))] []) .skip)))))))))
theorem fn_convoy_mind_hail_oa : FnOK Try.prog 127 121 [] ac_convoy_mind_hail_oa := ⟨_, _, Try.func127, rfl, Try.ntmps127, by kernel_rfl, ⟨fun _ => [], by kernel_rfl⟩, by kernel_rfl⟩
set_option maxHeartbeats 4000000 in
theorem convoy_mind_hail_oa_ok (p1 : ConvoyMind) (p2 : ConvoyLetter) (r : ConvoyMind) (h : convoy_mind_hail_oa p1 p2 = some r) : MCall Try.prog 127 [(.ptr (900000, 0) 0), (.d (.agg (eConvoyLetter p2)))] [(.box 107 (dConvoyMind p1))] (.d (.tup [])) [some (.box 107 (dConvoyMind r))] [] := by
  refine m_callF fn_convoy_mind_hail_oa rfl (nl rfl) ?_
  unfold convoy_mind_hail_oa at h
  unfold ac_convoy_mind_hail_oa
  refine l_sub (s0 := ⟨T [(0, (.ptr _ _)), (1, (.d _))], G [((900000, 0), some (.box 107 _))]⟩) (sbr rfl rfl) ?_
  refine lr (fun u1 hu1 => sn rfl rfl (s_nil (l_seq (l_seq (l_draw rfl fun u2 hu2 => sp rfl rfl (sp rfl rfl (sp rfl rfl (sp rfl rfl (sl rfl (gq rfl) rfl (sv rfl (sv rfl (gp rfl (gw_t rfl) (fun _ => rfl) ?_))))))))))))
  refine g_val _ (.ptr _ _) rfl (gw_t rfl) (fun w2 => (by simp only [gd_pos w2]; rfl)) ?_
  refine gt rfl (vl rfl G_hit rfl) (gp rfl (gw_t rfl) (fun _ => rfl) ?_)
  refine g_val _ (.ptr _ _) rfl (gw_t rfl) (fun w5 => (by simp only [gd_pos w5]; rfl)) ?_
  refine g_val _ (.ptr _ _) rfl (gw_t rfl) (fun w6 => (by simp only [gd_pos w6]; rfl)) ?_
  refine g_val _ (.ptr _ _) rfl (gw_t rfl) (fun w7 => (by simp only [gd_pos w7]; rfl)) ?_
  refine gt rfl (vl rfl (gq rfl) rfl) (gt rfl (fun w9 => (v_bin (gd_pos w9) (gd_pos w9) rfl)) (sa rfl rfl rfl (s_nil (bs h fun y1 hy1 h => l_join (fun s => ∃ g1 : Unit, Sb ⟨T [(0, (.ptr (900000, 0) 0)), (3, (.ptr (3, u1) 0))], G [((900000, 0), some (.box 107 (dConvoyMind y1))), ((3, u1), some (.box 125 (dConvoyLetter p2)))]⟩ s) ?_ ?_))))
  · refine cc rfl hy1 (fun c1 hy1 => ?_) (fun c1 hy1 => ?_)
    · refine l_draw rfl fun u3 hu3 => sp rfl rfl (sp rfl rfl (sp rfl rfl (sp rfl rfl (sp rfl rfl (sd rfl (v_loadG rfl (gq rfl) rfl rfl) (sp rfl rfl (sd rfl (v_loadG rfl G_hit rfl rfl) (bs hy1 fun v1 hv1 hy1 => s_call rfl rfl all2_refl (convoy_Better_ok _ _  _ hv1) (.inl rfl) (sp rfl rfl (sp rfl rfl (sp rfl rfl (sst rfl (gq rfl) [(di p1.Mate_.ID), (di p1.Mate_.S), (di p1.Mate_.V), (di p1.Mate_.Len), (di p1.Mate_.Ahead), (di p1.Mate_.Guess_.R), (di p1.Mate_.Guess_.V), (.d (bo p1.Mate_.Trust)), (di p1.Mate_.Ward), (di v1.R), (di v1.V), (di p1.Mate_.Until), (di p1.tick), (di p1.gap), (di p1.sight.By), (di p1.sight.Lo), (di p1.sight.Hi), (di p1.sight.VLo), (di p1.sight.VHi), (.d (bo p1.sees))] rfl (s_nil ?_)))))))))))))
      obtain rfl := Option.some.inj hy1
      exact l_j ⟨(), (sbr rfl rfl)⟩
    · refine l_skip ?_
      obtain rfl := Option.some.inj hy1
      exact l_j ⟨(), (sbr rfl rfl)⟩
  · rintro _ ⟨g1, q1⟩
    refine l_sub q1 (l_seq (l_seq (l_draw rfl fun u4 hu4 => sp rfl rfl (sp rfl rfl (sp rfl rfl (sp rfl rfl (sl rfl G_hit rfl (sv rfl (sv rfl (gp rfl (gw_f rfl) (fun _ => rfl) ?_))))))))))
    refine g_val _ (.ptr _ _) rfl (gw_f rfl) (fun w11 => (by simp only [gd_pos w11]; rfl)) ?_
    refine gf rfl (vl rfl (gq rfl) rfl) (gp rfl (gw_f rfl) (fun _ => rfl) ?_)
    refine g_val _ (.ptr _ _) rfl (gw_f rfl) (fun w14 => (by simp only [gd_pos w14]; rfl)) ?_
    refine g_val _ (.ptr _ _) rfl (gw_f rfl) (fun w15 => (by simp only [gd_pos w15]; rfl)) ?_
    refine g_val _ (.ptr _ _) rfl (gw_f rfl) (fun w16 => (by simp only [gd_pos w16]; rfl)) ?_
    refine gf rfl (vl rfl G_hit rfl) (gf rfl (fun w18 => (v_bin (gd_pos w18) (gd_pos w18) rfl)) (sd rfl (v_or rfl rfl (fun hc => gd_pos (not_t hc))) (s_nil (cc rfl h (fun c2 h => ?_) (fun c2 h => ?_)))))
    · refine l_ret ?_
      obtain rfl := Option.some.inj h
      exact fin_mf (.inr rfl) [] resDF0 (.refl _) ⟨⟨_, _, _, G_hit, old_notin_nil, rfl, all2_d, rfl⟩, trivial⟩
    · refine l_skip (lr (fun u5 hu5 => sp rfl rfl (sp rfl rfl (sp rfl rfl (sd rfl (v_loadG rfl G_hit rfl rfl) (sn rfl rfl (sst rfl G_hit (dSight y1.sight) rfl (s_nil (l_block (l_seq (l_sub (s0 := ⟨T [(0, (.ptr _ _)), (3, (.ptr _ _)), (4, (.ptr _ _))], G [((900000, 0), some (.box 107 _)), ((3, u1), some (.box 125 _)), ((4, u5), some (.box 42 _))]⟩) (sbr rfl rfl) ?_)))))))))))
      refine l_draw rfl fun u6 hu6 => sp rfl rfl (sp rfl rfl (sp rfl rfl (sl rfl G_hit rfl (sv rfl (gp rfl (gw_t rfl) (fun _ => rfl) ?_)))))
      refine g_val _ (.ptr _ _) rfl (gw_t rfl) (fun w20 => (by simp only [gd_pos w20]; rfl)) ?_
      refine gt rfl (vl rfl (gq rfl) rfl) (gp rfl (gw_t rfl) (fun _ => rfl) ?_)
      refine g_val _ (.ptr _ _) rfl (gw_t rfl) (fun w23 => (by simp only [gd_pos w23]; rfl)) ?_
      refine g_val _ (.ptr _ _) rfl (gw_t rfl) (fun w24 => (by simp only [gd_pos w24]; rfl)) ?_
      refine gt rfl (vl rfl G_hit rfl) (gt rfl (fun w26 => (v_bin (gd_pos w26) (gd_pos w26) rfl)) (sa rfl rfl rfl (sv rfl (gp rfl (gw_t rfl) (fun _ => rfl) ?_))))
      refine g_val _ (.ptr _ _) rfl (gw_t rfl) (fun w28 => (by simp only [gd_pos w28]; rfl)) ?_
      refine gt rfl (vl rfl (gq rfl) rfl) (gp rfl (gw_t rfl) (fun _ => rfl) (gt rfl (vl rfl (gq rfl) rfl) (gp rfl (gw_t rfl) (fun _ => rfl) (gt rfl (vl rfl (gq rfl) rfl) (bs h fun v2 hv2 h => ?_)))))
      refine g_call _ (bo v2) (gw_t rfl) (fun w34 => ⟨_, [(di p2.Note_.R), (di y1.sight.Lo), (di y1.sight.Hi)], _, _, (by simp only [gd_pos w34]; rfl), rfl, all2_refl, convoy_within_ok _ _ _  _ (cond_t w34 hv2), (.inl rfl)⟩) ?_
      refine g_val _ (.d (bo (!v2))) rfl (gw_t rfl) (fun w35 => (by simp only [gd_pos w35]; rfl)) ?_
      refine gt rfl (fun w36 => (v_mv (gd_pos w36))) (g_val _ (.ptr _ _) rfl (gw_gf rfl) (fun _ => rfl) ?_)
      refine g_val _ (.ptr _ _) rfl (gw_gf rfl) (fun w38 => (by simp only [gd_pos w38]; rfl)) ?_
      refine gv rfl (gw_gf rfl) (vl rfl (gq rfl) rfl) (g_val _ (.ptr _ _) rfl (gw_gf rfl) (fun _ => rfl) (gv rfl (gw_gf rfl) (vl rfl (gq rfl) rfl) (g_val _ (.ptr _ _) rfl (gw_gf rfl) (fun _ => rfl) (gv rfl (gw_gf rfl) (vl rfl (gq rfl) rfl) (bs h fun v3 hv3 h => ?_)))))
      refine g_call _ (bo v3) (gw_gf rfl) (fun w44 => ⟨_, [(di p2.Note_.V), (di y1.sight.VLo), (di y1.sight.VHi)], _, _, (by simp only [gd_pos w44]; rfl), rfl, all2_refl, convoy_within_ok _ _ _  _ (cond_t w44 hv3), (.inl rfl)⟩) ?_
      refine g_val _ (.d (bo (!v3))) rfl (gw_gf rfl) (fun w45 => (by simp only [gd_pos w45]; rfl)) ?_
      refine gt rfl (fun w46 => (v_or (gd_pos w46) rfl (fun hc => gd_pos (and_i w46 (not_t hc))))) (sa rfl rfl rfl (sv rfl (s_nil (cc rfl h (fun c3 h => ?_) (fun c3 h => ?_)))))
      · refine l_sub (s0 := ⟨T [(0, (.ptr _ _))], G [((900000, 0), some (.box 107 _))]⟩) (sbr rfl rfl) ?_
        refine l_reg fun u7 hu7 => sp rfl rfl (sp rfl rfl (sp rfl rfl (sp rfl rfl (sst rfl G_hit [(di y1.Mate_.ID), (di y1.Mate_.S), (di y1.Mate_.V), (di y1.Mate_.Len), (di y1.Mate_.Ahead), (di y1.Mate_.Guess_.R), (di y1.Mate_.Guess_.V), (.d (bo false)), (di y1.Mate_.Ward), (di y1.Mate_.WardGuess.R), (di y1.Mate_.WardGuess.V), (di y1.Mate_.Until), (di y1.tick), (di y1.gap), (di y1.sight.By), (di y1.sight.Lo), (di y1.sight.Hi), (di y1.sight.VLo), (di y1.sight.VHi), (.d (bo y1.sees))] rfl (s_nil (l_end (l_nil ?_)))))))
        obtain rfl := Option.some.inj h
        exact fin_mf (.inl rfl) [] resDF0 (.refl _) ⟨⟨_, _, _, G_hit, old_notin_nil, rfl, all2_d, rfl⟩, trivial⟩
      · refine l_seq (l_sub (s0 := ⟨T [(0, (.ptr _ _)), (3, (.ptr _ _))], G [((900000, 0), some (.box 107 _)), ((3, u1), some (.box 125 _))]⟩) (sbr rfl rfl) ?_)
        refine l_reg fun u8 hu8 => sp rfl rfl (sp rfl rfl (sp rfl rfl (sl rfl G_hit rfl (s_val (.d (bo (!y1.sees))) rfl rfl (sv rfl (gp rfl (gw_t rfl) (fun _ => rfl) ?_))))))
        refine g_val _ (.ptr _ _) rfl (gw_t rfl) (fun w48 => (by simp only [gd_pos w48]; rfl)) ?_
        refine g_val _ (.ptr _ _) rfl (gw_t rfl) (fun w49 => (by simp only [gd_pos w49]; rfl)) ?_
        refine g_val _ (.ptr _ _) rfl (gw_t rfl) (fun w50 => (by simp only [gd_pos w50]; rfl)) ?_
        refine gt rfl (vl rfl G_hit rfl) (sa rfl rfl rfl (sv rfl (s_nil (cc rfl h (fun c4 h => ?_) (fun c4 h => ?_)))))
        · refine l_draw rfl fun u9 hu9 => sp rfl rfl (sp rfl rfl (sp rfl rfl (sp rfl rfl (sp rfl rfl (sd rfl (v_loadG rfl G_hit rfl rfl) (sp rfl rfl (sd rfl (v_loadG rfl (gq rfl) rfl rfl) (bs h fun v4 hv4 h => s_call rfl rfl all2_refl (convoy_Better_ok _ _  _ hv4) (.inl rfl) (sp rfl rfl (sp rfl rfl (sp rfl rfl (sst rfl G_hit [(di y1.Mate_.ID), (di y1.Mate_.S), (di y1.Mate_.V), (di y1.Mate_.Len), (di y1.Mate_.Ahead), (di v4.R), (di v4.V), (.d (bo y1.Mate_.Trust)), (di y1.Mate_.Ward), (di y1.Mate_.WardGuess.R), (di y1.Mate_.WardGuess.V), (di y1.Mate_.Until), (di y1.tick), (di y1.gap), (di y1.sight.By), (di y1.sight.Lo), (di y1.sight.Hi), (di y1.sight.VLo), (di y1.sight.VHi), (.d (bo y1.sees))] rfl (s_nil (l_end (l_nil ?_)))))))))))))))
          obtain rfl := Option.some.inj h
          exact fin_mf (.inl rfl) [] resDF0 (.refl _) ⟨⟨_, _, _, G_hit, old_notin_nil, rfl, all2_d, rfl⟩, trivial⟩
        · refine l_skip (l_end (l_nil ?_))
          obtain rfl := Option.some.inj h
          exact fin_mf (.inl rfl) [] resDF0 (.refl _) ⟨⟨_, _, _, G_hit, old_notin_nil, rfl, all2_d, rfl⟩, trivial⟩

noncomputable def convoy_mind_ask_oa (p1 : ConvoyMind) (p2 : ConvoyLetter) : Option ConvoyMind :=
  cond (p2.Note_.To != p1.Mate_.ID) (some p1) (cond ((p1.Mate_.Ward == 0) || (((p2.Note_.From == p1.Mate_.Ward) && (p1.Mate_.Until != 0)) && (decide (p2.Note_.Stamp > p1.Mate_.Until)))) (some (ConvoyMind.mk (Mate.mk p1.Mate_.ID p1.Mate_.S p1.Mate_.V p1.Mate_.Len p1.Mate_.Ahead p1.Mate_.Guess_ p1.Mate_.Trust p2.Note_.From p2.guess 0) p1.tick p1.gap p1.sight p1.sees)) (cond (p2.Note_.From == p1.Mate_.Ward) ((convoy_Better p1.Mate_.WardGuess p2.guess).bind fun v1 => some (ConvoyMind.mk (Mate.mk p1.Mate_.ID p1.Mate_.S p1.Mate_.V p1.Mate_.Len p1.Mate_.Ahead p1.Mate_.Guess_ p1.Mate_.Trust p1.Mate_.Ward v1 p1.Mate_.Until) p1.tick p1.gap p1.sight p1.sees)) (some p1)))

/-- (*kerbstone/convoy.mind).ask -/
def ac_convoy_mind_ask_oa : AC := (.seq (.reg [oo 3 (.box 125 true (.t 1))]) (.block 0 (.seq (.draw [oo 5 (.fieldA 0 (.t 3)), oo 6 (.fieldA 2 (.t 5)), oo 7 (.load 1 false (.t 6)), oo 8 (.mv (.t 0)), oo 9 (.nilck (.t 8)), oo 10 (.fieldA 0 (.t 9)), oo 11 (.fieldA 0 (.t 10)), oo 12 (.load 1 false (.t 11)), oo 13 (.bin .neq (.t 7) (.t 12)), oo 4 (.mv (.t 13))] []) (.cond (.t 4) .skip (.seq (.draw [oo 15 (.mv (.t 0)), oo 16 (.nilck (.t 15)), oo 17 (.fieldA 0 (.t 16)), oo 18 (.fieldA 8 (.t 17)), oo 19 (.load 1 false (.t 18)), oo 20 (.bin .eql (.t 19) (ci 0)), oo 21 (.mv (.t 20)), oh 22 (.fieldA 0 (.t 3)) 21, oh 23 (.fieldA 1 (.t 22)) 21, oh 24 (.load 1 false (.t 23)) 21, oh 25 (.mv (.t 0)) 21, oh 26 (.nilck (.t 25)) 21, oh 27 (.fieldA 0 (.t 26)) 21, oh 28 (.fieldA 8 (.t 27)) 21, oh 29 (.load 1 false (.t 28)) 21, oh 30 (.bin .eql (.t 24) (.t 29)) 21, oh 31 (.mv (.t 30)) 21, og 32 (.mv (.t 0)) 31, og 33 (.nilck (.t 32)) 31, og 34 (.fieldA 0 (.t 33)) 31, og 35 (.fieldA 11 (.t 34)) 31, og 36 (.load 1 false (.t 35)) 31, og 37 (.bin .neq (.t 36) (ci 0)) 31, oh 38 (.pick (.t 31) (.t 37) (.c zf)) 21, oh 39 (.mv (.t 38)) 21, og 40 (.fieldA 0 (.t 3)) 39, og 41 (.fieldA 3 (.t 40)) 39, og 42 (.load 1 false (.t 41)) 39, og 43 (.mv (.t 0)) 39, og 44 (.nilck (.t 43)) 39, og 45 (.fieldA 0 (.t 44)) 39, og 46 (.fieldA 11 (.t 45)) 39, og 47 (.load 1 false (.t 46)) 39, og 48 (.bin .gtr (.t 42) (.t 47)) 39, oh 49 (.pick (.t 39) (.t 48) (.c zf)) 21, oo 50 (.pick (.t 21) (.c (.v (.bool true))) (.t 49)), oo 14 (.mv (.t 50))] []) (.cond (.t 14) (.draw [oo 51 (.mv (.t 0)), oo 52 (.mv (.t 0)), oo 53 (.mv (.t 0)), oo 54 (.fieldA 0 (.t 3)), oo 55 (.fieldA 1 (.t 54)), oo 56 (.load 1 false (.t 55)), oo 57 (.fieldA 7 (.t 3)), oo 58 (.load 2 true (.t 57)), oo 59 (.nilck (.t 51)), oo 60 (.fieldA 0 (.t 59)), oo 61 (.fieldA 8 (.t 60)), oe (.store 1 (.t 61) (.t 56)), oo 62 (.nilck (.t 52)), oo 63 (.fieldA 0 (.t 62)), oo 64 (.fieldA 9 (.t 63)), oe (.store 2 (.t 64) (.t 58)), oo 65 (.nilck (.t 53)), oo 66 (.fieldA 0 (.t 65)), oo 67 (.fieldA 11 (.t 66)), oe (.store 1 (.t 67) (ci 0))] [(7, 11)]) (.seq (.draw [oo 69 (.fieldA 0 (.t 3)), oo 70 (.fieldA 1 (.t 69)), oo 71 (.load 1 false (.t 70)), oo 72 (.mv (.t 0)), oo 73 (.nilck (.t 72)), oo 74 (.fieldA 0 (.t 73)), oo 75 (.fieldA 8 (.t 74)), oo 76 (.load 1 false (.t 75)), oo 77 (.bin .eql (.t 71) (.t 76)), oo 68 (.mv (.t 77))] []) (.cond (.t 68) (.draw [oo 78 (.mv (.t 0)), oo 79 (.mv (.t 0)), oo 80 (.nilck (.t 79)), oo 81 (.fieldA 0 (.t 80)), oo 82 (.fieldA 9 (.t 81)), oo 83 (.load 2 true (.t 82)), oo 84 (.fieldA 7 (.t 3)), oo 85 (.load 2 true (.t 84)), oo 86 (.call (cf 19) [(.t 83), (.t 85)]), oo 87 (.nilck (.t 78)), oo 88 (.fieldA 0 (.t 87)), oo 89 (.fieldA 9 (.t 88)), oe (.store 2 (.t 89) (.t 86))] []) .skip))))))))
theorem fn_convoy_mind_ask_oa : FnOK Try.prog 128 90 [] ac_convoy_mind_ask_oa := ⟨_, _, Try.func128, rfl, Try.ntmps128, by kernel_rfl, ⟨fun _ => [], by kernel_rfl⟩, by kernel_rfl⟩
set_option maxHeartbeats 4000000 in
theorem convoy_mind_ask_oa_ok (p1 : ConvoyMind) (p2 : ConvoyLetter) (r : ConvoyMind) (h : convoy_mind_ask_oa p1 p2 = some r) : MCall Try.prog 128 [(.ptr (900000, 0) 0), (.d (.agg (eConvoyLetter p2)))] [(.box 107 (dConvoyMind p1))] (.d (.tup [])) [some (.box 107 (dConvoyMind r))] [] := by
  refine m_callF fn_convoy_mind_ask_oa rfl (nl rfl) ?_
  unfold convoy_mind_ask_oa at h
  unfold ac_convoy_mind_ask_oa
  refine l_sub (s0 := ⟨T [(0, (.ptr _ _)), (1, (.d _))], G [((900000, 0), some (.box 107 _))]⟩) (sbr rfl rfl) ?_
  refine lr (fun u1 hu1 => sn rfl rfl (s_nil (l_block (l_seq (l_draw rfl fun u2 hu2 => sp rfl rfl (sp rfl rfl (sl rfl G_hit rfl (sp rfl rfl (sp rfl rfl (sp rfl rfl (sp rfl rfl (sl rfl (gq rfl) rfl (sv rfl (sv rfl (s_nil (cc rfl h (fun c1 h => ?_) (fun c1 h => ?_)))))))))))))))))
  · refine l_skip (l_end (l_nil ?_))
    obtain rfl := Option.some.inj h
    exact fin_mf (.inl rfl) [] resDF0 (.refl _) ⟨⟨_, _, _, (gq rfl), old_notin_nil, rfl, all2_d, rfl⟩, trivial⟩
  · refine l_seq (l_draw rfl fun u3 hu3 => sp rfl rfl (sp rfl rfl (sp rfl rfl (sp rfl rfl (sl rfl (gq rfl) rfl (sv rfl (sv rfl (gp rfl (gw_f rfl) (fun _ => rfl) ?_))))))))
    refine g_val _ (.ptr _ _) rfl (gw_f rfl) (fun w2 => (by simp only [gd_pos w2]; rfl)) ?_
    refine gf rfl (vl rfl G_hit rfl) (gp rfl (gw_f rfl) (fun _ => rfl) ?_)
    refine g_val _ (.ptr _ _) rfl (gw_f rfl) (fun w5 => (by simp only [gd_pos w5]; rfl)) ?_
    refine g_val _ (.ptr _ _) rfl (gw_f rfl) (fun w6 => (by simp only [gd_pos w6]; rfl)) ?_
    refine g_val _ (.ptr _ _) rfl (gw_f rfl) (fun w7 => (by simp only [gd_pos w7]; rfl)) ?_
    refine gf rfl (vl rfl (gq rfl) rfl) (gf rfl (fun w9 => (v_bin (gd_pos w9) (gd_pos w9) rfl)) (gf rfl (fun w10 => (v_mv (gd_pos w10))) (g_val _ (.ptr _ _) rfl (gw_gt rfl) (fun _ => rfl) ?_)))
    refine g_val _ (.ptr _ _) rfl (gw_gt rfl) (fun w12 => (by simp only [gd_pos w12]; rfl)) ?_
    refine g_val _ (.ptr _ _) rfl (gw_gt rfl) (fun w13 => (by simp only [gd_pos w13]; rfl)) ?_
    refine g_val _ (.ptr _ _) rfl (gw_gt rfl) (fun w14 => (by simp only [gd_pos w14]; rfl)) ?_
    refine gv rfl (gw_gt rfl) (vl rfl (gq rfl) rfl) (gv rfl (gw_gt rfl) (vb rfl rfl rfl) (gf rfl (fun w17 => (v_and (gd_pos w17) (fun hc => gd_pos (and_i w17 hc)) rfl)) (gf rfl (fun w18 => (v_mv (gd_pos w18))) (g_val _ (.ptr _ _) rfl (gw_gt rfl) (fun _ => rfl) ?_))))
    refine g_val _ (.ptr _ _) rfl (gw_gt rfl) (fun w20 => (by simp only [gd_pos w20]; rfl)) ?_
    refine gv rfl (gw_gt rfl) (vl rfl G_hit rfl) (g_val _ (.ptr _ _) rfl (gw_gt rfl) (fun _ => rfl) ?_)
    refine g_val _ (.ptr _ _) rfl (gw_gt rfl) (fun w23 => (by simp only [gd_pos w23]; rfl)) ?_
    refine g_val _ (.ptr _ _) rfl (gw_gt rfl) (fun w24 => (by simp only [gd_pos w24]; rfl)) ?_
    refine g_val _ (.ptr _ _) rfl (gw_gt rfl) (fun w25 => (by simp only [gd_pos w25]; rfl)) ?_
    refine gv rfl (gw_gt rfl) (vl rfl (gq rfl) rfl) (gv rfl (gw_gt rfl) (fun w27 => (v_bin (gd_pos w27) (gd_pos w27) rfl)) (gf rfl (fun w28 => (v_and (gd_pos w28) (fun hc => gd_pos (and_i w28 hc)) rfl)) (sd rfl (v_or rfl rfl (fun hc => gd_pos (not_t hc))) (sv rfl (s_nil (cc rfl h (fun c2 h => ?_) (fun c2 h => ?_)))))))
    · refine l_sub (s0 := ⟨T [(0, (.ptr _ _)), (3, (.ptr _ _))], G [((900000, 0), some (.box 107 _)), ((3, u1), some (.box 125 _))]⟩) (sbr rfl rfl) ?_
      refine l_drawT fun u4 hu4 => t_val (.ptr _ _) rfl rfl (t_val (.ptr _ _) rfl rfl (t_val (.ptr _ _) rfl rfl (t_val (.ptr _ _) rfl rfl (t_val (.ptr _ _) rfl rfl (t_val (.d _) rfl (v_load rfl (gq rfl) rfl) (t_val (.ptr _ _) rfl rfl (t_val (.d _) rfl (v_loadG rfl (gq rfl) rfl rfl) (t_val (.ptr _ _) rfl rfl (t_val (.ptr _ _) rfl rfl (t_val (.ptr _ _) rfl rfl (t_store _ _ _ _ _ rfl rfl rfl G_hit (nl rfl) [(di p1.Mate_.ID), (di p1.Mate_.S), (di p1.Mate_.V), (di p1.Mate_.Len), (di p1.Mate_.Ahead), (di p1.Mate_.Guess_.R), (di p1.Mate_.Guess_.V), (.d (bo p1.Mate_.Trust)), (di p2.Note_.From), (di p1.Mate_.WardGuess.R), (di p1.Mate_.WardGuess.V), (di p1.Mate_.Until), (di p1.tick), (di p1.gap), (di p1.sight.By), (di p1.sight.Lo), (di p1.sight.Hi), (di p1.sight.VLo), (di p1.sight.VHi), (.d (bo p1.sees))] rfl (t_val (.ptr _ _) rfl rfl (t_val (.ptr _ _) rfl rfl (t_val (.ptr _ _) rfl rfl (t_store _ _ _ _ _ rfl rfl rfl G_hit (nl rfl) [(di p1.Mate_.ID), (di p1.Mate_.S), (di p1.Mate_.V), (di p1.Mate_.Len), (di p1.Mate_.Ahead), (di p1.Mate_.Guess_.R), (di p1.Mate_.Guess_.V), (.d (bo p1.Mate_.Trust)), (di p2.Note_.From), (di p2.guess.R), (di p2.guess.V), (di p1.Mate_.Until), (di p1.tick), (di p1.gap), (di p1.sight.By), (di p1.sight.Lo), (di p1.sight.Hi), (di p1.sight.VLo), (di p1.sight.VHi), (.d (bo p1.sees))] rfl (t_val (.ptr _ _) rfl rfl (t_val (.ptr _ _) rfl rfl (t_val (.ptr _ _) rfl rfl (t_store _ _ _ _ _ rfl rfl rfl G_hit (nl rfl) [(di p1.Mate_.ID), (di p1.Mate_.S), (di p1.Mate_.V), (di p1.Mate_.Len), (di p1.Mate_.Ahead), (di p1.Mate_.Guess_.R), (di p1.Mate_.Guess_.V), (.d (bo p1.Mate_.Trust)), (di p2.Note_.From), (di p2.guess.R), (di p2.guess.V), (di 0), (di p1.tick), (di p1.gap), (di p1.sight.By), (di p1.sight.Lo), (di p1.sight.Hi), (di p1.sight.VLo), (di p1.sight.VHi), (.d (bo p1.sees))] rfl (t_nil ⟨rfl, ?_⟩))))))))))))))))))))
      refine l_end (l_nil ?_)
      obtain rfl := Option.some.inj h
      exact fin_mf (.inl rfl) [] resDF0 (.refl _) ⟨⟨_, _, _, G_hit, old_notin_nil, rfl, all2_d, rfl⟩, trivial⟩
    · refine l_seq (l_sub (s0 := ⟨T [(0, (.ptr _ _)), (3, (.ptr _ _))], G [((900000, 0), some (.box 107 _)), ((3, u1), some (.box 125 _))]⟩) (sbr rfl rfl) ?_)
      refine l_draw rfl fun u5 hu5 => sp rfl rfl (sp rfl rfl (sl rfl (gq rfl) rfl (sp rfl rfl (sp rfl rfl (sp rfl rfl (sp rfl rfl (sl rfl G_hit rfl (sv rfl (sv rfl (s_nil (cc rfl h (fun c3 h => ?_) (fun c3 h => ?_))))))))))))
      · refine l_draw rfl fun u6 hu6 => sp rfl rfl (sp rfl rfl (sp rfl rfl (sp rfl rfl (sp rfl rfl (sd rfl (v_loadG rfl G_hit rfl rfl) (sp rfl rfl (sd rfl (v_loadG rfl (gq rfl) rfl rfl) (bs h fun v1 hv1 h => s_call rfl rfl all2_refl (convoy_Better_ok _ _  _ hv1) (.inl rfl) (sp rfl rfl (sp rfl rfl (sp rfl rfl (sst rfl G_hit [(di p1.Mate_.ID), (di p1.Mate_.S), (di p1.Mate_.V), (di p1.Mate_.Len), (di p1.Mate_.Ahead), (di p1.Mate_.Guess_.R), (di p1.Mate_.Guess_.V), (.d (bo p1.Mate_.Trust)), (di p1.Mate_.Ward), (di v1.R), (di v1.V), (di p1.Mate_.Until), (di p1.tick), (di p1.gap), (di p1.sight.By), (di p1.sight.Lo), (di p1.sight.Hi), (di p1.sight.VLo), (di p1.sight.VHi), (.d (bo p1.sees))] rfl (s_nil (l_end (l_nil ?_)))))))))))))))
        obtain rfl := Option.some.inj h
        exact fin_mf (.inl rfl) [] resDF0 (.refl _) ⟨⟨_, _, _, G_hit, old_notin_nil, rfl, all2_d, rfl⟩, trivial⟩
      · refine l_skip (l_end (l_nil ?_))
        obtain rfl := Option.some.inj h
        exact fin_mf (.inl rfl) [] resDF0 (.refl _) ⟨⟨_, _, _, G_hit, old_notin_nil, rfl, all2_d, rfl⟩, trivial⟩

noncomputable def convoy_mind_grant_oa (p1 : ConvoyMind) (p2 : ConvoyLetter) : Option ConvoyMind :=
  some p1

/-- (*kerbstone/convoy.mind).grant -/
def ac_convoy_mind_grant_oa : AC := (.reg [oo 3 (.box 125 true (.t 1))])
theorem fn_convoy_mind_grant_oa : FnOK Try.prog 129 4 [] ac_convoy_mind_grant_oa := ⟨_, _, Try.func129, rfl, Try.ntmps129, by kernel_rfl, ⟨fun _ => [], by kernel_rfl⟩, by kernel_rfl⟩
theorem convoy_mind_grant_oa_ok (p1 : ConvoyMind) (p2 : ConvoyLetter) (r : ConvoyMind) (h : convoy_mind_grant_oa p1 p2 = some r) : MCall Try.prog 129 [(.ptr (900000, 0) 0), (.d (.agg (eConvoyLetter p2)))] [(.box 107 (dConvoyMind p1))] (.d (.tup [])) [some (.box 107 (dConvoyMind r))] [] := by
  refine m_callF fn_convoy_mind_grant_oa rfl (nl rfl) ?_
  unfold convoy_mind_grant_oa at h
  unfold ac_convoy_mind_grant_oa
  refine l_sub (s0 := ⟨T [(0, (.ptr _ _)), (1, (.d _))], G [((900000, 0), some (.box 107 _))]⟩) (sbr rfl rfl) ?_
  refine l_reg fun u1 hu1 => sn rfl rfl (s_nil (l_nil ?_))
  obtain rfl := Option.some.inj h
  exact fin_mf (.inl rfl) [] resDF0 (.refl _) ⟨⟨_, _, _, (gq rfl), old_notin_nil, rfl, all2_d, rfl⟩, trivial⟩

noncomputable def convoy_mind_forget_o (p1 : ConvoyMind) : Option ConvoyMind :=
  some (ConvoyMind.mk (Mate.mk p1.Mate_.ID p1.Mate_.S p1.Mate_.V p1.Mate_.Len p1.Mate_.Ahead p1.Mate_.Guess_ p1.Mate_.Trust 0 (Guess.mk 0 0) 0) p1.tick p1.gap p1.sight p1.sees)

/-- (*kerbstone/convoy.mind).forget -/
def ac_convoy_mind_forget_o : AC := (.reg [oo 2 (.mv (.t 0)), oo 3 (.mv (.t 0)), oo 4 (.mv (.t 0)), oo 5 (.build [z0, z0] []), oo 6 (.nilck (.t 2)), oo 7 (.fieldA 0 (.t 6)), oo 8 (.fieldA 8 (.t 7)), oe (.store 1 (.t 8) (ci 0)), oo 9 (.nilck (.t 3)), oo 10 (.fieldA 0 (.t 9)), oo 11 (.fieldA 9 (.t 10)), oe (.store 2 (.t 11) (.t 5)), oo 12 (.nilck (.t 4)), oo 13 (.fieldA 0 (.t 12)), oo 14 (.fieldA 11 (.t 13)), oe (.store 1 (.t 14) (ci 0))])
theorem fn_convoy_mind_forget_o : FnOK Try.prog 113 15 [] ac_convoy_mind_forget_o := ⟨_, _, Try.func113, rfl, Try.ntmps113, by kernel_rfl, ⟨fun _ => [], by kernel_rfl⟩, by kernel_rfl⟩
theorem convoy_mind_forget_o_ok (p1 : ConvoyMind) (r : ConvoyMind) (h : convoy_mind_forget_o p1 = some r) : MCall Try.prog 113 [(.ptr (900000, 0) 0)] [(.box 107 (dConvoyMind p1))] (.d (.tup [])) [some (.box 107 (dConvoyMind r))] [] := by
  refine m_callF fn_convoy_mind_forget_o rfl (nl rfl) ?_
  unfold convoy_mind_forget_o at h
  unfold ac_convoy_mind_forget_o
  refine l_sub (s0 := ⟨T [(0, (.ptr _ _))], G [((900000, 0), some (.box 107 _))]⟩) (sbr rfl rfl) ?_
  refine l_reg fun u1 hu1 => sp rfl rfl (sp rfl rfl (sp rfl rfl (sv rfl (sp rfl rfl (sp rfl rfl (sp rfl rfl (sst rfl G_hit [(di p1.Mate_.ID), (di p1.Mate_.S), (di p1.Mate_.V), (di p1.Mate_.Len), (di p1.Mate_.Ahead), (di p1.Mate_.Guess_.R), (di p1.Mate_.Guess_.V), (.d (bo p1.Mate_.Trust)), (di 0), (di p1.Mate_.WardGuess.R), (di p1.Mate_.WardGuess.V), (di p1.Mate_.Until), (di p1.tick), (di p1.gap), (di p1.sight.By), (di p1.sight.Lo), (di p1.sight.Hi), (di p1.sight.VLo), (di p1.sight.VHi), (.d (bo p1.sees))] rfl (sp rfl rfl (sp rfl rfl (sp rfl rfl (sst rfl G_hit [(di p1.Mate_.ID), (di p1.Mate_.S), (di p1.Mate_.V), (di p1.Mate_.Len), (di p1.Mate_.Ahead), (di p1.Mate_.Guess_.R), (di p1.Mate_.Guess_.V), (.d (bo p1.Mate_.Trust)), (di 0), (di 0), (di 0), (di p1.Mate_.Until), (di p1.tick), (di p1.gap), (di p1.sight.By), (di p1.sight.Lo), (di p1.sight.Hi), (di p1.sight.VLo), (di p1.sight.VHi), (.d (bo p1.sees))] rfl (sp rfl rfl (sp rfl rfl (sp rfl rfl (sst rfl G_hit [(di p1.Mate_.ID), (di p1.Mate_.S), (di p1.Mate_.V), (di p1.Mate_.Len), (di p1.Mate_.Ahead), (di p1.Mate_.Guess_.R), (di p1.Mate_.Guess_.V), (.d (bo p1.Mate_.Trust)), (di 0), (di 0), (di 0), (di 0), (di p1.tick), (di p1.gap), (di p1.sight.By), (di p1.sight.Lo), (di p1.sight.Hi), (di p1.sight.VLo), (di p1.sight.VHi), (.d (bo p1.sees))] rfl (s_nil (l_nil ?_)))))))))))))))))
  obtain rfl := Option.some.inj h
  exact fin_mf (.inl rfl) [] resDF0 (.refl _) ⟨⟨_, _, _, G_hit, old_notin_nil, rfl, all2_d, rfl⟩, trivial⟩

noncomputable def convoy_mind_done_oa (p1 : ConvoyMind) (p2 : ConvoyLetter) : Option ConvoyMind :=
  cond (((p2.Note_.To != p1.Mate_.ID) || (p1.Mate_.Until == 0)) || (p2.Note_.From != p1.Mate_.Ward)) (some p1) ((cond (!p1.sees) ((convoy_Better p1.Mate_.WardGuess p2.guess).bind fun v1 => some (ConvoyMind.mk (Mate.mk p1.Mate_.ID p1.Mate_.S p1.Mate_.V p1.Mate_.Len p1.Mate_.Ward v1 true p1.Mate_.Ward p1.Mate_.WardGuess p1.Mate_.Until) p1.tick p1.gap p1.sight p1.sees)) (some (ConvoyMind.mk (Mate.mk p1.Mate_.ID p1.Mate_.S p1.Mate_.V p1.Mate_.Len p1.Mate_.Ward p1.Mate_.WardGuess true p1.Mate_.Ward p1.Mate_.WardGuess p1.Mate_.Until) p1.tick p1.gap p1.sight p1.sees))).bind fun y1 => (convoy_mind_forget_o y1).bind fun v2 => some v2)

/-- (*kerbstone/convoy.mind).done -/
def ac_convoy_mind_done_oa : AC := (.seq (.reg [oo 3 (.box 125 true (.t 1))]) (.seq (.seq (.draw [oo 4 (.fieldA 0 (.t 3)), oo 5 (.fieldA 2 (.t 4)), oo 6 (.load 1 false (.t 5)), oo 7 (.mv (.t 0)), oo 8 (.nilck (.t 7)), oo 9 (.fieldA 0 (.t 8)), oo 10 (.fieldA 0 (.t 9)), oo 11 (.load 1 false (.t 10)), oo 12 (.bin .neq (.t 6) (.t 11)), oo 13 (.mv (.t 12)), oh 14 (.mv (.t 0)) 13, oh 15 (.nilck (.t 14)) 13, oh 16 (.fieldA 0 (.t 15)) 13, oh 17 (.fieldA 11 (.t 16)) 13, oh 18 (.load 1 false (.t 17)) 13, oh 19 (.bin .eql (.t 18) (ci 0)) 13, oo 20 (.pick (.t 13) (.c (.v (.bool true))) (.t 19)), oo 21 (.mv (.t 20)), oh 22 (.fieldA 0 (.t 3)) 21, oh 23 (.fieldA 1 (.t 22)) 21, oh 24 (.load 1 false (.t 23)) 21, oh 25 (.mv (.t 0)) 21, oh 26 (.nilck (.t 25)) 21, oh 27 (.fieldA 0 (.t 26)) 21, oh 28 (.fieldA 8 (.t 27)) 21, oh 29 (.load 1 false (.t 28)) 21, oh 30 (.bin .neq (.t 24) (.t 29)) 21, oo 31 (.pick (.t 21) (.c (.v (.bool true))) (.t 30))] []) (.cond (.t 31) .ret .skip)) (.seq (.draw [oo 32 (.mv (.t 0)), oo 33 (.mv (.t 0)), oo 34 (.mv (.t 0)), oo 35 (.mv (.t 0)), oo 36 (.nilck (.t 35)), oo 37 (.fieldA 0 (.t 36)), oo 38 (.fieldA 8 (.t 37)), oo 39 (.load 1 false (.t 38)), oo 40 (.mv (.t 0)), oo 41 (.nilck (.t 40)), oo 42 (.fieldA 0 (.t 41)), oo 43 (.fieldA 9 (.t 42)), oo 44 (.load 2 true (.t 43)), oo 45 (.nilck (.t 32)), oo 46 (.fieldA 0 (.t 45)), oo 47 (.fieldA 4 (.t 46)), oe (.store 1 (.t 47) (.t 39)), oo 48 (.nilck (.t 33)), oo 49 (.fieldA 0 (.t 48)), oo 50 (.fieldA 5 (.t 49)), oe (.store 2 (.t 50) (.t 44)), oo 51 (.nilck (.t 34)), oo 52 (.fieldA 0 (.t 51)), oo 53 (.fieldA 7 (.t 52)), oe (.store 1 (.t 53) (.c (.v (.bool true))))] []) (.seq (.seq (.reg [oo 54 (.mv (.t 0)), oo 55 (.nilck (.t 54)), oo 56 (.fieldA 19 (.t 55)), oo 57 (.load 1 false (.t 56)), oo 58 (.un .not (.t 57))]) (.cond (.t 58) (.draw [oo 59 (.mv (.t 0)), oo 60 (.mv (.t 0)), oo 61 (.nilck (.t 60)), oo 62 (.fieldA 0 (.t 61)), oo 63 (.fieldA 9 (.t 62)), oo 64 (.load 2 true (.t 63)), oo 65 (.fieldA 7 (.t 3)), oo 66 (.load 2 true (.t 65)), oo 67 (.call (cf 19) [(.t 64), (.t 66)]), oo 68 (.nilck (.t 59)), oo 69 (.fieldA 0 (.t 68)), oo 70 (.fieldA 5 (.t 69)), oe (.store 2 (.t 70) (.t 67))] []) .skip)) (.reg [oo 71 (.mv (.t 0)), oo 72 (.ocall 10050010 (cf 113) [(.t 71)])])))))
theorem fn_convoy_mind_done_oa : FnOK Try.prog 130 73 [] ac_convoy_mind_done_oa := ⟨_, _, Try.func130, rfl, Try.ntmps130, by kernel_rfl, ⟨fun r => if r == 5 then [1005001] else [], by kernel_rfl⟩, by kernel_rfl⟩
set_option maxHeartbeats 4000000 in
theorem convoy_mind_done_oa_ok (p1 : ConvoyMind) (p2 : ConvoyLetter) (r : ConvoyMind) (h : convoy_mind_done_oa p1 p2 = some r) : MCall Try.prog 130 [(.ptr (900000, 0) 0), (.d (.agg (eConvoyLetter p2)))] [(.box 107 (dConvoyMind p1))] (.d (.tup [])) [some (.box 107 (dConvoyMind r))] [] := by
  refine m_callF fn_convoy_mind_done_oa rfl (nl rfl) ?_
  unfold convoy_mind_done_oa at h
  unfold ac_convoy_mind_done_oa
  refine l_sub (s0 := ⟨T [(0, (.ptr _ _)), (1, (.d _))], G [((900000, 0), some (.box 107 _))]⟩) (sbr rfl rfl) ?_
  refine lr (fun u1 hu1 => sn rfl rfl (s_nil (l_seq (l_seq (l_draw rfl fun u2 hu2 => sp rfl rfl (sp rfl rfl (sl rfl G_hit rfl (sp rfl rfl (sp rfl rfl (sp rfl rfl (sp rfl rfl (sl rfl (gq rfl) rfl (sv rfl (sv rfl (gp rfl (gw_f rfl) (fun _ => rfl) ?_)))))))))))))))
  refine g_val _ (.ptr _ _) rfl (gw_f rfl) (fun w2 => (by simp only [gd_pos w2]; rfl)) ?_
  refine g_val _ (.ptr _ _) rfl (gw_f rfl) (fun w3 => (by simp only [gd_pos w3]; rfl)) ?_
  refine g_val _ (.ptr _ _) rfl (gw_f rfl) (fun w4 => (by simp only [gd_pos w4]; rfl)) ?_
  refine gf rfl (vl rfl (gq rfl) rfl) (gf rfl (vb rfl rfl rfl) (sd rfl (v_or rfl rfl (fun hc => gd_pos (not_t hc))) (sv rfl (gp rfl (gw_f rfl) (fun _ => rfl) ?_))))
  refine g_val _ (.ptr _ _) rfl (gw_f rfl) (fun w8 => (by simp only [gd_pos w8]; rfl)) ?_
  refine gf rfl (vl rfl G_hit rfl) (gp rfl (gw_f rfl) (fun _ => rfl) ?_)
  refine g_val _ (.ptr _ _) rfl (gw_f rfl) (fun w11 => (by simp only [gd_pos w11]; rfl)) ?_
  refine g_val _ (.ptr _ _) rfl (gw_f rfl) (fun w12 => (by simp only [gd_pos w12]; rfl)) ?_
  refine g_val _ (.ptr _ _) rfl (gw_f rfl) (fun w13 => (by simp only [gd_pos w13]; rfl)) ?_
  refine gf rfl (vl rfl (gq rfl) rfl) (gf rfl (fun w15 => (v_bin (gd_pos w15) (gd_pos w15) rfl)) (sd rfl (v_or rfl rfl (fun hc => gd_pos (not_t hc))) (s_nil (cc rfl h (fun c1 h => ?_) (fun c1 h => ?_)))))
  · refine l_ret ?_
    obtain rfl := Option.some.inj h
    exact fin_mf (.inr rfl) [] resDF0 (.refl _) ⟨⟨_, _, _, (gq rfl), old_notin_nil, rfl, all2_d, rfl⟩, trivial⟩
  · refine l_skip (l_seq (l_sub (s0 := ⟨T [(0, (.ptr _ _)), (3, (.ptr _ _))], G [((900000, 0), some (.box 107 _)), ((3, u1), some (.box 125 _))]⟩) (sbr rfl rfl) ?_))
    refine l_draw rfl fun u3 hu3 => sp rfl rfl (sp rfl rfl (sp rfl rfl (sp rfl rfl (sp rfl rfl (sp rfl rfl (sp rfl rfl (sl rfl G_hit rfl (sp rfl rfl (sp rfl rfl (sp rfl rfl (sp rfl rfl (sd rfl (v_loadG rfl G_hit rfl rfl) (sp rfl rfl (sp rfl rfl (sp rfl rfl (sst rfl G_hit [(di p1.Mate_.ID), (di p1.Mate_.S), (di p1.Mate_.V), (di p1.Mate_.Len), (di p1.Mate_.Ward), (di p1.Mate_.Guess_.R), (di p1.Mate_.Guess_.V), (.d (bo p1.Mate_.Trust)), (di p1.Mate_.Ward), (di p1.Mate_.WardGuess.R), (di p1.Mate_.WardGuess.V), (di p1.Mate_.Until), (di p1.tick), (di p1.gap), (di p1.sight.By), (di p1.sight.Lo), (di p1.sight.Hi), (di p1.sight.VLo), (di p1.sight.VHi), (.d (bo p1.sees))] rfl (sp rfl rfl (sp rfl rfl (sp rfl rfl (sst rfl G_hit [(di p1.Mate_.ID), (di p1.Mate_.S), (di p1.Mate_.V), (di p1.Mate_.Len), (di p1.Mate_.Ward), (di p1.Mate_.WardGuess.R), (di p1.Mate_.WardGuess.V), (.d (bo p1.Mate_.Trust)), (di p1.Mate_.Ward), (di p1.Mate_.WardGuess.R), (di p1.Mate_.WardGuess.V), (di p1.Mate_.Until), (di p1.tick), (di p1.gap), (di p1.sight.By), (di p1.sight.Lo), (di p1.sight.Hi), (di p1.sight.VLo), (di p1.sight.VHi), (.d (bo p1.sees))] rfl (sp rfl rfl (sp rfl rfl (sp rfl rfl (sst rfl G_hit [(di p1.Mate_.ID), (di p1.Mate_.S), (di p1.Mate_.V), (di p1.Mate_.Len), (di p1.Mate_.Ward), (di p1.Mate_.WardGuess.R), (di p1.Mate_.WardGuess.V), (.d (bo true)), (di p1.Mate_.Ward), (di p1.Mate_.WardGuess.R), (di p1.Mate_.WardGuess.V), (di p1.Mate_.Until), (di p1.tick), (di p1.gap), (di p1.sight.By), (di p1.sight.Lo), (di p1.sight.Hi), (di p1.sight.VLo), (di p1.sight.VHi), (.d (bo p1.sees))] rfl (s_nil (l_seq (l_seq (l_sub (s0 := ⟨T [(0, (.ptr _ _)), (3, (.ptr _ _))], G [((900000, 0), some (.box 107 _)), ((3, u1), some (.box 125 _))]⟩) (sbr rfl rfl) ?_))))))))))))))))))))))))))))
    refine l_reg fun u4 hu4 => sp rfl rfl (sp rfl rfl (sp rfl rfl (sl rfl G_hit rfl (s_val (.d (bo (!p1.sees))) rfl rfl (s_nil (bs h fun y1 hy1 h => l_join (fun s => ∃ g1 : Unit, Sb ⟨T [(0, (.ptr (900000, 0) 0))], G [((900000, 0), some (.box 107 (dConvoyMind y1)))]⟩ s) ?_ ?_))))))
    · refine cc rfl hy1 (fun c2 hy1 => ?_) (fun c2 hy1 => ?_)
      · refine l_draw rfl fun u5 hu5 => sp rfl rfl (sp rfl rfl (sp rfl rfl (sp rfl rfl (sp rfl rfl (sd rfl (v_loadG rfl G_hit rfl rfl) (sp rfl rfl (sd rfl (v_loadG rfl (gq rfl) rfl rfl) (bs hy1 fun v1 hv1 hy1 => s_call rfl rfl all2_refl (convoy_Better_ok _ _  _ hv1) (.inl rfl) (sp rfl rfl (sp rfl rfl (sp rfl rfl (sst rfl G_hit [(di p1.Mate_.ID), (di p1.Mate_.S), (di p1.Mate_.V), (di p1.Mate_.Len), (di p1.Mate_.Ward), (di v1.R), (di v1.V), (.d (bo true)), (di p1.Mate_.Ward), (di p1.Mate_.WardGuess.R), (di p1.Mate_.WardGuess.V), (di p1.Mate_.Until), (di p1.tick), (di p1.gap), (di p1.sight.By), (di p1.sight.Lo), (di p1.sight.Hi), (di p1.sight.VLo), (di p1.sight.VHi), (.d (bo p1.sees))] rfl (s_nil ?_)))))))))))))
        obtain rfl := Option.some.inj hy1
        exact l_j ⟨(), (sbr rfl rfl)⟩
      · refine l_skip ?_
        obtain rfl := Option.some.inj hy1
        exact l_j ⟨(), (sbr rfl rfl)⟩
    · rintro _ ⟨g1, q1⟩
      refine l_sub q1 (l_reg fun u6 hu6 => sp rfl rfl (bs h fun v2 hv2 h => s_oc (v := .d (.tup [])) (us := [(900000, 0)]) (oc_m (convoy_mind_forget_o_ok _ _ hv2) [(900000, 0)] [(900000, 0)] _ (((900000, 0), some (.box 107 (dConvoyMind v2))) :: _) rfl all2_av (kl_cons (kr_ptr G_hit rfl) kl_nil) (live_cons G_hit live_nil) ⟨⟨_, G_hit, .of rfl⟩, trivial⟩ (fun _ h => h) nd1 rfl rfl rfl) (s_nil (l_nil ?_))))
      obtain rfl := Option.some.inj h
      exact fin_mf (.inl rfl) [] resDF0 (.refl _) ⟨⟨_, _, _, G_hit, old_notin_nil, rfl, all2_d, rfl⟩, trivial⟩

noncomputable def choose_convoy_mind_hail_oa (v : Nat) (p1 : ConvoyMind) (p2 : ConvoyLetter) : Option ConvoyMind :=
  cond (Nat.beq v 127) (convoy_mind_hail_oa p1 p2) (cond (Nat.beq v 128) (convoy_mind_ask_oa p1 p2) (cond (Nat.beq v 129) (convoy_mind_grant_oa p1 p2) (cond (Nat.beq v 130) (convoy_mind_done_oa p1 p2) (none))))

theorem choose_convoy_mind_hail_oa_ok (v : Nat) (p1 : ConvoyMind) (p2 : ConvoyLetter) (r : ConvoyMind) (h : choose_convoy_mind_hail_oa v p1 p2 = some r) : MCall Try.prog v [(.ptr (900000, 0) 0), (.d (.agg [(i64 p2.Note_.Kind), (i64 p2.Note_.From), (i64 p2.Note_.To), (i64 p2.Note_.Stamp), (i64 p2.Note_.R), (i64 p2.Note_.V), (i64 p2.Note_.Until), (i64 p2.guess.R), (i64 p2.guess.V)]))] [(.box 107 [(.d (i64 p1.Mate_.ID)), (.d (i64 p1.Mate_.S)), (.d (i64 p1.Mate_.V)), (.d (i64 p1.Mate_.Len)), (.d (i64 p1.Mate_.Ahead)), (.d (i64 p1.Mate_.Guess_.R)), (.d (i64 p1.Mate_.Guess_.V)), (.d (bo p1.Mate_.Trust)), (.d (i64 p1.Mate_.Ward)), (.d (i64 p1.Mate_.WardGuess.R)), (.d (i64 p1.Mate_.WardGuess.V)), (.d (i64 p1.Mate_.Until)), (.d (i64 p1.tick)), (.d (i64 p1.gap)), (.d (i64 p1.sight.By)), (.d (i64 p1.sight.Lo)), (.d (i64 p1.sight.Hi)), (.d (i64 p1.sight.VLo)), (.d (i64 p1.sight.VHi)), (.d (bo p1.sees))])] (.d (.tup [])) [some (.box 107 [(.d (i64 r.Mate_.ID)), (.d (i64 r.Mate_.S)), (.d (i64 r.Mate_.V)), (.d (i64 r.Mate_.Len)), (.d (i64 r.Mate_.Ahead)), (.d (i64 r.Mate_.Guess_.R)), (.d (i64 r.Mate_.Guess_.V)), (.d (bo r.Mate_.Trust)), (.d (i64 r.Mate_.Ward)), (.d (i64 r.Mate_.WardGuess.R)), (.d (i64 r.Mate_.WardGuess.V)), (.d (i64 r.Mate_.Until)), (.d (i64 r.tick)), (.d (i64 r.gap)), (.d (i64 r.sight.By)), (.d (i64 r.sight.Lo)), (.d (i64 r.sight.Hi)), (.d (i64 r.sight.VLo)), (.d (i64 r.sight.VHi)), (.d (bo r.sees))])] [] := by
  unfold choose_convoy_mind_hail_oa at h
  rcases disp_t h with ⟨rfl, h⟩ | ⟨_, h⟩
  · exact convoy_mind_hail_oa_ok _ _ r h
  rcases disp_t h with ⟨rfl, h⟩ | ⟨_, h⟩
  · exact convoy_mind_ask_oa_ok _ _ r h
  rcases disp_t h with ⟨rfl, h⟩ | ⟨_, h⟩
  · exact convoy_mind_grant_oa_ok _ _ r h
  rcases disp_t h with ⟨rfl, h⟩ | ⟨_, h⟩
  · exact convoy_mind_done_oa_ok _ _ r h
  cases h

noncomputable def convoy_mind_thinks_1_bb (p1 : ConvoyLetter) (p2 : ConvoyMind) : Option Bool :=
  some ((((p1.Note_.Kind == 2) && (p1.Note_.To == p2.Mate_.ID)) && (p1.Note_.From == p2.Mate_.Ward)) && (p1.Note_.From != p2.Mate_.ID))

/-- (*kerbstone/convoy.mind).thinks$1 -/
def ac_convoy_mind_thinks_1_bb : AC := (.seq (.reg [oo 2 (.box 125 true (.t 0)), oo 3 (.mv (.c zf))]) (.seq (.draw [oo 4 (.fieldA 0 (.t 2)), oo 5 (.fieldA 0 (.t 4)), oo 6 (.load 1 false (.t 5)), oo 7 (.bin .eql (.t 6) (ci 2)), oo 8 (.mv (.t 7)), og 9 (.fieldA 0 (.t 2)) 8, og 10 (.fieldA 2 (.t 9)) 8, og 11 (.load 1 false (.t 10)) 8, og 12 (.load 1 false (.t 1)) 8, og 13 (.nilck (.t 12)) 8, og 14 (.fieldA 0 (.t 13)) 8, og 15 (.fieldA 0 (.t 14)) 8, og 16 (.load 1 false (.t 15)) 8, og 17 (.bin .eql (.t 11) (.t 16)) 8, oo 18 (.pick (.t 8) (.t 17) (.c zf)), oo 19 (.mv (.t 18)), og 20 (.fieldA 0 (.t 2)) 19, og 21 (.fieldA 1 (.t 20)) 19, og 22 (.load 1 false (.t 21)) 19, og 23 (.load 1 false (.t 1)) 19, og 24 (.nilck (.t 23)) 19, og 25 (.fieldA 0 (.t 24)) 19, og 26 (.fieldA 8 (.t 25)) 19, og 27 (.load 1 false (.t 26)) 19, og 28 (.bin .eql (.t 22) (.t 27)) 19, oo 29 (.pick (.t 19) (.t 28) (.c zf)), oo 30 (.mv (.t 29)), og 31 (.fieldA 0 (.t 2)) 30, og 32 (.fieldA 1 (.t 31)) 30, og 33 (.load 1 false (.t 32)) 30, og 34 (.load 1 false (.t 1)) 30, og 35 (.nilck (.t 34)) 30, og 36 (.fieldA 0 (.t 35)) 30, og 37 (.fieldA 0 (.t 36)) 30, og 38 (.load 1 false (.t 37)) 30, og 39 (.bin .neq (.t 33) (.t 38)) 30, oo 40 (.pick (.t 30) (.t 39) (.c zf)), oo 3 (.mv (.t 40))] []) .ret))
theorem fn_convoy_mind_thinks_1_bb : FnOK Try.prog 111 41 [.t 3] ac_convoy_mind_thinks_1_bb := ⟨_, _, Try.func111, rfl, Try.ntmps111, by kernel_rfl, ⟨fun _ => [], by kernel_rfl⟩, by kernel_rfl⟩
theorem convoy_mind_thinks_1_bb_ok (p1 : ConvoyLetter) (p2 : ConvoyMind) (r : Bool) (h : convoy_mind_thinks_1_bb p1 p2 = some r) : PCall Try.prog 111 [(.agg (eConvoyLetter p1)), (.bp [(.bp (eConvoyMind p2) 0)] 0)] (bo r) := by
  refine l_call fn_convoy_mind_thinks_1_bb (nl rfl) ?_
  unfold convoy_mind_thinks_1_bb at h
  unfold ac_convoy_mind_thinks_1_bb
  refine l_sub (s0 := ⟨T [(0, (.d _)), (1, (.d _))], G []⟩) (sbr rfl rfl) ?_
  refine lr (fun u1 hu1 => sn rfl rfl (sv rfl (s_nil (l_seq (l_draw rfl fun u2 hu2 => sp rfl rfl (sp rfl rfl (sl rfl G_hit rfl (sv rfl (sv rfl (gp rfl (gw_t rfl) (fun _ => rfl) ?_))))))))))
  refine g_val _ (.ptr _ _) rfl (gw_t rfl) (fun w2 => (by simp only [gd_pos w2]; rfl)) ?_
  refine gt rfl (vl rfl G_hit rfl) (gt rfl (fun _ => rfl) ?_)
  refine gt rfl (fun w5 => (by simp only [gd_pos w5]; rfl)) ?_
  refine gt rfl (fun w6 => (by simp only [gd_pos w6]; rfl)) ?_
  refine gt rfl (fun w7 => (by simp only [gd_pos w7]; rfl)) ?_
  refine gt rfl (fun w8 => (by simp only [gd_pos w8]; rfl)) ?_
  refine gt rfl (fun w9 => (v_bin (gd_pos w9) (gd_pos w9) rfl)) (sa rfl rfl rfl (sv rfl (gp rfl (gw_t rfl) (fun _ => rfl) ?_)))
  refine g_val _ (.ptr _ _) rfl (gw_t rfl) (fun w11 => (by simp only [gd_pos w11]; rfl)) ?_
  refine gt rfl (vl rfl G_hit rfl) (gt rfl (fun _ => rfl) ?_)
  refine gt rfl (fun w14 => (by simp only [gd_pos w14]; rfl)) ?_
  refine gt rfl (fun w15 => (by simp only [gd_pos w15]; rfl)) ?_
  refine gt rfl (fun w16 => (by simp only [gd_pos w16]; rfl)) ?_
  refine gt rfl (fun w17 => (by simp only [gd_pos w17]; rfl)) ?_
  refine gt rfl (fun w18 => (v_bin (gd_pos w18) (gd_pos w18) rfl)) (sa rfl rfl rfl (sv rfl (gp rfl (gw_t rfl) (fun _ => rfl) ?_)))
  refine g_val _ (.ptr _ _) rfl (gw_t rfl) (fun w20 => (by simp only [gd_pos w20]; rfl)) ?_
  refine gt rfl (vl rfl G_hit rfl) (gt rfl (fun _ => rfl) ?_)
  refine gt rfl (fun w23 => (by simp only [gd_pos w23]; rfl)) ?_
  refine gt rfl (fun w24 => (by simp only [gd_pos w24]; rfl)) ?_
  refine gt rfl (fun w25 => (by simp only [gd_pos w25]; rfl)) ?_
  refine gt rfl (fun w26 => (by simp only [gd_pos w26]; rfl)) ?_
  refine gt rfl (fun w27 => (v_bin (gd_pos w27) (gd_pos w27) rfl)) (sa rfl rfl rfl (sv rfl (s_nil (l_ret ?_))))
  obtain rfl := Option.some.inj h
  exact fin_ok (.inr rfl) (resD1 (res_t rfl) rf_d) (.refl _)

noncomputable def slices_IndexFunc_letter_letter_convoy_mind_thinks_1bb_l1 (p1 : (List ConvoyLetter)) (p2 : ConvoyMind) (x1 : Int) : Option (Stp Int (Sum Unit Int)) :=
  cond (decide (x1 < (p1.length : Int))) ((geti p1 x1).bind fun v1 => (convoy_mind_thinks_1_bb v1 p2).bind fun v2 => cond v2 (some (.out (.inr x1))) (some (.go (w64 (x1 + 1))))) (some (.out (.inl ())))
noncomputable def slices_IndexFunc_letter_letter_convoy_mind_thinks_1bb (p1 : (List ConvoyLetter)) (p2 : ConvoyMind) : Option Int :=
  thenS (loop (slices_IndexFunc_letter_letter_convoy_mind_thinks_1bb_l1 p1 p2) 0) (fun _ => some (-1)) (fun r => some r)

/-- slices.IndexFunc[[]kerbstone/convoy.letter,kerbstone/convoy.letter] -/
def ac_slices_IndexFunc_letter_letter_convoy_mind_thinks_1bb : AC := (.seq (.reg [oo 4 (.mv (ci 0))]) (.seq (.seq (.reg [oo 6 (.mv (.t 0)), oo 7 (.len (.t 6)), oo 8 (.mv (ci 0))]) (.block 0 (.loop (.seq (.reg [oo 9 (.bin .lss (.t 8) (.t 7))]) (.seq (.cond (.t 9) .skip (.exit 0)) (.seq (.block 1 (.seq (.reg [oo 10 (.mv (.t 8)), oo 5 (.mv (.t 10))]) (.seq (.reg [oo 11 (.mv (.t 1)), oo 12 (.mv (.t 0)), oo 13 (.mv (.t 5)), oo 14 (.idxS 9 (.t 12) (.t 13)), oo 15 (.load 9 true (.t 14)), oo 16 (.call (.t 11) [(.t 15)])]) (.cond (.t 16) (.seq (.reg [oo 17 (.mv (.t 5)), oo 4 (.mv (.t 17))]) .ret) .skip)))) (.reg [oo 18 (.bin .add (.t 8) (ci 1)), oo 8 (.mv (.t 18))]))))))) (.seq (.reg [oo 4 (.mv (ci (-1)))]) .ret)))
theorem fn_slices_IndexFunc_letter_letter_convoy_mind_thinks_1bb : FnOK Try.prog 131 19 [.t 4] ac_slices_IndexFunc_letter_letter_convoy_mind_thinks_1bb := ⟨_, _, Try.func131, rfl, Try.ntmps131, by kernel_rfl, ⟨fun _ => [], by kernel_rfl⟩, by kernel_rfl⟩
set_option maxHeartbeats 4000000 in
theorem slices_IndexFunc_letter_letter_convoy_mind_thinks_1bb_ok (p1 : (List ConvoyLetter)) (p2 : ConvoyMind) (r : Int) (h : slices_IndexFunc_letter_letter_convoy_mind_thinks_1bb p1 p2 = some r) : PCall Try.prog 131 [(.list (List.map eConvoyLetter p1)), (.fn (.func 111) [] [(.bp [(.bp (eConvoyMind p2) 0)] 0)])] (i64 r) := by
  refine l_call fn_slices_IndexFunc_letter_letter_convoy_mind_thinks_1bb (nl rfl) ?_
  unfold slices_IndexFunc_letter_letter_convoy_mind_thinks_1bb at h
  unfold ac_slices_IndexFunc_letter_letter_convoy_mind_thinks_1bb
  refine l_sub (s0 := ⟨T [(0, (.d _)), (1, (.d _))], G []⟩) (sbr rfl rfl) ?_
  refine lr (fun u1 hu1 => sv rfl (s_nil (l_seq (lr (fun u2 hu2 => sv rfl (sd rfl (v_len rfl) (sv rfl (s_nil (js h fun z1 hz1 h => l_join (fun s => ∃ (y1 : Unit) (g1 : Unit), z1 = .inl y1 ∧ Sb ⟨T [], G []⟩ s) ?_ ?_)))))))))
  · refine l_block (l_loop (slices_IndexFunc_letter_letter_convoy_mind_thinks_1bb_l1 p1 p2) (fun (x1 : Int) (g2 : Unit) => ⟨T [(0, (dl eConvoyLetter p1)), (1, (.d (.fn (.func 111) [] [(.bp [(.bp (eConvoyMind p2) 0)] 0)]))), (7, (di (p1.length : Int))), (8, (di x1))], G []⟩) 0 () _ hz1 (sbr rfl rfl) ?_)
    intro x1 g2 z2 hz2 ez2
    unfold slices_IndexFunc_letter_letter_convoy_mind_thinks_1bb_l1 at hz2
    refine lr (fun u3 hu3 => sv rfl (s_nil (l_seq (cc rfl hz2 (fun c1 hz2 => ?_) (fun c1 hz2 => ?_)))))
    · refine l_skip (l_seq (l_block (lr (fun u4 hu4 => sv rfl (sv rfl (s_nil (lr (fun u5 hu5 => sv rfl (sv rfl (sv rfl (bs hz2 fun v1 hv1 hz2 => sd rfl (v_idx rfl rfl hv1 rfl) (sd rfl (v_loadLG rfl hv1 rfl rfl) (bs hz2 fun v2 hv2 hz2 => s_call rfl rfl all2_refl (convoy_mind_thinks_1_bb_ok _ _  _ hv2) (.inl rfl) (s_nil (cc rfl hz2 (fun c2 hz2 => ?_) (fun c2 hz2 => ?_))))))))))))))))
      · refine lr (fun u6 hu6 => sv rfl (sv rfl (s_nil (l_ret ?_))))
        obtain rfl := Option.some.inj hz2
        obtain rfl := ez2 _ rfl
        refine ⟨nofun, awl_ret ?_⟩
        rw [Sum.elim_inr] at h
        obtain rfl := Option.some.inj h
        exact fin_ok (.inr rfl) (resD1 (res_t rfl) rf_d) (.refl _)
      · refine l_skip (l_end (l_reg fun u7 hu7 => sv rfl (sv rfl (s_nil (l_nil ?_)))))
        obtain rfl := Option.some.inj hz2
        exact ⟨rfl, (), (sbr rfl rfl)⟩
    · refine l_exitN rfl ?_
      obtain rfl := Option.some.inj hz2
      obtain rfl := ez2 _ rfl
      refine ⟨nofun, awl_pop rfl (l_j ?_)⟩
      exact ⟨_, (), rfl, (sbr rfl rfl)⟩
  · rintro _ ⟨y1, g1, rfl, q1⟩
    rw [Sum.elim_inl] at h
    refine l_sub q1 (lr (fun u8 hu8 => sv rfl (s_nil (l_ret ?_))))
    obtain rfl := Option.some.inj h
    exact fin_ok (.inr rfl) (resD1 (res_t rfl) rf_d) (.refl _)

noncomputable def slices_ContainsFunc_letter_letter_convoy_mind_thinks_1bb (p1 : (List ConvoyLetter)) (p2 : ConvoyMind) : Option Bool :=
  (slices_IndexFunc_letter_letter_convoy_mind_thinks_1bb p1 p2).bind fun v1 => some (decide (v1 ≥ 0))

/-- slices.ContainsFunc[[]kerbstone/convoy.letter,kerbstone/convoy.letter] -/
def ac_slices_ContainsFunc_letter_letter_convoy_mind_thinks_1bb : AC := (.seq (.reg [oo 4 (.mv (.c zf))]) (.seq (.reg [oo 5 (.mv (.t 0)), oo 6 (.mv (.t 1)), oo 7 (.call (cf 131) [(.t 5), (.t 6)]), oo 8 (.bin .geq (.t 7) (ci 0)), oo 4 (.mv (.t 8))]) .ret))
theorem fn_slices_ContainsFunc_letter_letter_convoy_mind_thinks_1bb : FnOK Try.prog 112 9 [.t 4] ac_slices_ContainsFunc_letter_letter_convoy_mind_thinks_1bb := ⟨_, _, Try.func112, rfl, Try.ntmps112, by kernel_rfl, ⟨fun _ => [], by kernel_rfl⟩, by kernel_rfl⟩
theorem slices_ContainsFunc_letter_letter_convoy_mind_thinks_1bb_ok (p1 : (List ConvoyLetter)) (p2 : ConvoyMind) (r : Bool) (h : slices_ContainsFunc_letter_letter_convoy_mind_thinks_1bb p1 p2 = some r) : PCall Try.prog 112 [(.list (List.map eConvoyLetter p1)), (.fn (.func 111) [] [(.bp [(.bp (eConvoyMind p2) 0)] 0)])] (bo r) := by
  refine l_call fn_slices_ContainsFunc_letter_letter_convoy_mind_thinks_1bb (nl rfl) ?_
  unfold slices_ContainsFunc_letter_letter_convoy_mind_thinks_1bb at h
  unfold ac_slices_ContainsFunc_letter_letter_convoy_mind_thinks_1bb
  refine l_sub (s0 := ⟨T [(0, (.d _)), (1, (.d _))], G []⟩) (sbr rfl rfl) ?_
  refine lr (fun u1 hu1 => sv rfl (s_nil (lr (fun u2 hu2 => sv rfl (sv rfl (bs h fun v1 hv1 h => s_call rfl rfl all2_refl (slices_IndexFunc_letter_letter_convoy_mind_thinks_1bb_ok _ _  _ hv1) (.inl rfl) (sv rfl (sv rfl (s_nil (l_ret ?_))))))))))
  obtain rfl := Option.some.inj h
  exact fin_ok (.inr rfl) (resD1 (res_t rfl) rf_d) (.refl _)

noncomputable def convoy_mind_thinks_o_l1 (p2 : (List ConvoyLetter)) (x1 : (Int × ConvoyMind)) : Option (Stp (Int × ConvoyMind) ConvoyMind) :=
  cond (decide (x1.1 < (p2.length : Int))) ((geti p2 x1.1).bind fun v1 => cond (v1.Note_.From != x1.2.Mate_.ID) ((convoy_hears v1.Note_.Kind).bind fun v2 => (choose_convoy_mind_hail_oa v2 x1.2 v1).bind fun v3 => some (.go ((w64 (x1.1 + 1)), v3))) (some (.go ((w64 (x1.1 + 1)), x1.2)))) (some (.out x1.2))
noncomputable def convoy_mind_thinks_o (p1 : ConvoyMind) (p2 : (List ConvoyLetter)) : Option ConvoyMind :=
  (loop (convoy_mind_thinks_o_l1 p2) (0, p1)).bind fun y1 => ((cond ((y1.Mate_.Ward != 0) && (y1.Mate_.Until == 0)) (slices_ContainsFunc_letter_letter_convoy_mind_thinks_1bb p2 y1) (some default))).bind fun v4 => (cond (((y1.Mate_.Ward != 0) && (y1.Mate_.Until == 0)) && (!v4)) ((convoy_mind_forget_o y1).bind fun v5 => some v5) (some y1)).bind fun y2 => (cond (y2.sees && (y2.Mate_.Ahead != 0)) ((convoy_Better y2.Mate_.Guess_ (Guess.mk y2.sight.Lo y2.sight.VLo)).bind fun v6 => some (ConvoyMind.mk (Mate.mk y2.Mate_.ID y2.Mate_.S y2.Mate_.V y2.Mate_.Len y2.Mate_.Ahead v6 y2.Mate_.Trust y2.Mate_.Ward y2.Mate_.WardGuess y2.Mate_.Until) y2.tick y2.gap y2.sight y2.sees)) (some y2)).bind fun y3 => ((cond ((y3.Mate_.Ward != 0) && (y3.Mate_.Until == 0)) (convoy_Safe y3.Mate_.S y3.Mate_.V y3.gap y3.Mate_.WardGuess) (some default))).bind fun v7 => cond (((y3.Mate_.Ward != 0) && (y3.Mate_.Until == 0)) && v7) (some (ConvoyMind.mk (Mate.mk y3.Mate_.ID y3.Mate_.S y3.Mate_.V y3.Mate_.Len y3.Mate_.Ahead y3.Mate_.Guess_ y3.Mate_.Trust y3.Mate_.Ward y3.Mate_.WardGuess (w64 (y3.tick + 30))) y3.tick y3.gap y3.sight y3.sees)) (some y3)

/-- (*kerbstone/convoy.mind).thinks -/
def ac_convoy_mind_thinks_o : AC := (.seq (.reg [oo 2 (.box 105 false (.t 0))]) (.seq (.seq (.reg [oo 7 (.mv (.t 1)), oo 8 (.len (.t 7)), oo 9 (.mv (ci 0))]) (.block 0 (.loop (.seq (.reg [oo 10 (.bin .lss (.t 9) (.t 8))]) (.seq (.cond (.t 10) .skip (.exit 0)) (.seq (.block 1 (.seq (.reg [oo 11 (.idxS 9 (.t 7) (.t 9)), oo 12 (.load 9 true (.t 11)), oo 5 (.alloc 125 [z0, z0, z0, z0, z0, z0, z0, z0, z0]), oe (.store 9 (.t 5) (.t 12))]) (.seq (.draw [oo 13 (.fieldA 0 (.t 5)), oo 14 (.fieldA 1 (.t 13)), oo 15 (.load 1 false (.t 14)), oo 16 (.load 1 false (.t 2)), oo 17 (.nilck (.t 16)), oo 18 (.fieldA 0 (.t 17)), oo 19 (.fieldA 0 (.t 18)), oo 20 (.load 1 false (.t 19)), oo 21 (.bin .neq (.t 15) (.t 20))] []) (.cond (.t 21) (.draw [oo 22 (.fieldA 0 (.t 5)), oo 23 (.fieldA 0 (.t 22)), oo 24 (.load 1 false (.t 23)), oo 25 (.call (cf 110) [(.t 24)]), oo 26 (.load 1 false (.t 2)), oo 27 (.load 9 true (.t 5)), oo 28 (.ocall 10050060 (.t 25) [(.t 26), (.t 27)])] []) .skip)))) (.reg [oo 29 (.bin .add (.t 9) (ci 1)), oo 9 (.mv (.t 29))]))))))) (.seq (.reg [oo 30 (.mkfn (.func 111) [] [(.t 2)]), oo 6 (.mv (.t 30))]) (.seq (.seq (.reg [oo 31 (.load 1 false (.t 2)), oo 32 (.nilck (.t 31)), oo 33 (.fieldA 0 (.t 32)), oo 34 (.fieldA 8 (.t 33)), oo 35 (.load 1 false (.t 34)), oo 36 (.bin .neq (.t 35) (ci 0)), oo 37 (.mv (.t 36)), og 38 (.load 1 false (.t 2)) 37, og 39 (.nilck (.t 38)) 37, og 40 (.fieldA 0 (.t 39)) 37, og 41 (.fieldA 11 (.t 40)) 37, og 42 (.load 1 false (.t 41)) 37, og 43 (.bin .eql (.t 42) (ci 0)) 37, oo 44 (.pick (.t 37) (.t 43) (.c zf)), oo 45 (.mv (.t 44)), og 46 (.mv (.t 1)) 45, og 47 (.mv (.t 6)) 45, og 48 (.call (cf 112) [(.t 46), (.t 47)]) 45, og 49 (.un .not (.t 48)) 45, oo 50 (.pick (.t 45) (.t 49) (.c zf))]) (.cond (.t 50) (.reg [oo 51 (.load 1 false (.t 2)), oo 52 (.ocall 10090010 (cf 113) [(.t 51)])]) .skip)) (.seq (.seq (.reg [oo 53 (.load 1 false (.t 2)), oo 54 (.nilck (.t 53)), oo 55 (.fieldA 19 (.t 54)), oo 56 (.load 1 false (.t 55)), oo 57 (.mv (.t 56)), og 58 (.load 1 false (.t 2)) 57, og 59 (.nilck (.t 58)) 57, og 60 (.fieldA 0 (.t 59)) 57, og 61 (.fieldA 4 (.t 60)) 57, og 62 (.load 1 false (.t 61)) 57, og 63 (.bin .neq (.t 62) (ci 0)) 57, oo 64 (.pick (.t 57) (.t 63) (.c zf))]) (.cond (.t 64) (.draw [oo 65 (.load 1 false (.t 2)), oo 66 (.load 1 false (.t 2)), oo 67 (.nilck (.t 66)), oo 68 (.fieldA 0 (.t 67)), oo 69 (.fieldA 5 (.t 68)), oo 70 (.load 2 true (.t 69)), oo 71 (.load 1 false (.t 2)), oo 72 (.nilck (.t 71)), oo 73 (.fieldA 14 (.t 72)), oo 74 (.fieldA 1 (.t 73)), oo 75 (.load 1 false (.t 74)), oo 76 (.load 1 false (.t 2)), oo 77 (.nilck (.t 76)), oo 78 (.fieldA 14 (.t 77)), oo 79 (.fieldA 3 (.t 78)), oo 80 (.load 1 false (.t 79)), oo 81 (.build [z0, z0] [(0, 1, (.t 75)), (1, 1, (.t 80))]), oo 82 (.call (cf 19) [(.t 70), (.t 81)]), oo 83 (.nilck (.t 65)), oo 84 (.fieldA 0 (.t 83)), oo 85 (.fieldA 5 (.t 84)), oe (.store 2 (.t 85) (.t 82))] []) .skip)) (.seq (.draw [oo 86 (.load 1 false (.t 2)), oo 87 (.nilck (.t 86)), oo 88 (.fieldA 0 (.t 87)), oo 89 (.fieldA 8 (.t 88)), oo 90 (.load 1 false (.t 89)), oo 91 (.bin .neq (.t 90) (ci 0)), oo 92 (.mv (.t 91)), og 93 (.load 1 false (.t 2)) 92, og 94 (.nilck (.t 93)) 92, og 95 (.fieldA 0 (.t 94)) 92, og 96 (.fieldA 11 (.t 95)) 92, og 97 (.load 1 false (.t 96)) 92, og 98 (.bin .eql (.t 97) (ci 0)) 92, oo 99 (.pick (.t 92) (.t 98) (.c zf)), oo 100 (.mv (.t 99)), og 101 (.load 1 false (.t 2)) 100, og 102 (.nilck (.t 101)) 100, og 103 (.fieldA 0 (.t 102)) 100, og 104 (.fieldA 1 (.t 103)) 100, og 105 (.load 1 false (.t 104)) 100, og 106 (.load 1 false (.t 2)) 100, og 107 (.nilck (.t 106)) 100, og 108 (.fieldA 0 (.t 107)) 100, og 109 (.fieldA 2 (.t 108)) 100, og 110 (.load 1 false (.t 109)) 100, og 111 (.load 1 false (.t 2)) 100, og 112 (.nilck (.t 111)) 100, og 113 (.fieldA 13 (.t 112)) 100, og 114 (.load 1 false (.t 113)) 100, og 115 (.load 1 false (.t 2)) 100, og 116 (.nilck (.t 115)) 100, og 117 (.fieldA 0 (.t 116)) 100, og 118 (.fieldA 9 (.t 117)) 100, og 119 (.load 2 true (.t 118)) 100, og 120 (.call (cf 21) [(.t 105), (.t 110), (.t 114), (.t 119)]) 100, oo 121 (.pick (.t 100) (.t 120) (.c zf))] []) (.cond (.t 121) (.draw [oo 122 (.load 1 false (.t 2)), oo 123 (.load 1 false (.t 2)), oo 124 (.nilck (.t 123)), oo 125 (.fieldA 12 (.t 124)), oo 126 (.load 1 false (.t 125)), oo 127 (.bin .add (.t 126) (ci 30)), oo 128 (.nilck (.t 122)), oo 129 (.fieldA 0 (.t 128)), oo 130 (.fieldA 11 (.t 129)), oe (.store 1 (.t 130) (.t 127))] []) .skip)))))))
theorem fn_convoy_mind_thinks_o : FnOK Try.prog 88 131 [] ac_convoy_mind_thinks_o := ⟨_, _, Try.func88, rfl, Try.ntmps88, by kernel_rfl, ⟨fun r => if r == 5 then [1005006] else if r == 9 then [1009001] else [], by kernel_rfl⟩, by kernel_rfl⟩
set_option maxHeartbeats 4000000 in
theorem convoy_mind_thinks_o_ok (p1 : ConvoyMind) (p2 : (List ConvoyLetter)) (r : ConvoyMind) (h : convoy_mind_thinks_o p1 p2 = some r) : MCall Try.prog 88 [(.ptr (900000, 0) 0), (dl eConvoyLetter p2)] [(.box 107 (dConvoyMind p1))] (.d (.tup [])) [some (.box 107 (dConvoyMind r))] [] := by
  refine m_callF fn_convoy_mind_thinks_o rfl (nl rfl) ?_
  unfold convoy_mind_thinks_o at h
  unfold ac_convoy_mind_thinks_o
  refine l_sub (s0 := ⟨T [(0, (.ptr _ _)), (1, (.d _))], G [((900000, 0), some (.box 107 _))]⟩) (sbr rfl rfl) ?_
  refine lr (fun u1 hu1 => sn rfl rfl (s_nil (l_seq (lr (fun u2 hu2 => sv rfl (sd rfl (v_len rfl) (sv rfl (s_nil (bs h fun y1 hy1 h => l_join (fun s => ∃ g1 : Unit, Sb ⟨T [(0, (.ptr (900000, 0) 0)), (1, (dl eConvoyLetter p2)), (2, (.ptr (2, u1) 0))], G [((900000, 0), some (.box 107 (dConvoyMind y1))), ((2, u1), some (.box 105 [(.ptr (900000, 0) 0)]))]⟩ s) ?_ ?_)))))))))
  · refine l_block (l_loop (convoy_mind_thinks_o_l1 p2) (fun (x1 : (Int × ConvoyMind)) (g2 : Unit) => ⟨T [(0, (.ptr (900000, 0) 0)), (1, (dl eConvoyLetter p2)), (2, (.ptr (2, u1) 0)), (7, (dl eConvoyLetter p2)), (8, (di (p2.length : Int))), (9, (di x1.1))], G [((900000, 0), some (.box 107 (dConvoyMind x1.2))), ((2, u1), some (.box 105 [(.ptr (900000, 0) 0)]))]⟩) (0, p1) () _ hy1 (sbr rfl rfl) ?_)
    intro x1 g2 z1 hz1 ez1
    unfold convoy_mind_thinks_o_l1 at hz1
    refine lr (fun u3 hu3 => sv rfl (s_nil (l_seq (cc rfl hz1 (fun c1 hz1 => ?_) (fun c1 hz1 => ?_)))))
    · refine l_skip (l_seq (l_block (lr (fun u4 hu4 => bs hz1 fun v1 hv1 hz1 => sd rfl (v_idx rfl rfl hv1 rfl) (sd rfl (v_loadLG rfl hv1 rfl rfl) (sn rfl rfl (sst rfl G_hit (dConvoyLetter v1) rfl (s_nil (l_seq (l_draw rfl fun u5 hu5 => sp rfl rfl (sp rfl rfl (sl rfl G_hit rfl (sp rfl (v_load rfl (gq rfl) rfl) (sp rfl rfl (sp rfl rfl (sp rfl rfl (sl rfl (gq rfl) rfl (sv rfl (s_nil (cc rfl hz1 (fun c2 hz1 => ?_) (fun c2 hz1 => ?_)))))))))))))))))))))
      · refine l_sub (s0 := ⟨T [(0, (.ptr _ _)), (1, (.d _)), (2, (.ptr _ _)), (5, (.ptr _ _)), (7, (.d _)), (8, (.d _)), (9, (.d _))], G [((900000, 0), some (.box 107 _)), ((2, u1), some (.box 105 _)), ((5, u4), some (.box 125 _))]⟩) (sbr rfl rfl) ?_
        refine l_draw rfl fun u6 hu6 => sp rfl rfl (sp rfl rfl (sl rfl (gq rfl) rfl (bs hz1 fun v2 hv2 hz1 => s_call rfl rfl all2_refl (convoy_hears_ok _  _ hv2) (.inl rfl) (sp rfl (v_load rfl (gq rfl) rfl) (sd rfl (v_loadG rfl (gq rfl) rfl rfl) (bs hz1 fun v3 hv3 hz1 => s_oc (v := .d (.tup [])) (us := [(900000, 0)]) (oc_m (choose_convoy_mind_hail_oa_ok _ _ _ _ hv3) [(900000, 0)] [(900000, 0)] _ (((900000, 0), some (.box 107 (dConvoyMind v3))) :: _) rfl all2_av (kl_cons (kr_ptr G_hit rfl) (kl_cons kr_d kl_nil)) (live_cons G_hit live_nil) ⟨⟨_, G_hit, .of rfl⟩, trivial⟩ (fun _ h => h) nd1 rfl rfl rfl) (s_nil (l_end (l_reg fun u7 hu7 => sv rfl (sv rfl (s_nil (l_nil ?_))))))))))))
        obtain rfl := Option.some.inj hz1
        exact ⟨rfl, (), (sbr rfl rfl)⟩
      · refine l_skip (l_end (l_sub (s0 := ⟨T [(0, (.ptr _ _)), (1, (.d _)), (2, (.ptr _ _)), (7, (.d _)), (8, (.d _)), (9, (.d _))], G [((900000, 0), some (.box 107 _)), ((2, u1), some (.box 105 _))]⟩) (sbr rfl rfl) ?_))
        refine l_reg fun u8 hu8 => sv rfl (sv rfl (s_nil (l_nil ?_)))
        obtain rfl := Option.some.inj hz1
        exact ⟨rfl, (), (sbr rfl rfl)⟩
    · refine l_exitN rfl ?_
      obtain rfl := Option.some.inj hz1
      obtain rfl := ez1 _ rfl
      refine ⟨nofun, awl_pop rfl (l_j ?_)⟩
      exact ⟨(), (sbr rfl rfl)⟩
  · rintro _ ⟨g1, q1⟩
    refine l_sub q1 (lr (fun u9 hu9 => s_val (.fn _ _ _) rfl rfl (s_val (.fn _ _ _) rfl rfl (s_nil (l_seq (lr (fun u10 hu10 => sp rfl (v_load rfl (gq rfl) rfl) (sp rfl rfl (sp rfl rfl (sp rfl rfl (sl rfl G_hit rfl (sv rfl (sv rfl (g_val _ (.ptr _ _) rfl (gw_t rfl) (fun w1 => (v_load rfl (gq rfl) rfl)) ?_))))))))))))))
    refine g_val _ (.ptr _ _) rfl (gw_t rfl) (fun w2 => (by simp only [gd_pos w2]; rfl)) ?_
    refine g_val _ (.ptr _ _) rfl (gw_t rfl) (fun w3 => (by simp only [gd_pos w3]; rfl)) ?_
    refine g_val _ (.ptr _ _) rfl (gw_t rfl) (fun w4 => (by simp only [gd_pos w4]; rfl)) ?_
    refine gt rfl (vl rfl G_hit rfl) (gt rfl (vb rfl rfl rfl) (sa rfl rfl rfl (sv rfl (gt rfl (fun _ => rfl) (g_val _ (.fn _ _ _) rfl (gw_t rfl) (fun _ => rfl) (bs h fun v4 hv4 h => ?_))))))
    refine g_call _ (bo v4) (gw_t rfl) (fun w9 => ⟨_, [(dl eConvoyLetter p2), (.fn (.func 111) [] [(.ptr (2, u1) 0)])], _, _, (by simp only [gd_pos w9]; rfl), (rfL_cons rf_d (rfL_cons (rf_fn rfL_nil (rfL_cons (rf_ptr (gq rfl) (rfL_cons (rf_ptr G_hit (rfL_cons rf_d (rfL_cons rf_d (rfL_cons rf_d (rfL_cons rf_d (rfL_cons rf_d (rfL_cons rf_d (rfL_cons rf_d (rfL_cons rf_d (rfL_cons rf_d (rfL_cons rf_d (rfL_cons rf_d (rfL_cons rf_d (rfL_cons rf_d (rfL_cons rf_d (rfL_cons rf_d (rfL_cons rf_d (rfL_cons rf_d (rfL_cons rf_d (rfL_cons rf_d (rfL_cons rf_d rfL_nil))))))))))))))))))))) rfL_nil)) rfL_nil)) rfL_nil)), all2_refl, slices_ContainsFunc_letter_letter_convoy_mind_thinks_1bb_ok _ _  _ (cond_t w9 hv4), (.inr rfl)⟩) ?_
    refine g_val _ (.d (bo (!v4))) rfl (gw_t rfl) (fun w10 => (by simp only [gd_pos w10]; rfl)) ?_
    refine sa rfl rfl rfl (s_nil (bs h fun y2 hy2 h => l_join (fun s => ∃ g3 : Unit, Sb ⟨T [(0, (.ptr (900000, 0) 0)), (2, (.ptr (2, u1) 0))], G [((900000, 0), some (.box 107 (dConvoyMind y2))), ((2, u1), some (.box 105 [(.ptr (900000, 0) 0)]))]⟩ s) ?_ ?_))
    · refine cc rfl hy2 (fun c3 hy2 => ?_) (fun c3 hy2 => ?_)
      · refine l_sub (s0 := ⟨T [(0, (.ptr _ _)), (2, (.ptr _ _))], G [((900000, 0), some (.box 107 _)), ((2, u1), some (.box 105 _))]⟩) (sbr rfl rfl) ?_
        refine l_reg fun u11 hu11 => sp rfl (v_load rfl (gq rfl) rfl) (bs hy2 fun v5 hv5 hy2 => s_oc (v := .d (.tup [])) (us := [(900000, 0)]) (oc_m (convoy_mind_forget_o_ok _ _ hv5) [(900000, 0)] [(900000, 0)] _ (((900000, 0), some (.box 107 (dConvoyMind v5))) :: _) rfl all2_av (kl_cons (kr_ptr G_hit rfl) kl_nil) (live_cons G_hit live_nil) ⟨⟨_, G_hit, .of rfl⟩, trivial⟩ (fun _ h => h) nd1 rfl rfl rfl) (s_nil ?_))
        obtain rfl := Option.some.inj hy2
        exact l_j ⟨(), (sbr rfl rfl)⟩
      · refine l_skip ?_
        obtain rfl := Option.some.inj hy2
        exact l_j ⟨(), (sbr rfl rfl)⟩
    · rintro _ ⟨g3, q2⟩
      refine l_sub q2 (l_seq (lr (fun u12 hu12 => sp rfl (v_load rfl (gq rfl) rfl) (sp rfl rfl (sp rfl rfl (sl rfl G_hit rfl (sv rfl (g_val _ (.ptr _ _) rfl (gw_t rfl) (fun w11 => (v_load rfl (gq rfl) rfl)) ?_))))))))
      refine g_val _ (.ptr _ _) rfl (gw_t rfl) (fun w12 => (by simp only [gd_pos w12]; rfl)) ?_
      refine g_val _ (.ptr _ _) rfl (gw_t rfl) (fun w13 => (by simp only [gd_pos w13]; rfl)) ?_
      refine g_val _ (.ptr _ _) rfl (gw_t rfl) (fun w14 => (by simp only [gd_pos w14]; rfl)) ?_
      refine gt rfl (vl rfl G_hit rfl) (gt rfl (vb rfl rfl rfl) (sa rfl rfl rfl (s_nil (bs h fun y3 hy3 h => l_join (fun s => ∃ g4 : Unit, Sb ⟨T [(0, (.ptr (900000, 0) 0)), (2, (.ptr (2, u1) 0))], G [((900000, 0), some (.box 107 (dConvoyMind y3))), ((2, u1), some (.box 105 [(.ptr (900000, 0) 0)]))]⟩ s) ?_ ?_))))
      · refine cc rfl hy3 (fun c4 hy3 => ?_) (fun c4 hy3 => ?_)
        · refine l_draw rfl fun u13 hu13 => sp rfl (v_load rfl (gq rfl) rfl) (sp rfl (v_load rfl (gq rfl) rfl) (sp rfl rfl (sp rfl rfl (sp rfl rfl (sd rfl (v_loadG rfl G_hit rfl rfl) (sp rfl (v_load rfl (gq rfl) rfl) (sp rfl rfl (sp rfl rfl (sp rfl rfl (sl rfl G_hit rfl (sp rfl (v_load rfl (gq rfl) rfl) (sp rfl rfl (sp rfl rfl (sp rfl rfl (sl rfl G_hit rfl (sv rfl (bs hy3 fun v6 hv6 hy3 => s_call rfl rfl all2_refl (convoy_Better_ok _ _  _ hv6) (.inl rfl) (sp rfl rfl (sp rfl rfl (sp rfl rfl (sst rfl G_hit [(di y2.Mate_.ID), (di y2.Mate_.S), (di y2.Mate_.V), (di y2.Mate_.Len), (di y2.Mate_.Ahead), (di v6.R), (di v6.V), (.d (bo y2.Mate_.Trust)), (di y2.Mate_.Ward), (di y2.Mate_.WardGuess.R), (di y2.Mate_.WardGuess.V), (di y2.Mate_.Until), (di y2.tick), (di y2.gap), (di y2.sight.By), (di y2.sight.Lo), (di y2.sight.Hi), (di y2.sight.VLo), (di y2.sight.VHi), (.d (bo y2.sees))] rfl (s_nil ?_))))))))))))))))))))))
          obtain rfl := Option.some.inj hy3
          exact l_j ⟨(), (sbr rfl rfl)⟩
        · refine l_skip ?_
          obtain rfl := Option.some.inj hy3
          exact l_j ⟨(), (sbr rfl rfl)⟩
      · rintro _ ⟨g4, q3⟩
        refine l_sub q3 (l_seq (l_draw rfl fun u14 hu14 => sp rfl (v_load rfl (gq rfl) rfl) (sp rfl rfl (sp rfl rfl (sp rfl rfl (sl rfl G_hit rfl (sv rfl (sv rfl (g_val _ (.ptr _ _) rfl (gw_t rfl) (fun w17 => (v_load rfl (gq rfl) rfl)) ?_)))))))))
        refine g_val _ (.ptr _ _) rfl (gw_t rfl) (fun w18 => (by simp only [gd_pos w18]; rfl)) ?_
        refine g_val _ (.ptr _ _) rfl (gw_t rfl) (fun w19 => (by simp only [gd_pos w19]; rfl)) ?_
        refine g_val _ (.ptr _ _) rfl (gw_t rfl) (fun w20 => (by simp only [gd_pos w20]; rfl)) ?_
        refine gt rfl (vl rfl G_hit rfl) (gt rfl (vb rfl rfl rfl) (sa rfl rfl rfl (sv rfl (g_val _ (.ptr _ _) rfl (gw_t rfl) (fun w23 => (v_load rfl (gq rfl) rfl)) ?_))))
        refine g_val _ (.ptr _ _) rfl (gw_t rfl) (fun w24 => (by simp only [gd_pos w24]; rfl)) ?_
        refine g_val _ (.ptr _ _) rfl (gw_t rfl) (fun w25 => (by simp only [gd_pos w25]; rfl)) ?_
        refine g_val _ (.ptr _ _) rfl (gw_t rfl) (fun w26 => (by simp only [gd_pos w26]; rfl)) ?_
        refine gt rfl (vl rfl G_hit rfl) (g_val _ (.ptr _ _) rfl (gw_t rfl) (fun w28 => (v_load rfl (gq rfl) rfl)) ?_)
        refine g_val _ (.ptr _ _) rfl (gw_t rfl) (fun w29 => (by simp only [gd_pos w29]; rfl)) ?_
        refine g_val _ (.ptr _ _) rfl (gw_t rfl) (fun w30 => (by simp only [gd_pos w30]; rfl)) ?_
        refine g_val _ (.ptr _ _) rfl (gw_t rfl) (fun w31 => (by simp only [gd_pos w31]; rfl)) ?_
        refine gt rfl (vl rfl G_hit rfl) (g_val _ (.ptr _ _) rfl (gw_t rfl) (fun w33 => (v_load rfl (gq rfl) rfl)) ?_)
        refine g_val _ (.ptr _ _) rfl (gw_t rfl) (fun w34 => (by simp only [gd_pos w34]; rfl)) ?_
        refine g_val _ (.ptr _ _) rfl (gw_t rfl) (fun w35 => (by simp only [gd_pos w35]; rfl)) ?_
        refine gt rfl (vl rfl G_hit rfl) (g_val _ (.ptr _ _) rfl (gw_t rfl) (fun w37 => (v_load rfl (gq rfl) rfl)) ?_)
        refine g_val _ (.ptr _ _) rfl (gw_t rfl) (fun w38 => (by simp only [gd_pos w38]; rfl)) ?_
        refine g_val _ (.ptr _ _) rfl (gw_t rfl) (fun w39 => (by simp only [gd_pos w39]; rfl)) ?_
        refine g_val _ (.ptr _ _) rfl (gw_t rfl) (fun w40 => (by simp only [gd_pos w40]; rfl)) ?_
        refine gt rfl (fun w41 => (v_loadG (gd_pos w41) G_hit rfl rfl)) (bs h fun v7 hv7 h => ?_)
        refine g_call _ (bo v7) (gw_t rfl) (fun w42 => ⟨_, [(di y3.Mate_.S), (di y3.Mate_.V), (di y3.gap), (.d (.agg [(i64 y3.Mate_.WardGuess.R), (i64 y3.Mate_.WardGuess.V)]))], _, _, (by simp only [gd_pos w42]; rfl), rfl, all2_refl, convoy_Safe_ok _ _ _ _  _ (cond_t w42 hv7), (.inl rfl)⟩) ?_
        refine sa rfl rfl rfl (s_nil (cc rfl h (fun c5 h => ?_) (fun c5 h => ?_)))
        · refine l_sub (s0 := ⟨T [(0, (.ptr _ _)), (2, (.ptr _ _))], G [((900000, 0), some (.box 107 _)), ((2, u1), some (.box 105 _))]⟩) (sbr rfl rfl) ?_
          refine l_draw rfl fun u15 hu15 => sp rfl (v_load rfl (gq rfl) rfl) (sp rfl (v_load rfl (gq rfl) rfl) (sp rfl rfl (sp rfl rfl (sl rfl G_hit rfl (sv rfl (sp rfl rfl (sp rfl rfl (sp rfl rfl (sst rfl G_hit [(di y3.Mate_.ID), (di y3.Mate_.S), (di y3.Mate_.V), (di y3.Mate_.Len), (di y3.Mate_.Ahead), (di y3.Mate_.Guess_.R), (di y3.Mate_.Guess_.V), (.d (bo y3.Mate_.Trust)), (di y3.Mate_.Ward), (di y3.Mate_.WardGuess.R), (di y3.Mate_.WardGuess.V), (di (w64 (y3.tick + 30))), (di y3.tick), (di y3.gap), (di y3.sight.By), (di y3.sight.Lo), (di y3.sight.Hi), (di y3.sight.VLo), (di y3.sight.VHi), (.d (bo y3.sees))] rfl (s_nil (l_nil ?_)))))))))))
          obtain rfl := Option.some.inj h
          exact fin_mf (.inl rfl) [] resDF0 (.refl _) ⟨⟨_, _, _, G_hit, old_notin_nil, rfl, all2_d, rfl⟩, trivial⟩
        · refine l_skip (l_nil ?_)
          obtain rfl := Option.some.inj h
          exact fin_mf (.inl rfl) [] resDF0 (.refl _) ⟨⟨_, _, _, G_hit, old_notin_nil, rfl, all2_d, rfl⟩, trivial⟩

noncomputable def convoy_Step_2_b (p1 : Int) (p2 : (List Int)) : Option Int :=
  cond (decide (p1 < (p2.length : Int))) ((geti p2 p1).bind fun v1 => some v1) (some 0)

/-- kerbstone/convoy.Step$2 -/
def ac_convoy_Step_2_b : AC := (.seq (.reg [oo 3 (.mv (ci 0))]) (.seq (.seq (.reg [oo 4 (.mv (.t 0)), oo 5 (.load 1 false (.t 1)), oo 6 (.len (.t 5)), oo 7 (.bin .lss (.t 4) (.t 6))]) (.cond (.t 7) (.seq (.reg [oo 8 (.load 1 false (.t 1)), oo 9 (.mv (.t 0)), oo 10 (.idxS 1 (.t 8) (.t 9)), oo 11 (.load 1 false (.t 10)), oo 3 (.mv (.t 11))]) .ret) .skip)) (.seq (.reg [oo 3 (.mv (ci 0))]) .ret)))
theorem fn_convoy_Step_2_b : FnOK Try.prog 85 12 [.t 3] ac_convoy_Step_2_b := ⟨_, _, Try.func85, rfl, Try.ntmps85, by kernel_rfl, ⟨fun _ => [], by kernel_rfl⟩, by kernel_rfl⟩
theorem convoy_Step_2_b_ok (p1 : Int) (p2 : (List Int)) (r : Int) (h : convoy_Step_2_b p1 p2 = some r) : PCall Try.prog 85 [(i64 p1), (.bp [(.list (List.map eInt_i64 p2))] 0)] (i64 r) := by
  refine l_call fn_convoy_Step_2_b (nl rfl) ?_
  unfold convoy_Step_2_b at h
  unfold ac_convoy_Step_2_b
  refine l_sub (s0 := ⟨T [(0, (.d _)), (1, (.d _))], G []⟩) (sbr rfl rfl) ?_
  refine lr (fun u1 hu1 => sv rfl (s_nil (l_seq (lr (fun u2 hu2 => sv rfl (sv rfl (sd rfl (v_len rfl) (sv rfl (s_nil (cc rfl h (fun c1 h => ?_) (fun c1 h => ?_)))))))))))
  · refine lr (fun u3 hu3 => sv rfl (sv rfl (bs h fun v1 hv1 h => sd rfl (v_idx rfl rfl hv1 rfl) (sd rfl (v_loadL rfl hv1 rfl) (sv rfl (s_nil (l_ret ?_)))))))
    obtain rfl := Option.some.inj h
    exact fin_ok (.inr rfl) (resD1 (res_t rfl) rf_d) (.refl _)
  · refine l_skip (lr (fun u4 hu4 => sv rfl (s_nil (l_ret ?_))))
    obtain rfl := Option.some.inj h
    exact fin_ok (.inr rfl) (resD1 (res_t rfl) rf_d) (.refl _)

noncomputable def convoy_moved (p1 : Int) (p2 : Int) (p3 : Int) : Option (Int × Int) :=
  some ((w64 (p1 + (mm2 true 0 (mm2 false (w64 (p2 + p3)) 2000)))), (mm2 true 0 (mm2 false (w64 (p2 + p3)) 2000)))

/-- kerbstone/convoy.moved -/
def ac_convoy_moved : AC := (.seq (.reg [oo 6 (.mv (ci 0)), oo 7 (.mv (ci 0))]) (.seq (.reg [oo 8 (.mv (.t 1)), oo 9 (.mv (.t 2)), oo 10 (.bin .add (.t 8) (.t 9)), oo 11 (.mm false (.t 10) [(ci 2000)]), oo 12 (.mm true (ci 0) [(.t 11)]), oo 1 (.mv (.t 12))]) (.seq (.reg [oo 13 (.mv (.t 0)), oo 14 (.mv (.t 1)), oo 15 (.bin .add (.t 13) (.t 14)), oo 16 (.mv (.t 1)), oo 6 (.mv (.t 15)), oo 7 (.mv (.t 16))]) .ret)))
theorem fn_convoy_moved : FnOK Try.prog 116 17 [.t 6, .t 7] ac_convoy_moved := ⟨_, _, Try.func116, rfl, Try.ntmps116, by kernel_rfl, ⟨fun _ => [], by kernel_rfl⟩, by kernel_rfl⟩
theorem convoy_moved_ok (p1 : Int) (p2 : Int) (p3 : Int) (r : (Int × Int)) (h : convoy_moved p1 p2 p3 = some r) : PCall Try.prog 116 [(i64 p1), (i64 p2), (i64 p3)] (.tup [(i64 r.1), (i64 r.2)]) := by
  refine l_call fn_convoy_moved (nl rfl) ?_
  unfold convoy_moved at h
  unfold ac_convoy_moved
  refine l_sub (s0 := ⟨T [(0, (.d _)), (1, (.d _)), (2, (.d _))], G []⟩) (sbr rfl rfl) ?_
  refine lr (fun u1 hu1 => sv rfl (sv rfl (s_nil (lr (fun u2 hu2 => sv rfl (sv rfl (sv rfl (sv rfl (sv rfl (sv rfl (s_nil (lr (fun u3 hu3 => sv rfl (sv rfl (sv rfl (sv rfl (sv rfl (sv rfl (s_nil (l_ret ?_))))))))))))))))))))
  obtain rfl := Option.some.inj h
  exact fin_ok (.inr rfl) (resD2 (res_t rfl) (res_t rfl) rf_d rf_d) (.refl _)

noncomputable def convoy_mind_drives_1_bb_b_b (p1 : Int) (p2 : Int) (p3 : ConvoyMind) (p4 : Guess) (p5 : Guess) : Option Bool :=
  (convoy_keeps p3.gap p3.Mate_ p1 p2 p4 p5).bind fun v1 => some v1

/-- (*kerbstone/convoy.mind).drives$1 -/
def ac_convoy_mind_drives_1_bb_b_b : AC := (.seq (.reg [oo 7 (.mv (.c zf))]) (.seq (.draw [oo 8 (.load 1 false (.t 2)), oo 9 (.nilck (.t 8)), oo 10 (.fieldA 13 (.t 9)), oo 11 (.load 1 false (.t 10)), oo 12 (.load 1 false (.t 2)), oo 13 (.nilck (.t 12)), oo 14 (.fieldA 0 (.t 13)), oo 15 (.load 12 true (.t 14)), oo 16 (.mv (.t 0)), oo 17 (.mv (.t 1)), oo 18 (.load 2 true (.t 3)), oo 19 (.load 2 true (.t 4)), oo 20 (.call (cf 76) [(.t 11), (.t 15), (.t 16), (.t 17), (.t 18), (.t 19)]), oo 7 (.mv (.t 20))] []) .ret))
theorem fn_convoy_mind_drives_1_bb_b_b : FnOK Try.prog 115 21 [.t 7] ac_convoy_mind_drives_1_bb_b_b := ⟨_, _, Try.func115, rfl, Try.ntmps115, by kernel_rfl, ⟨fun _ => [], by kernel_rfl⟩, by kernel_rfl⟩
theorem convoy_mind_drives_1_bb_b_b_ok (p1 : Int) (p2 : Int) (p3 : ConvoyMind) (p4 : Guess) (p5 : Guess) (r : Bool) (h : convoy_mind_drives_1_bb_b_b p1 p2 p3 p4 p5 = some r) : PCall Try.prog 115 [(i64 p1), (i64 p2), (.bp [(.bp (eConvoyMind p3) 0)] 0), (.bp [(i64 p4.R), (i64 p4.V)] 0), (.bp [(i64 p5.R), (i64 p5.V)] 0)] (bo r) := by
  refine l_call fn_convoy_mind_drives_1_bb_b_b (nl rfl) ?_
  unfold convoy_mind_drives_1_bb_b_b at h
  unfold ac_convoy_mind_drives_1_bb_b_b
  refine l_sub (s0 := ⟨T [(0, (.d _)), (1, (.d _)), (2, (.d _)), (3, (.d _)), (4, (.d _))], G []⟩) (sbr rfl rfl) ?_
  refine lr (fun u1 hu1 => sv rfl (s_nil (l_seq (l_draw rfl fun u2 hu2 => sv rfl (sv rfl (sv rfl (sv rfl (sv rfl (sv rfl (sv rfl (sv rfl (sv rfl (sv rfl (sv rfl (sv rfl (bs h fun v1 hv1 h => s_call rfl rfl all2_refl (convoy_keeps_ok _ _ _ _ _ _  _ hv1) (.inl rfl) (sv rfl (s_nil (l_ret ?_)))))))))))))))))))
  obtain rfl := Option.some.inj h
  exact fin_ok (.inr rfl) (resD1 (res_t rfl) rf_d) (.refl _)

noncomputable def convoy_greatest_convoy_mind_drives_1bbbb_l1 (p1 : Int) (p2 : Int) (p4 : ConvoyMind) (p5 : Guess) (p6 : Guess) (x1 : Int) : Option (Stp Int Int) :=
  cond (decide (x1 > (-90))) ((convoy_moved p1 p2 x1).bind fun v1 => (convoy_mind_drives_1_bb_b_b v1.1 v1.2 p4 p5 p6).bind fun v2 => cond v2 (some (.out x1)) (some (.go (w64 (x1 - 1))))) (some (.out x1))
noncomputable def convoy_greatest_convoy_mind_drives_1bbbb (p1 : Int) (p2 : Int) (p3 : Int) (p4 : ConvoyMind) (p5 : Guess) (p6 : Guess) : Option Int :=
  (loop (convoy_greatest_convoy_mind_drives_1bbbb_l1 p1 p2 p4 p5 p6) (mm2 true (-90) (mm2 false p3 30))).bind fun y1 => some y1

/-- kerbstone/convoy.greatest -/
def ac_convoy_greatest_convoy_mind_drives_1bbbb : AC := (.seq (.reg [oo 8 (.mv (ci 0))]) (.seq (.reg [oo 10 (.mv (.t 2)), oo 11 (.mm false (.t 10) [(ci 30)]), oo 12 (.mm true (ci (-90)) [(.t 11)]), oo 9 (.mv (.t 12))]) (.seq (.block 0 (.loop (.seq (.seq (.reg [oo 13 (.mv (.t 9)), oo 14 (.bin .gtr (.t 13) (ci (-90)))]) (.cond (.t 14) .skip (.exit 0))) (.seq (.block 1 (.seq (.reg [oo 17 (.mv (.t 3)), oo 18 (.mv (.t 0)), oo 19 (.mv (.t 1)), oo 20 (.mv (.t 9)), oo 21 (.call (cf 116) [(.t 18), (.t 19), (.t 20)]), oo 22 (.ext (.t 21) 0), oo 23 (.ext (.t 21) 1), oo 24 (.call (.t 17) [(.t 22), (.t 23)])]) (.cond (.t 24) (.exit 0) .skip))) (.reg [oo 15 (.mv (.t 9)), oo 16 (.bin .sub (.t 15) (ci 1)), oo 9 (.mv (.t 16))]))))) (.seq (.reg [oo 25 (.mv (.t 9)), oo 8 (.mv (.t 25))]) .ret))))
theorem fn_convoy_greatest_convoy_mind_drives_1bbbb : FnOK Try.prog 114 26 [.t 8] ac_convoy_greatest_convoy_mind_drives_1bbbb := ⟨_, _, Try.func114, rfl, Try.ntmps114, by kernel_rfl, ⟨fun _ => [], by kernel_rfl⟩, by kernel_rfl⟩
set_option maxHeartbeats 4000000 in
theorem convoy_greatest_convoy_mind_drives_1bbbb_ok (p1 : Int) (p2 : Int) (p3 : Int) (p4 : ConvoyMind) (p5 : Guess) (p6 : Guess) (r : Int) (h : convoy_greatest_convoy_mind_drives_1bbbb p1 p2 p3 p4 p5 p6 = some r) : PCall Try.prog 114 [(i64 p1), (i64 p2), (i64 p3), (.fn (.func 115) [] [(.bp [(.bp (eConvoyMind p4) 0)] 0), (.bp [(i64 p5.R), (i64 p5.V)] 0), (.bp [(i64 p6.R), (i64 p6.V)] 0)])] (i64 r) := by
  refine l_call fn_convoy_greatest_convoy_mind_drives_1bbbb (nl rfl) ?_
  unfold convoy_greatest_convoy_mind_drives_1bbbb at h
  unfold ac_convoy_greatest_convoy_mind_drives_1bbbb
  refine l_sub (s0 := ⟨T [(0, (.d _)), (1, (.d _)), (2, (.d _)), (3, (.d _))], G []⟩) (sbr rfl rfl) ?_
  refine lr (fun u1 hu1 => sv rfl (s_nil (lr (fun u2 hu2 => sv rfl (sv rfl (sv rfl (sv rfl (s_nil (l_seq (bs h fun y1 hy1 h => l_join (fun s => ∃ g1 : Unit, Sb ⟨T [(9, (di y1))], G []⟩ s) ?_ ?_))))))))))
  · refine l_block (l_loop (convoy_greatest_convoy_mind_drives_1bbbb_l1 p1 p2 p4 p5 p6) (fun (x1 : Int) (g2 : Unit) => ⟨T [(0, (di p1)), (1, (di p2)), (3, (.d (.fn (.func 115) [] [(.bp [(.bp (eConvoyMind p4) 0)] 0), (.bp [(i64 p5.R), (i64 p5.V)] 0), (.bp [(i64 p6.R), (i64 p6.V)] 0)]))), (9, (di x1))], G []⟩) (mm2 true (-90) (mm2 false p3 30)) () _ hy1 (sbr rfl rfl) ?_)
    intro x1 g2 z1 hz1 ez1
    unfold convoy_greatest_convoy_mind_drives_1bbbb_l1 at hz1
    refine l_seq (lr (fun u3 hu3 => sv rfl (sv rfl (s_nil (cc rfl hz1 (fun c1 hz1 => ?_) (fun c1 hz1 => ?_))))))
    · refine l_skip (l_seq (l_block (lr (fun u4 hu4 => sv rfl (sv rfl (sv rfl (sv rfl (bs hz1 fun v1 hv1 hz1 => s_call rfl rfl all2_refl (convoy_moved_ok _ _ _  _ hv1) (.inl rfl) (sv rfl (sv rfl (bs hz1 fun v2 hv2 hz1 => s_call rfl rfl all2_refl (convoy_mind_drives_1_bb_b_b_ok _ _ _ _ _  _ hv2) (.inl rfl) (s_nil (cc rfl hz1 (fun c2 hz1 => ?_) (fun c2 hz1 => ?_))))))))))))))
      · refine l_exitN rfl ?_
        obtain rfl := Option.some.inj hz1
        obtain rfl := ez1 _ rfl
        refine ⟨nofun, awl_pop rfl (l_j ?_)⟩
        exact ⟨(), (sbr rfl rfl)⟩
      · refine l_skip (l_end (l_reg fun u5 hu5 => sv rfl (sv rfl (sv rfl (s_nil (l_nil ?_))))))
        obtain rfl := Option.some.inj hz1
        exact ⟨rfl, (), (sbr rfl rfl)⟩
    · refine l_exitN rfl ?_
      obtain rfl := Option.some.inj hz1
      obtain rfl := ez1 _ rfl
      refine ⟨nofun, awl_pop rfl (l_j ?_)⟩
      exact ⟨(), (sbr rfl rfl)⟩
  · rintro _ ⟨g1, q1⟩
    refine l_sub q1 (lr (fun u6 hu6 => sv rfl (sv rfl (s_nil (l_ret ?_)))))
    obtain rfl := Option.some.inj h
    exact fin_ok (.inr rfl) (resD1 (res_t rfl) rf_d) (.refl _)
end Go.Abs.Convoy
