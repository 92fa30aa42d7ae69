/-
  The functions, part 4.
-/
import Derived.Test.YtdkgjoilcfoclaaFns3
set_option maxRecDepth 20000
set_option linter.unusedVariables false
namespace Go.Abs.Convoy
open Go Go.Abs Go.Proofs
attribute [local irreducible] regW regT AWL

noncomputable def ref09_find_l1 (p1 : Convoy) (p2 : Int) (x1 : Int) : Option (Stp Int (Sum Unit Int)) :=
  cond (decide (x1 < (p1.Mates.length : Int))) ((geti p1.Mates x1).bind fun v1 => cond (v1.ID == p2) (some (.out (.inr x1))) (some (.go (w64 (x1 + 1))))) (some (.out (.inl ())))
noncomputable def ref09_find (p1 : Convoy) (p2 : Int) : Option Int :=
  thenS (loop (ref09_find_l1 p1 p2) 0) (fun _ => some (-1)) (fun r => some r)

/-- kerbstone/kerbstoneref09.find -/
def ac_ref09_find : AC :=
  (.seq (.reg [⟨(some 2), .box 38 true (.t 0), none⟩, ⟨(some 4), .mv (.c (.v (.int .i64 0))), none⟩])
  (.seq (.seq (.reg [⟨(some 5), .mv (.c (.v (.int .i64 0))), none⟩])
  (.block 0
    (.loop
      (.seq (.seq (.reg [⟨(some 6), .mv (.t 5), none⟩, ⟨(some 7), .fieldA 2 (.t 2), none⟩, ⟨(some 8), .load 1 false (.t 7), none⟩, ⟨(some 9), .len (.t 8), none⟩, ⟨(some 10), .bin .lss (.t 6) (.t 9), none⟩])
      (.cond (.t 10)
        .skip
        (.exit 0)))
      (.seq (.block 1
        (.seq (.reg [⟨(some 13), .fieldA 2 (.t 2), none⟩, ⟨(some 14), .load 1 false (.t 13), none⟩, ⟨(some 15), .mv (.t 5), none⟩, ⟨(some 16), .idxS 12 (.t 14) (.t 15), none⟩, ⟨(some 17), .fieldA 0 (.t 16), none⟩, ⟨(some 18), .load 1 false (.t 17), none⟩, ⟨(some 19), .mv (.t 1), none⟩, ⟨(some 20), .bin .eql (.t 18) (.t 19), none⟩])
        (.cond (.t 20)
          (.seq (.reg [⟨(some 21), .mv (.t 5), none⟩, ⟨(some 4), .mv (.t 21), none⟩])
          .ret)
          .skip)))
      (.reg [⟨(some 11), .mv (.t 5), none⟩, ⟨(some 12), .bin .add (.t 11) (.c (.v (.int .i64 1))), none⟩, ⟨(some 5), .mv (.t 12), none⟩]))))))
  (.seq (.reg [⟨(some 4), .mv (.c (.v (.int .i64 (-1)))), none⟩])
  .ret)))
theorem fn_ref09_find : FnOK Try.prog 68 22 [.t 4] ac_ref09_find := ⟨_, _, Try.func68, rfl, Try.ntmps68, by kernel_rfl, ⟨fun _ => [], by kernel_rfl⟩, by kernel_rfl⟩
set_option maxHeartbeats 4000000 in
theorem ref09_find_ok (p1 : Convoy) (p2 : Int) (r : Int) (h : ref09_find p1 p2 = some r) : PCall Try.prog 68 [(.agg [(i64 p1.Tick), (i64 p1.Gap), (.list (List.map eMate p1.Mates)), (i64 p1.Guest_.ID), (i64 p1.Guest_.S), (i64 p1.Guest_.V), (i64 p1.Guest_.Len), (i64 p1.Guest_.End), (i64 p1.Guest_.Ahead), (i64 p1.Guest_.Guess_.R), (i64 p1.Guest_.Guess_.V), (i64 p1.Guest_.From), (i64 p1.Guest_.Until)]), (i64 p2)] (i64 r) := by
  refine l_call fn_ref09_find (Nat.le_of_ble_eq_true rfl) ?_
  unfold ref09_find at h
  unfold ac_ref09_find
  refine (l_sub (s0 := ⟨T [(0, (.d (.agg [(i64 p1.Tick), (i64 p1.Gap), (.list (List.map eMate p1.Mates)), (i64 p1.Guest_.ID), (i64 p1.Guest_.S), (i64 p1.Guest_.V), (i64 p1.Guest_.Len), (i64 p1.Guest_.End), (i64 p1.Guest_.Ahead), (i64 p1.Guest_.Guess_.R), (i64 p1.Guest_.Guess_.V), (i64 p1.Guest_.From), (i64 p1.Guest_.Until)]))), (1, (.d (i64 p2)))], G []⟩) (sb_of ⟨.of rfl, .of rfl, trivial⟩ trivial) ?_)
  refine l_seq ?_
  refine l_reg fun u1 hu1 => ?_
  refine s_new (.ptr _ _) (.box _ _) rfl rfl ?_
  refine s_val (.d _) rfl rfl ?_
  refine s_nil ?_
  refine l_seq ?_
  refine l_seq ?_
  refine l_reg fun u2 hu2 => ?_
  refine s_val (.d _) rfl rfl ?_
  refine s_nil ?_
  obtain ⟨z1, hz1, h⟩ := thenS_some h
  refine l_join (fun s => ∃ (y1 : Unit) (g1 : Unit), z1 = .inl y1 ∧ Sb ⟨T [], G []⟩ s) ?_ ?_
  · skip
    refine l_block ?_
    refine l_loop (ref09_find_l1 p1 p2) (fun (x1 : Int) (g2 : Unit) => ⟨T [(1, (.d (i64 p2))), (2, (.ptr (2, u1) 0)), (5, (.d (i64 x1)))], G [((2, u1), some (.box 38 [(.d (i64 p1.Tick)), (.d (i64 p1.Gap)), (.d (.list (List.map eMate p1.Mates))), (.d (i64 p1.Guest_.ID)), (.d (i64 p1.Guest_.S)), (.d (i64 p1.Guest_.V)), (.d (i64 p1.Guest_.Len)), (.d (i64 p1.Guest_.End)), (.d (i64 p1.Guest_.Ahead)), (.d (i64 p1.Guest_.Guess_.R)), (.d (i64 p1.Guest_.Guess_.V)), (.d (i64 p1.Guest_.From)), (.d (i64 p1.Guest_.Until))]))]⟩) 0 () _ hz1 (sb_of ⟨.of rfl, .of rfl, .of rfl, trivial⟩ (sbG_some G_hit (.of rfl) trivial)) ?_
    intro x1 g2 z2 hz2 ez2
    unfold ref09_find_l1 at hz2
    refine l_seq ?_
    refine l_seq ?_
    refine l_reg fun u3 hu3 => ?_
    refine s_val (.d _) rfl rfl ?_
    refine s_val (.ptr _ _) rfl rfl ?_
    refine s_val (.d _) rfl (v_load rfl G_hit rfl) ?_
    refine s_val (.d _) rfl (v_len rfl) ?_
    refine s_val (.d _) rfl rfl ?_
    refine s_nil ?_
    refine l_cond (decide (x1 < (p1.Mates.length : Int))) rfl (fun c1 => ?_) (fun c1 => ?_)
    · replace hz2 := cond_t c1 hz2
      refine l_skip ?_
      refine l_seq ?_
      refine l_block ?_
      refine l_seq ?_
      refine l_reg fun u4 hu4 => ?_
      refine s_val (.ptr _ _) rfl rfl ?_
      refine s_val (.d _) rfl (v_load rfl G_hit rfl) ?_
      refine s_val (.d _) rfl rfl ?_
      obtain ⟨v1, hv1, hz2⟩ := bind_some hz2
      refine s_val (.d _) rfl (v_idx rfl rfl hv1 rfl) ?_
      refine s_val (.d _) rfl rfl ?_
      refine s_val (.d _) rfl (v_loadL rfl hv1 rfl) ?_
      refine s_val (.d _) rfl rfl ?_
      refine s_val (.d _) rfl rfl ?_
      refine s_nil ?_
      refine l_cond (v1.ID == p2) rfl (fun c2 => ?_) (fun c2 => ?_)
      · replace hz2 := cond_t c2 hz2
        refine l_seq ?_
        refine l_reg fun u5 hu5 => ?_
        refine s_val (.d _) rfl rfl ?_
        refine s_val (.d _) rfl rfl ?_
        refine s_nil ?_
        refine l_ret ?_
        obtain rfl := Option.some.inj hz2
        obtain rfl := ez2 _ rfl
        refine ⟨nofun, awl_ret ?_⟩
        rw [Sum.elim_inr] at h
        obtain rfl := Option.some.inj h
        refine fin_ok (.inr rfl) (resD1 (res_t rfl) rf_d) ?_
        exact (.refl _)
      · replace hz2 := cond_f c2 hz2
        refine l_skip ?_
        refine l_end ?_
        refine l_reg fun u6 hu6 => ?_
        refine s_val (.d _) rfl rfl ?_
        refine s_val (.d _) rfl rfl ?_
        refine s_val (.d _) rfl rfl ?_
        refine s_nil ?_
        refine l_nil ?_
        obtain rfl := Option.some.inj hz2
        exact ⟨rfl, (), (sb_of ⟨.of rfl, .of rfl, .of rfl, trivial⟩ (sbG_some G_hit (.of rfl) trivial))⟩
    · replace hz2 := cond_f c1 hz2
      refine l_exitN rfl ?_
      obtain rfl := Option.some.inj hz2
      obtain rfl := ez2 _ rfl
      refine ⟨nofun, awl_pop rfl (l_j ?_)⟩
      exact ⟨_, (), rfl, (sb_of trivial trivial)⟩
  · rintro _ ⟨y1, g1, rfl, q1⟩
    rw [Sum.elim_inl] at h
    refine l_sub q1 ?_
    refine l_seq ?_
    refine l_reg fun u7 hu7 => ?_
    refine s_val (.d _) rfl rfl ?_
    refine s_nil ?_
    refine l_ret ?_
    obtain rfl := Option.some.inj h
    refine fin_ok (.inr rfl) (resD1 (res_t rfl) rf_d) ?_
    exact (.refl _)

noncomputable def ref09_Below (p1 : Guess) (p2 : Int) (p3 : Int) : Option Bool :=
  (ref09_sane [p1.R, p1.V, p2, p3]).bind fun v1 => ((cond (v1 && (decide (p1.R ≤ p2))) (ref09_stop p1.V) (some default))).bind fun v2 => ((cond (v1 && (decide (p1.R ≤ p2))) (ref09_stop p3) (some default))).bind fun v3 => some ((v1 && (decide (p1.R ≤ p2))) && (decide ((w64 (p1.R + v2)) ≤ (w64 (p2 + v3)))))

/-- kerbstone/kerbstoneref09.Below -/
def ac_ref09_Below : AC :=
  (.seq (.reg [⟨(some 3), .box 23 true (.t 0), none⟩, ⟨(some 6), .mv (.c (.v (.bool false))), none⟩])
  (.seq (.draw [⟨(some 7), .fieldA 0 (.t 3), none⟩, ⟨(some 8), .load 1 false (.t 7), none⟩, ⟨(some 9), .fieldA 1 (.t 3), none⟩, ⟨(some 10), .load 1 false (.t 9), none⟩, ⟨(some 11), .mv (.t 1), none⟩, ⟨(some 12), .mv (.t 2), none⟩, ⟨(some 13), .dslice 2 1 4 [(.v (.int .i64 0))] [(0, 1, (.t 8)), (1, 1, (.t 10)), (2, 1, (.t 11)), (3, 1, (.t 12))], none⟩, ⟨(some 14), .call (.c (.fn (.func 60) [] [])) [(.t 13)], none⟩, ⟨(some 15), .mv (.t 14), none⟩, ⟨(some 16), .fieldA 0 (.t 3), (some (15, true))⟩, ⟨(some 17), .load 1 false (.t 16), (some (15, true))⟩, ⟨(some 18), .mv (.t 1), (some (15, true))⟩, ⟨(some 19), .bin .leq (.t 17) (.t 18), (some (15, true))⟩, ⟨(some 20), .pick (.t 15) (.t 19) (.c (.v (.bool false))), none⟩, ⟨(some 21), .mv (.t 20), none⟩, ⟨(some 22), .fieldA 0 (.t 3), (some (21, true))⟩, ⟨(some 23), .load 1 false (.t 22), (some (21, true))⟩, ⟨(some 24), .fieldA 1 (.t 3), (some (21, true))⟩, ⟨(some 25), .load 1 false (.t 24), (some (21, true))⟩, ⟨(some 26), .call (.c (.fn (.func 63) [] [])) [(.t 25)], (some (21, true))⟩, ⟨(some 27), .bin .add (.t 23) (.t 26), (some (21, true))⟩, ⟨(some 28), .mv (.t 1), (some (21, true))⟩, ⟨(some 29), .mv (.t 2), (some (21, true))⟩, ⟨(some 30), .call (.c (.fn (.func 63) [] [])) [(.t 29)], (some (21, true))⟩, ⟨(some 31), .bin .add (.t 28) (.t 30), (some (21, true))⟩, ⟨(some 32), .bin .leq (.t 27) (.t 31), (some (21, true))⟩, ⟨(some 33), .pick (.t 21) (.t 32) (.c (.v (.bool false))), none⟩, ⟨(some 6), .mv (.t 33), none⟩] [])
  .ret))
theorem fn_ref09_Below : FnOK Try.prog 18 34 [.t 6] ac_ref09_Below := ⟨_, _, Try.func18, rfl, Try.ntmps18, by kernel_rfl, ⟨fun r => if r == 1 then [1006] else [], by kernel_rfl⟩, by kernel_rfl⟩
theorem ref09_Below_ok (p1 : Guess) (p2 : Int) (p3 : Int) (r : Bool) (h : ref09_Below p1 p2 p3 = some r) : PCall Try.prog 18 [(.agg [(i64 p1.R), (i64 p1.V)]), (i64 p2), (i64 p3)] (bo r) := by
  refine l_call fn_ref09_Below (Nat.le_of_ble_eq_true rfl) ?_
  unfold ref09_Below at h
  unfold ac_ref09_Below
  refine (l_sub (s0 := ⟨T [(0, (.d (.agg [(i64 p1.R), (i64 p1.V)]))), (1, (.d (i64 p2))), (2, (.d (i64 p3)))], G []⟩) (sb_of ⟨.of rfl, .of rfl, .of rfl, trivial⟩ trivial) ?_)
  refine l_seq ?_
  refine l_reg fun u1 hu1 => ?_
  refine s_new (.ptr _ _) (.box _ _) rfl rfl ?_
  refine s_val (.d _) rfl rfl ?_
  refine s_nil ?_
  refine l_seq ?_
  refine l_draw rfl fun u2 hu2 => ?_
  refine s_val (.ptr _ _) rfl rfl ?_
  refine s_val (.d _) rfl (v_load rfl G_hit rfl) ?_
  refine s_val (.ptr _ _) rfl rfl ?_
  refine s_val (.d _) rfl (v_load rfl G_hit rfl) ?_
  refine s_val (.d _) rfl rfl ?_
  refine s_val (.d _) rfl rfl ?_
  refine s_val (.d (.list (List.map eInt_i64 [p1.R, p1.V, p2, p3]))) rfl rfl ?_
  obtain ⟨v1, hv1, h⟩ := bind_some h
  refine s_call rfl rfl all2_refl (ref09_sane_ok _  _ hv1) (.inl rfl) ?_
  refine s_val (.d _) rfl rfl ?_
  refine g_val v1 (.ptr _ _) rfl (gw_t rfl) (fun w1 => rfl) ?_
  refine g_val v1 (.d _) rfl (gw_t rfl) (fun w2 => (v_load (gd_pos w2) G_hit rfl)) ?_
  refine g_val v1 (.d _) rfl (gw_t rfl) (fun w3 => rfl) ?_
  refine g_val v1 (.d _) rfl (gw_t rfl) (fun w4 => (v_bin (gd_pos w4) (gd_pos w4) rfl)) ?_
  refine s_val (.d _) rfl (v_and rfl (fun hc => gd_pos hc) rfl) ?_
  refine s_val (.d _) rfl rfl ?_
  refine g_val (v1 && (decide (p1.R ≤ p2))) (.ptr _ _) rfl (gw_t rfl) (fun w5 => rfl) ?_
  refine g_val (v1 && (decide (p1.R ≤ p2))) (.d _) rfl (gw_t rfl) (fun w6 => (v_load (gd_pos w6) G_hit rfl)) ?_
  refine g_val (v1 && (decide (p1.R ≤ p2))) (.ptr _ _) rfl (gw_t rfl) (fun w7 => rfl) ?_
  refine g_val (v1 && (decide (p1.R ≤ p2))) (.d _) rfl (gw_t rfl) (fun w8 => (v_load (gd_pos w8) G_hit rfl)) ?_
  obtain ⟨v2, hv2, h⟩ := bind_some h
  refine g_call (v1 && (decide (p1.R ≤ p2))) (i64 v2) (gw_t rfl) (fun w9 => ⟨_, [(.d (i64 p1.V))], _, _, (by simp only [gd_pos w9]; rfl), rfl, all2_refl, ref09_stop_ok _  _ (cond_t w9 hv2), (.inl rfl)⟩) ?_
  refine g_val (v1 && (decide (p1.R ≤ p2))) (.d _) rfl (gw_t rfl) (fun w10 => (v_bin (gd_pos w10) (gd_pos w10) rfl)) ?_
  refine g_val (v1 && (decide (p1.R ≤ p2))) (.d _) rfl (gw_t rfl) (fun w11 => rfl) ?_
  refine g_val (v1 && (decide (p1.R ≤ p2))) (.d _) rfl (gw_t rfl) (fun w12 => rfl) ?_
  obtain ⟨v3, hv3, h⟩ := bind_some h
  refine g_call (v1 && (decide (p1.R ≤ p2))) (i64 v3) (gw_t rfl) (fun w13 => ⟨_, [(.d (i64 p3))], _, _, (by simp only [gd_pos w13]; rfl), rfl, all2_refl, ref09_stop_ok _  _ (cond_t w13 hv3), (.inl rfl)⟩) ?_
  refine g_val (v1 && (decide (p1.R ≤ p2))) (.d _) rfl (gw_t rfl) (fun w14 => (v_bin (gd_pos w14) (gd_pos w14) rfl)) ?_
  refine g_val (v1 && (decide (p1.R ≤ p2))) (.d _) rfl (gw_t rfl) (fun w15 => (v_bin (gd_pos w15) (gd_pos w15) rfl)) ?_
  refine s_val (.d _) rfl (v_and rfl (fun hc => gd_pos hc) rfl) ?_
  refine s_val (.d _) rfl rfl ?_
  refine s_nil ?_
  refine l_ret ?_
  obtain rfl := Option.some.inj h
  refine fin_ok (.inr rfl) (resD1 (res_t rfl) rf_d) ?_
  exact (.refl _)

noncomputable def ref09_true1 (p1 : Convoy) (p2 : Int) : Option Bool :=
  (geti p1.Mates p2).bind fun v1 => thenS (cond (v1.Ahead != 0) ((ref09_find p1 v1.Ahead).bind fun v2 => ((cond (!((decide (v2 < 0)) || (decide (v2 ≥ p2)))) (geti p1.Mates v2) (some default))).bind fun v3 => ((cond (!((decide (v2 < 0)) || (decide (v2 ≥ p2)))) (ref09_rear v3) (some default))).bind fun v4 => ((cond (!((decide (v2 < 0)) || (decide (v2 ≥ p2)))) (geti p1.Mates v2) (some default))).bind fun v5 => ((cond (!((decide (v2 < 0)) || (decide (v2 ≥ p2)))) (ref09_Below v1.Guess_ v4 v5.V) (some default))).bind fun v6 => cond (((decide (v2 < 0)) || (decide (v2 ≥ p2))) || (!v6)) (some (.inr false)) (some (.inl ()))) (some (.inl ()))) (fun _ => thenS (cond (v1.Until != 0) ((ref09_find p1 v1.Ward).bind fun v7 => ((cond ((decide (v7 ≥ 0)) && (decide (v7 < p2))) (geti p1.Mates v7) (some default))).bind fun v8 => ((cond ((decide (v7 ≥ 0)) && (decide (v7 < p2))) (ref09_rear v8) (some default))).bind fun v9 => ((cond ((decide (v7 ≥ 0)) && (decide (v7 < p2))) (geti p1.Mates v7) (some default))).bind fun v10 => ((cond ((decide (v7 ≥ 0)) && (decide (v7 < p2))) (ref09_Below v1.WardGuess v9 v10.V) (some default))).bind fun v11 => cond (((decide (v7 ≥ 0)) && (decide (v7 < p2))) && (!v11)) (some (.inr false)) (((cond (v1.Ward == p1.Guest_.ID) (ref09_Below v1.WardGuess (w64 (p1.Guest_.S - p1.Guest_.Len)) p1.Guest_.V) (some default))).bind fun v12 => cond ((v1.Ward == p1.Guest_.ID) && (!v12)) (some (.inr false)) (some (.inl ())))) (some (.inl ()))) (fun _ => cond (p2 == 0) (some true) ((geti p1.Mates (w64 (p2 - 1))).bind fun v13 => some ((v1.Ahead == v13.ID) || ((v1.Ward == v13.ID) && (v1.Until != 0))))) (fun r => some r)) (fun r => some r)

/-- kerbstone/kerbstoneref09.true1 -/
def ac_ref09_true1 : AC :=
  (.seq (.reg [⟨(some 2), .box 38 true (.t 0), none⟩, ⟨(some 4), .mv (.c (.v (.bool false))), none⟩])
  (.seq (.reg [⟨(some 9), .fieldA 2 (.t 2), none⟩, ⟨(some 10), .load 1 false (.t 9), none⟩, ⟨(some 11), .mv (.t 1), none⟩, ⟨(some 12), .idxS 12 (.t 10) (.t 11), none⟩, ⟨(some 13), .load 12 true (.t 12), none⟩, ⟨(some 5), .alloc 65 [(.v (.int .i64 0)), (.v (.int .i64 0)), (.v (.int .i64 0)), (.v (.int .i64 0)), (.v (.int .i64 0)), (.v (.int .i64 0)), (.v (.int .i64 0)), (.v (.bool false)), (.v (.int .i64 0)), (.v (.int .i64 0)), (.v (.int .i64 0)), (.v (.int .i64 0))], none⟩, ⟨none, .store 12 (.t 5) (.t 13), none⟩])
  (.seq (.seq (.reg [⟨(some 14), .fieldA 4 (.t 5), none⟩, ⟨(some 15), .load 1 false (.t 14), none⟩, ⟨(some 16), .bin .neq (.t 15) (.c (.v (.int .i64 0))), none⟩])
  (.cond (.t 16)
    (.seq (.reg [⟨(some 17), .load 13 true (.t 2), none⟩, ⟨(some 18), .fieldA 4 (.t 5), none⟩, ⟨(some 19), .load 1 false (.t 18), none⟩, ⟨(some 20), .call (.c (.fn (.func 68) [] [])) [(.t 17), (.t 19)], none⟩, ⟨(some 6), .mv (.t 20), none⟩])
    (.seq (.draw [⟨(some 21), .mv (.t 6), none⟩, ⟨(some 22), .bin .lss (.t 21) (.c (.v (.int .i64 0))), none⟩, ⟨(some 23), .mv (.t 22), none⟩, ⟨(some 24), .mv (.t 6), (some (23, false))⟩, ⟨(some 25), .mv (.t 1), (some (23, false))⟩, ⟨(some 26), .bin .geq (.t 24) (.t 25), (some (23, false))⟩, ⟨(some 27), .pick (.t 23) (.c (.v (.bool true))) (.t 26), none⟩, ⟨(some 28), .mv (.t 27), none⟩, ⟨(some 29), .fieldA 5 (.t 5), (some (28, false))⟩, ⟨(some 30), .load 2 true (.t 29), (some (28, false))⟩, ⟨(some 31), .fieldA 2 (.t 2), (some (28, false))⟩, ⟨(some 32), .load 1 false (.t 31), (some (28, false))⟩, ⟨(some 33), .mv (.t 6), (some (28, false))⟩, ⟨(some 34), .idxS 12 (.t 32) (.t 33), (some (28, false))⟩, ⟨(some 35), .load 12 true (.t 34), (some (28, false))⟩, ⟨(some 36), .call (.c (.fn (.func 70) [] [])) [(.t 35)], (some (28, false))⟩, ⟨(some 37), .fieldA 2 (.t 2), (some (28, false))⟩, ⟨(some 38), .load 1 false (.t 37), (some (28, false))⟩, ⟨(some 39), .mv (.t 6), (some (28, false))⟩, ⟨(some 40), .idxS 12 (.t 38) (.t 39), (some (28, false))⟩, ⟨(some 41), .fieldA 2 (.t 40), (some (28, false))⟩, ⟨(some 42), .load 1 false (.t 41), (some (28, false))⟩, ⟨(some 43), .call (.c (.fn (.func 18) [] [])) [(.t 30), (.t 36), (.t 42)], (some (28, false))⟩, ⟨(some 44), .un .not (.t 43), (some (28, false))⟩, ⟨(some 45), .pick (.t 28) (.c (.v (.bool true))) (.t 44), none⟩] [])
    (.cond (.t 45)
      (.seq (.reg [⟨(some 4), .mv (.c (.v (.bool false))), none⟩])
      .ret)
      .skip)))
    .skip))
  (.seq (.seq (.reg [⟨(some 46), .fieldA 11 (.t 5), none⟩, ⟨(some 47), .load 1 false (.t 46), none⟩, ⟨(some 48), .bin .neq (.t 47) (.c (.v (.int .i64 0))), none⟩])
  (.cond (.t 48)
    (.seq (.reg [⟨(some 49), .load 13 true (.t 2), none⟩, ⟨(some 50), .fieldA 8 (.t 5), none⟩, ⟨(some 51), .load 1 false (.t 50), none⟩, ⟨(some 52), .call (.c (.fn (.func 68) [] [])) [(.t 49), (.t 51)], none⟩, ⟨(some 7), .mv (.t 52), none⟩])
    (.seq (.seq (.draw [⟨(some 53), .mv (.t 7), none⟩, ⟨(some 54), .bin .geq (.t 53) (.c (.v (.int .i64 0))), none⟩, ⟨(some 55), .mv (.t 54), none⟩, ⟨(some 56), .mv (.t 7), (some (55, true))⟩, ⟨(some 57), .mv (.t 1), (some (55, true))⟩, ⟨(some 58), .bin .lss (.t 56) (.t 57), (some (55, true))⟩, ⟨(some 59), .pick (.t 55) (.t 58) (.c (.v (.bool false))), none⟩, ⟨(some 60), .mv (.t 59), none⟩, ⟨(some 61), .fieldA 9 (.t 5), (some (60, true))⟩, ⟨(some 62), .load 2 true (.t 61), (some (60, true))⟩, ⟨(some 63), .fieldA 2 (.t 2), (some (60, true))⟩, ⟨(some 64), .load 1 false (.t 63), (some (60, true))⟩, ⟨(some 65), .mv (.t 7), (some (60, true))⟩, ⟨(some 66), .idxS 12 (.t 64) (.t 65), (some (60, true))⟩, ⟨(some 67), .load 12 true (.t 66), (some (60, true))⟩, ⟨(some 68), .call (.c (.fn (.func 70) [] [])) [(.t 67)], (some (60, true))⟩, ⟨(some 69), .fieldA 2 (.t 2), (some (60, true))⟩, ⟨(some 70), .load 1 false (.t 69), (some (60, true))⟩, ⟨(some 71), .mv (.t 7), (some (60, true))⟩, ⟨(some 72), .idxS 12 (.t 70) (.t 71), (some (60, true))⟩, ⟨(some 73), .fieldA 2 (.t 72), (some (60, true))⟩, ⟨(some 74), .load 1 false (.t 73), (some (60, true))⟩, ⟨(some 75), .call (.c (.fn (.func 18) [] [])) [(.t 62), (.t 68), (.t 74)], (some (60, true))⟩, ⟨(some 76), .un .not (.t 75), (some (60, true))⟩, ⟨(some 77), .pick (.t 60) (.t 76) (.c (.v (.bool false))), none⟩] [])
    (.cond (.t 77)
      (.seq (.reg [⟨(some 4), .mv (.c (.v (.bool false))), none⟩])
      .ret)
      .skip))
    (.seq (.reg [⟨(some 78), .fieldA 8 (.t 5), none⟩, ⟨(some 79), .load 1 false (.t 78), none⟩, ⟨(some 80), .fieldA 3 (.t 2), none⟩, ⟨(some 81), .fieldA 0 (.t 80), none⟩, ⟨(some 82), .load 1 false (.t 81), none⟩, ⟨(some 83), .bin .eql (.t 79) (.t 82), none⟩, ⟨(some 84), .mv (.t 83), none⟩, ⟨(some 85), .fieldA 9 (.t 5), (some (84, true))⟩, ⟨(some 86), .load 2 true (.t 85), (some (84, true))⟩, ⟨(some 87), .fieldA 3 (.t 2), (some (84, true))⟩, ⟨(some 88), .fieldA 1 (.t 87), (some (84, true))⟩, ⟨(some 89), .load 1 false (.t 88), (some (84, true))⟩, ⟨(some 90), .fieldA 3 (.t 2), (some (84, true))⟩, ⟨(some 91), .fieldA 3 (.t 90), (some (84, true))⟩, ⟨(some 92), .load 1 false (.t 91), (some (84, true))⟩, ⟨(some 93), .bin .sub (.t 89) (.t 92), (some (84, true))⟩, ⟨(some 94), .fieldA 3 (.t 2), (some (84, true))⟩, ⟨(some 95), .fieldA 2 (.t 94), (some (84, true))⟩, ⟨(some 96), .load 1 false (.t 95), (some (84, true))⟩, ⟨(some 97), .call (.c (.fn (.func 18) [] [])) [(.t 86), (.t 93), (.t 96)], (some (84, true))⟩, ⟨(some 98), .un .not (.t 97), (some (84, true))⟩, ⟨(some 99), .pick (.t 84) (.t 98) (.c (.v (.bool false))), none⟩])
    (.cond (.t 99)
      (.seq (.reg [⟨(some 4), .mv (.c (.v (.bool false))), none⟩])
      .ret)
      .skip))))
    .skip))
  (.seq (.seq (.reg [⟨(some 100), .mv (.t 1), none⟩, ⟨(some 101), .bin .eql (.t 100) (.c (.v (.int .i64 0))), none⟩])
  (.cond (.t 101)
    (.seq (.reg [⟨(some 4), .mv (.c (.v (.bool true))), none⟩])
    .ret)
    .skip))
  (.seq (.reg [⟨(some 102), .fieldA 2 (.t 2), none⟩, ⟨(some 103), .load 1 false (.t 102), none⟩, ⟨(some 104), .mv (.t 1), none⟩, ⟨(some 105), .bin .sub (.t 104) (.c (.v (.int .i64 1))), none⟩, ⟨(some 106), .idxS 12 (.t 103) (.t 105), none⟩, ⟨(some 107), .fieldA 0 (.t 106), none⟩, ⟨(some 108), .load 1 false (.t 107), none⟩, ⟨(some 8), .mv (.t 108), none⟩])
  (.seq (.reg [⟨(some 109), .fieldA 4 (.t 5), none⟩, ⟨(some 110), .load 1 false (.t 109), none⟩, ⟨(some 111), .mv (.t 8), none⟩, ⟨(some 112), .bin .eql (.t 110) (.t 111), none⟩, ⟨(some 113), .mv (.t 112), none⟩, ⟨(some 114), .fieldA 8 (.t 5), (some (113, false))⟩, ⟨(some 115), .load 1 false (.t 114), (some (113, false))⟩, ⟨(some 116), .mv (.t 8), (some (113, false))⟩, ⟨(some 117), .bin .eql (.t 115) (.t 116), (some (113, false))⟩, ⟨(some 118), .mv (.t 117), (some (113, false))⟩, ⟨(some 119), .fieldA 11 (.t 5), (some (118, true))⟩, ⟨(some 120), .load 1 false (.t 119), (some (118, true))⟩, ⟨(some 121), .bin .neq (.t 120) (.c (.v (.int .i64 0))), (some (118, true))⟩, ⟨(some 122), .pick (.t 118) (.t 121) (.c (.v (.bool false))), (some (113, false))⟩, ⟨(some 123), .pick (.t 113) (.c (.v (.bool true))) (.t 122), none⟩, ⟨(some 4), .mv (.t 123), none⟩])
  .ret)))))))
theorem fn_ref09_true1 : FnOK Try.prog 80 124 [.t 4] ac_ref09_true1 := ⟨_, _, Try.func80, rfl, Try.ntmps80, by kernel_rfl, ⟨fun _ => [], by kernel_rfl⟩, by kernel_rfl⟩
set_option maxHeartbeats 4000000 in
theorem ref09_true1_ok (p1 : Convoy) (p2 : Int) (r : Bool) (h : ref09_true1 p1 p2 = some r) : PCall Try.prog 80 [(.agg [(i64 p1.Tick), (i64 p1.Gap), (.list (List.map eMate p1.Mates)), (i64 p1.Guest_.ID), (i64 p1.Guest_.S), (i64 p1.Guest_.V), (i64 p1.Guest_.Len), (i64 p1.Guest_.End), (i64 p1.Guest_.Ahead), (i64 p1.Guest_.Guess_.R), (i64 p1.Guest_.Guess_.V), (i64 p1.Guest_.From), (i64 p1.Guest_.Until)]), (i64 p2)] (bo r) := by
  refine l_call fn_ref09_true1 (Nat.le_of_ble_eq_true rfl) ?_
  unfold ref09_true1 at h
  unfold ac_ref09_true1
  refine (l_sub (s0 := ⟨T [(0, (.d (.agg [(i64 p1.Tick), (i64 p1.Gap), (.list (List.map eMate p1.Mates)), (i64 p1.Guest_.ID), (i64 p1.Guest_.S), (i64 p1.Guest_.V), (i64 p1.Guest_.Len), (i64 p1.Guest_.End), (i64 p1.Guest_.Ahead), (i64 p1.Guest_.Guess_.R), (i64 p1.Guest_.Guess_.V), (i64 p1.Guest_.From), (i64 p1.Guest_.Until)]))), (1, (.d (i64 p2)))], G []⟩) (sb_of ⟨.of rfl, .of rfl, trivial⟩ trivial) ?_)
  refine l_seq ?_
  refine l_reg fun u1 hu1 => ?_
  refine s_new (.ptr _ _) (.box _ _) rfl rfl ?_
  refine s_val (.d _) rfl rfl ?_
  refine s_nil ?_
  refine l_seq ?_
  refine l_reg fun u2 hu2 => ?_
  refine s_val (.ptr _ _) rfl rfl ?_
  refine s_val (.d _) rfl (v_load rfl G_hit rfl) ?_
  refine s_val (.d _) rfl rfl ?_
  obtain ⟨v1, hv1, h⟩ := bind_some h
  refine s_val (.d _) rfl (v_idx rfl rfl hv1 rfl) ?_
  refine s_val (.d _) rfl (v_loadLG rfl hv1 rfl rfl) ?_
  refine s_new (.ptr _ _) (.box _ _) rfl rfl ?_
  refine s_store _ _ _ _ _ rfl rfl rfl G_hit (Nat.le_of_ble_eq_true rfl) [(.d (i64 v1.ID)), (.d (i64 v1.S)), (.d (i64 v1.V)), (.d (i64 v1.Len)), (.d (i64 v1.Ahead)), (.d (i64 v1.Guess_.R)), (.d (i64 v1.Guess_.V)), (.d (bo v1.Trust)), (.d (i64 v1.Ward)), (.d (i64 v1.WardGuess.R)), (.d (i64 v1.WardGuess.V)), (.d (i64 v1.Until))] rfl ?_
  refine s_nil ?_
  refine l_seq ?_
  refine l_seq ?_
  refine l_reg fun u3 hu3 => ?_
  refine s_val (.ptr _ _) rfl rfl ?_
  refine s_val (.d _) rfl (v_load rfl G_hit rfl) ?_
  refine s_val (.d _) rfl rfl ?_
  refine s_nil ?_
  obtain ⟨z1, hz1, h⟩ := thenS_some h
  refine l_join (fun s => ∃ (y1 : Unit) (g1 : Unit), z1 = .inl y1 ∧ Sb ⟨T [(1, (.d (i64 p2))), (2, (.ptr (2, u1) 0)), (5, (.ptr (5, u2) 0))], G [((2, u1), some (.box 38 [(.d (i64 p1.Tick)), (.d (i64 p1.Gap)), (.d (.list (List.map eMate p1.Mates))), (.d (i64 p1.Guest_.ID)), (.d (i64 p1.Guest_.S)), (.d (i64 p1.Guest_.V)), (.d (i64 p1.Guest_.Len)), (.d (i64 p1.Guest_.End)), (.d (i64 p1.Guest_.Ahead)), (.d (i64 p1.Guest_.Guess_.R)), (.d (i64 p1.Guest_.Guess_.V)), (.d (i64 p1.Guest_.From)), (.d (i64 p1.Guest_.Until))])), ((5, u2), some (.box 65 [(.d (i64 v1.ID)), (.d (i64 v1.S)), (.d (i64 v1.V)), (.d (i64 v1.Len)), (.d (i64 v1.Ahead)), (.d (i64 v1.Guess_.R)), (.d (i64 v1.Guess_.V)), (.d (bo v1.Trust)), (.d (i64 v1.Ward)), (.d (i64 v1.WardGuess.R)), (.d (i64 v1.WardGuess.V)), (.d (i64 v1.Until))]))]⟩ s) ?_ ?_
  · skip
    refine l_cond (v1.Ahead != 0) rfl (fun c1 => ?_) (fun c1 => ?_)
    · replace hz1 := cond_t c1 hz1
      refine l_seq ?_
      refine l_reg fun u4 hu4 => ?_
      refine s_val (.d _) rfl (v_loadG rfl (G_skip rfl (G_skip rfl G_hit)) rfl rfl) ?_
      refine s_val (.ptr _ _) rfl rfl ?_
      refine s_val (.d _) rfl (v_load rfl G_hit rfl) ?_
      obtain ⟨v2, hv2, hz1⟩ := bind_some hz1
      refine s_call rfl rfl all2_refl (ref09_find_ok _ _  _ hv2) (.inl rfl) ?_
      refine s_val (.d _) rfl rfl ?_
      refine s_nil ?_
      refine l_seq ?_
      refine l_draw rfl fun u5 hu5 => ?_
      refine s_val (.d _) rfl rfl ?_
      refine s_val (.d _) rfl rfl ?_
      refine s_val (.d _) rfl rfl ?_
      refine g_val (!(decide (v2 < 0))) (.d _) rfl (gw_f rfl) (fun w1 => rfl) ?_
      refine g_val (!(decide (v2 < 0))) (.d _) rfl (gw_f rfl) (fun w2 => rfl) ?_
      refine g_val (!(decide (v2 < 0))) (.d _) rfl (gw_f rfl) (fun w3 => (v_bin (gd_pos w3) (gd_pos w3) rfl)) ?_
      refine s_val (.d _) rfl (v_or rfl rfl (fun hc => gd_pos (not_t hc))) ?_
      refine s_val (.d _) rfl rfl ?_
      refine g_val (!((decide (v2 < 0)) || (decide (v2 ≥ p2)))) (.ptr _ _) rfl (gw_f rfl) (fun w4 => rfl) ?_
      refine g_val (!((decide (v2 < 0)) || (decide (v2 ≥ p2)))) (.d _) rfl (gw_f rfl) (fun w5 => (v_loadG (gd_pos w5) G_hit rfl rfl)) ?_
      refine g_val (!((decide (v2 < 0)) || (decide (v2 ≥ p2)))) (.ptr _ _) rfl (gw_f rfl) (fun w6 => rfl) ?_
      refine g_val (!((decide (v2 < 0)) || (decide (v2 ≥ p2)))) (.d _) rfl (gw_f rfl) (fun w7 => (v_load (gd_pos w7) (G_skip rfl (G_skip rfl G_hit)) rfl)) ?_
      refine g_val (!((decide (v2 < 0)) || (decide (v2 ≥ p2)))) (.d _) rfl (gw_f rfl) (fun w8 => rfl) ?_
      obtain ⟨v3, hv3, hz1⟩ := bind_some hz1
      refine g_val (!((decide (v2 < 0)) || (decide (v2 ≥ p2)))) (.d _) rfl (gw_f rfl) (fun w9 => (v_idx (gd_pos w9) (gd_pos w9) (cond_t w9 hv3) rfl)) ?_
      refine g_val (!((decide (v2 < 0)) || (decide (v2 ≥ p2)))) (.d _) rfl (gw_f rfl) (fun w10 => (v_loadLG (gd_pos w10) (cond_t w10 hv3) rfl rfl)) ?_
      obtain ⟨v4, hv4, hz1⟩ := bind_some hz1
      refine g_call (!((decide (v2 < 0)) || (decide (v2 ≥ p2)))) (i64 v4) (gw_f rfl) (fun w11 => ⟨_, [(.d (.agg [(i64 v3.ID), (i64 v3.S), (i64 v3.V), (i64 v3.Len), (i64 v3.Ahead), (i64 v3.Guess_.R), (i64 v3.Guess_.V), (bo v3.Trust), (i64 v3.Ward), (i64 v3.WardGuess.R), (i64 v3.WardGuess.V), (i64 v3.Until)]))], _, _, (by simp only [gd_pos w11]; rfl), rfl, all2_refl, ref09_rear_ok _  _ (cond_t w11 hv4), (.inl rfl)⟩) ?_
      refine g_val (!((decide (v2 < 0)) || (decide (v2 ≥ p2)))) (.ptr _ _) rfl (gw_f rfl) (fun w12 => rfl) ?_
      refine g_val (!((decide (v2 < 0)) || (decide (v2 ≥ p2)))) (.d _) rfl (gw_f rfl) (fun w13 => (v_load (gd_pos w13) (G_skip rfl (G_skip rfl G_hit)) rfl)) ?_
      refine g_val (!((decide (v2 < 0)) || (decide (v2 ≥ p2)))) (.d _) rfl (gw_f rfl) (fun w14 => rfl) ?_
      obtain ⟨v5, hv5, hz1⟩ := bind_some hz1
      refine g_val (!((decide (v2 < 0)) || (decide (v2 ≥ p2)))) (.d _) rfl (gw_f rfl) (fun w15 => (v_idx (gd_pos w15) (gd_pos w15) (cond_t w15 hv5) rfl)) ?_
      refine g_val (!((decide (v2 < 0)) || (decide (v2 ≥ p2)))) (.d _) rfl (gw_f rfl) (fun w16 => (by simp only [gd_pos w16]; rfl)) ?_
      refine g_val (!((decide (v2 < 0)) || (decide (v2 ≥ p2)))) (.d _) rfl (gw_f rfl) (fun w17 => (v_loadL (gd_pos w17) (cond_t w17 hv5) rfl)) ?_
      obtain ⟨v6, hv6, hz1⟩ := bind_some hz1
      refine g_call (!((decide (v2 < 0)) || (decide (v2 ≥ p2)))) (bo v6) (gw_f rfl) (fun w18 => ⟨_, [(.d (.agg [(i64 v1.Guess_.R), (i64 v1.Guess_.V)])), (.d (i64 v4)), (.d (i64 v5.V))], _, _, (by simp only [gd_pos w18]; rfl), rfl, all2_refl, ref09_Below_ok _ _ _  _ (cond_t w18 hv6), (.inl rfl)⟩) ?_
      refine g_val (!((decide (v2 < 0)) || (decide (v2 ≥ p2)))) (.d _) rfl (gw_f rfl) (fun w19 => (by simp only [gd_pos w19]; rfl)) ?_
      refine s_val (.d _) rfl (v_or rfl rfl (fun hc => gd_pos (not_t hc))) ?_
      refine s_nil ?_
      refine l_cond (((decide (v2 < 0)) || (decide (v2 ≥ p2))) || (!v6)) rfl (fun c2 => ?_) (fun c2 => ?_)
      · replace hz1 := cond_t c2 hz1
        refine l_seq ?_
        refine l_sub (s0 := ⟨T [], G []⟩) (sb_of trivial trivial) ?_
        refine l_reg fun u6 hu6 => ?_
        refine s_val (.d _) rfl rfl ?_
        refine s_nil ?_
        refine l_ret ?_
        obtain rfl := Option.some.inj hz1
        rw [Sum.elim_inr] at h
        obtain rfl := Option.some.inj h
        refine fin_ok (.inr rfl) (resD1 (res_t rfl) rf_d) ?_
        exact (.refl _)
      · replace hz1 := cond_f c2 hz1
        refine l_skip ?_
        obtain rfl := Option.some.inj hz1
        exact l_j ⟨_, (), rfl, (sb_of ⟨.of rfl, .of rfl, .of rfl, trivial⟩ (sbG_some (G_skip rfl (G_skip rfl G_hit)) (.of rfl) (sbG_some G_hit (.of rfl) trivial)))⟩
    · replace hz1 := cond_f c1 hz1
      refine l_skip ?_
      obtain rfl := Option.some.inj hz1
      exact l_j ⟨_, (), rfl, (sb_of ⟨.of rfl, .of rfl, .of rfl, trivial⟩ (sbG_some (G_skip rfl (G_skip rfl G_hit)) (.of rfl) (sbG_some G_hit (.of rfl) trivial)))⟩
  · rintro _ ⟨y1, g1, rfl, q1⟩
    rw [Sum.elim_inl] at h
    refine l_sub q1 ?_
    refine l_seq ?_
    refine l_seq ?_
    refine l_reg fun u7 hu7 => ?_
    refine s_val (.ptr _ _) rfl rfl ?_
    refine s_val (.d _) rfl (v_load rfl (G_skip rfl G_hit) rfl) ?_
    refine s_val (.d _) rfl rfl ?_
    refine s_nil ?_
    obtain ⟨z2, hz2, h⟩ := thenS_some h
    refine l_join (fun s => ∃ (y2 : Unit) (g2 : Unit), z2 = .inl y2 ∧ Sb ⟨T [(1, (.d (i64 p2))), (2, (.ptr (2, u1) 0)), (5, (.ptr (5, u2) 0))], G [((2, u1), some (.box 38 [(.d (i64 p1.Tick)), (.d (i64 p1.Gap)), (.d (.list (List.map eMate p1.Mates))), (.d (i64 p1.Guest_.ID)), (.d (i64 p1.Guest_.S)), (.d (i64 p1.Guest_.V)), (.d (i64 p1.Guest_.Len)), (.d (i64 p1.Guest_.End)), (.d (i64 p1.Guest_.Ahead)), (.d (i64 p1.Guest_.Guess_.R)), (.d (i64 p1.Guest_.Guess_.V)), (.d (i64 p1.Guest_.From)), (.d (i64 p1.Guest_.Until))])), ((5, u2), some (.box 65 [(.d (i64 v1.ID)), (.d (i64 v1.S)), (.d (i64 v1.V)), (.d (i64 v1.Len)), (.d (i64 v1.Ahead)), (.d (i64 v1.Guess_.R)), (.d (i64 v1.Guess_.V)), (.d (bo v1.Trust)), (.d (i64 v1.Ward)), (.d (i64 v1.WardGuess.R)), (.d (i64 v1.WardGuess.V)), (.d (i64 v1.Until))]))]⟩ s) ?_ ?_
    · skip
      refine l_cond (v1.Until != 0) rfl (fun c3 => ?_) (fun c3 => ?_)
      · replace hz2 := cond_t c3 hz2
        refine l_seq ?_
        refine l_reg fun u8 hu8 => ?_
        refine s_val (.d _) rfl (v_loadG rfl G_hit rfl rfl) ?_
        refine s_val (.ptr _ _) rfl rfl ?_
        refine s_val (.d _) rfl (v_load rfl (G_skip rfl G_hit) rfl) ?_
        obtain ⟨v7, hv7, hz2⟩ := bind_some hz2
        refine s_call rfl rfl all2_refl (ref09_find_ok _ _  _ hv7) (.inl rfl) ?_
        refine s_val (.d _) rfl rfl ?_
        refine s_nil ?_
        refine l_seq ?_
        refine l_seq ?_
        refine l_draw rfl fun u9 hu9 => ?_
        refine s_val (.d _) rfl rfl ?_
        refine s_val (.d _) rfl rfl ?_
        refine s_val (.d _) rfl rfl ?_
        refine g_val (decide (v7 ≥ 0)) (.d _) rfl (gw_t rfl) (fun w20 => rfl) ?_
        refine g_val (decide (v7 ≥ 0)) (.d _) rfl (gw_t rfl) (fun w21 => rfl) ?_
        refine g_val (decide (v7 ≥ 0)) (.d _) rfl (gw_t rfl) (fun w22 => (v_bin (gd_pos w22) (gd_pos w22) rfl)) ?_
        refine s_val (.d _) rfl (v_and rfl (fun hc => gd_pos hc) rfl) ?_
        refine s_val (.d _) rfl rfl ?_
        refine g_val ((decide (v7 ≥ 0)) && (decide (v7 < p2))) (.ptr _ _) rfl (gw_t rfl) (fun w23 => rfl) ?_
        refine g_val ((decide (v7 ≥ 0)) && (decide (v7 < p2))) (.d _) rfl (gw_t rfl) (fun w24 => (v_loadG (gd_pos w24) (G_skip rfl G_hit) rfl rfl)) ?_
        refine g_val ((decide (v7 ≥ 0)) && (decide (v7 < p2))) (.ptr _ _) rfl (gw_t rfl) (fun w25 => rfl) ?_
        refine g_val ((decide (v7 ≥ 0)) && (decide (v7 < p2))) (.d _) rfl (gw_t rfl) (fun w26 => (v_load (gd_pos w26) G_hit rfl)) ?_
        refine g_val ((decide (v7 ≥ 0)) && (decide (v7 < p2))) (.d _) rfl (gw_t rfl) (fun w27 => rfl) ?_
        obtain ⟨v8, hv8, hz2⟩ := bind_some hz2
        refine g_val ((decide (v7 ≥ 0)) && (decide (v7 < p2))) (.d _) rfl (gw_t rfl) (fun w28 => (v_idx (gd_pos w28) (gd_pos w28) (cond_t w28 hv8) rfl)) ?_
        refine g_val ((decide (v7 ≥ 0)) && (decide (v7 < p2))) (.d _) rfl (gw_t rfl) (fun w29 => (v_loadLG (gd_pos w29) (cond_t w29 hv8) rfl rfl)) ?_
        obtain ⟨v9, hv9, hz2⟩ := bind_some hz2
        refine g_call ((decide (v7 ≥ 0)) && (decide (v7 < p2))) (i64 v9) (gw_t rfl) (fun w30 => ⟨_, [(.d (.agg [(i64 v8.ID), (i64 v8.S), (i64 v8.V), (i64 v8.Len), (i64 v8.Ahead), (i64 v8.Guess_.R), (i64 v8.Guess_.V), (bo v8.Trust), (i64 v8.Ward), (i64 v8.WardGuess.R), (i64 v8.WardGuess.V), (i64 v8.Until)]))], _, _, (by simp only [gd_pos w30]; rfl), rfl, all2_refl, ref09_rear_ok _  _ (cond_t w30 hv9), (.inl rfl)⟩) ?_
        refine g_val ((decide (v7 ≥ 0)) && (decide (v7 < p2))) (.ptr _ _) rfl (gw_t rfl) (fun w31 => rfl) ?_
        refine g_val ((decide (v7 ≥ 0)) && (decide (v7 < p2))) (.d _) rfl (gw_t rfl) (fun w32 => (v_load (gd_pos w32) G_hit rfl)) ?_
        refine g_val ((decide (v7 ≥ 0)) && (decide (v7 < p2))) (.d _) rfl (gw_t rfl) (fun w33 => rfl) ?_
        obtain ⟨v10, hv10, hz2⟩ := bind_some hz2
        refine g_val ((decide (v7 ≥ 0)) && (decide (v7 < p2))) (.d _) rfl (gw_t rfl) (fun w34 => (v_idx (gd_pos w34) (gd_pos w34) (cond_t w34 hv10) rfl)) ?_
        refine g_val ((decide (v7 ≥ 0)) && (decide (v7 < p2))) (.d _) rfl (gw_t rfl) (fun w35 => (by simp only [gd_pos w35]; rfl)) ?_
        refine g_val ((decide (v7 ≥ 0)) && (decide (v7 < p2))) (.d _) rfl (gw_t rfl) (fun w36 => (v_loadL (gd_pos w36) (cond_t w36 hv10) rfl)) ?_
        obtain ⟨v11, hv11, hz2⟩ := bind_some hz2
        refine g_call ((decide (v7 ≥ 0)) && (decide (v7 < p2))) (bo v11) (gw_t rfl) (fun w37 => ⟨_, [(.d (.agg [(i64 v1.WardGuess.R), (i64 v1.WardGuess.V)])), (.d (i64 v9)), (.d (i64 v10.V))], _, _, (by simp only [gd_pos w37]; rfl), rfl, all2_refl, ref09_Below_ok _ _ _  _ (cond_t w37 hv11), (.inl rfl)⟩) ?_
        refine g_val ((decide (v7 ≥ 0)) && (decide (v7 < p2))) (.d _) rfl (gw_t rfl) (fun w38 => (by simp only [gd_pos w38]; rfl)) ?_
        refine s_val (.d _) rfl (v_and rfl (fun hc => gd_pos hc) rfl) ?_
        refine s_nil ?_
        refine l_cond (((decide (v7 ≥ 0)) && (decide (v7 < p2))) && (!v11)) rfl (fun c4 => ?_) (fun c4 => ?_)
        · replace hz2 := cond_t c4 hz2
          refine l_seq ?_
          refine l_sub (s0 := ⟨T [], G []⟩) (sb_of trivial trivial) ?_
          refine l_reg fun u10 hu10 => ?_
          refine s_val (.d _) rfl rfl ?_
          refine s_nil ?_
          refine l_ret ?_
          obtain rfl := Option.some.inj hz2
          rw [Sum.elim_inr] at h
          obtain rfl := Option.some.inj h
          refine fin_ok (.inr rfl) (resD1 (res_t rfl) rf_d) ?_
          exact (.refl _)
        · replace hz2 := cond_f c4 hz2
          refine l_skip ?_
          refine l_seq ?_
          refine l_sub (s0 := ⟨T [(1, (.d (i64 p2))), (2, (.ptr (2, u1) 0)), (5, (.ptr (5, u2) 0))], G [((2, u1), some (.box 38 [(.d (i64 p1.Tick)), (.d (i64 p1.Gap)), (.d (.list (List.map eMate p1.Mates))), (.d (i64 p1.Guest_.ID)), (.d (i64 p1.Guest_.S)), (.d (i64 p1.Guest_.V)), (.d (i64 p1.Guest_.Len)), (.d (i64 p1.Guest_.End)), (.d (i64 p1.Guest_.Ahead)), (.d (i64 p1.Guest_.Guess_.R)), (.d (i64 p1.Guest_.Guess_.V)), (.d (i64 p1.Guest_.From)), (.d (i64 p1.Guest_.Until))])), ((5, u2), some (.box 65 [(.d (i64 v1.ID)), (.d (i64 v1.S)), (.d (i64 v1.V)), (.d (i64 v1.Len)), (.d (i64 v1.Ahead)), (.d (i64 v1.Guess_.R)), (.d (i64 v1.Guess_.V)), (.d (bo v1.Trust)), (.d (i64 v1.Ward)), (.d (i64 v1.WardGuess.R)), (.d (i64 v1.WardGuess.V)), (.d (i64 v1.Until))]))]⟩) (sb_of ⟨.of rfl, .of rfl, .of rfl, trivial⟩ (sbG_some G_hit (.of rfl) (sbG_some (G_skip rfl G_hit) (.of rfl) trivial))) ?_
          refine l_reg fun u11 hu11 => ?_
          refine s_val (.ptr _ _) rfl rfl ?_
          refine s_val (.d _) rfl (v_load rfl (G_skip rfl G_hit) rfl) ?_
          refine s_val (.ptr _ _) rfl rfl ?_
          refine s_val (.ptr _ _) rfl rfl ?_
          refine s_val (.d _) rfl (v_load rfl G_hit rfl) ?_
          refine s_val (.d _) rfl rfl ?_
          refine s_val (.d _) rfl rfl ?_
          refine g_val (v1.Ward == p1.Guest_.ID) (.ptr _ _) rfl (gw_t rfl) (fun w39 => rfl) ?_
          refine g_val (v1.Ward == p1.Guest_.ID) (.d _) rfl (gw_t rfl) (fun w40 => (v_loadG (gd_pos w40) (G_skip rfl G_hit) rfl rfl)) ?_
          refine g_val (v1.Ward == p1.Guest_.ID) (.ptr _ _) rfl (gw_t rfl) (fun w41 => rfl) ?_
          refine g_val (v1.Ward == p1.Guest_.ID) (.ptr _ _) rfl (gw_t rfl) (fun w42 => (by simp only [gd_pos w42]; rfl)) ?_
          refine g_val (v1.Ward == p1.Guest_.ID) (.d _) rfl (gw_t rfl) (fun w43 => (v_load (gd_pos w43) G_hit rfl)) ?_
          refine g_val (v1.Ward == p1.Guest_.ID) (.ptr _ _) rfl (gw_t rfl) (fun w44 => rfl) ?_
          refine g_val (v1.Ward == p1.Guest_.ID) (.ptr _ _) rfl (gw_t rfl) (fun w45 => (by simp only [gd_pos w45]; rfl)) ?_
          refine g_val (v1.Ward == p1.Guest_.ID) (.d _) rfl (gw_t rfl) (fun w46 => (v_load (gd_pos w46) G_hit rfl)) ?_
          refine g_val (v1.Ward == p1.Guest_.ID) (.d _) rfl (gw_t rfl) (fun w47 => (v_bin (gd_pos w47) (gd_pos w47) rfl)) ?_
          refine g_val (v1.Ward == p1.Guest_.ID) (.ptr _ _) rfl (gw_t rfl) (fun w48 => rfl) ?_
          refine g_val (v1.Ward == p1.Guest_.ID) (.ptr _ _) rfl (gw_t rfl) (fun w49 => (by simp only [gd_pos w49]; rfl)) ?_
          refine g_val (v1.Ward == p1.Guest_.ID) (.d _) rfl (gw_t rfl) (fun w50 => (v_load (gd_pos w50) G_hit rfl)) ?_
          obtain ⟨v12, hv12, hz2⟩ := bind_some hz2
          refine g_call (v1.Ward == p1.Guest_.ID) (bo v12) (gw_t rfl) (fun w51 => ⟨_, [(.d (.agg [(i64 v1.WardGuess.R), (i64 v1.WardGuess.V)])), (.d (i64 (w64 (p1.Guest_.S - p1.Guest_.Len)))), (.d (i64 p1.Guest_.V))], _, _, (by simp only [gd_pos w51]; rfl), rfl, all2_refl, ref09_Below_ok _ _ _  _ (cond_t w51 hv12), (.inl rfl)⟩) ?_
          refine g_val (v1.Ward == p1.Guest_.ID) (.d _) rfl (gw_t rfl) (fun w52 => (by simp only [gd_pos w52]; rfl)) ?_
          refine s_val (.d _) rfl (v_and rfl (fun hc => gd_pos hc) rfl) ?_
          refine s_nil ?_
          refine l_cond ((v1.Ward == p1.Guest_.ID) && (!v12)) rfl (fun c5 => ?_) (fun c5 => ?_)
          · replace hz2 := cond_t c5 hz2
            refine l_seq ?_
            refine l_sub (s0 := ⟨T [], G []⟩) (sb_of trivial trivial) ?_
            refine l_reg fun u12 hu12 => ?_
            refine s_val (.d _) rfl rfl ?_
            refine s_nil ?_
            refine l_ret ?_
            obtain rfl := Option.some.inj hz2
            rw [Sum.elim_inr] at h
            obtain rfl := Option.some.inj h
            refine fin_ok (.inr rfl) (resD1 (res_t rfl) rf_d) ?_
            exact (.refl _)
          · replace hz2 := cond_f c5 hz2
            refine l_skip ?_
            obtain rfl := Option.some.inj hz2
            exact l_j ⟨_, (), rfl, (sb_of ⟨.of rfl, .of rfl, .of rfl, trivial⟩ (sbG_some G_hit (.of rfl) (sbG_some (G_skip rfl G_hit) (.of rfl) trivial)))⟩
      · replace hz2 := cond_f c3 hz2
        refine l_skip ?_
        obtain rfl := Option.some.inj hz2
        exact l_j ⟨_, (), rfl, (sb_of ⟨.of rfl, .of rfl, .of rfl, trivial⟩ (sbG_some G_hit (.of rfl) (sbG_some (G_skip rfl G_hit) (.of rfl) trivial)))⟩
    · rintro _ ⟨y2, g2, rfl, q2⟩
      rw [Sum.elim_inl] at h
      refine l_sub q2 ?_
      refine l_seq ?_
      refine l_seq ?_
      refine l_reg fun u13 hu13 => ?_
      refine s_val (.d _) rfl rfl ?_
      refine s_val (.d _) rfl rfl ?_
      refine s_nil ?_
      refine l_cond (p2 == 0) rfl (fun c6 => ?_) (fun c6 => ?_)
      · replace h := cond_t c6 h
        refine l_seq ?_
        refine l_reg fun u14 hu14 => ?_
        refine s_val (.d _) rfl rfl ?_
        refine s_nil ?_
        refine l_ret ?_
        obtain rfl := Option.some.inj h
        refine fin_ok (.inr rfl) (resD1 (res_t rfl) rf_d) ?_
        exact (.refl _)
      · replace h := cond_f c6 h
        refine l_skip ?_
        refine l_seq ?_
        refine l_reg fun u15 hu15 => ?_
        refine s_val (.ptr _ _) rfl rfl ?_
        refine s_val (.d _) rfl (v_load rfl G_hit rfl) ?_
        refine s_val (.d _) rfl rfl ?_
        refine s_val (.d _) rfl rfl ?_
        obtain ⟨v13, hv13, h⟩ := bind_some h
        refine s_val (.d _) rfl (v_idx rfl rfl hv13 rfl) ?_
        refine s_val (.d _) rfl rfl ?_
        refine s_val (.d _) rfl (v_loadL rfl hv13 rfl) ?_
        refine s_val (.d _) rfl rfl ?_
        refine s_nil ?_
        refine l_seq ?_
        refine l_reg fun u16 hu16 => ?_
        refine s_val (.ptr _ _) rfl rfl ?_
        refine s_val (.d _) rfl (v_load rfl (G_skip rfl G_hit) rfl) ?_
        refine s_val (.d _) rfl rfl ?_
        refine s_val (.d _) rfl rfl ?_
        refine s_val (.d _) rfl rfl ?_
        refine g_val (!(v1.Ahead == v13.ID)) (.ptr _ _) rfl (gw_f rfl) (fun w53 => rfl) ?_
        refine g_val (!(v1.Ahead == v13.ID)) (.d _) rfl (gw_f rfl) (fun w54 => (v_load (gd_pos w54) (G_skip rfl G_hit) rfl)) ?_
        refine g_val (!(v1.Ahead == v13.ID)) (.d _) rfl (gw_f rfl) (fun w55 => rfl) ?_
        refine g_val (!(v1.Ahead == v13.ID)) (.d _) rfl (gw_f rfl) (fun w56 => (v_bin (gd_pos w56) (gd_pos w56) rfl)) ?_
        refine g_val (!(v1.Ahead == v13.ID)) (.d _) rfl (gw_f rfl) (fun w57 => (v_mv (gd_pos w57))) ?_
        refine g_val ((!(v1.Ahead == v13.ID)) && (v1.Ward == v13.ID)) (.ptr _ _) rfl (gw_gt rfl) (fun w58 => rfl) ?_
        refine g_val ((!(v1.Ahead == v13.ID)) && (v1.Ward == v13.ID)) (.d _) rfl (gw_gt rfl) (fun w59 => (v_load (gd_pos w59) (G_skip rfl G_hit) rfl)) ?_
        refine g_val ((!(v1.Ahead == v13.ID)) && (v1.Ward == v13.ID)) (.d _) rfl (gw_gt rfl) (fun w60 => (v_bin (gd_pos w60) rfl rfl)) ?_
        refine g_val (!(v1.Ahead == v13.ID)) (.d _) rfl (gw_f rfl) (fun w61 => (v_and (gd_pos w61) (fun hc => gd_pos (and_i w61 hc)) rfl)) ?_
        refine s_val (.d _) rfl (v_or rfl rfl (fun hc => gd_pos (not_t hc))) ?_
        refine s_val (.d _) rfl rfl ?_
        refine s_nil ?_
        refine l_ret ?_
        obtain rfl := Option.some.inj h
        refine fin_ok (.inr rfl) (resD1 (res_t rfl) rf_d) ?_
        exact (.refl _)

noncomputable def ref09_Sound_l1 (p1 : Convoy) (x1 : Int) : Option (Stp Int (Sum Unit Bool)) :=
  cond (decide (x1 < (p1.Mates.length : Int))) ((ref09_true1 p1 x1).bind fun v2 => cond (!v2) (some (.out (.inr false))) (some (.go (w64 (x1 + 1))))) (some (.out (.inl ())))
noncomputable def ref09_Sound (p1 : Convoy) : Option Bool :=
  (ref09_Check p1).bind fun v1 => cond (v1 != 0) (some false) (thenS (loop (ref09_Sound_l1 p1) 0) (fun _ => cond (p1.Guest_.Ahead == 0) (some true) ((ref09_find p1 p1.Guest_.Ahead).bind fun v3 => ((cond (decide (v3 ≥ 0)) (geti p1.Mates v3) (some default))).bind fun v4 => ((cond (decide (v3 ≥ 0)) (ref09_rear v4) (some default))).bind fun v5 => ((cond (decide (v3 ≥ 0)) (geti p1.Mates v3) (some default))).bind fun v6 => ((cond (decide (v3 ≥ 0)) (ref09_Below p1.Guest_.Guess_ v5 v6.V) (some default))).bind fun v7 => some ((decide (v3 ≥ 0)) && v7))) (fun r => some r))

/-- kerbstone/kerbstoneref09.Sound -/
def ac_ref09_Sound : AC :=
  (.seq (.reg [⟨(some 1), .box 38 true (.t 0), none⟩, ⟨(some 2), .mv (.c (.v (.bool false))), none⟩])
  (.seq (.seq (.reg [⟨(some 5), .load 13 true (.t 1), none⟩, ⟨(some 6), .call (.c (.fn (.func 33) [] [])) [(.t 5)], none⟩, ⟨(some 7), .bin .neq (.t 6) (.c (.v (.int .i64 0))), none⟩])
  (.cond (.t 7)
    (.seq (.reg [⟨(some 2), .mv (.c (.v (.bool false))), none⟩])
    .ret)
    .skip))
  (.seq (.seq (.reg [⟨(some 3), .mv (.c (.v (.int .i64 0))), none⟩])
  (.block 0
    (.loop
      (.seq (.seq (.reg [⟨(some 8), .mv (.t 3), none⟩, ⟨(some 9), .fieldA 2 (.t 1), none⟩, ⟨(some 10), .load 1 false (.t 9), none⟩, ⟨(some 11), .len (.t 10), none⟩, ⟨(some 12), .bin .lss (.t 8) (.t 11), none⟩])
      (.cond (.t 12)
        .skip
        (.exit 0)))
      (.seq (.block 1
        (.seq (.reg [⟨(some 15), .load 13 true (.t 1), none⟩, ⟨(some 16), .mv (.t 3), none⟩, ⟨(some 17), .call (.c (.fn (.func 80) [] [])) [(.t 15), (.t 16)], none⟩, ⟨(some 18), .un .not (.t 17), none⟩])
        (.cond (.t 18)
          (.seq (.reg [⟨(some 2), .mv (.c (.v (.bool false))), none⟩])
          .ret)
          .skip)))
      (.reg [⟨(some 13), .mv (.t 3), none⟩, ⟨(some 14), .bin .add (.t 13) (.c (.v (.int .i64 1))), none⟩, ⟨(some 3), .mv (.t 14), none⟩]))))))
  (.seq (.seq (.reg [⟨(some 19), .fieldA 3 (.t 1), none⟩, ⟨(some 20), .fieldA 5 (.t 19), none⟩, ⟨(some 21), .load 1 false (.t 20), none⟩, ⟨(some 22), .bin .eql (.t 21) (.c (.v (.int .i64 0))), none⟩])
  (.cond (.t 22)
    (.seq (.reg [⟨(some 2), .mv (.c (.v (.bool true))), none⟩])
    .ret)
    .skip))
  (.seq (.reg [⟨(some 23), .load 13 true (.t 1), none⟩, ⟨(some 24), .fieldA 3 (.t 1), none⟩, ⟨(some 25), .fieldA 5 (.t 24), none⟩, ⟨(some 26), .load 1 false (.t 25), none⟩, ⟨(some 27), .call (.c (.fn (.func 68) [] [])) [(.t 23), (.t 26)], none⟩, ⟨(some 4), .mv (.t 27), none⟩])
  (.seq (.draw [⟨(some 28), .mv (.t 4), none⟩, ⟨(some 29), .bin .geq (.t 28) (.c (.v (.int .i64 0))), none⟩, ⟨(some 30), .mv (.t 29), none⟩, ⟨(some 31), .fieldA 3 (.t 1), (some (30, true))⟩, ⟨(some 32), .fieldA 6 (.t 31), (some (30, true))⟩, ⟨(some 33), .load 2 true (.t 32), (some (30, true))⟩, ⟨(some 34), .fieldA 2 (.t 1), (some (30, true))⟩, ⟨(some 35), .load 1 false (.t 34), (some (30, true))⟩, ⟨(some 36), .mv (.t 4), (some (30, true))⟩, ⟨(some 37), .idxS 12 (.t 35) (.t 36), (some (30, true))⟩, ⟨(some 38), .load 12 true (.t 37), (some (30, true))⟩, ⟨(some 39), .call (.c (.fn (.func 70) [] [])) [(.t 38)], (some (30, true))⟩, ⟨(some 40), .fieldA 2 (.t 1), (some (30, true))⟩, ⟨(some 41), .load 1 false (.t 40), (some (30, true))⟩, ⟨(some 42), .mv (.t 4), (some (30, true))⟩, ⟨(some 43), .idxS 12 (.t 41) (.t 42), (some (30, true))⟩, ⟨(some 44), .fieldA 2 (.t 43), (some (30, true))⟩, ⟨(some 45), .load 1 false (.t 44), (some (30, true))⟩, ⟨(some 46), .call (.c (.fn (.func 18) [] [])) [(.t 33), (.t 39), (.t 45)], (some (30, true))⟩, ⟨(some 47), .pick (.t 30) (.t 46) (.c (.v (.bool false))), none⟩, ⟨(some 2), .mv (.t 47), none⟩] [])
  .ret))))))
theorem fn_ref09_Sound : FnOK Try.prog 35 48 [.t 2] ac_ref09_Sound := ⟨_, _, Try.func35, rfl, Try.ntmps35, by kernel_rfl, ⟨fun _ => [], by kernel_rfl⟩, by kernel_rfl⟩
set_option maxHeartbeats 4000000 in
theorem ref09_Sound_ok (p1 : Convoy) (r : Bool) (h : ref09_Sound p1 = some r) : PCall Try.prog 35 [(.agg [(i64 p1.Tick), (i64 p1.Gap), (.list (List.map eMate p1.Mates)), (i64 p1.Guest_.ID), (i64 p1.Guest_.S), (i64 p1.Guest_.V), (i64 p1.Guest_.Len), (i64 p1.Guest_.End), (i64 p1.Guest_.Ahead), (i64 p1.Guest_.Guess_.R), (i64 p1.Guest_.Guess_.V), (i64 p1.Guest_.From), (i64 p1.Guest_.Until)])] (bo r) := by
  refine l_call fn_ref09_Sound (Nat.le_of_ble_eq_true rfl) ?_
  unfold ref09_Sound at h
  unfold ac_ref09_Sound
  refine (l_sub (s0 := ⟨T [(0, (.d (.agg [(i64 p1.Tick), (i64 p1.Gap), (.list (List.map eMate p1.Mates)), (i64 p1.Guest_.ID), (i64 p1.Guest_.S), (i64 p1.Guest_.V), (i64 p1.Guest_.Len), (i64 p1.Guest_.End), (i64 p1.Guest_.Ahead), (i64 p1.Guest_.Guess_.R), (i64 p1.Guest_.Guess_.V), (i64 p1.Guest_.From), (i64 p1.Guest_.Until)])))], G []⟩) (sb_of ⟨.of rfl, trivial⟩ trivial) ?_)
  refine l_seq ?_
  refine l_reg fun u1 hu1 => ?_
  refine s_new (.ptr _ _) (.box _ _) rfl rfl ?_
  refine s_val (.d _) rfl rfl ?_
  refine s_nil ?_
  refine l_seq ?_
  refine l_seq ?_
  refine l_reg fun u2 hu2 => ?_
  refine s_val (.d _) rfl (v_loadG rfl G_hit rfl rfl) ?_
  obtain ⟨v1, hv1, h⟩ := bind_some h
  refine s_call rfl rfl all2_refl (ref09_Check_ok _  _ hv1) (.inl rfl) ?_
  refine s_val (.d _) rfl rfl ?_
  refine s_nil ?_
  refine l_cond (v1 != 0) rfl (fun c1 => ?_) (fun c1 => ?_)
  · replace h := cond_t c1 h
    refine l_seq ?_
    refine l_reg fun u3 hu3 => ?_
    refine s_val (.d _) rfl rfl ?_
    refine s_nil ?_
    refine l_ret ?_
    obtain rfl := Option.some.inj h
    refine fin_ok (.inr rfl) (resD1 (res_t rfl) rf_d) ?_
    exact (.refl _)
  · replace h := cond_f c1 h
    refine l_skip ?_
    refine l_seq ?_
    refine l_seq ?_
    refine l_reg fun u4 hu4 => ?_
    refine s_val (.d _) rfl rfl ?_
    refine s_nil ?_
    obtain ⟨z1, hz1, h⟩ := thenS_some h
    refine l_join (fun s => ∃ (y1 : Unit) (g1 : Unit), z1 = .inl y1 ∧ Sb ⟨T [(1, (.ptr (1, u1) 0))], G [((1, u1), some (.box 38 [(.d (i64 p1.Tick)), (.d (i64 p1.Gap)), (.d (.list (List.map eMate p1.Mates))), (.d (i64 p1.Guest_.ID)), (.d (i64 p1.Guest_.S)), (.d (i64 p1.Guest_.V)), (.d (i64 p1.Guest_.Len)), (.d (i64 p1.Guest_.End)), (.d (i64 p1.Guest_.Ahead)), (.d (i64 p1.Guest_.Guess_.R)), (.d (i64 p1.Guest_.Guess_.V)), (.d (i64 p1.Guest_.From)), (.d (i64 p1.Guest_.Until))]))]⟩ s) ?_ ?_
    · skip
      refine l_block ?_
      refine l_loop (ref09_Sound_l1 p1) (fun (x1 : Int) (g2 : Unit) => ⟨T [(1, (.ptr (1, u1) 0)), (3, (.d (i64 x1)))], G [((1, u1), some (.box 38 [(.d (i64 p1.Tick)), (.d (i64 p1.Gap)), (.d (.list (List.map eMate p1.Mates))), (.d (i64 p1.Guest_.ID)), (.d (i64 p1.Guest_.S)), (.d (i64 p1.Guest_.V)), (.d (i64 p1.Guest_.Len)), (.d (i64 p1.Guest_.End)), (.d (i64 p1.Guest_.Ahead)), (.d (i64 p1.Guest_.Guess_.R)), (.d (i64 p1.Guest_.Guess_.V)), (.d (i64 p1.Guest_.From)), (.d (i64 p1.Guest_.Until))]))]⟩) 0 () _ hz1 (sb_of ⟨.of rfl, .of rfl, trivial⟩ (sbG_some G_hit (.of rfl) trivial)) ?_
      intro x1 g2 z2 hz2 ez2
      unfold ref09_Sound_l1 at hz2
      refine l_seq ?_
      refine l_seq ?_
      refine l_reg fun u5 hu5 => ?_
      refine s_val (.d _) rfl rfl ?_
      refine s_val (.ptr _ _) rfl rfl ?_
      refine s_val (.d _) rfl (v_load rfl G_hit rfl) ?_
      refine s_val (.d _) rfl (v_len rfl) ?_
      refine s_val (.d _) rfl rfl ?_
      refine s_nil ?_
      refine l_cond (decide (x1 < (p1.Mates.length : Int))) rfl (fun c2 => ?_) (fun c2 => ?_)
      · replace hz2 := cond_t c2 hz2
        refine l_skip ?_
        refine l_seq ?_
        refine l_block ?_
        refine l_seq ?_
        refine l_reg fun u6 hu6 => ?_
        refine s_val (.d _) rfl (v_loadG rfl G_hit rfl rfl) ?_
        refine s_val (.d _) rfl rfl ?_
        obtain ⟨v2, hv2, hz2⟩ := bind_some hz2
        refine s_call rfl rfl all2_refl (ref09_true1_ok _ _  _ hv2) (.inl rfl) ?_
        refine s_val (.d _) rfl rfl ?_
        refine s_nil ?_
        refine l_cond (!v2) rfl (fun c3 => ?_) (fun c3 => ?_)
        · replace hz2 := cond_t c3 hz2
          refine l_seq ?_
          refine l_reg fun u7 hu7 => ?_
          refine s_val (.d _) rfl rfl ?_
          refine s_nil ?_
          refine l_ret ?_
          obtain rfl := Option.some.inj hz2
          obtain rfl := ez2 _ rfl
          refine ⟨nofun, awl_ret ?_⟩
          rw [Sum.elim_inr] at h
          obtain rfl := Option.some.inj h
          refine fin_ok (.inr rfl) (resD1 (res_t rfl) rf_d) ?_
          exact (.refl _)
        · replace hz2 := cond_f c3 hz2
          refine l_skip ?_
          refine l_end ?_
          refine l_reg fun u8 hu8 => ?_
          refine s_val (.d _) rfl rfl ?_
          refine s_val (.d _) rfl rfl ?_
          refine s_val (.d _) rfl rfl ?_
          refine s_nil ?_
          refine l_nil ?_
          obtain rfl := Option.some.inj hz2
          exact ⟨rfl, (), (sb_of ⟨.of rfl, .of rfl, trivial⟩ (sbG_some G_hit (.of rfl) trivial))⟩
      · replace hz2 := cond_f c2 hz2
        refine l_exitN rfl ?_
        obtain rfl := Option.some.inj hz2
        obtain rfl := ez2 _ rfl
        refine ⟨nofun, awl_pop rfl (l_j ?_)⟩
        exact ⟨_, (), rfl, (sb_of ⟨.of rfl, trivial⟩ (sbG_some G_hit (.of rfl) trivial))⟩
    · rintro _ ⟨y1, g1, rfl, q1⟩
      rw [Sum.elim_inl] at h
      refine l_sub q1 ?_
      refine l_seq ?_
      refine l_seq ?_
      refine l_reg fun u9 hu9 => ?_
      refine s_val (.ptr _ _) rfl rfl ?_
      refine s_val (.ptr _ _) rfl rfl ?_
      refine s_val (.d _) rfl (v_load rfl G_hit rfl) ?_
      refine s_val (.d _) rfl rfl ?_
      refine s_nil ?_
      refine l_cond (p1.Guest_.Ahead == 0) rfl (fun c4 => ?_) (fun c4 => ?_)
      · replace h := cond_t c4 h
        refine l_seq ?_
        refine l_reg fun u10 hu10 => ?_
        refine s_val (.d _) rfl rfl ?_
        refine s_nil ?_
        refine l_ret ?_
        obtain rfl := Option.some.inj h
        refine fin_ok (.inr rfl) (resD1 (res_t rfl) rf_d) ?_
        exact (.refl _)
      · replace h := cond_f c4 h
        refine l_skip ?_
        refine l_seq ?_
        refine l_reg fun u11 hu11 => ?_
        refine s_val (.d _) rfl (v_loadG rfl G_hit rfl rfl) ?_
        refine s_val (.ptr _ _) rfl rfl ?_
        refine s_val (.ptr _ _) rfl rfl ?_
        refine s_val (.d _) rfl (v_load rfl G_hit rfl) ?_
        obtain ⟨v3, hv3, h⟩ := bind_some h
        refine s_call rfl rfl all2_refl (ref09_find_ok _ _  _ hv3) (.inl rfl) ?_
        refine s_val (.d _) rfl rfl ?_
        refine s_nil ?_
        refine l_seq ?_
        refine l_draw rfl fun u12 hu12 => ?_
        refine s_val (.d _) rfl rfl ?_
        refine s_val (.d _) rfl rfl ?_
        refine s_val (.d _) rfl rfl ?_
        refine g_val (decide (v3 ≥ 0)) (.ptr _ _) rfl (gw_t rfl) (fun w1 => rfl) ?_
        refine g_val (decide (v3 ≥ 0)) (.ptr _ _) rfl (gw_t rfl) (fun w2 => (by simp only [gd_pos w2]; rfl)) ?_
        refine g_val (decide (v3 ≥ 0)) (.d _) rfl (gw_t rfl) (fun w3 => (v_loadG (gd_pos w3) G_hit rfl rfl)) ?_
        refine g_val (decide (v3 ≥ 0)) (.ptr _ _) rfl (gw_t rfl) (fun w4 => rfl) ?_
        refine g_val (decide (v3 ≥ 0)) (.d _) rfl (gw_t rfl) (fun w5 => (v_load (gd_pos w5) G_hit rfl)) ?_
        refine g_val (decide (v3 ≥ 0)) (.d _) rfl (gw_t rfl) (fun w6 => rfl) ?_
        obtain ⟨v4, hv4, h⟩ := bind_some h
        refine g_val (decide (v3 ≥ 0)) (.d _) rfl (gw_t rfl) (fun w7 => (v_idx (gd_pos w7) (gd_pos w7) (cond_t w7 hv4) rfl)) ?_
        refine g_val (decide (v3 ≥ 0)) (.d _) rfl (gw_t rfl) (fun w8 => (v_loadLG (gd_pos w8) (cond_t w8 hv4) rfl rfl)) ?_
        obtain ⟨v5, hv5, h⟩ := bind_some h
        refine g_call (decide (v3 ≥ 0)) (i64 v5) (gw_t rfl) (fun w9 => ⟨_, [(.d (.agg [(i64 v4.ID), (i64 v4.S), (i64 v4.V), (i64 v4.Len), (i64 v4.Ahead), (i64 v4.Guess_.R), (i64 v4.Guess_.V), (bo v4.Trust), (i64 v4.Ward), (i64 v4.WardGuess.R), (i64 v4.WardGuess.V), (i64 v4.Until)]))], _, _, (by simp only [gd_pos w9]; rfl), rfl, all2_refl, ref09_rear_ok _  _ (cond_t w9 hv5), (.inl rfl)⟩) ?_
        refine g_val (decide (v3 ≥ 0)) (.ptr _ _) rfl (gw_t rfl) (fun w10 => rfl) ?_
        refine g_val (decide (v3 ≥ 0)) (.d _) rfl (gw_t rfl) (fun w11 => (v_load (gd_pos w11) G_hit rfl)) ?_
        refine g_val (decide (v3 ≥ 0)) (.d _) rfl (gw_t rfl) (fun w12 => rfl) ?_
        obtain ⟨v6, hv6, h⟩ := bind_some h
        refine g_val (decide (v3 ≥ 0)) (.d _) rfl (gw_t rfl) (fun w13 => (v_idx (gd_pos w13) (gd_pos w13) (cond_t w13 hv6) rfl)) ?_
        refine g_val (decide (v3 ≥ 0)) (.d _) rfl (gw_t rfl) (fun w14 => (by simp only [gd_pos w14]; rfl)) ?_
        refine g_val (decide (v3 ≥ 0)) (.d _) rfl (gw_t rfl) (fun w15 => (v_loadL (gd_pos w15) (cond_t w15 hv6) rfl)) ?_
        obtain ⟨v7, hv7, h⟩ := bind_some h
        refine g_call (decide (v3 ≥ 0)) (bo v7) (gw_t rfl) (fun w16 => ⟨_, [(.d (.agg [(i64 p1.Guest_.Guess_.R), (i64 p1.Guest_.Guess_.V)])), (.d (i64 v5)), (.d (i64 v6.V))], _, _, (by simp only [gd_pos w16]; rfl), rfl, all2_refl, ref09_Below_ok _ _ _  _ (cond_t w16 hv7), (.inl rfl)⟩) ?_
        refine s_val (.d _) rfl (v_and rfl (fun hc => gd_pos hc) rfl) ?_
        refine s_val (.d _) rfl rfl ?_
        refine s_nil ?_
        refine l_ret ?_
        obtain rfl := Option.some.inj h
        refine fin_ok (.inr rfl) (resD1 (res_t rfl) rf_d) ?_
        exact (.refl _)

noncomputable def ref09_Gaps_l1 (p1 : Convoy) (x1 : ((List Int) × Int)) : Option (Stp ((List Int) × Int) (List Int)) :=
  cond (decide (x1.2 < (p1.Mates.length : Int))) ((geti p1.Mates (w64 (x1.2 - 1))).bind fun v2 => (ref09_rear v2).bind fun v3 => (geti p1.Mates x1.2).bind fun v4 => (appc x1.1 [(w64 (v3 - v4.S))]).bind fun v5 => some (.go (v5, (w64 (x1.2 + 1))))) (some (.out x1.1))
noncomputable def ref09_Gaps (p1 : Convoy) : Option (List Int) :=
  (ref09_Check p1).bind fun v1 => cond (v1 != 0) (some []) ((loop (ref09_Gaps_l1 p1) ([], 1)).bind fun y1 => some y1)

/-- kerbstone/kerbstoneref09.Gaps -/
def ac_ref09_Gaps : AC :=
  (.seq (.reg [⟨(some 1), .box 38 true (.t 0), none⟩, ⟨(some 2), .mv (.c .nilS), none⟩])
  (.seq (.seq (.reg [⟨(some 5), .load 13 true (.t 1), none⟩, ⟨(some 6), .call (.c (.fn (.func 33) [] [])) [(.t 5)], none⟩, ⟨(some 7), .bin .neq (.t 6) (.c (.v (.int .i64 0))), none⟩])
  (.cond (.t 7)
    (.seq (.reg [⟨(some 2), .mv (.c .nilS), none⟩])
    .ret)
    .skip))
  (.seq (.reg [⟨(some 3), .mv (.c .nilS), none⟩])
  (.seq (.seq (.reg [⟨(some 4), .mv (.c (.v (.int .i64 1))), none⟩])
  (.block 0
    (.loop
      (.seq (.seq (.reg [⟨(some 8), .mv (.t 4), none⟩, ⟨(some 9), .fieldA 2 (.t 1), none⟩, ⟨(some 10), .load 1 false (.t 9), none⟩, ⟨(some 11), .len (.t 10), none⟩, ⟨(some 12), .bin .lss (.t 8) (.t 11), none⟩])
      (.cond (.t 12)
        .skip
        (.exit 0)))
      (.seq (.block 1
        (.draw [⟨(some 15), .mv (.t 3), none⟩, ⟨(some 16), .fieldA 2 (.t 1), none⟩, ⟨(some 17), .load 1 false (.t 16), none⟩, ⟨(some 18), .mv (.t 4), none⟩, ⟨(some 19), .bin .sub (.t 18) (.c (.v (.int .i64 1))), none⟩, ⟨(some 20), .idxS 12 (.t 17) (.t 19), none⟩, ⟨(some 21), .load 12 true (.t 20), none⟩, ⟨(some 22), .call (.c (.fn (.func 70) [] [])) [(.t 21)], none⟩, ⟨(some 23), .fieldA 2 (.t 1), none⟩, ⟨(some 24), .load 1 false (.t 23), none⟩, ⟨(some 25), .mv (.t 4), none⟩, ⟨(some 26), .idxS 12 (.t 24) (.t 25), none⟩, ⟨(some 27), .fieldA 1 (.t 26), none⟩, ⟨(some 28), .load 1 false (.t 27), none⟩, ⟨(some 29), .bin .sub (.t 22) (.t 28), none⟩, ⟨(some 30), .dslice 2 1 1 [(.v (.int .i64 0))] [(0, 1, (.t 29))], none⟩, ⟨(some 31), .append 39 2 1 (.t 15) (.t 30), none⟩, ⟨(some 3), .mv (.t 31), none⟩] []))
      (.reg [⟨(some 13), .mv (.t 4), none⟩, ⟨(some 14), .bin .add (.t 13) (.c (.v (.int .i64 1))), none⟩, ⟨(some 4), .mv (.t 14), none⟩]))))))
  (.seq (.reg [⟨(some 32), .mv (.t 3), none⟩, ⟨(some 2), .mv (.t 32), none⟩])
  .ret)))))
theorem fn_ref09_Gaps : FnOK Try.prog 38 33 [.t 2] ac_ref09_Gaps := ⟨_, _, Try.func38, rfl, Try.ntmps38, by kernel_rfl, ⟨fun r => if r == 7 then [1015] else [], by kernel_rfl⟩, by kernel_rfl⟩
set_option maxHeartbeats 4000000 in
theorem ref09_Gaps_ok (p1 : Convoy) (r : (List Int)) (h : ref09_Gaps p1 = some r) : PCall Try.prog 38 [(.agg [(i64 p1.Tick), (i64 p1.Gap), (.list (List.map eMate p1.Mates)), (i64 p1.Guest_.ID), (i64 p1.Guest_.S), (i64 p1.Guest_.V), (i64 p1.Guest_.Len), (i64 p1.Guest_.End), (i64 p1.Guest_.Ahead), (i64 p1.Guest_.Guess_.R), (i64 p1.Guest_.Guess_.V), (i64 p1.Guest_.From), (i64 p1.Guest_.Until)])] (.list (List.map eInt_i64 r)) := by
  refine l_call fn_ref09_Gaps (Nat.le_of_ble_eq_true rfl) ?_
  unfold ref09_Gaps at h
  unfold ac_ref09_Gaps
  refine (l_sub (s0 := ⟨T [(0, (.d (.agg [(i64 p1.Tick), (i64 p1.Gap), (.list (List.map eMate p1.Mates)), (i64 p1.Guest_.ID), (i64 p1.Guest_.S), (i64 p1.Guest_.V), (i64 p1.Guest_.Len), (i64 p1.Guest_.End), (i64 p1.Guest_.Ahead), (i64 p1.Guest_.Guess_.R), (i64 p1.Guest_.Guess_.V), (i64 p1.Guest_.From), (i64 p1.Guest_.Until)])))], G []⟩) (sb_of ⟨.of rfl, trivial⟩ trivial) ?_)
  refine l_seq ?_
  refine l_reg fun u1 hu1 => ?_
  refine s_new (.ptr _ _) (.box _ _) rfl rfl ?_
  refine s_val (.d _) rfl rfl ?_
  refine s_nil ?_
  refine l_seq ?_
  refine l_seq ?_
  refine l_reg fun u2 hu2 => ?_
  refine s_val (.d _) rfl (v_loadG rfl G_hit rfl rfl) ?_
  obtain ⟨v1, hv1, h⟩ := bind_some h
  refine s_call rfl rfl all2_refl (ref09_Check_ok _  _ hv1) (.inl rfl) ?_
  refine s_val (.d _) rfl rfl ?_
  refine s_nil ?_
  refine l_cond (v1 != 0) rfl (fun c1 => ?_) (fun c1 => ?_)
  · replace h := cond_t c1 h
    refine l_seq ?_
    refine l_reg fun u3 hu3 => ?_
    refine s_val (.d _) rfl rfl ?_
    refine s_nil ?_
    refine l_ret ?_
    obtain rfl := Option.some.inj h
    refine fin_ok (.inr rfl) (resD1 (res_t rfl) rf_d) ?_
    exact DLe.nil
  · replace h := cond_f c1 h
    refine l_skip ?_
    refine l_seq ?_
    refine l_reg fun u4 hu4 => ?_
    refine s_val (.d _) rfl rfl ?_
    refine s_nil ?_
    refine l_seq ?_
    refine l_seq ?_
    refine l_reg fun u5 hu5 => ?_
    refine s_val (.d _) rfl rfl ?_
    refine s_nil ?_
    obtain ⟨y1, hy1, h⟩ := bind_some h
    refine l_join (fun s => ∃ g1 : Nat, Sb ⟨T [(3, (oS y1 (31, g1)))], G [((31, g1), oB 2 1 eInt_i64 y1)]⟩ s) ?_ ?_
    · skip
      refine l_block ?_
      refine l_loop (ref09_Gaps_l1 p1) (fun (x1 : ((List Int) × Int)) (g2 : Nat) => ⟨T [(1, (.ptr (1, u1) 0)), (3, (oS x1.1 (31, g2))), (4, (.d (i64 x1.2)))], G [((1, u1), some (.box 38 [(.d (i64 p1.Tick)), (.d (i64 p1.Gap)), (.d (.list (List.map eMate p1.Mates))), (.d (i64 p1.Guest_.ID)), (.d (i64 p1.Guest_.S)), (.d (i64 p1.Guest_.V)), (.d (i64 p1.Guest_.Len)), (.d (i64 p1.Guest_.End)), (.d (i64 p1.Guest_.Ahead)), (.d (i64 p1.Guest_.Guess_.R)), (.d (i64 p1.Guest_.Guess_.V)), (.d (i64 p1.Guest_.From)), (.d (i64 p1.Guest_.Until))])), ((31, g2), oB 2 1 eInt_i64 x1.1)]⟩) ([], 1) 0 _ hy1 (sb_of ⟨.of rfl, .of rfl, .of rfl, trivial⟩ (sbG_some G_hit (.of rfl) (sbG_nil trivial))) ?_
      intro x1 g2 z1 hz1 ez1
      unfold ref09_Gaps_l1 at hz1
      refine l_seq ?_
      refine l_seq ?_
      refine l_reg fun u6 hu6 => ?_
      refine s_val (.d _) rfl rfl ?_
      refine s_val (.ptr _ _) rfl rfl ?_
      refine s_val (.d _) rfl (v_load rfl G_hit rfl) ?_
      refine s_val (.d _) rfl (v_len rfl) ?_
      refine s_val (.d _) rfl rfl ?_
      refine s_nil ?_
      refine l_cond (decide (x1.2 < (p1.Mates.length : Int))) rfl (fun c2 => ?_) (fun c2 => ?_)
      · replace hz1 := cond_t c2 hz1
        refine l_skip ?_
        refine l_seq ?_
        refine l_block ?_
        refine l_draw rfl fun u7 hu7 => ?_
        refine s_val (oS x1.1 (31, g2)) rfl rfl ?_
        refine s_val (.ptr _ _) rfl rfl ?_
        refine s_val (.d _) rfl (v_load rfl G_hit rfl) ?_
        refine s_val (.d _) rfl rfl ?_
        refine s_val (.d _) rfl rfl ?_
        obtain ⟨v2, hv2, hz1⟩ := bind_some hz1
        refine s_val (.d _) rfl (v_idx rfl rfl hv2 rfl) ?_
        refine s_val (.d _) rfl (v_loadLG rfl hv2 rfl rfl) ?_
        obtain ⟨v3, hv3, hz1⟩ := bind_some hz1
        refine s_call rfl rfl all2_refl (ref09_rear_ok _  _ hv3) (.inl rfl) ?_
        refine s_val (.ptr _ _) rfl rfl ?_
        refine s_val (.d _) rfl (v_load rfl G_hit rfl) ?_
        refine s_val (.d _) rfl rfl ?_
        obtain ⟨v4, hv4, hz1⟩ := bind_some hz1
        refine s_val (.d _) rfl (v_idx rfl rfl hv4 rfl) ?_
        refine s_val (.d _) rfl rfl ?_
        refine s_val (.d _) rfl (v_loadL rfl hv4 rfl) ?_
        refine s_val (.d _) rfl rfl ?_
        refine s_val (.d (.list (List.map eInt_i64 [(w64 (v3 - v4.S))]))) rfl rfl ?_
        obtain ⟨v5, hv5, hz1⟩ := bind_some hz1
        refine s_appendO eInt_i64 (31, g2) x1.1 (w64 (v3 - v4.S)) [] _ (elems_list (fun _ => rfl)) rfl (G_skip rfl G_hit) hv5 ?_
        refine s_val (.sl _) rfl rfl ?_
        refine s_nil ?_
        refine l_end ?_
        refine l_sub (s0 := ⟨T [(1, (.ptr (1, u1) 0)), (3, (.sl (31, u7))), (4, (.d (i64 x1.2)))], G [((1, u1), some (.box 38 [(.d (i64 p1.Tick)), (.d (i64 p1.Gap)), (.d (.list (List.map eMate p1.Mates))), (.d (i64 p1.Guest_.ID)), (.d (i64 p1.Guest_.S)), (.d (i64 p1.Guest_.V)), (.d (i64 p1.Guest_.Len)), (.d (i64 p1.Guest_.End)), (.d (i64 p1.Guest_.Ahead)), (.d (i64 p1.Guest_.Guess_.R)), (.d (i64 p1.Guest_.Guess_.V)), (.d (i64 p1.Guest_.From)), (.d (i64 p1.Guest_.Until))])), ((31, u7), some (.arr 2 1 (List.map eInt_i64 v5)))]⟩) (sb_of ⟨.of rfl, .of rfl, .of rfl, trivial⟩ (sbG_some (G_skip rfl (G_skip rfl G_hit)) (.of rfl) (sbG_some G_hit (.of rfl) trivial))) ?_
        refine l_reg fun u8 hu8 => ?_
        refine s_val (.d _) rfl rfl ?_
        refine s_val (.d _) rfl rfl ?_
        refine s_val (.d _) rfl rfl ?_
        refine s_nil ?_
        refine l_nil ?_
        obtain rfl := Option.some.inj hz1
        exact ⟨rfl, u7, (sb_of ⟨.of rfl, (.of (oS_ne (appc_ne hv5)).symm), .of rfl, trivial⟩ (sbG_some G_hit (.of rfl) (sbG_own (G_skip rfl G_hit) trivial)))⟩
      · replace hz1 := cond_f c2 hz1
        refine l_exitN rfl ?_
        obtain rfl := Option.some.inj hz1
        obtain rfl := ez1 _ rfl
        refine ⟨nofun, awl_pop rfl (l_j ?_)⟩
        exact ⟨g2, (sb_of ⟨.of rfl, trivial⟩ (sbG_oB (G_skip rfl G_hit) trivial))⟩
    · rintro _ ⟨g1, q1⟩
      refine l_sub q1 ?_
      refine l_seq ?_
      refine l_reg fun u9 hu9 => ?_
      refine s_val (oS y1 (31, g1)) rfl rfl ?_
      refine s_val (oS y1 (31, g1)) rfl rfl ?_
      refine s_nil ?_
      refine l_ret ?_
      obtain rfl := Option.some.inj h
      refine fin_ok (.inr rfl) (resD1 (res_t rfl) (rf_oS G_hit)) ?_
      exact oD_le

noncomputable def convoy_beside_1_b (p1 : Mate) (p2 : Convoy) : Option Bool :=
  some (decide (p1.S ≤ p2.Guest_.S))

/-- kerbstone/convoy.beside$1 -/
def ac_convoy_beside_1_b : AC :=
  (.seq (.reg [⟨(some 2), .box 65 true (.t 0), none⟩, ⟨(some 3), .mv (.c (.v (.bool false))), none⟩])
  (.seq (.reg [⟨(some 4), .fieldA 1 (.t 2), none⟩, ⟨(some 5), .load 1 false (.t 4), none⟩, ⟨(some 6), .fieldA 3 (.t 1), none⟩, ⟨(some 7), .fieldA 1 (.t 6), none⟩, ⟨(some 8), .load 1 false (.t 7), none⟩, ⟨(some 9), .bin .leq (.t 5) (.t 8), none⟩, ⟨(some 3), .mv (.t 9), none⟩])
  .ret))
theorem fn_convoy_beside_1_b : FnOK Try.prog 100 10 [.t 3] ac_convoy_beside_1_b := ⟨_, _, Try.func100, rfl, Try.ntmps100, by kernel_rfl, ⟨fun _ => [], by kernel_rfl⟩, by kernel_rfl⟩
theorem convoy_beside_1_b_ok (p1 : Mate) (p2 : Convoy) (r : Bool) (h : convoy_beside_1_b p1 p2 = some r) : PCall Try.prog 100 [(.agg [(i64 p1.ID), (i64 p1.S), (i64 p1.V), (i64 p1.Len), (i64 p1.Ahead), (i64 p1.Guess_.R), (i64 p1.Guess_.V), (bo p1.Trust), (i64 p1.Ward), (i64 p1.WardGuess.R), (i64 p1.WardGuess.V), (i64 p1.Until)]), (.bp [(i64 p2.Tick), (i64 p2.Gap), (.list (List.map eMate p2.Mates)), (i64 p2.Guest_.ID), (i64 p2.Guest_.S), (i64 p2.Guest_.V), (i64 p2.Guest_.Len), (i64 p2.Guest_.End), (i64 p2.Guest_.Ahead), (i64 p2.Guest_.Guess_.R), (i64 p2.Guest_.Guess_.V), (i64 p2.Guest_.From), (i64 p2.Guest_.Until)] 0)] (bo r) := by
  refine l_call fn_convoy_beside_1_b (Nat.le_of_ble_eq_true rfl) ?_
  unfold convoy_beside_1_b at h
  unfold ac_convoy_beside_1_b
  refine (l_sub (s0 := ⟨T [(0, (.d (.agg [(i64 p1.ID), (i64 p1.S), (i64 p1.V), (i64 p1.Len), (i64 p1.Ahead), (i64 p1.Guess_.R), (i64 p1.Guess_.V), (bo p1.Trust), (i64 p1.Ward), (i64 p1.WardGuess.R), (i64 p1.WardGuess.V), (i64 p1.Until)]))), (1, (.d (.bp [(i64 p2.Tick), (i64 p2.Gap), (.list (List.map eMate p2.Mates)), (i64 p2.Guest_.ID), (i64 p2.Guest_.S), (i64 p2.Guest_.V), (i64 p2.Guest_.Len), (i64 p2.Guest_.End), (i64 p2.Guest_.Ahead), (i64 p2.Guest_.Guess_.R), (i64 p2.Guest_.Guess_.V), (i64 p2.Guest_.From), (i64 p2.Guest_.Until)] 0)))], G []⟩) (sb_of ⟨.of rfl, .of rfl, trivial⟩ trivial) ?_)
  refine l_seq ?_
  refine l_reg fun u1 hu1 => ?_
  refine s_new (.ptr _ _) (.box _ _) rfl rfl ?_
  refine s_val (.d _) rfl rfl ?_
  refine s_nil ?_
  refine l_seq ?_
  refine l_reg fun u2 hu2 => ?_
  refine s_val (.ptr _ _) rfl rfl ?_
  refine s_val (.d _) rfl (v_load rfl G_hit rfl) ?_
  refine s_val (.d _) rfl rfl ?_
  refine s_val (.d _) rfl rfl ?_
  refine s_val (.d _) rfl rfl ?_
  refine s_val (.d _) rfl rfl ?_
  refine s_val (.d _) rfl rfl ?_
  refine s_nil ?_
  refine l_ret ?_
  obtain rfl := Option.some.inj h
  refine fin_ok (.inr rfl) (resD1 (res_t rfl) rf_d) ?_
  exact (.refl _)

noncomputable def slices_IndexFunc_Mate_Mate_convoy_beside_1b_l1 (p1 : (List Mate)) (p2 : Convoy) (x1 : Int) : Option (Stp Int (Sum Unit Int)) :=
  cond (decide (x1 < (p1.length : Int))) ((geti p1 x1).bind fun v1 => (convoy_beside_1_b v1 p2).bind fun v2 => cond v2 (some (.out (.inr x1))) (some (.go (w64 (x1 + 1))))) (some (.out (.inl ())))
noncomputable def slices_IndexFunc_Mate_Mate_convoy_beside_1b (p1 : (List Mate)) (p2 : Convoy) : Option Int :=
  thenS (loop (slices_IndexFunc_Mate_Mate_convoy_beside_1b_l1 p1 p2) 0) (fun _ => some (-1)) (fun r => some r)

/-- slices.IndexFunc[[]kerbstone/api.Mate,kerbstone/api.Mate] -/
def ac_slices_IndexFunc_Mate_Mate_convoy_beside_1b : AC :=
  (.seq (.reg [⟨(some 4), .mv (.c (.v (.int .i64 0))), none⟩])
  (.seq (.seq (.reg [⟨(some 6), .mv (.t 0), none⟩, ⟨(some 7), .len (.t 6), none⟩, ⟨(some 8), .mv (.c (.v (.int .i64 0))), none⟩])
  (.block 0
    (.loop
      (.seq (.reg [⟨(some 9), .bin .lss (.t 8) (.t 7), none⟩])
      (.seq (.cond (.t 9)
        .skip
        (.exit 0))
      (.seq (.block 1
        (.seq (.reg [⟨(some 10), .mv (.t 8), none⟩, ⟨(some 5), .mv (.t 10), none⟩])
        (.seq (.reg [⟨(some 11), .mv (.t 1), none⟩, ⟨(some 12), .mv (.t 0), none⟩, ⟨(some 13), .mv (.t 5), none⟩, ⟨(some 14), .idxS 12 (.t 12) (.t 13), none⟩, ⟨(some 15), .load 12 true (.t 14), none⟩, ⟨(some 16), .call (.t 11) [(.t 15)], none⟩])
        (.cond (.t 16)
          (.seq (.reg [⟨(some 17), .mv (.t 5), none⟩, ⟨(some 4), .mv (.t 17), none⟩])
          .ret)
          .skip))))
      (.reg [⟨(some 18), .bin .add (.t 8) (.c (.v (.int .i64 1))), none⟩, ⟨(some 8), .mv (.t 18), none⟩])))))))
  (.seq (.reg [⟨(some 4), .mv (.c (.v (.int .i64 (-1)))), none⟩])
  .ret)))
theorem fn_slices_IndexFunc_Mate_Mate_convoy_beside_1b : FnOK Try.prog 98 19 [.t 4] ac_slices_IndexFunc_Mate_Mate_convoy_beside_1b := ⟨_, _, Try.func98, rfl, Try.ntmps98, by kernel_rfl, ⟨fun _ => [], by kernel_rfl⟩, by kernel_rfl⟩
set_option maxHeartbeats 4000000 in
theorem slices_IndexFunc_Mate_Mate_convoy_beside_1b_ok (p1 : (List Mate)) (p2 : Convoy) (r : Int) (h : slices_IndexFunc_Mate_Mate_convoy_beside_1b p1 p2 = some r) : PCall Try.prog 98 [(.list (List.map eMate p1)), (.fn (.func 100) [] [(.bp [(i64 p2.Tick), (i64 p2.Gap), (.list (List.map eMate p2.Mates)), (i64 p2.Guest_.ID), (i64 p2.Guest_.S), (i64 p2.Guest_.V), (i64 p2.Guest_.Len), (i64 p2.Guest_.End), (i64 p2.Guest_.Ahead), (i64 p2.Guest_.Guess_.R), (i64 p2.Guest_.Guess_.V), (i64 p2.Guest_.From), (i64 p2.Guest_.Until)] 0)])] (i64 r) := by
  refine l_call fn_slices_IndexFunc_Mate_Mate_convoy_beside_1b (Nat.le_of_ble_eq_true rfl) ?_
  unfold slices_IndexFunc_Mate_Mate_convoy_beside_1b at h
  unfold ac_slices_IndexFunc_Mate_Mate_convoy_beside_1b
  refine (l_sub (s0 := ⟨T [(0, (.d (.list (List.map eMate p1)))), (1, (.d (.fn (.func 100) [] [(.bp [(i64 p2.Tick), (i64 p2.Gap), (.list (List.map eMate p2.Mates)), (i64 p2.Guest_.ID), (i64 p2.Guest_.S), (i64 p2.Guest_.V), (i64 p2.Guest_.Len), (i64 p2.Guest_.End), (i64 p2.Guest_.Ahead), (i64 p2.Guest_.Guess_.R), (i64 p2.Guest_.Guess_.V), (i64 p2.Guest_.From), (i64 p2.Guest_.Until)] 0)])))], G []⟩) (sb_of ⟨.of rfl, .of rfl, trivial⟩ trivial) ?_)
  refine l_seq ?_
  refine l_reg fun u1 hu1 => ?_
  refine s_val (.d _) rfl rfl ?_
  refine s_nil ?_
  refine l_seq ?_
  refine l_seq ?_
  refine l_reg fun u2 hu2 => ?_
  refine s_val (.d _) rfl rfl ?_
  refine s_val (.d _) rfl (v_len rfl) ?_
  refine s_val (.d _) rfl rfl ?_
  refine s_nil ?_
  obtain ⟨z1, hz1, h⟩ := thenS_some h
  refine l_join (fun s => ∃ (y1 : Unit) (g1 : Unit), z1 = .inl y1 ∧ Sb ⟨T [], G []⟩ s) ?_ ?_
  · skip
    refine l_block ?_
    refine l_loop (slices_IndexFunc_Mate_Mate_convoy_beside_1b_l1 p1 p2) (fun (x1 : Int) (g2 : Unit) => ⟨T [(0, (.d (.list (List.map eMate p1)))), (1, (.d (.fn (.func 100) [] [(.bp [(i64 p2.Tick), (i64 p2.Gap), (.list (List.map eMate p2.Mates)), (i64 p2.Guest_.ID), (i64 p2.Guest_.S), (i64 p2.Guest_.V), (i64 p2.Guest_.Len), (i64 p2.Guest_.End), (i64 p2.Guest_.Ahead), (i64 p2.Guest_.Guess_.R), (i64 p2.Guest_.Guess_.V), (i64 p2.Guest_.From), (i64 p2.Guest_.Until)] 0)]))), (7, (.d (i64 (p1.length : Int)))), (8, (.d (i64 x1)))], G []⟩) 0 () _ hz1 (sb_of ⟨.of rfl, .of rfl, .of rfl, .of rfl, trivial⟩ trivial) ?_
    intro x1 g2 z2 hz2 ez2
    unfold slices_IndexFunc_Mate_Mate_convoy_beside_1b_l1 at hz2
    refine l_seq ?_
    refine l_reg fun u3 hu3 => ?_
    refine s_val (.d _) rfl rfl ?_
    refine s_nil ?_
    refine l_seq ?_
    refine l_cond (decide (x1 < (p1.length : Int))) rfl (fun c1 => ?_) (fun c1 => ?_)
    · replace hz2 := cond_t c1 hz2
      refine l_skip ?_
      refine l_seq ?_
      refine l_block ?_
      refine l_seq ?_
      refine l_reg fun u4 hu4 => ?_
      refine s_val (.d _) rfl rfl ?_
      refine s_val (.d _) rfl rfl ?_
      refine s_nil ?_
      refine l_seq ?_
      refine l_reg fun u5 hu5 => ?_
      refine s_val (.d _) rfl rfl ?_
      refine s_val (.d _) rfl rfl ?_
      refine s_val (.d _) rfl rfl ?_
      obtain ⟨v1, hv1, hz2⟩ := bind_some hz2
      refine s_val (.d _) rfl (v_idx rfl rfl hv1 rfl) ?_
      refine s_val (.d _) rfl (v_loadLG rfl hv1 rfl rfl) ?_
      obtain ⟨v2, hv2, hz2⟩ := bind_some hz2
      refine s_call rfl rfl all2_refl (convoy_beside_1_b_ok _ _  _ hv2) (.inl rfl) ?_
      refine s_nil ?_
      refine l_cond v2 rfl (fun c2 => ?_) (fun c2 => ?_)
      · replace hz2 := cond_t c2 hz2
        refine l_seq ?_
        refine l_reg fun u6 hu6 => ?_
        refine s_val (.d _) rfl rfl ?_
        refine s_val (.d _) rfl rfl ?_
        refine s_nil ?_
        refine l_ret ?_
        obtain rfl := Option.some.inj hz2
        obtain rfl := ez2 _ rfl
        refine ⟨nofun, awl_ret ?_⟩
        rw [Sum.elim_inr] at h
        obtain rfl := Option.some.inj h
        refine fin_ok (.inr rfl) (resD1 (res_t rfl) rf_d) ?_
        exact (.refl _)
      · replace hz2 := cond_f c2 hz2
        refine l_skip ?_
        refine l_end ?_
        refine l_reg fun u7 hu7 => ?_
        refine s_val (.d _) rfl rfl ?_
        refine s_val (.d _) rfl rfl ?_
        refine s_nil ?_
        refine l_nil ?_
        obtain rfl := Option.some.inj hz2
        exact ⟨rfl, (), (sb_of ⟨.of rfl, .of rfl, .of rfl, .of rfl, trivial⟩ trivial)⟩
    · replace hz2 := cond_f c1 hz2
      refine l_exitN rfl ?_
      obtain rfl := Option.some.inj hz2
      obtain rfl := ez2 _ rfl
      refine ⟨nofun, awl_pop rfl (l_j ?_)⟩
      exact ⟨_, (), rfl, (sb_of trivial trivial)⟩
  · rintro _ ⟨y1, g1, rfl, q1⟩
    rw [Sum.elim_inl] at h
    refine l_sub q1 ?_
    refine l_seq ?_
    refine l_reg fun u8 hu8 => ?_
    refine s_val (.d _) rfl rfl ?_
    refine s_nil ?_
    refine l_ret ?_
    obtain rfl := Option.some.inj h
    refine fin_ok (.inr rfl) (resD1 (res_t rfl) rf_d) ?_
    exact (.refl _)

noncomputable def convoy_beside (p1 : Convoy) : Option (Int × Int) :=
  (slices_IndexFunc_Mate_Mate_convoy_beside_1b p1.Mates p1).bind fun v1 => cond (decide (v1 < 0)) (some ((w64 ((p1.Mates.length : Int) - 1)), (-1))) (some ((w64 (v1 - 1)), v1))

/-- kerbstone/convoy.beside -/
def ac_convoy_beside : AC :=
  (.seq (.reg [⟨(some 1), .box 38 true (.t 0), none⟩, ⟨(some 2), .mv (.c (.v (.int .i64 0))), none⟩, ⟨(some 3), .mv (.c (.v (.int .i64 0))), none⟩])
  (.seq (.reg [⟨(some 5), .fieldA 2 (.t 1), none⟩, ⟨(some 6), .load 1 false (.t 5), none⟩, ⟨(some 7), .mkfn (.func 100) [] [(.t 1)], none⟩, ⟨(some 8), .call (.c (.fn (.func 98) [] [])) [(.t 6), (.t 7)], none⟩, ⟨(some 4), .mv (.t 8), none⟩])
  (.seq (.seq (.reg [⟨(some 9), .mv (.t 4), none⟩, ⟨(some 10), .bin .lss (.t 9) (.c (.v (.int .i64 0))), none⟩])
  (.cond (.t 10)
    (.seq (.reg [⟨(some 11), .fieldA 2 (.t 1), none⟩, ⟨(some 12), .load 1 false (.t 11), none⟩, ⟨(some 13), .len (.t 12), none⟩, ⟨(some 14), .bin .sub (.t 13) (.c (.v (.int .i64 1))), none⟩, ⟨(some 2), .mv (.t 14), none⟩, ⟨(some 3), .mv (.c (.v (.int .i64 (-1)))), none⟩])
    .ret)
    .skip))
  (.seq (.reg [⟨(some 15), .mv (.t 4), none⟩, ⟨(some 16), .bin .sub (.t 15) (.c (.v (.int .i64 1))), none⟩, ⟨(some 17), .mv (.t 4), none⟩, ⟨(some 2), .mv (.t 16), none⟩, ⟨(some 3), .mv (.t 17), none⟩])
  .ret))))
theorem fn_convoy_beside : FnOK Try.prog 65 18 [.t 2, .t 3] ac_convoy_beside := ⟨_, _, Try.func65, rfl, Try.ntmps65, by kernel_rfl, ⟨fun _ => [], by kernel_rfl⟩, by kernel_rfl⟩
theorem convoy_beside_ok (p1 : Convoy) (r : (Int × Int)) (h : convoy_beside p1 = some r) : PCall Try.prog 65 [(.agg [(i64 p1.Tick), (i64 p1.Gap), (.list (List.map eMate p1.Mates)), (i64 p1.Guest_.ID), (i64 p1.Guest_.S), (i64 p1.Guest_.V), (i64 p1.Guest_.Len), (i64 p1.Guest_.End), (i64 p1.Guest_.Ahead), (i64 p1.Guest_.Guess_.R), (i64 p1.Guest_.Guess_.V), (i64 p1.Guest_.From), (i64 p1.Guest_.Until)])] (.tup [(i64 r.1), (i64 r.2)]) := by
  refine l_call fn_convoy_beside (Nat.le_of_ble_eq_true rfl) ?_
  unfold convoy_beside at h
  unfold ac_convoy_beside
  refine (l_sub (s0 := ⟨T [(0, (.d (.agg [(i64 p1.Tick), (i64 p1.Gap), (.list (List.map eMate p1.Mates)), (i64 p1.Guest_.ID), (i64 p1.Guest_.S), (i64 p1.Guest_.V), (i64 p1.Guest_.Len), (i64 p1.Guest_.End), (i64 p1.Guest_.Ahead), (i64 p1.Guest_.Guess_.R), (i64 p1.Guest_.Guess_.V), (i64 p1.Guest_.From), (i64 p1.Guest_.Until)])))], G []⟩) (sb_of ⟨.of rfl, trivial⟩ trivial) ?_)
  refine l_seq ?_
  refine l_reg fun u1 hu1 => ?_
  refine s_new (.ptr _ _) (.box _ _) rfl rfl ?_
  refine s_val (.d _) rfl rfl ?_
  refine s_val (.d _) rfl rfl ?_
  refine s_nil ?_
  refine l_seq ?_
  refine l_reg fun u2 hu2 => ?_
  refine s_val (.ptr _ _) rfl rfl ?_
  refine s_val (.d _) rfl (v_load rfl G_hit rfl) ?_
  refine s_val (.fn _ _ _) rfl rfl ?_
  obtain ⟨v1, hv1, h⟩ := bind_some h
  refine s_call rfl (rfL_cons rf_d (rfL_cons (rf_fn rfL_nil (rfL_cons (rf_ptr G_hit (rfL_cons rf_d (rfL_cons rf_d (rfL_cons rf_d (rfL_cons rf_d (rfL_cons rf_d (rfL_cons rf_d (rfL_cons rf_d (rfL_cons rf_d (rfL_cons rf_d (rfL_cons rf_d (rfL_cons rf_d (rfL_cons rf_d (rfL_cons rf_d rfL_nil)))))))))))))) rfL_nil)) rfL_nil)) all2_refl (slices_IndexFunc_Mate_Mate_convoy_beside_1b_ok _ _  _ hv1) (.inr rfl) ?_
  refine s_val (.d _) rfl rfl ?_
  refine s_nil ?_
  refine l_seq ?_
  refine l_seq ?_
  refine l_reg fun u3 hu3 => ?_
  refine s_val (.d _) rfl rfl ?_
  refine s_val (.d _) rfl rfl ?_
  refine s_nil ?_
  refine l_cond (decide (v1 < 0)) rfl (fun c1 => ?_) (fun c1 => ?_)
  · replace h := cond_t c1 h
    refine l_seq ?_
    refine l_reg fun u4 hu4 => ?_
    refine s_val (.ptr _ _) rfl rfl ?_
    refine s_val (.d _) rfl (v_load rfl G_hit rfl) ?_
    refine s_val (.d _) rfl (v_len rfl) ?_
    refine s_val (.d _) rfl rfl ?_
    refine s_val (.d _) rfl rfl ?_
    refine s_val (.d _) rfl rfl ?_
    refine s_nil ?_
    refine l_ret ?_
    obtain rfl := Option.some.inj h
    refine fin_ok (.inr rfl) (resD2 (res_t rfl) (res_t rfl) rf_d rf_d) ?_
    exact .refl _
  · replace h := cond_f c1 h
    refine l_skip ?_
    refine l_seq ?_
    refine l_reg fun u5 hu5 => ?_
    refine s_val (.d _) rfl rfl ?_
    refine s_val (.d _) rfl rfl ?_
    refine s_val (.d _) rfl rfl ?_
    refine s_val (.d _) rfl rfl ?_
    refine s_val (.d _) rfl rfl ?_
    refine s_nil ?_
    refine l_ret ?_
    obtain rfl := Option.some.inj h
    refine fin_ok (.inr rfl) (resD2 (res_t rfl) (res_t rfl) rf_d rf_d) ?_
    exact .refl _

noncomputable def convoy_Notes_l1 (p1 : Convoy) (x1 : ((List Note) × Int)) : Option (Stp ((List Note) × Int) (List Note)) :=
  cond (decide (x1.2 < (p1.Mates.length : Int))) ((geti p1.Mates x1.2).bind fun v2 => (convoy_rear v2).bind fun v3 => (appc x1.1 [(Note.mk 1 v2.ID 0 p1.Tick v3 v2.V 0)]).bind fun v4 => (cond (decide ((w64 (x1.2 + 1)) < (p1.Mates.length : Int))) ((geti p1.Mates (w64 (x1.2 + 1))).bind fun v5 => (appc v4 [(Note.mk 4 v2.ID v5.ID p1.Tick v3 v2.V 0)]).bind fun v6 => some (v6, (Note.mk 4 v2.ID v5.ID p1.Tick v3 v2.V 0))) (some (v4, (Note.mk 1 v2.ID 0 p1.Tick v3 v2.V 0)))).bind fun y2 => cond ((v2.Until != 0) && (decide (v2.Until ≥ p1.Tick))) ((appc y2.1 [(Note.mk 3 y2.2.From v2.Ward y2.2.Stamp y2.2.R y2.2.V v2.Until)]).bind fun v7 => some (.go (v7, (w64 (x1.2 + 1))))) (some (.go (y2.1, (w64 (x1.2 + 1)))))) (some (.out x1.1))
noncomputable def convoy_Notes (p1 : Convoy) : Option (List Note) :=
  (convoy_Check p1).bind fun v1 => cond (v1 != 0) (some []) ((loop (convoy_Notes_l1 p1) ([], 0)).bind fun y1 => cond (p1.Guest_.ID != 0) ((convoy_beside p1).bind fun v8 => cond (decide (v8.2 ≥ 0)) ((geti p1.Mates v8.2).bind fun v9 => (appc y1 [(Note.mk 2 p1.Guest_.ID v9.ID p1.Tick (w64 (p1.Guest_.S - p1.Guest_.Len)) p1.Guest_.V 0)]).bind fun v10 => some v10) (some y1)) (some y1))

/-- kerbstone/convoy.Notes -/
def ac_convoy_Notes : AC :=
  (.seq (.reg [⟨(some 1), .box 38 true (.t 0), none⟩, ⟨(some 2), .mv (.c .nilS), none⟩])
  (.seq (.seq (.reg [⟨(some 10), .load 13 true (.t 1), none⟩, ⟨(some 11), .call (.c (.fn (.func 32) [] [])) [(.t 10)], none⟩, ⟨(some 12), .bin .neq (.t 11) (.c (.v (.int .i64 0))), none⟩])
  (.cond (.t 12)
    (.seq (.reg [⟨(some 2), .mv (.c .nilS), none⟩])
    .ret)
    .skip))
  (.seq (.reg [⟨(some 3), .mv (.c .nilS), none⟩])
  (.seq (.seq (.reg [⟨(some 13), .fieldA 2 (.t 1), none⟩, ⟨(some 14), .load 1 false (.t 13), none⟩, ⟨(some 15), .len (.t 14), none⟩, ⟨(some 16), .mv (.c (.v (.int .i64 0))), none⟩])
  (.block 0
    (.loop
      (.seq (.reg [⟨(some 17), .bin .lss (.t 16) (.t 15), none⟩])
      (.seq (.cond (.t 17)
        .skip
        (.exit 0))
      (.seq (.block 1
        (.seq (.reg [⟨(some 18), .mv (.t 16), none⟩, ⟨(some 19), .idxS 12 (.t 14) (.t 16), none⟩, ⟨(some 20), .load 12 true (.t 19), none⟩, ⟨(some 5), .alloc 65 [(.v (.int .i64 0)), (.v (.int .i64 0)), (.v (.int .i64 0)), (.v (.int .i64 0)), (.v (.int .i64 0)), (.v (.int .i64 0)), (.v (.int .i64 0)), (.v (.bool false)), (.v (.int .i64 0)), (.v (.int .i64 0)), (.v (.int .i64 0)), (.v (.int .i64 0))], none⟩, ⟨(some 4), .mv (.t 18), none⟩, ⟨none, .store 12 (.t 5) (.t 20), none⟩])
        (.seq (.draw [⟨(some 21), .fieldA 0 (.t 5), none⟩, ⟨(some 22), .load 1 false (.t 21), none⟩, ⟨(some 23), .fieldA 0 (.t 1), none⟩, ⟨(some 24), .load 1 false (.t 23), none⟩, ⟨(some 25), .load 12 true (.t 5), none⟩, ⟨(some 26), .call (.c (.fn (.func 67) [] [])) [(.t 25)], none⟩, ⟨(some 27), .fieldA 2 (.t 5), none⟩, ⟨(some 28), .load 1 false (.t 27), none⟩, ⟨(some 29), .build [(.v (.int .i64 0)), (.v (.int .i64 0)), (.v (.int .i64 0)), (.v (.int .i64 0)), (.v (.int .i64 0)), (.v (.int .i64 0)), (.v (.int .i64 0))] [(0, 1, (.c (.v (.int .i64 1)))), (1, 1, (.t 22)), (3, 1, (.t 24)), (4, 1, (.t 26)), (5, 1, (.t 28))], none⟩, ⟨(some 6), .alloc 68 [(.v (.int .i64 0)), (.v (.int .i64 0)), (.v (.int .i64 0)), (.v (.int .i64 0)), (.v (.int .i64 0)), (.v (.int .i64 0)), (.v (.int .i64 0))], none⟩, ⟨none, .store 7 (.t 6) (.t 29), none⟩] [])
        (.seq (.reg [⟨(some 30), .mv (.t 3), none⟩, ⟨(some 31), .load 7 true (.t 6), none⟩, ⟨(some 32), .dslice 68 7 1 [(.v (.int .i64 0)), (.v (.int .i64 0)), (.v (.int .i64 0)), (.v (.int .i64 0)), (.v (.int .i64 0)), (.v (.int .i64 0)), (.v (.int .i64 0))] [(0, 7, (.t 31))], none⟩, ⟨(some 33), .append 57 68 7 (.t 30) (.t 32), none⟩, ⟨(some 3), .mv (.t 33), none⟩])
        (.seq (.seq (.reg [⟨(some 34), .mv (.t 4), none⟩, ⟨(some 35), .bin .add (.t 34) (.c (.v (.int .i64 1))), none⟩, ⟨(some 36), .fieldA 2 (.t 1), none⟩, ⟨(some 37), .load 1 false (.t 36), none⟩, ⟨(some 38), .len (.t 37), none⟩, ⟨(some 39), .bin .lss (.t 35) (.t 38), none⟩])
        (.cond (.t 39)
          (.seq (.draw [⟨(some 40), .fieldA 2 (.t 1), none⟩, ⟨(some 41), .load 1 false (.t 40), none⟩, ⟨(some 42), .mv (.t 4), none⟩, ⟨(some 43), .bin .add (.t 42) (.c (.v (.int .i64 1))), none⟩, ⟨(some 44), .idxS 12 (.t 41) (.t 43), none⟩, ⟨(some 45), .fieldA 0 (.t 44), none⟩, ⟨(some 46), .load 1 false (.t 45), none⟩, ⟨(some 47), .fieldA 0 (.t 6), none⟩, ⟨none, .store 1 (.t 47) (.c (.v (.int .i64 4))), none⟩, ⟨(some 48), .fieldA 2 (.t 6), none⟩, ⟨none, .store 1 (.t 48) (.t 46), none⟩] [(1, 8), (4, 8), (6, 8)])
          (.reg [⟨(some 49), .mv (.t 3), none⟩, ⟨(some 50), .load 7 true (.t 6), none⟩, ⟨(some 51), .dslice 68 7 1 [(.v (.int .i64 0)), (.v (.int .i64 0)), (.v (.int .i64 0)), (.v (.int .i64 0)), (.v (.int .i64 0)), (.v (.int .i64 0)), (.v (.int .i64 0))] [(0, 7, (.t 50))], none⟩, ⟨(some 52), .append 57 68 7 (.t 49) (.t 51), none⟩, ⟨(some 3), .mv (.t 52), none⟩]))
          .skip))
        (.seq (.reg [⟨(some 53), .fieldA 11 (.t 5), none⟩, ⟨(some 54), .load 1 false (.t 53), none⟩, ⟨(some 55), .bin .neq (.t 54) (.c (.v (.int .i64 0))), none⟩, ⟨(some 56), .mv (.t 55), none⟩, ⟨(some 57), .fieldA 11 (.t 5), (some (56, true))⟩, ⟨(some 58), .load 1 false (.t 57), (some (56, true))⟩, ⟨(some 59), .fieldA 0 (.t 1), (some (56, true))⟩, ⟨(some 60), .load 1 false (.t 59), (some (56, true))⟩, ⟨(some 61), .bin .geq (.t 58) (.t 60), (some (56, true))⟩, ⟨(some 62), .pick (.t 56) (.t 61) (.c (.v (.bool false))), none⟩])
        (.cond (.t 62)
          (.seq (.draw [⟨(some 63), .fieldA 8 (.t 5), none⟩, ⟨(some 64), .load 1 false (.t 63), none⟩, ⟨(some 65), .fieldA 11 (.t 5), none⟩, ⟨(some 66), .load 1 false (.t 65), none⟩, ⟨(some 67), .fieldA 0 (.t 6), none⟩, ⟨none, .store 1 (.t 67) (.c (.v (.int .i64 3))), none⟩, ⟨(some 68), .fieldA 2 (.t 6), none⟩, ⟨none, .store 1 (.t 68) (.t 64), none⟩, ⟨(some 69), .fieldA 6 (.t 6), none⟩, ⟨none, .store 1 (.t 69) (.t 66), none⟩] [(1, 5), (3, 5), (3, 7)])
          (.reg [⟨(some 70), .mv (.t 3), none⟩, ⟨(some 71), .load 7 true (.t 6), none⟩, ⟨(some 72), .dslice 68 7 1 [(.v (.int .i64 0)), (.v (.int .i64 0)), (.v (.int .i64 0)), (.v (.int .i64 0)), (.v (.int .i64 0)), (.v (.int .i64 0)), (.v (.int .i64 0))] [(0, 7, (.t 71))], none⟩, ⟨(some 73), .append 57 68 7 (.t 70) (.t 72), none⟩, ⟨(some 3), .mv (.t 73), none⟩]))
          .skip)))))))
      (.reg [⟨(some 74), .bin .add (.t 16) (.c (.v (.int .i64 1))), none⟩, ⟨(some 16), .mv (.t 74), none⟩])))))))
  (.seq (.seq (.reg [⟨(some 75), .fieldA 3 (.t 1), none⟩, ⟨(some 76), .load 10 true (.t 75), none⟩, ⟨(some 7), .alloc 36 [(.v (.int .i64 0)), (.v (.int .i64 0)), (.v (.int .i64 0)), (.v (.int .i64 0)), (.v (.int .i64 0)), (.v (.int .i64 0)), (.v (.int .i64 0)), (.v (.int .i64 0)), (.v (.int .i64 0)), (.v (.int .i64 0))], none⟩, ⟨none, .store 10 (.t 7) (.t 76), none⟩])
  (.seq (.reg [⟨(some 77), .fieldA 0 (.t 7), none⟩, ⟨(some 78), .load 1 false (.t 77), none⟩, ⟨(some 79), .bin .neq (.t 78) (.c (.v (.int .i64 0))), none⟩])
  (.cond (.t 79)
    (.seq (.reg [⟨(some 81), .load 13 true (.t 1), none⟩, ⟨(some 82), .call (.c (.fn (.func 65) [] [])) [(.t 81)], none⟩, ⟨(some 80), .mv (.t 82), none⟩, ⟨(some 83), .ext (.t 80) 0, none⟩, ⟨(some 84), .ext (.t 80) 1, none⟩, ⟨(some 8), .mv (.t 83), none⟩, ⟨(some 9), .mv (.t 84), none⟩])
    (.seq (.reg [⟨(some 85), .mv (.t 9), none⟩, ⟨(some 86), .bin .geq (.t 85) (.c (.v (.int .i64 0))), none⟩])
    (.cond (.t 86)
      (.draw [⟨(some 87), .mv (.t 3), none⟩, ⟨(some 88), .fieldA 0 (.t 7), none⟩, ⟨(some 89), .load 1 false (.t 88), none⟩, ⟨(some 90), .fieldA 2 (.t 1), none⟩, ⟨(some 91), .load 1 false (.t 90), none⟩, ⟨(some 92), .mv (.t 9), none⟩, ⟨(some 93), .idxS 12 (.t 91) (.t 92), none⟩, ⟨(some 94), .fieldA 0 (.t 93), none⟩, ⟨(some 95), .load 1 false (.t 94), none⟩, ⟨(some 96), .fieldA 0 (.t 1), none⟩, ⟨(some 97), .load 1 false (.t 96), none⟩, ⟨(some 98), .fieldA 1 (.t 7), none⟩, ⟨(some 99), .load 1 false (.t 98), none⟩, ⟨(some 100), .fieldA 3 (.t 7), none⟩, ⟨(some 101), .load 1 false (.t 100), none⟩, ⟨(some 102), .bin .sub (.t 99) (.t 101), none⟩, ⟨(some 103), .fieldA 2 (.t 7), none⟩, ⟨(some 104), .load 1 false (.t 103), none⟩, ⟨(some 105), .build [(.v (.int .i64 0)), (.v (.int .i64 0)), (.v (.int .i64 0)), (.v (.int .i64 0)), (.v (.int .i64 0)), (.v (.int .i64 0)), (.v (.int .i64 0))] [(0, 1, (.c (.v (.int .i64 2)))), (1, 1, (.t 89)), (2, 1, (.t 95)), (3, 1, (.t 97)), (4, 1, (.t 102)), (5, 1, (.t 104))], none⟩, ⟨(some 106), .dslice 68 7 1 [(.v (.int .i64 0)), (.v (.int .i64 0)), (.v (.int .i64 0)), (.v (.int .i64 0)), (.v (.int .i64 0)), (.v (.int .i64 0)), (.v (.int .i64 0))] [(0, 7, (.t 105))], none⟩, ⟨(some 107), .append 57 68 7 (.t 87) (.t 106), none⟩, ⟨(some 3), .mv (.t 107), none⟩] [])
      .skip)))
    .skip)))
  (.seq (.reg [⟨(some 108), .mv (.t 3), none⟩, ⟨(some 2), .mv (.t 108), none⟩])
  .ret))))))
theorem fn_convoy_Notes : FnOK Try.prog 40 109 [.t 2] ac_convoy_Notes := ⟨_, _, Try.func40, rfl, Try.ntmps40, by kernel_rfl, ⟨fun r => if r == 8 then [1002] else if r == 11 then [1002] else if r == 14 then [1002] else if r == 20 then [1019] else [], by kernel_rfl⟩, by kernel_rfl⟩
set_option maxHeartbeats 4000000 in
theorem convoy_Notes_ok (p1 : Convoy) (r : (List Note)) (h : convoy_Notes p1 = some r) : PCall Try.prog 40 [(.agg [(i64 p1.Tick), (i64 p1.Gap), (.list (List.map eMate p1.Mates)), (i64 p1.Guest_.ID), (i64 p1.Guest_.S), (i64 p1.Guest_.V), (i64 p1.Guest_.Len), (i64 p1.Guest_.End), (i64 p1.Guest_.Ahead), (i64 p1.Guest_.Guess_.R), (i64 p1.Guest_.Guess_.V), (i64 p1.Guest_.From), (i64 p1.Guest_.Until)])] (.list (List.map eNote r)) := by
  refine l_call fn_convoy_Notes (Nat.le_of_ble_eq_true rfl) ?_
  unfold convoy_Notes at h
  unfold ac_convoy_Notes
  refine (l_sub (s0 := ⟨T [(0, (.d (.agg [(i64 p1.Tick), (i64 p1.Gap), (.list (List.map eMate p1.Mates)), (i64 p1.Guest_.ID), (i64 p1.Guest_.S), (i64 p1.Guest_.V), (i64 p1.Guest_.Len), (i64 p1.Guest_.End), (i64 p1.Guest_.Ahead), (i64 p1.Guest_.Guess_.R), (i64 p1.Guest_.Guess_.V), (i64 p1.Guest_.From), (i64 p1.Guest_.Until)])))], G []⟩) (sb_of ⟨.of rfl, trivial⟩ trivial) ?_)
  refine l_seq ?_
  refine l_reg fun u1 hu1 => ?_
  refine s_new (.ptr _ _) (.box _ _) rfl rfl ?_
  refine s_val (.d _) rfl rfl ?_
  refine s_nil ?_
  refine l_seq ?_
  refine l_seq ?_
  refine l_reg fun u2 hu2 => ?_
  refine s_val (.d _) rfl (v_loadG rfl G_hit rfl rfl) ?_
  obtain ⟨v1, hv1, h⟩ := bind_some h
  refine s_call rfl rfl all2_refl (convoy_Check_ok _  _ hv1) (.inl rfl) ?_
  refine s_val (.d _) rfl rfl ?_
  refine s_nil ?_
  refine l_cond (v1 != 0) rfl (fun c1 => ?_) (fun c1 => ?_)
  · replace h := cond_t c1 h
    refine l_seq ?_
    refine l_reg fun u3 hu3 => ?_
    refine s_val (.d _) rfl rfl ?_
    refine s_nil ?_
    refine l_ret ?_
    obtain rfl := Option.some.inj h
    refine fin_ok (.inr rfl) (resD1 (res_t rfl) rf_d) ?_
    exact DLe.nil
  · replace h := cond_f c1 h
    refine l_skip ?_
    refine l_seq ?_
    refine l_reg fun u4 hu4 => ?_
    refine s_val (.d _) rfl rfl ?_
    refine s_nil ?_
    refine l_seq ?_
    refine l_seq ?_
    refine l_reg fun u5 hu5 => ?_
    refine s_val (.ptr _ _) rfl rfl ?_
    refine s_val (.d _) rfl (v_load rfl G_hit rfl) ?_
    refine s_val (.d _) rfl (v_len rfl) ?_
    refine s_val (.d _) rfl rfl ?_
    refine s_nil ?_
    obtain ⟨y1, hy1, h⟩ := bind_some h
    refine l_join (fun s => ∃ g1 : ({d : Nat // d ∈ [33, 52, 73]} × Nat), Sb ⟨T [(1, (.ptr (1, u1) 0)), (3, (oS y1 (g1.1.val, g1.2)))], G [((1, u1), some (.box 38 [(.d (i64 p1.Tick)), (.d (i64 p1.Gap)), (.d (.list (List.map eMate p1.Mates))), (.d (i64 p1.Guest_.ID)), (.d (i64 p1.Guest_.S)), (.d (i64 p1.Guest_.V)), (.d (i64 p1.Guest_.Len)), (.d (i64 p1.Guest_.End)), (.d (i64 p1.Guest_.Ahead)), (.d (i64 p1.Guest_.Guess_.R)), (.d (i64 p1.Guest_.Guess_.V)), (.d (i64 p1.Guest_.From)), (.d (i64 p1.Guest_.Until))])), ((g1.1.val, g1.2), oB 68 7 eNote y1)]⟩ s) ?_ ?_
    · skip
      refine l_block ?_
      refine l_loop (convoy_Notes_l1 p1) (fun (x1 : ((List Note) × Int)) (g2 : ({d : Nat // d ∈ [33, 52, 73]} × Nat)) => ⟨T [(1, (.ptr (1, u1) 0)), (3, (oS x1.1 (g2.1.val, g2.2))), (14, (.d (.list (List.map eMate p1.Mates)))), (15, (.d (i64 (p1.Mates.length : Int)))), (16, (.d (i64 x1.2)))], G [((1, u1), some (.box 38 [(.d (i64 p1.Tick)), (.d (i64 p1.Gap)), (.d (.list (List.map eMate p1.Mates))), (.d (i64 p1.Guest_.ID)), (.d (i64 p1.Guest_.S)), (.d (i64 p1.Guest_.V)), (.d (i64 p1.Guest_.Len)), (.d (i64 p1.Guest_.End)), (.d (i64 p1.Guest_.Ahead)), (.d (i64 p1.Guest_.Guess_.R)), (.d (i64 p1.Guest_.Guess_.V)), (.d (i64 p1.Guest_.From)), (.d (i64 p1.Guest_.Until))])), ((g2.1.val, g2.2), oB 68 7 eNote x1.1)]⟩) ([], 0) (⟨33, .head _⟩, 0) _ hy1 (sb_of ⟨.of rfl, .of rfl, .of rfl, .of rfl, .of rfl, trivial⟩ (sbG_some G_hit (.of rfl) (sbG_nil trivial))) ?_
      intro x1 g2 z1 hz1 ez1
      unfold convoy_Notes_l1 at hz1
      refine l_seq ?_
      refine l_reg fun u6 hu6 => ?_
      refine s_val (.d _) rfl rfl ?_
      refine s_nil ?_
      refine l_seq ?_
      refine l_cond (decide (x1.2 < (p1.Mates.length : Int))) rfl (fun c2 => ?_) (fun c2 => ?_)
      · replace hz1 := cond_t c2 hz1
        refine l_skip ?_
        refine l_seq ?_
        refine l_block ?_
        refine l_seq ?_
        refine l_reg fun u7 hu7 => ?_
        refine s_val (.d _) rfl rfl ?_
        obtain ⟨v2, hv2, hz1⟩ := bind_some hz1
        refine s_val (.d _) rfl (v_idx rfl rfl hv2 rfl) ?_
        refine s_val (.d _) rfl (v_loadLG rfl hv2 rfl rfl) ?_
        refine s_new (.ptr _ _) (.box _ _) rfl rfl ?_
        refine s_val (.d _) rfl rfl ?_
        refine s_store _ _ _ _ _ rfl rfl rfl G_hit (Nat.le_of_ble_eq_true rfl) [(.d (i64 v2.ID)), (.d (i64 v2.S)), (.d (i64 v2.V)), (.d (i64 v2.Len)), (.d (i64 v2.Ahead)), (.d (i64 v2.Guess_.R)), (.d (i64 v2.Guess_.V)), (.d (bo v2.Trust)), (.d (i64 v2.Ward)), (.d (i64 v2.WardGuess.R)), (.d (i64 v2.WardGuess.V)), (.d (i64 v2.Until))] rfl ?_
        refine s_nil ?_
        refine l_seq ?_
        refine l_draw rfl fun u8 hu8 => ?_
        refine s_val (.ptr _ _) rfl rfl ?_
        refine s_val (.d _) rfl (v_load rfl G_hit rfl) ?_
        refine s_val (.ptr _ _) rfl rfl ?_
        refine s_val (.d _) rfl (v_load rfl (G_skip rfl (G_skip rfl G_hit)) rfl) ?_
        refine s_val (.d _) rfl (v_loadG rfl G_hit rfl rfl) ?_
        obtain ⟨v3, hv3, hz1⟩ := bind_some hz1
        refine s_call rfl rfl all2_refl (convoy_rear_ok _  _ hv3) (.inl rfl) ?_
        refine s_val (.ptr _ _) rfl rfl ?_
        refine s_val (.d _) rfl (v_load rfl G_hit rfl) ?_
        refine s_val (.d _) rfl rfl ?_
        refine s_new (.ptr _ _) (.box _ _) rfl rfl ?_
        refine s_store _ _ _ _ _ rfl rfl rfl G_hit (Nat.le_of_ble_eq_true rfl) [(.d (i64 1)), (.d (i64 v2.ID)), (.d (i64 0)), (.d (i64 p1.Tick)), (.d (i64 v3)), (.d (i64 v2.V)), (.d (i64 0))] rfl ?_
        refine s_nil ?_
        refine l_seq ?_
        refine l_sub (s0 := ⟨T [(1, (.ptr (1, u1) 0)), (3, (oS x1.1 (g2.1.val, g2.2))), (4, (.d (i64 x1.2))), (5, (.ptr (5, u7) 0)), (6, (.ptr (6, u8) 0)), (14, (.d (.list (List.map eMate p1.Mates)))), (15, (.d (i64 (p1.Mates.length : Int)))), (16, (.d (i64 x1.2)))], G [((1, u1), some (.box 38 [(.d (i64 p1.Tick)), (.d (i64 p1.Gap)), (.d (.list (List.map eMate p1.Mates))), (.d (i64 p1.Guest_.ID)), (.d (i64 p1.Guest_.S)), (.d (i64 p1.Guest_.V)), (.d (i64 p1.Guest_.Len)), (.d (i64 p1.Guest_.End)), (.d (i64 p1.Guest_.Ahead)), (.d (i64 p1.Guest_.Guess_.R)), (.d (i64 p1.Guest_.Guess_.V)), (.d (i64 p1.Guest_.From)), (.d (i64 p1.Guest_.Until))])), ((g2.1.val, g2.2), oB 68 7 eNote x1.1), ((5, u7), some (.box 65 [(.d (i64 v2.ID)), (.d (i64 v2.S)), (.d (i64 v2.V)), (.d (i64 v2.Len)), (.d (i64 v2.Ahead)), (.d (i64 v2.Guess_.R)), (.d (i64 v2.Guess_.V)), (.d (bo v2.Trust)), (.d (i64 v2.Ward)), (.d (i64 v2.WardGuess.R)), (.d (i64 v2.WardGuess.V)), (.d (i64 v2.Until))])), ((6, u8), some (.box 68 [(.d (i64 1)), (.d (i64 v2.ID)), (.d (i64 0)), (.d (i64 p1.Tick)), (.d (i64 v3)), (.d (i64 v2.V)), (.d (i64 0))]))]⟩) (sb_of ⟨.of rfl, .of rfl, .of rfl, .of rfl, .of rfl, .of rfl, .of rfl, .of rfl, trivial⟩ (sbG_some (G_skip rfl (G_skip rfl (G_skip rfl (G_skip rfl G_hit)))) (.of rfl) (sbG_oB (G_skip (neL g2.1.property rfl) (G_skip (neL g2.1.property rfl) (G_skip (neL g2.1.property rfl) (G_skip (neL g2.1.property rfl) (G_skip (neL g2.1.property rfl) G_hit))))) (sbG_some (G_skip rfl (G_skip rfl G_hit)) (.of rfl) (sbG_some G_hit (.of rfl) trivial))))) ?_
        refine l_reg fun u9 hu9 => ?_
        refine s_val (oS x1.1 (g2.1.val, g2.2)) rfl rfl ?_
        refine s_val (.d _) rfl (v_loadG rfl (G_skip rfl (G_skip (neR g2.1.property rfl) (G_skip rfl G_hit))) rfl rfl) ?_
        refine s_val (.d (.list (List.map eNote [(Note.mk 1 v2.ID 0 p1.Tick v3 v2.V 0)]))) rfl rfl ?_
        obtain ⟨v4, hv4, hz1⟩ := bind_some hz1
        refine s_appendO eNote (g2.1.val, g2.2) x1.1 (Note.mk 1 v2.ID 0 p1.Tick v3 v2.V 0) [] _ (elems_list (fun _ => rfl)) rfl (G_skip (neL g2.1.property rfl) G_hit) hv4 ?_
        refine s_val (.sl _) rfl rfl ?_
        refine s_nil ?_
        refine l_seq ?_
        refine l_seq ?_
        refine l_reg fun u10 hu10 => ?_
        refine s_val (.d _) rfl rfl ?_
        refine s_val (.d _) rfl rfl ?_
        refine s_val (.ptr _ _) rfl rfl ?_
        refine s_val (.d _) rfl (v_load rfl (G_skip rfl (G_skip (neR g2.1.property rfl) G_hit)) rfl) ?_
        refine s_val (.d _) rfl (v_len rfl) ?_
        refine s_val (.d _) rfl rfl ?_
        refine s_nil ?_
        obtain ⟨y2, hy2, hz1⟩ := bind_some hz1
        refine l_join (fun s => ∃ g3 : ({d : Nat // d ∈ [33, 52]} × Nat), Sb ⟨T [(1, (.ptr (1, u1) 0)), (3, (oS y2.1 (g3.1.val, g3.2))), (5, (.ptr (5, u7) 0)), (6, (.ptr (6, u8) 0)), (14, (.d (.list (List.map eMate p1.Mates)))), (15, (.d (i64 (p1.Mates.length : Int)))), (16, (.d (i64 x1.2)))], G [((1, u1), some (.box 38 [(.d (i64 p1.Tick)), (.d (i64 p1.Gap)), (.d (.list (List.map eMate p1.Mates))), (.d (i64 p1.Guest_.ID)), (.d (i64 p1.Guest_.S)), (.d (i64 p1.Guest_.V)), (.d (i64 p1.Guest_.Len)), (.d (i64 p1.Guest_.End)), (.d (i64 p1.Guest_.Ahead)), (.d (i64 p1.Guest_.Guess_.R)), (.d (i64 p1.Guest_.Guess_.V)), (.d (i64 p1.Guest_.From)), (.d (i64 p1.Guest_.Until))])), ((5, u7), some (.box 65 [(.d (i64 v2.ID)), (.d (i64 v2.S)), (.d (i64 v2.V)), (.d (i64 v2.Len)), (.d (i64 v2.Ahead)), (.d (i64 v2.Guess_.R)), (.d (i64 v2.Guess_.V)), (.d (bo v2.Trust)), (.d (i64 v2.Ward)), (.d (i64 v2.WardGuess.R)), (.d (i64 v2.WardGuess.V)), (.d (i64 v2.Until))])), ((6, u8), some (.box 68 [(.d (i64 y2.2.Kind)), (.d (i64 y2.2.From)), (.d (i64 y2.2.To)), (.d (i64 y2.2.Stamp)), (.d (i64 y2.2.R)), (.d (i64 y2.2.V)), (.d (i64 y2.2.Until))])), ((g3.1.val, g3.2), oB 68 7 eNote y2.1)]⟩ s) ?_ ?_
        · skip
          refine l_cond (decide ((w64 (x1.2 + 1)) < (p1.Mates.length : Int))) rfl (fun c3 => ?_) (fun c3 => ?_)
          · replace hy2 := cond_t c3 hy2
            refine l_seq ?_
            refine l_sub (s0 := ⟨T [(1, (.ptr (1, u1) 0)), (3, (.sl (33, u9))), (4, (.d (i64 x1.2))), (5, (.ptr (5, u7) 0)), (6, (.ptr (6, u8) 0)), (14, (.d (.list (List.map eMate p1.Mates)))), (15, (.d (i64 (p1.Mates.length : Int)))), (16, (.d (i64 x1.2)))], G [((1, u1), some (.box 38 [(.d (i64 p1.Tick)), (.d (i64 p1.Gap)), (.d (.list (List.map eMate p1.Mates))), (.d (i64 p1.Guest_.ID)), (.d (i64 p1.Guest_.S)), (.d (i64 p1.Guest_.V)), (.d (i64 p1.Guest_.Len)), (.d (i64 p1.Guest_.End)), (.d (i64 p1.Guest_.Ahead)), (.d (i64 p1.Guest_.Guess_.R)), (.d (i64 p1.Guest_.Guess_.V)), (.d (i64 p1.Guest_.From)), (.d (i64 p1.Guest_.Until))])), ((33, u9), some (.arr 68 7 (List.map eNote v4))), ((5, u7), some (.box 65 [(.d (i64 v2.ID)), (.d (i64 v2.S)), (.d (i64 v2.V)), (.d (i64 v2.Len)), (.d (i64 v2.Ahead)), (.d (i64 v2.Guess_.R)), (.d (i64 v2.Guess_.V)), (.d (bo v2.Trust)), (.d (i64 v2.Ward)), (.d (i64 v2.WardGuess.R)), (.d (i64 v2.WardGuess.V)), (.d (i64 v2.Until))])), ((6, u8), some (.box 68 [(.d (i64 1)), (.d (i64 v2.ID)), (.d (i64 0)), (.d (i64 p1.Tick)), (.d (i64 v3)), (.d (i64 v2.V)), (.d (i64 0))]))]⟩) (sb_of ⟨.of rfl, .of rfl, .of rfl, .of rfl, .of rfl, .of rfl, .of rfl, .of rfl, trivial⟩ (sbG_some (G_skip rfl (G_skip (neR g2.1.property rfl) G_hit)) (.of rfl) (sbG_some G_hit (.of rfl) (sbG_some (G_skip rfl (G_skip (neR g2.1.property rfl) (G_skip rfl (G_skip (neR g2.1.property rfl) G_hit)))) (.of rfl) (sbG_some (G_skip rfl (G_skip (neR g2.1.property rfl) (G_skip rfl (G_skip (neR g2.1.property rfl) (G_skip rfl G_hit))))) (.of rfl) trivial))))) ?_
            refine l_drawT fun u11 hu11 => ?_
            refine t_val (.ptr _ _) rfl rfl ?_
            refine t_val (.d _) rfl (v_load rfl G_hit rfl) ?_
            refine t_val (.d _) rfl rfl ?_
            refine t_val (.d _) rfl rfl ?_
            obtain ⟨v5, hv5, hy2⟩ := bind_some hy2
            refine t_val (.d _) rfl (v_idx rfl rfl hv5 rfl) ?_
            refine t_val (.d _) rfl rfl ?_
            refine t_val (.d _) rfl (v_loadL rfl hv5 rfl) ?_
            refine t_val (.ptr _ _) rfl rfl ?_
            refine t_store _ _ _ _ _ rfl rfl rfl (G_skip rfl (G_skip rfl (G_skip rfl G_hit))) (Nat.le_of_ble_eq_true rfl) [(.d (i64 4)), (.d (i64 v2.ID)), (.d (i64 0)), (.d (i64 p1.Tick)), (.d (i64 v3)), (.d (i64 v2.V)), (.d (i64 0))] rfl ?_
            refine t_val (.ptr _ _) rfl rfl ?_
            refine t_store _ _ _ _ _ rfl rfl rfl G_hit (Nat.le_of_ble_eq_true rfl) [(.d (i64 4)), (.d (i64 v2.ID)), (.d (i64 v5.ID)), (.d (i64 p1.Tick)), (.d (i64 v3)), (.d (i64 v2.V)), (.d (i64 0))] rfl ?_
            refine t_nil ⟨rfl, ?_⟩
            refine l_sub (s0 := ⟨T [(1, (.ptr (1, u1) 0)), (3, (.sl (33, u9))), (5, (.ptr (5, u7) 0)), (6, (.ptr (6, u8) 0)), (14, (.d (.list (List.map eMate p1.Mates)))), (15, (.d (i64 (p1.Mates.length : Int)))), (16, (.d (i64 x1.2)))], G [((1, u1), some (.box 38 [(.d (i64 p1.Tick)), (.d (i64 p1.Gap)), (.d (.list (List.map eMate p1.Mates))), (.d (i64 p1.Guest_.ID)), (.d (i64 p1.Guest_.S)), (.d (i64 p1.Guest_.V)), (.d (i64 p1.Guest_.Len)), (.d (i64 p1.Guest_.End)), (.d (i64 p1.Guest_.Ahead)), (.d (i64 p1.Guest_.Guess_.R)), (.d (i64 p1.Guest_.Guess_.V)), (.d (i64 p1.Guest_.From)), (.d (i64 p1.Guest_.Until))])), ((33, u9), some (.arr 68 7 (List.map eNote v4))), ((5, u7), some (.box 65 [(.d (i64 v2.ID)), (.d (i64 v2.S)), (.d (i64 v2.V)), (.d (i64 v2.Len)), (.d (i64 v2.Ahead)), (.d (i64 v2.Guess_.R)), (.d (i64 v2.Guess_.V)), (.d (bo v2.Trust)), (.d (i64 v2.Ward)), (.d (i64 v2.WardGuess.R)), (.d (i64 v2.WardGuess.V)), (.d (i64 v2.Until))])), ((6, u8), some (.box 68 [(.d (i64 4)), (.d (i64 v2.ID)), (.d (i64 v5.ID)), (.d (i64 p1.Tick)), (.d (i64 v3)), (.d (i64 v2.V)), (.d (i64 0))]))]⟩) (sb_of ⟨.of rfl, .of rfl, .of rfl, .of rfl, .of rfl, .of rfl, .of rfl, trivial⟩ (sbG_some (G_skip rfl (G_skip rfl G_hit)) (.of rfl) (sbG_some (G_skip rfl (G_skip rfl (G_skip rfl G_hit))) (.of rfl) (sbG_some (G_skip rfl (G_skip rfl (G_skip rfl (G_skip rfl G_hit)))) (.of rfl) (sbG_some G_hit (.of rfl) trivial))))) ?_
            refine l_reg fun u12 hu12 => ?_
            refine s_val (.sl _) rfl rfl ?_
            refine s_val (.d _) rfl (v_loadG rfl (G_skip rfl (G_skip rfl (G_skip rfl G_hit))) rfl rfl) ?_
            refine s_val (.d (.list (List.map eNote [(Note.mk 4 v2.ID v5.ID p1.Tick v3 v2.V 0)]))) rfl rfl ?_
            obtain ⟨v6, hv6, hy2⟩ := bind_some hy2
            refine s_append eNote _ _ _ _ (elems_list (fun _ => rfl)) rfl (G_skip rfl G_hit) hv6 ?_
            refine s_val (.sl _) rfl rfl ?_
            refine s_nil ?_
            obtain rfl := Option.some.inj hy2
            exact l_j ⟨(⟨52, .tail _ (.head _)⟩, u12), (sb_of ⟨.of rfl, (.of (oS_ne (appc_ne hv6)).symm), .of rfl, .of rfl, .of rfl, .of rfl, .of rfl, trivial⟩ (sbG_some (G_skip rfl (G_skip rfl G_hit)) (.of rfl) (sbG_some (G_skip rfl (G_skip rfl (G_skip rfl (G_skip rfl G_hit)))) (.of rfl) (sbG_some (G_skip rfl (G_skip rfl (G_skip rfl (G_skip rfl (G_skip rfl G_hit))))) (.of rfl) (sbG_own G_hit trivial)))))⟩
          · replace hy2 := cond_f c3 hy2
            refine l_skip ?_
            obtain rfl := Option.some.inj hy2
            exact l_j ⟨(⟨33, .head _⟩, u9), (sb_of ⟨.of rfl, (.of (oS_ne (appc_ne hv4)).symm), .of rfl, .of rfl, .of rfl, .of rfl, .of rfl, trivial⟩ (sbG_some (G_skip rfl (G_skip (neR g2.1.property rfl) G_hit)) (.of rfl) (sbG_some (G_skip rfl (G_skip (neR g2.1.property rfl) (G_skip rfl (G_skip (neR g2.1.property rfl) G_hit)))) (.of rfl) (sbG_some (G_skip rfl (G_skip (neR g2.1.property rfl) (G_skip rfl (G_skip (neR g2.1.property rfl) (G_skip rfl G_hit))))) (.of rfl) (sbG_own G_hit trivial)))))⟩
        · rintro _ ⟨g3, q1⟩
          refine l_sub q1 ?_
          refine l_seq ?_
          refine l_reg fun u13 hu13 => ?_
          refine s_val (.ptr _ _) rfl rfl ?_
          refine s_val (.d _) rfl (v_load rfl (G_skip rfl G_hit) rfl) ?_
          refine s_val (.d _) rfl rfl ?_
          refine s_val (.d _) rfl rfl ?_
          refine g_val (v2.Until != 0) (.ptr _ _) rfl (gw_t rfl) (fun w1 => rfl) ?_
          refine g_val (v2.Until != 0) (.d _) rfl (gw_t rfl) (fun w2 => (v_load (gd_pos w2) (G_skip rfl G_hit) rfl)) ?_
          refine g_val (v2.Until != 0) (.ptr _ _) rfl (gw_t rfl) (fun w3 => rfl) ?_
          refine g_val (v2.Until != 0) (.d _) rfl (gw_t rfl) (fun w4 => (v_load (gd_pos w4) G_hit rfl)) ?_
          refine g_val (v2.Until != 0) (.d _) rfl (gw_t rfl) (fun w5 => (v_bin (gd_pos w5) (gd_pos w5) rfl)) ?_
          refine s_val (.d _) rfl (v_and rfl (fun hc => gd_pos hc) rfl) ?_
          refine s_nil ?_
          refine l_cond ((v2.Until != 0) && (decide (v2.Until ≥ p1.Tick))) rfl (fun c4 => ?_) (fun c4 => ?_)
          · replace hz1 := cond_t c4 hz1
            refine l_seq ?_
            refine l_drawT fun u14 hu14 => ?_
            refine t_val (.ptr _ _) rfl rfl ?_
            refine t_val (.d _) rfl (v_load rfl (G_skip rfl G_hit) rfl) ?_
            refine t_val (.ptr _ _) rfl rfl ?_
            refine t_val (.d _) rfl (v_load rfl (G_skip rfl G_hit) rfl) ?_
            refine t_val (.ptr _ _) rfl rfl ?_
            refine t_store _ _ _ _ _ rfl rfl rfl (G_skip rfl (G_skip rfl G_hit)) (Nat.le_of_ble_eq_true rfl) [(.d (i64 3)), (.d (i64 y2.2.From)), (.d (i64 y2.2.To)), (.d (i64 y2.2.Stamp)), (.d (i64 y2.2.R)), (.d (i64 y2.2.V)), (.d (i64 y2.2.Until))] rfl ?_
            refine t_val (.ptr _ _) rfl rfl ?_
            refine t_store _ _ _ _ _ rfl rfl rfl G_hit (Nat.le_of_ble_eq_true rfl) [(.d (i64 3)), (.d (i64 y2.2.From)), (.d (i64 v2.Ward)), (.d (i64 y2.2.Stamp)), (.d (i64 y2.2.R)), (.d (i64 y2.2.V)), (.d (i64 y2.2.Until))] rfl ?_
            refine t_val (.ptr _ _) rfl rfl ?_
            refine t_store _ _ _ _ _ rfl rfl rfl G_hit (Nat.le_of_ble_eq_true rfl) [(.d (i64 3)), (.d (i64 y2.2.From)), (.d (i64 v2.Ward)), (.d (i64 y2.2.Stamp)), (.d (i64 y2.2.R)), (.d (i64 y2.2.V)), (.d (i64 v2.Until))] rfl ?_
            refine t_nil ⟨rfl, ?_⟩
            refine l_sub (s0 := ⟨T [(1, (.ptr (1, u1) 0)), (3, (oS y2.1 (g3.1.val, g3.2))), (6, (.ptr (6, u8) 0)), (14, (.d (.list (List.map eMate p1.Mates)))), (15, (.d (i64 (p1.Mates.length : Int)))), (16, (.d (i64 x1.2))), (57, (gd (v2.Until != 0) true (.ptr (5, u7) 11))), (58, (gd (v2.Until != 0) true (.d (i64 v2.Until)))), (59, (gd (v2.Until != 0) true (.ptr (1, u1) 0))), (60, (gd (v2.Until != 0) true (.d (i64 p1.Tick)))), (61, (gd (v2.Until != 0) true (.d (bo (decide (v2.Until ≥ p1.Tick))))))], G [((1, u1), some (.box 38 [(.d (i64 p1.Tick)), (.d (i64 p1.Gap)), (.d (.list (List.map eMate p1.Mates))), (.d (i64 p1.Guest_.ID)), (.d (i64 p1.Guest_.S)), (.d (i64 p1.Guest_.V)), (.d (i64 p1.Guest_.Len)), (.d (i64 p1.Guest_.End)), (.d (i64 p1.Guest_.Ahead)), (.d (i64 p1.Guest_.Guess_.R)), (.d (i64 p1.Guest_.Guess_.V)), (.d (i64 p1.Guest_.From)), (.d (i64 p1.Guest_.Until))])), ((g3.1.val, g3.2), oB 68 7 eNote y2.1), ((6, u8), some (.box 68 [(.d (i64 3)), (.d (i64 y2.2.From)), (.d (i64 v2.Ward)), (.d (i64 y2.2.Stamp)), (.d (i64 y2.2.R)), (.d (i64 y2.2.V)), (.d (i64 v2.Until))])), ((5, u7), some (.box 65 [(.d (i64 v2.ID)), (.d (i64 v2.S)), (.d (i64 v2.V)), (.d (i64 v2.Len)), (.d (i64 v2.Ahead)), (.d (i64 v2.Guess_.R)), (.d (i64 v2.Guess_.V)), (.d (bo v2.Trust)), (.d (i64 v2.Ward)), (.d (i64 v2.WardGuess.R)), (.d (i64 v2.WardGuess.V)), (.d (i64 v2.Until))]))]⟩) (sb_of ⟨.of rfl, .of rfl, .of rfl, .of rfl, .of rfl, .of rfl, .of rfl, .of rfl, .of rfl, .of rfl, .of rfl, trivial⟩ (sbG_some (G_skip rfl (G_skip rfl (G_skip rfl G_hit))) (.of rfl) (sbG_oB (G_skip (neL g3.1.property rfl) (G_skip (neL g3.1.property rfl) (G_skip (neL g3.1.property rfl) (G_skip (neL g3.1.property rfl) (G_skip (neL g3.1.property rfl) (G_skip (neL g3.1.property rfl) G_hit)))))) (sbG_some G_hit (.of rfl) (sbG_some (G_skip rfl (G_skip rfl (G_skip rfl (G_skip rfl G_hit)))) (.of rfl) trivial))))) ?_
            refine l_reg fun u15 hu15 => ?_
            refine s_val (oS y2.1 (g3.1.val, g3.2)) rfl rfl ?_
            refine s_val (.d _) rfl (v_loadG rfl (G_skip rfl (G_skip (neR g3.1.property rfl) G_hit)) rfl rfl) ?_
            refine s_val (.d (.list (List.map eNote [(Note.mk 3 y2.2.From v2.Ward y2.2.Stamp y2.2.R y2.2.V v2.Until)]))) rfl rfl ?_
            obtain ⟨v7, hv7, hz1⟩ := bind_some hz1
            refine s_appendO eNote (g3.1.val, g3.2) y2.1 (Note.mk 3 y2.2.From v2.Ward y2.2.Stamp y2.2.R y2.2.V v2.Until) [] _ (elems_list (fun _ => rfl)) rfl (G_skip (neL g3.1.property rfl) G_hit) hv7 ?_
            refine s_val (.sl _) rfl rfl ?_
            refine s_nil ?_
            refine l_end ?_
            refine l_reg fun u16 hu16 => ?_
            refine s_val (.d _) rfl rfl ?_
            refine s_val (.d _) rfl rfl ?_
            refine s_nil ?_
            refine l_nil ?_
            obtain rfl := Option.some.inj hz1
            exact ⟨rfl, (⟨73, .tail _ (.tail _ (.head _))⟩, u15), (sb_of ⟨.of rfl, (.of (oS_ne (appc_ne hv7)).symm), .of rfl, .of rfl, .of rfl, trivial⟩ (sbG_some (G_skip rfl (G_skip (neR g3.1.property rfl) G_hit)) (.of rfl) (sbG_own G_hit trivial)))⟩
          · replace hz1 := cond_f c4 hz1
            refine l_skip ?_
            refine l_end ?_
            refine l_reg fun u17 hu17 => ?_
            refine s_val (.d _) rfl rfl ?_
            refine s_val (.d _) rfl rfl ?_
            refine s_nil ?_
            refine l_nil ?_
            obtain rfl := Option.some.inj hz1
            exact ⟨rfl, (⟨g3.1.val, memL g3.1.property rfl⟩, g3.2), (sb_of ⟨.of rfl, .of rfl, .of rfl, .of rfl, .of rfl, trivial⟩ (sbG_some G_hit (.of rfl) (sbG_oB (G_skip (neL g3.1.property rfl) (G_skip (neL g3.1.property rfl) (G_skip (neL g3.1.property rfl) G_hit))) trivial)))⟩
      · replace hz1 := cond_f c2 hz1
        refine l_exitN rfl ?_
        obtain rfl := Option.some.inj hz1
        obtain rfl := ez1 _ rfl
        refine ⟨nofun, awl_pop rfl (l_j ?_)⟩
        exact ⟨(g2.1, g2.2), (sb_of ⟨.of rfl, .of rfl, trivial⟩ (sbG_some G_hit (.of rfl) (sbG_oB (G_skip (neL g2.1.property rfl) G_hit) trivial)))⟩
    · rintro _ ⟨g1, q2⟩
      refine l_sub q2 ?_
      refine l_seq ?_
      refine l_seq ?_
      refine l_reg fun u18 hu18 => ?_
      refine s_val (.ptr _ _) rfl rfl ?_
      refine s_val (.d _) rfl (v_loadG rfl G_hit rfl rfl) ?_
      refine s_new (.ptr _ _) (.box _ _) rfl rfl ?_
      refine s_store _ _ _ _ _ rfl rfl rfl G_hit (Nat.le_of_ble_eq_true rfl) [(.d (i64 p1.Guest_.ID)), (.d (i64 p1.Guest_.S)), (.d (i64 p1.Guest_.V)), (.d (i64 p1.Guest_.Len)), (.d (i64 p1.Guest_.End)), (.d (i64 p1.Guest_.Ahead)), (.d (i64 p1.Guest_.Guess_.R)), (.d (i64 p1.Guest_.Guess_.V)), (.d (i64 p1.Guest_.From)), (.d (i64 p1.Guest_.Until))] rfl ?_
      refine s_nil ?_
      refine l_seq ?_
      refine l_reg fun u19 hu19 => ?_
      refine s_val (.ptr _ _) rfl rfl ?_
      refine s_val (.d _) rfl (v_load rfl G_hit rfl) ?_
      refine s_val (.d _) rfl rfl ?_
      refine s_nil ?_
      refine l_cond (p1.Guest_.ID != 0) rfl (fun c5 => ?_) (fun c5 => ?_)
      · replace h := cond_t c5 h
        refine l_seq ?_
        refine l_reg fun u20 hu20 => ?_
        refine s_val (.d _) rfl (v_loadG rfl (G_skip rfl (G_skip rfl G_hit)) rfl rfl) ?_
        obtain ⟨v8, hv8, h⟩ := bind_some h
        refine s_call rfl rfl all2_refl (convoy_beside_ok _  _ hv8) (.inl rfl) ?_
        refine s_val (.d _) rfl rfl ?_
        refine s_val (.d _) rfl rfl ?_
        refine s_val (.d _) rfl rfl ?_
        refine s_val (.d _) rfl rfl ?_
        refine s_val (.d _) rfl rfl ?_
        refine s_nil ?_
        refine l_seq ?_
        refine l_reg fun u21 hu21 => ?_
        refine s_val (.d _) rfl rfl ?_
        refine s_val (.d _) rfl rfl ?_
        refine s_nil ?_
        refine l_cond (decide (v8.2 ≥ 0)) rfl (fun c6 => ?_) (fun c6 => ?_)
        · replace h := cond_t c6 h
          refine l_draw rfl fun u22 hu22 => ?_
          refine s_val (oS y1 (g1.1.val, g1.2)) rfl rfl ?_
          refine s_val (.ptr _ _) rfl rfl ?_
          refine s_val (.d _) rfl (v_load rfl G_hit rfl) ?_
          refine s_val (.ptr _ _) rfl rfl ?_
          refine s_val (.d _) rfl (v_load rfl (G_skip rfl (G_skip rfl G_hit)) rfl) ?_
          refine s_val (.d _) rfl rfl ?_
          obtain ⟨v9, hv9, h⟩ := bind_some h
          refine s_val (.d _) rfl (v_idx rfl rfl hv9 rfl) ?_
          refine s_val (.d _) rfl rfl ?_
          refine s_val (.d _) rfl (v_loadL rfl hv9 rfl) ?_
          refine s_val (.ptr _ _) rfl rfl ?_
          refine s_val (.d _) rfl (v_load rfl (G_skip rfl (G_skip rfl G_hit)) rfl) ?_
          refine s_val (.ptr _ _) rfl rfl ?_
          refine s_val (.d _) rfl (v_load rfl G_hit rfl) ?_
          refine s_val (.ptr _ _) rfl rfl ?_
          refine s_val (.d _) rfl (v_load rfl G_hit rfl) ?_
          refine s_val (.d _) rfl rfl ?_
          refine s_val (.ptr _ _) rfl rfl ?_
          refine s_val (.d _) rfl (v_load rfl G_hit rfl) ?_
          refine s_val (.d _) rfl rfl ?_
          refine s_val (.d (.list (List.map eNote [(Note.mk 2 p1.Guest_.ID v9.ID p1.Tick (w64 (p1.Guest_.S - p1.Guest_.Len)) p1.Guest_.V 0)]))) rfl rfl ?_
          obtain ⟨v10, hv10, h⟩ := bind_some h
          refine s_appendO eNote (g1.1.val, g1.2) y1 (Note.mk 2 p1.Guest_.ID v9.ID p1.Tick (w64 (p1.Guest_.S - p1.Guest_.Len)) p1.Guest_.V 0) [] _ (elems_list (fun _ => rfl)) rfl (G_skip (neL g1.1.property rfl) (G_skip (neL g1.1.property rfl) (G_skip (neL g1.1.property rfl) G_hit))) hv10 ?_
          refine s_val (.sl _) rfl rfl ?_
          refine s_nil ?_
          refine l_seq ?_
          refine l_sub (s0 := ⟨T [(3, (.sl (107, u22)))], G [((107, u22), some (.arr 68 7 (List.map eNote v10)))]⟩) (sb_of ⟨.of rfl, trivial⟩ (sbG_some G_hit (.of rfl) trivial)) ?_
          refine l_reg fun u23 hu23 => ?_
          refine s_val (.sl _) rfl rfl ?_
          refine s_val (.sl _) rfl rfl ?_
          refine s_nil ?_
          refine l_ret ?_
          obtain rfl := Option.some.inj h
          refine fin_ok (.inr rfl) (resD1 (res_t rfl) (rf_sl G_hit)) ?_
          exact (.refl _)
        · replace h := cond_f c6 h
          refine l_skip ?_
          refine l_seq ?_
          refine l_reg fun u24 hu24 => ?_
          refine s_val (oS y1 (g1.1.val, g1.2)) rfl rfl ?_
          refine s_val (oS y1 (g1.1.val, g1.2)) rfl rfl ?_
          refine s_nil ?_
          refine l_ret ?_
          obtain rfl := Option.some.inj h
          refine fin_ok (.inr rfl) (resD1 (res_t rfl) (rf_oS (G_skip (neL g1.1.property rfl) (G_skip (neL g1.1.property rfl) (G_skip (neL g1.1.property rfl) G_hit))))) ?_
          exact oD_le
      · replace h := cond_f c5 h
        refine l_skip ?_
        refine l_seq ?_
        refine l_reg fun u25 hu25 => ?_
        refine s_val (oS y1 (g1.1.val, g1.2)) rfl rfl ?_
        refine s_val (oS y1 (g1.1.val, g1.2)) rfl rfl ?_
        refine s_nil ?_
        refine l_ret ?_
        obtain rfl := Option.some.inj h
        refine fin_ok (.inr rfl) (resD1 (res_t rfl) (rf_oS (G_skip (neL g1.1.property rfl) (G_skip (neL g1.1.property rfl) (G_skip (neL g1.1.property rfl) G_hit))))) ?_
        exact oD_le

noncomputable def ref09_beside_l1 (p1 : Convoy) (x1 : (Int × Int × Int)) : Option (Stp (Int × Int × Int) (Int × Int)) :=
  cond (decide (x1.2.2 < (p1.Mates.length : Int))) ((geti p1.Mates x1.2.2).bind fun v1 => cond (decide (v1.S > p1.Guest_.S)) (some (.go (x1.2.2, x1.2.1, (w64 (x1.2.2 + 1))))) (cond (decide (x1.2.1 < 0)) (some (.go (x1.1, x1.2.2, (w64 (x1.2.2 + 1))))) (some (.go (x1.1, x1.2.1, (w64 (x1.2.2 + 1))))))) (some (.out (x1.1, x1.2.1)))
noncomputable def ref09_beside (p1 : Convoy) : Option (Int × Int) :=
  (loop (ref09_beside_l1 p1) ((-1), (-1), 0)).bind fun y1 => some (y1.1, y1.2)

/-- kerbstone/kerbstoneref09.beside -/
def ac_ref09_beside : AC :=
  (.seq (.reg [⟨(some 1), .box 38 true (.t 0), none⟩, ⟨(some 2), .mv (.c (.v (.int .i64 0))), none⟩, ⟨(some 3), .mv (.c (.v (.int .i64 0))), none⟩])
  (.seq (.reg [⟨(some 4), .mv (.c (.v (.int .i64 (-1)))), none⟩, ⟨(some 5), .mv (.c (.v (.int .i64 (-1)))), none⟩])
  (.seq (.seq (.reg [⟨(some 6), .mv (.c (.v (.int .i64 0))), none⟩])
  (.block 0
    (.loop
      (.seq (.seq (.reg [⟨(some 7), .mv (.t 6), none⟩, ⟨(some 8), .fieldA 2 (.t 1), none⟩, ⟨(some 9), .load 1 false (.t 8), none⟩, ⟨(some 10), .len (.t 9), none⟩, ⟨(some 11), .bin .lss (.t 7) (.t 10), none⟩])
      (.cond (.t 11)
        .skip
        (.exit 0)))
      (.seq (.block 1
        (.seq (.draw [⟨(some 14), .fieldA 2 (.t 1), none⟩, ⟨(some 15), .load 1 false (.t 14), none⟩, ⟨(some 16), .mv (.t 6), none⟩, ⟨(some 17), .idxS 12 (.t 15) (.t 16), none⟩, ⟨(some 18), .fieldA 1 (.t 17), none⟩, ⟨(some 19), .load 1 false (.t 18), none⟩, ⟨(some 20), .fieldA 3 (.t 1), none⟩, ⟨(some 21), .fieldA 1 (.t 20), none⟩, ⟨(some 22), .load 1 false (.t 21), none⟩, ⟨(some 23), .bin .gtr (.t 19) (.t 22), none⟩] [])
        (.cond (.t 23)
          (.reg [⟨(some 24), .mv (.t 6), none⟩, ⟨(some 4), .mv (.t 24), none⟩])
          (.seq (.reg [⟨(some 25), .mv (.t 5), none⟩, ⟨(some 26), .bin .lss (.t 25) (.c (.v (.int .i64 0))), none⟩])
          (.cond (.t 26)
            (.reg [⟨(some 27), .mv (.t 6), none⟩, ⟨(some 5), .mv (.t 27), none⟩])
            .skip)))))
      (.reg [⟨(some 12), .mv (.t 6), none⟩, ⟨(some 13), .bin .add (.t 12) (.c (.v (.int .i64 1))), none⟩, ⟨(some 6), .mv (.t 13), none⟩]))))))
  (.seq (.reg [⟨(some 28), .mv (.t 4), none⟩, ⟨(some 29), .mv (.t 5), none⟩, ⟨(some 2), .mv (.t 28), none⟩, ⟨(some 3), .mv (.t 29), none⟩])
  .ret))))
theorem fn_ref09_beside : FnOK Try.prog 69 30 [.t 2, .t 3] ac_ref09_beside := ⟨_, _, Try.func69, rfl, Try.ntmps69, by kernel_rfl, ⟨fun _ => [], by kernel_rfl⟩, by kernel_rfl⟩
set_option maxHeartbeats 4000000 in
theorem ref09_beside_ok (p1 : Convoy) (r : (Int × Int)) (h : ref09_beside p1 = some r) : PCall Try.prog 69 [(.agg [(i64 p1.Tick), (i64 p1.Gap), (.list (List.map eMate p1.Mates)), (i64 p1.Guest_.ID), (i64 p1.Guest_.S), (i64 p1.Guest_.V), (i64 p1.Guest_.Len), (i64 p1.Guest_.End), (i64 p1.Guest_.Ahead), (i64 p1.Guest_.Guess_.R), (i64 p1.Guest_.Guess_.V), (i64 p1.Guest_.From), (i64 p1.Guest_.Until)])] (.tup [(i64 r.1), (i64 r.2)]) := by
  refine l_call fn_ref09_beside (Nat.le_of_ble_eq_true rfl) ?_
  unfold ref09_beside at h
  unfold ac_ref09_beside
  refine (l_sub (s0 := ⟨T [(0, (.d (.agg [(i64 p1.Tick), (i64 p1.Gap), (.list (List.map eMate p1.Mates)), (i64 p1.Guest_.ID), (i64 p1.Guest_.S), (i64 p1.Guest_.V), (i64 p1.Guest_.Len), (i64 p1.Guest_.End), (i64 p1.Guest_.Ahead), (i64 p1.Guest_.Guess_.R), (i64 p1.Guest_.Guess_.V), (i64 p1.Guest_.From), (i64 p1.Guest_.Until)])))], G []⟩) (sb_of ⟨.of rfl, trivial⟩ trivial) ?_)
  refine l_seq ?_
  refine l_reg fun u1 hu1 => ?_
  refine s_new (.ptr _ _) (.box _ _) rfl rfl ?_
  refine s_val (.d _) rfl rfl ?_
  refine s_val (.d _) rfl rfl ?_
  refine s_nil ?_
  refine l_seq ?_
  refine l_reg fun u2 hu2 => ?_
  refine s_val (.d _) rfl rfl ?_
  refine s_val (.d _) rfl rfl ?_
  refine s_nil ?_
  refine l_seq ?_
  refine l_seq ?_
  refine l_reg fun u3 hu3 => ?_
  refine s_val (.d _) rfl rfl ?_
  refine s_nil ?_
  obtain ⟨y1, hy1, h⟩ := bind_some h
  refine l_join (fun s => ∃ g1 : Unit, Sb ⟨T [(4, (.d (i64 y1.1))), (5, (.d (i64 y1.2)))], G []⟩ s) ?_ ?_
  · skip
    refine l_block ?_
    refine l_loop (ref09_beside_l1 p1) (fun (x1 : (Int × Int × Int)) (g2 : Unit) => ⟨T [(1, (.ptr (1, u1) 0)), (4, (.d (i64 x1.1))), (5, (.d (i64 x1.2.1))), (6, (.d (i64 x1.2.2)))], G [((1, u1), some (.box 38 [(.d (i64 p1.Tick)), (.d (i64 p1.Gap)), (.d (.list (List.map eMate p1.Mates))), (.d (i64 p1.Guest_.ID)), (.d (i64 p1.Guest_.S)), (.d (i64 p1.Guest_.V)), (.d (i64 p1.Guest_.Len)), (.d (i64 p1.Guest_.End)), (.d (i64 p1.Guest_.Ahead)), (.d (i64 p1.Guest_.Guess_.R)), (.d (i64 p1.Guest_.Guess_.V)), (.d (i64 p1.Guest_.From)), (.d (i64 p1.Guest_.Until))]))]⟩) ((-1), (-1), 0) () _ hy1 (sb_of ⟨.of rfl, .of rfl, .of rfl, .of rfl, trivial⟩ (sbG_some G_hit (.of rfl) trivial)) ?_
    intro x1 g2 z1 hz1 ez1
    unfold ref09_beside_l1 at hz1
    refine l_seq ?_
    refine l_seq ?_
    refine l_reg fun u4 hu4 => ?_
    refine s_val (.d _) rfl rfl ?_
    refine s_val (.ptr _ _) rfl rfl ?_
    refine s_val (.d _) rfl (v_load rfl G_hit rfl) ?_
    refine s_val (.d _) rfl (v_len rfl) ?_
    refine s_val (.d _) rfl rfl ?_
    refine s_nil ?_
    refine l_cond (decide (x1.2.2 < (p1.Mates.length : Int))) rfl (fun c1 => ?_) (fun c1 => ?_)
    · replace hz1 := cond_t c1 hz1
      refine l_skip ?_
      refine l_seq ?_
      refine l_block ?_
      refine l_seq ?_
      refine l_draw rfl fun u5 hu5 => ?_
      refine s_val (.ptr _ _) rfl rfl ?_
      refine s_val (.d _) rfl (v_load rfl G_hit rfl) ?_
      refine s_val (.d _) rfl rfl ?_
      obtain ⟨v1, hv1, hz1⟩ := bind_some hz1
      refine s_val (.d _) rfl (v_idx rfl rfl hv1 rfl) ?_
      refine s_val (.d _) rfl rfl ?_
      refine s_val (.d _) rfl (v_loadL rfl hv1 rfl) ?_
      refine s_val (.ptr _ _) rfl rfl ?_
      refine s_val (.ptr _ _) rfl rfl ?_
      refine s_val (.d _) rfl (v_load rfl G_hit rfl) ?_
      refine s_val (.d _) rfl rfl ?_
      refine s_nil ?_
      refine l_cond (decide (v1.S > p1.Guest_.S)) rfl (fun c2 => ?_) (fun c2 => ?_)
      · replace hz1 := cond_t c2 hz1
        refine l_reg fun u6 hu6 => ?_
        refine s_val (.d _) rfl rfl ?_
        refine s_val (.d _) rfl rfl ?_
        refine s_nil ?_
        refine l_end ?_
        refine l_reg fun u7 hu7 => ?_
        refine s_val (.d _) rfl rfl ?_
        refine s_val (.d _) rfl rfl ?_
        refine s_val (.d _) rfl rfl ?_
        refine s_nil ?_
        refine l_nil ?_
        obtain rfl := Option.some.inj hz1
        exact ⟨rfl, (), (sb_of ⟨.of rfl, .of rfl, .of rfl, .of rfl, trivial⟩ (sbG_some G_hit (.of rfl) trivial))⟩
      · replace hz1 := cond_f c2 hz1
        refine l_seq ?_
        refine l_reg fun u8 hu8 => ?_
        refine s_val (.d _) rfl rfl ?_
        refine s_val (.d _) rfl rfl ?_
        refine s_nil ?_
        refine l_cond (decide (x1.2.1 < 0)) rfl (fun c3 => ?_) (fun c3 => ?_)
        · replace hz1 := cond_t c3 hz1
          refine l_reg fun u9 hu9 => ?_
          refine s_val (.d _) rfl rfl ?_
          refine s_val (.d _) rfl rfl ?_
          refine s_nil ?_
          refine l_end ?_
          refine l_sub (s0 := ⟨T [(1, (.ptr (1, u1) 0)), (4, (.d (i64 x1.1))), (5, (.d (i64 x1.2.2))), (6, (.d (i64 x1.2.2)))], G [((1, u1), some (.box 38 [(.d (i64 p1.Tick)), (.d (i64 p1.Gap)), (.d (.list (List.map eMate p1.Mates))), (.d (i64 p1.Guest_.ID)), (.d (i64 p1.Guest_.S)), (.d (i64 p1.Guest_.V)), (.d (i64 p1.Guest_.Len)), (.d (i64 p1.Guest_.End)), (.d (i64 p1.Guest_.Ahead)), (.d (i64 p1.Guest_.Guess_.R)), (.d (i64 p1.Guest_.Guess_.V)), (.d (i64 p1.Guest_.From)), (.d (i64 p1.Guest_.Until))]))]⟩) (sb_of ⟨.of rfl, .of rfl, .of rfl, .of rfl, trivial⟩ (sbG_some G_hit (.of rfl) trivial)) ?_
          refine l_reg fun u10 hu10 => ?_
          refine s_val (.d _) rfl rfl ?_
          refine s_val (.d _) rfl rfl ?_
          refine s_val (.d _) rfl rfl ?_
          refine s_nil ?_
          refine l_nil ?_
          obtain rfl := Option.some.inj hz1
          exact ⟨rfl, (), (sb_of ⟨.of rfl, .of rfl, .of rfl, .of rfl, trivial⟩ (sbG_some G_hit (.of rfl) trivial))⟩
        · replace hz1 := cond_f c3 hz1
          refine l_skip ?_
          refine l_end ?_
          refine l_reg fun u11 hu11 => ?_
          refine s_val (.d _) rfl rfl ?_
          refine s_val (.d _) rfl rfl ?_
          refine s_val (.d _) rfl rfl ?_
          refine s_nil ?_
          refine l_nil ?_
          obtain rfl := Option.some.inj hz1
          exact ⟨rfl, (), (sb_of ⟨.of rfl, .of rfl, .of rfl, .of rfl, trivial⟩ (sbG_some G_hit (.of rfl) trivial))⟩
    · replace hz1 := cond_f c1 hz1
      refine l_exitN rfl ?_
      obtain rfl := Option.some.inj hz1
      obtain rfl := ez1 _ rfl
      refine ⟨nofun, awl_pop rfl (l_j ?_)⟩
      exact ⟨(), (sb_of ⟨.of rfl, .of rfl, trivial⟩ trivial)⟩
  · rintro _ ⟨g1, q1⟩
    refine l_sub q1 ?_
    refine l_seq ?_
    refine l_reg fun u12 hu12 => ?_
    refine s_val (.d _) rfl rfl ?_
    refine s_val (.d _) rfl rfl ?_
    refine s_val (.d _) rfl rfl ?_
    refine s_val (.d _) rfl rfl ?_
    refine s_nil ?_
    refine l_ret ?_
    obtain rfl := Option.some.inj h
    refine fin_ok (.inr rfl) (resD2 (res_t rfl) (res_t rfl) rf_d rf_d) ?_
    exact .refl _

noncomputable def ref09_Notes_l1 (p1 : Convoy) (x1 : ((List Note) × Int)) : Option (Stp ((List Note) × Int) (List Note)) :=
  cond (decide (x1.2 < (p1.Mates.length : Int))) (((geti p1.Mates x1.2).bind fun v2 => (ref09_rear v2).bind fun v3 => (appc x1.1 [(Note.mk 1 v2.ID 0 p1.Tick v3 v2.V 0)]).bind fun v4 => (cond (decide ((w64 (x1.2 + 1)) < (p1.Mates.length : Int))) ((geti p1.Mates (w64 (x1.2 + 1))).bind fun v5 => (appc v4 [(Note.mk 4 v2.ID v5.ID p1.Tick v3 v2.V 0)]).bind fun v6 => some v6) (some v4)).bind fun y3 => cond ((v2.Until != 0) && (decide (v2.Until ≥ p1.Tick))) ((appc y3 [(Note.mk 3 v2.ID v2.Ward p1.Tick v3 v2.V v2.Until)]).bind fun v7 => some v7) (some y3)).bind fun y2 => some (.go (y2, (w64 (x1.2 + 1))))) (some (.out x1.1))
noncomputable def ref09_Notes (p1 : Convoy) : Option (List Note) :=
  (ref09_Check p1).bind fun v1 => cond (v1 != 0) (some []) ((loop (ref09_Notes_l1 p1) ([], 0)).bind fun y1 => (ref09_beside p1).bind fun v8 => cond ((p1.Guest_.ID != 0) && (decide (v8.2 ≥ 0))) ((geti p1.Mates v8.2).bind fun v9 => (appc y1 [(Note.mk 2 p1.Guest_.ID v9.ID p1.Tick (w64 (p1.Guest_.S - p1.Guest_.Len)) p1.Guest_.V 0)]).bind fun v10 => some v10) (some y1))

/-- kerbstone/kerbstoneref09.Notes -/
def ac_ref09_Notes : AC :=
  (.seq (.reg [⟨(some 1), .box 38 true (.t 0), none⟩, ⟨(some 2), .mv (.c .nilS), none⟩])
  (.seq (.seq (.reg [⟨(some 12), .load 13 true (.t 1), none⟩, ⟨(some 13), .call (.c (.fn (.func 33) [] [])) [(.t 12)], none⟩, ⟨(some 14), .bin .neq (.t 13) (.c (.v (.int .i64 0))), none⟩])
  (.cond (.t 14)
    (.seq (.reg [⟨(some 2), .mv (.c .nilS), none⟩])
    .ret)
    .skip))
  (.seq (.reg [⟨(some 3), .mv (.c .nilS), none⟩])
  (.seq (.seq (.reg [⟨(some 4), .mv (.c (.v (.int .i64 0))), none⟩])
  (.block 0
    (.loop
      (.seq (.seq (.reg [⟨(some 15), .mv (.t 4), none⟩, ⟨(some 16), .fieldA 2 (.t 1), none⟩, ⟨(some 17), .load 1 false (.t 16), none⟩, ⟨(some 18), .len (.t 17), none⟩, ⟨(some 19), .bin .lss (.t 15) (.t 18), none⟩])
      (.cond (.t 19)
        .skip
        (.exit 0)))
      (.seq (.block 1
        (.seq (.reg [⟨(some 22), .fieldA 2 (.t 1), none⟩, ⟨(some 23), .load 1 false (.t 22), none⟩, ⟨(some 24), .mv (.t 4), none⟩, ⟨(some 25), .idxS 12 (.t 23) (.t 24), none⟩, ⟨(some 26), .load 12 true (.t 25), none⟩, ⟨(some 5), .alloc 65 [(.v (.int .i64 0)), (.v (.int .i64 0)), (.v (.int .i64 0)), (.v (.int .i64 0)), (.v (.int .i64 0)), (.v (.int .i64 0)), (.v (.int .i64 0)), (.v (.bool false)), (.v (.int .i64 0)), (.v (.int .i64 0)), (.v (.int .i64 0)), (.v (.int .i64 0))], none⟩, ⟨none, .store 12 (.t 5) (.t 26), none⟩])
        (.seq (.draw [⟨(some 27), .fieldA 0 (.t 5), none⟩, ⟨(some 28), .load 1 false (.t 27), none⟩, ⟨(some 29), .fieldA 0 (.t 1), none⟩, ⟨(some 30), .load 1 false (.t 29), none⟩, ⟨(some 31), .load 12 true (.t 5), none⟩, ⟨(some 32), .call (.c (.fn (.func 70) [] [])) [(.t 31)], none⟩, ⟨(some 33), .fieldA 2 (.t 5), none⟩, ⟨(some 34), .load 1 false (.t 33), none⟩, ⟨(some 35), .build [(.v (.int .i64 0)), (.v (.int .i64 0)), (.v (.int .i64 0)), (.v (.int .i64 0)), (.v (.int .i64 0)), (.v (.int .i64 0)), (.v (.int .i64 0))] [(1, 1, (.t 28)), (3, 1, (.t 30)), (4, 1, (.t 32)), (5, 1, (.t 34))], none⟩, ⟨(some 6), .alloc 68 [(.v (.int .i64 0)), (.v (.int .i64 0)), (.v (.int .i64 0)), (.v (.int .i64 0)), (.v (.int .i64 0)), (.v (.int .i64 0)), (.v (.int .i64 0))], none⟩, ⟨none, .store 7 (.t 6) (.t 35), none⟩] [])
        (.seq (.draw [⟨(some 36), .load 7 true (.t 6), none⟩, ⟨(some 37), .load 7 true (.t 6), none⟩, ⟨(some 38), .load 7 true (.t 6), none⟩, ⟨(some 7), .alloc 68 [(.v (.int .i64 0)), (.v (.int .i64 0)), (.v (.int .i64 0)), (.v (.int .i64 0)), (.v (.int .i64 0)), (.v (.int .i64 0)), (.v (.int .i64 0))], none⟩, ⟨(some 8), .alloc 68 [(.v (.int .i64 0)), (.v (.int .i64 0)), (.v (.int .i64 0)), (.v (.int .i64 0)), (.v (.int .i64 0)), (.v (.int .i64 0)), (.v (.int .i64 0))], none⟩, ⟨(some 9), .alloc 68 [(.v (.int .i64 0)), (.v (.int .i64 0)), (.v (.int .i64 0)), (.v (.int .i64 0)), (.v (.int .i64 0)), (.v (.int .i64 0)), (.v (.int .i64 0))], none⟩, ⟨none, .store 7 (.t 7) (.t 36), none⟩, ⟨none, .store 7 (.t 8) (.t 37), none⟩, ⟨none, .store 7 (.t 9) (.t 38), none⟩] [(1, 6), (2, 6), (2, 7)])
        (.seq (.reg [⟨(some 39), .fieldA 0 (.t 7), none⟩, ⟨none, .store 1 (.t 39) (.c (.v (.int .i64 1))), none⟩, ⟨(some 40), .fieldA 0 (.t 8), none⟩, ⟨none, .store 1 (.t 40) (.c (.v (.int .i64 4))), none⟩, ⟨(some 41), .fieldA 0 (.t 9), none⟩, ⟨none, .store 1 (.t 41) (.c (.v (.int .i64 3))), none⟩])
        (.seq (.reg [⟨(some 42), .mv (.t 3), none⟩, ⟨(some 43), .load 7 true (.t 7), none⟩, ⟨(some 44), .dslice 68 7 1 [(.v (.int .i64 0)), (.v (.int .i64 0)), (.v (.int .i64 0)), (.v (.int .i64 0)), (.v (.int .i64 0)), (.v (.int .i64 0)), (.v (.int .i64 0))] [(0, 7, (.t 43))], none⟩, ⟨(some 45), .append 57 68 7 (.t 42) (.t 44), none⟩, ⟨(some 3), .mv (.t 45), none⟩])
        (.seq (.seq (.reg [⟨(some 46), .mv (.t 4), none⟩, ⟨(some 47), .bin .add (.t 46) (.c (.v (.int .i64 1))), none⟩, ⟨(some 48), .fieldA 2 (.t 1), none⟩, ⟨(some 49), .load 1 false (.t 48), none⟩, ⟨(some 50), .len (.t 49), none⟩, ⟨(some 51), .bin .lss (.t 47) (.t 50), none⟩])
        (.cond (.t 51)
          (.seq (.reg [⟨(some 52), .fieldA 2 (.t 1), none⟩, ⟨(some 53), .load 1 false (.t 52), none⟩, ⟨(some 54), .mv (.t 4), none⟩, ⟨(some 55), .bin .add (.t 54) (.c (.v (.int .i64 1))), none⟩, ⟨(some 56), .idxS 12 (.t 53) (.t 55), none⟩, ⟨(some 57), .fieldA 0 (.t 56), none⟩, ⟨(some 58), .load 1 false (.t 57), none⟩, ⟨(some 59), .fieldA 2 (.t 8), none⟩, ⟨none, .store 1 (.t 59) (.t 58), none⟩])
          (.reg [⟨(some 60), .mv (.t 3), none⟩, ⟨(some 61), .load 7 true (.t 8), none⟩, ⟨(some 62), .dslice 68 7 1 [(.v (.int .i64 0)), (.v (.int .i64 0)), (.v (.int .i64 0)), (.v (.int .i64 0)), (.v (.int .i64 0)), (.v (.int .i64 0)), (.v (.int .i64 0))] [(0, 7, (.t 61))], none⟩, ⟨(some 63), .append 57 68 7 (.t 60) (.t 62), none⟩, ⟨(some 3), .mv (.t 63), none⟩]))
          .skip))
        (.seq (.reg [⟨(some 64), .fieldA 11 (.t 5), none⟩, ⟨(some 65), .load 1 false (.t 64), none⟩, ⟨(some 66), .bin .neq (.t 65) (.c (.v (.int .i64 0))), none⟩, ⟨(some 67), .mv (.t 66), none⟩, ⟨(some 68), .fieldA 11 (.t 5), (some (67, true))⟩, ⟨(some 69), .load 1 false (.t 68), (some (67, true))⟩, ⟨(some 70), .fieldA 0 (.t 1), (some (67, true))⟩, ⟨(some 71), .load 1 false (.t 70), (some (67, true))⟩, ⟨(some 72), .bin .geq (.t 69) (.t 71), (some (67, true))⟩, ⟨(some 73), .pick (.t 67) (.t 72) (.c (.v (.bool false))), none⟩])
        (.cond (.t 73)
          (.seq (.draw [⟨(some 74), .fieldA 8 (.t 5), none⟩, ⟨(some 75), .load 1 false (.t 74), none⟩, ⟨(some 76), .fieldA 11 (.t 5), none⟩, ⟨(some 77), .load 1 false (.t 76), none⟩, ⟨(some 78), .fieldA 2 (.t 9), none⟩, ⟨none, .store 1 (.t 78) (.t 75), none⟩, ⟨(some 79), .fieldA 6 (.t 9), none⟩, ⟨none, .store 1 (.t 79) (.t 77), none⟩] [(3, 5)])
          (.reg [⟨(some 80), .mv (.t 3), none⟩, ⟨(some 81), .load 7 true (.t 9), none⟩, ⟨(some 82), .dslice 68 7 1 [(.v (.int .i64 0)), (.v (.int .i64 0)), (.v (.int .i64 0)), (.v (.int .i64 0)), (.v (.int .i64 0)), (.v (.int .i64 0)), (.v (.int .i64 0))] [(0, 7, (.t 81))], none⟩, ⟨(some 83), .append 57 68 7 (.t 80) (.t 82), none⟩, ⟨(some 3), .mv (.t 83), none⟩]))
          .skip)))))))))
      (.reg [⟨(some 20), .mv (.t 4), none⟩, ⟨(some 21), .bin .add (.t 20) (.c (.v (.int .i64 1))), none⟩, ⟨(some 4), .mv (.t 21), none⟩]))))))
  (.seq (.reg [⟨(some 85), .load 13 true (.t 1), none⟩, ⟨(some 86), .call (.c (.fn (.func 69) [] [])) [(.t 85)], none⟩, ⟨(some 84), .mv (.t 86), none⟩, ⟨(some 87), .ext (.t 84) 0, none⟩, ⟨(some 88), .ext (.t 84) 1, none⟩, ⟨(some 10), .mv (.t 87), none⟩, ⟨(some 11), .mv (.t 88), none⟩])
  (.seq (.seq (.reg [⟨(some 89), .fieldA 3 (.t 1), none⟩, ⟨(some 90), .fieldA 0 (.t 89), none⟩, ⟨(some 91), .load 1 false (.t 90), none⟩, ⟨(some 92), .bin .neq (.t 91) (.c (.v (.int .i64 0))), none⟩, ⟨(some 93), .mv (.t 92), none⟩, ⟨(some 94), .mv (.t 11), (some (93, true))⟩, ⟨(some 95), .bin .geq (.t 94) (.c (.v (.int .i64 0))), (some (93, true))⟩, ⟨(some 96), .pick (.t 93) (.t 95) (.c (.v (.bool false))), none⟩])
  (.cond (.t 96)
    (.draw [⟨(some 97), .mv (.t 3), none⟩, ⟨(some 98), .fieldA 3 (.t 1), none⟩, ⟨(some 99), .fieldA 0 (.t 98), none⟩, ⟨(some 100), .load 1 false (.t 99), none⟩, ⟨(some 101), .fieldA 2 (.t 1), none⟩, ⟨(some 102), .load 1 false (.t 101), none⟩, ⟨(some 103), .mv (.t 11), none⟩, ⟨(some 104), .idxS 12 (.t 102) (.t 103), none⟩, ⟨(some 105), .fieldA 0 (.t 104), none⟩, ⟨(some 106), .load 1 false (.t 105), none⟩, ⟨(some 107), .fieldA 0 (.t 1), none⟩, ⟨(some 108), .load 1 false (.t 107), none⟩, ⟨(some 109), .fieldA 3 (.t 1), none⟩, ⟨(some 110), .fieldA 1 (.t 109), none⟩, ⟨(some 111), .load 1 false (.t 110), none⟩, ⟨(some 112), .fieldA 3 (.t 1), none⟩, ⟨(some 113), .fieldA 3 (.t 112), none⟩, ⟨(some 114), .load 1 false (.t 113), none⟩, ⟨(some 115), .bin .sub (.t 111) (.t 114), none⟩, ⟨(some 116), .fieldA 3 (.t 1), none⟩, ⟨(some 117), .fieldA 2 (.t 116), none⟩, ⟨(some 118), .load 1 false (.t 117), none⟩, ⟨(some 119), .build [(.v (.int .i64 0)), (.v (.int .i64 0)), (.v (.int .i64 0)), (.v (.int .i64 0)), (.v (.int .i64 0)), (.v (.int .i64 0)), (.v (.int .i64 0))] [(0, 1, (.c (.v (.int .i64 2)))), (1, 1, (.t 100)), (2, 1, (.t 106)), (3, 1, (.t 108)), (4, 1, (.t 115)), (5, 1, (.t 118))], none⟩, ⟨(some 120), .dslice 68 7 1 [(.v (.int .i64 0)), (.v (.int .i64 0)), (.v (.int .i64 0)), (.v (.int .i64 0)), (.v (.int .i64 0)), (.v (.int .i64 0)), (.v (.int .i64 0))] [(0, 7, (.t 119))], none⟩, ⟨(some 121), .append 57 68 7 (.t 97) (.t 120), none⟩, ⟨(some 3), .mv (.t 121), none⟩] [])
    .skip))
  (.seq (.reg [⟨(some 122), .mv (.t 3), none⟩, ⟨(some 2), .mv (.t 122), none⟩])
  .ret)))))))
theorem fn_ref09_Notes : FnOK Try.prog 41 123 [.t 2] ac_ref09_Notes := ⟨_, _, Try.func41, rfl, Try.ntmps41, by kernel_rfl, ⟨fun r => if r == 11 then [1002] else if r == 14 then [1002] else if r == 17 then [1002] else if r == 20 then [1023] else [], by kernel_rfl⟩, by kernel_rfl⟩
set_option maxHeartbeats 4000000 in
theorem ref09_Notes_ok (p1 : Convoy) (r : (List Note)) (h : ref09_Notes p1 = some r) : PCall Try.prog 41 [(.agg [(i64 p1.Tick), (i64 p1.Gap), (.list (List.map eMate p1.Mates)), (i64 p1.Guest_.ID), (i64 p1.Guest_.S), (i64 p1.Guest_.V), (i64 p1.Guest_.Len), (i64 p1.Guest_.End), (i64 p1.Guest_.Ahead), (i64 p1.Guest_.Guess_.R), (i64 p1.Guest_.Guess_.V), (i64 p1.Guest_.From), (i64 p1.Guest_.Until)])] (.list (List.map eNote r)) := by
  refine l_call fn_ref09_Notes (Nat.le_of_ble_eq_true rfl) ?_
  unfold ref09_Notes at h
  unfold ac_ref09_Notes
  refine (l_sub (s0 := ⟨T [(0, (.d (.agg [(i64 p1.Tick), (i64 p1.Gap), (.list (List.map eMate p1.Mates)), (i64 p1.Guest_.ID), (i64 p1.Guest_.S), (i64 p1.Guest_.V), (i64 p1.Guest_.Len), (i64 p1.Guest_.End), (i64 p1.Guest_.Ahead), (i64 p1.Guest_.Guess_.R), (i64 p1.Guest_.Guess_.V), (i64 p1.Guest_.From), (i64 p1.Guest_.Until)])))], G []⟩) (sb_of ⟨.of rfl, trivial⟩ trivial) ?_)
  refine l_seq ?_
  refine l_reg fun u1 hu1 => ?_
  refine s_new (.ptr _ _) (.box _ _) rfl rfl ?_
  refine s_val (.d _) rfl rfl ?_
  refine s_nil ?_
  refine l_seq ?_
  refine l_seq ?_
  refine l_reg fun u2 hu2 => ?_
  refine s_val (.d _) rfl (v_loadG rfl G_hit rfl rfl) ?_
  obtain ⟨v1, hv1, h⟩ := bind_some h
  refine s_call rfl rfl all2_refl (ref09_Check_ok _  _ hv1) (.inl rfl) ?_
  refine s_val (.d _) rfl rfl ?_
  refine s_nil ?_
  refine l_cond (v1 != 0) rfl (fun c1 => ?_) (fun c1 => ?_)
  · replace h := cond_t c1 h
    refine l_seq ?_
    refine l_reg fun u3 hu3 => ?_
    refine s_val (.d _) rfl rfl ?_
    refine s_nil ?_
    refine l_ret ?_
    obtain rfl := Option.some.inj h
    refine fin_ok (.inr rfl) (resD1 (res_t rfl) rf_d) ?_
    exact DLe.nil
  · replace h := cond_f c1 h
    refine l_skip ?_
    refine l_seq ?_
    refine l_reg fun u4 hu4 => ?_
    refine s_val (.d _) rfl rfl ?_
    refine s_nil ?_
    refine l_seq ?_
    refine l_seq ?_
    refine l_reg fun u5 hu5 => ?_
    refine s_val (.d _) rfl rfl ?_
    refine s_nil ?_
    obtain ⟨y1, hy1, h⟩ := bind_some h
    refine l_join (fun s => ∃ g1 : ({d : Nat // d ∈ [45, 63, 83]} × Nat), Sb ⟨T [(1, (.ptr (1, u1) 0)), (3, (oS y1 (g1.1.val, g1.2)))], G [((1, u1), some (.box 38 [(.d (i64 p1.Tick)), (.d (i64 p1.Gap)), (.d (.list (List.map eMate p1.Mates))), (.d (i64 p1.Guest_.ID)), (.d (i64 p1.Guest_.S)), (.d (i64 p1.Guest_.V)), (.d (i64 p1.Guest_.Len)), (.d (i64 p1.Guest_.End)), (.d (i64 p1.Guest_.Ahead)), (.d (i64 p1.Guest_.Guess_.R)), (.d (i64 p1.Guest_.Guess_.V)), (.d (i64 p1.Guest_.From)), (.d (i64 p1.Guest_.Until))])), ((g1.1.val, g1.2), oB 68 7 eNote y1)]⟩ s) ?_ ?_
    · skip
      refine l_block ?_
      refine l_loop (ref09_Notes_l1 p1) (fun (x1 : ((List Note) × Int)) (g2 : ({d : Nat // d ∈ [45, 63, 83]} × Nat)) => ⟨T [(1, (.ptr (1, u1) 0)), (3, (oS x1.1 (g2.1.val, g2.2))), (4, (.d (i64 x1.2)))], G [((1, u1), some (.box 38 [(.d (i64 p1.Tick)), (.d (i64 p1.Gap)), (.d (.list (List.map eMate p1.Mates))), (.d (i64 p1.Guest_.ID)), (.d (i64 p1.Guest_.S)), (.d (i64 p1.Guest_.V)), (.d (i64 p1.Guest_.Len)), (.d (i64 p1.Guest_.End)), (.d (i64 p1.Guest_.Ahead)), (.d (i64 p1.Guest_.Guess_.R)), (.d (i64 p1.Guest_.Guess_.V)), (.d (i64 p1.Guest_.From)), (.d (i64 p1.Guest_.Until))])), ((g2.1.val, g2.2), oB 68 7 eNote x1.1)]⟩) ([], 0) (⟨45, .head _⟩, 0) _ hy1 (sb_of ⟨.of rfl, .of rfl, .of rfl, trivial⟩ (sbG_some G_hit (.of rfl) (sbG_nil trivial))) ?_
      intro x1 g2 z1 hz1 ez1
      unfold ref09_Notes_l1 at hz1
      refine l_seq ?_
      refine l_seq ?_
      refine l_reg fun u6 hu6 => ?_
      refine s_val (.d _) rfl rfl ?_
      refine s_val (.ptr _ _) rfl rfl ?_
      refine s_val (.d _) rfl (v_load rfl G_hit rfl) ?_
      refine s_val (.d _) rfl (v_len rfl) ?_
      refine s_val (.d _) rfl rfl ?_
      refine s_nil ?_
      refine l_cond (decide (x1.2 < (p1.Mates.length : Int))) rfl (fun c2 => ?_) (fun c2 => ?_)
      · replace hz1 := cond_t c2 hz1
        refine l_skip ?_
        refine l_seq ?_
        obtain ⟨y2, hy2, hz1⟩ := bind_some hz1
        refine l_join (fun s => ∃ g3 : ({d : Nat // d ∈ [45, 63, 83]} × Nat), Sb ⟨T [(1, (.ptr (1, u1) 0)), (3, (oS y2 (g3.1.val, g3.2))), (4, (.d (i64 x1.2)))], G [((1, u1), some (.box 38 [(.d (i64 p1.Tick)), (.d (i64 p1.Gap)), (.d (.list (List.map eMate p1.Mates))), (.d (i64 p1.Guest_.ID)), (.d (i64 p1.Guest_.S)), (.d (i64 p1.Guest_.V)), (.d (i64 p1.Guest_.Len)), (.d (i64 p1.Guest_.End)), (.d (i64 p1.Guest_.Ahead)), (.d (i64 p1.Guest_.Guess_.R)), (.d (i64 p1.Guest_.Guess_.V)), (.d (i64 p1.Guest_.From)), (.d (i64 p1.Guest_.Until))])), ((g3.1.val, g3.2), oB 68 7 eNote y2)]⟩ s) ?_ ?_
        · skip
          refine l_block ?_
          refine l_seq ?_
          refine l_reg fun u7 hu7 => ?_
          refine s_val (.ptr _ _) rfl rfl ?_
          refine s_val (.d _) rfl (v_load rfl G_hit rfl) ?_
          refine s_val (.d _) rfl rfl ?_
          obtain ⟨v2, hv2, hy2⟩ := bind_some hy2
          refine s_val (.d _) rfl (v_idx rfl rfl hv2 rfl) ?_
          refine s_val (.d _) rfl (v_loadLG rfl hv2 rfl rfl) ?_
          refine s_new (.ptr _ _) (.box _ _) rfl rfl ?_
          refine s_store _ _ _ _ _ rfl rfl rfl G_hit (Nat.le_of_ble_eq_true rfl) [(.d (i64 v2.ID)), (.d (i64 v2.S)), (.d (i64 v2.V)), (.d (i64 v2.Len)), (.d (i64 v2.Ahead)), (.d (i64 v2.Guess_.R)), (.d (i64 v2.Guess_.V)), (.d (bo v2.Trust)), (.d (i64 v2.Ward)), (.d (i64 v2.WardGuess.R)), (.d (i64 v2.WardGuess.V)), (.d (i64 v2.Until))] rfl ?_
          refine s_nil ?_
          refine l_seq ?_
          refine l_draw rfl fun u8 hu8 => ?_
          refine s_val (.ptr _ _) rfl rfl ?_
          refine s_val (.d _) rfl (v_load rfl G_hit rfl) ?_
          refine s_val (.ptr _ _) rfl rfl ?_
          refine s_val (.d _) rfl (v_load rfl (G_skip rfl (G_skip rfl G_hit)) rfl) ?_
          refine s_val (.d _) rfl (v_loadG rfl G_hit rfl rfl) ?_
          obtain ⟨v3, hv3, hy2⟩ := bind_some hy2
          refine s_call rfl rfl all2_refl (ref09_rear_ok _  _ hv3) (.inl rfl) ?_
          refine s_val (.ptr _ _) rfl rfl ?_
          refine s_val (.d _) rfl (v_load rfl G_hit rfl) ?_
          refine s_val (.d _) rfl rfl ?_
          refine s_new (.ptr _ _) (.box _ _) rfl rfl ?_
          refine s_store _ _ _ _ _ rfl rfl rfl G_hit (Nat.le_of_ble_eq_true rfl) [(.d (i64 0)), (.d (i64 v2.ID)), (.d (i64 0)), (.d (i64 p1.Tick)), (.d (i64 v3)), (.d (i64 v2.V)), (.d (i64 0))] rfl ?_
          refine s_nil ?_
          refine l_seq ?_
          refine l_sub (s0 := ⟨T [(1, (.ptr (1, u1) 0)), (3, (oS x1.1 (g2.1.val, g2.2))), (4, (.d (i64 x1.2))), (5, (.ptr (5, u7) 0)), (6, (.ptr (6, u8) 0))], G [((1, u1), some (.box 38 [(.d (i64 p1.Tick)), (.d (i64 p1.Gap)), (.d (.list (List.map eMate p1.Mates))), (.d (i64 p1.Guest_.ID)), (.d (i64 p1.Guest_.S)), (.d (i64 p1.Guest_.V)), (.d (i64 p1.Guest_.Len)), (.d (i64 p1.Guest_.End)), (.d (i64 p1.Guest_.Ahead)), (.d (i64 p1.Guest_.Guess_.R)), (.d (i64 p1.Guest_.Guess_.V)), (.d (i64 p1.Guest_.From)), (.d (i64 p1.Guest_.Until))])), ((g2.1.val, g2.2), oB 68 7 eNote x1.1), ((5, u7), some (.box 65 [(.d (i64 v2.ID)), (.d (i64 v2.S)), (.d (i64 v2.V)), (.d (i64 v2.Len)), (.d (i64 v2.Ahead)), (.d (i64 v2.Guess_.R)), (.d (i64 v2.Guess_.V)), (.d (bo v2.Trust)), (.d (i64 v2.Ward)), (.d (i64 v2.WardGuess.R)), (.d (i64 v2.WardGuess.V)), (.d (i64 v2.Until))])), ((6, u8), some (.box 68 [(.d (i64 0)), (.d (i64 v2.ID)), (.d (i64 0)), (.d (i64 p1.Tick)), (.d (i64 v3)), (.d (i64 v2.V)), (.d (i64 0))]))]⟩) (sb_of ⟨.of rfl, .of rfl, .of rfl, .of rfl, .of rfl, trivial⟩ (sbG_some (G_skip rfl (G_skip rfl (G_skip rfl (G_skip rfl G_hit)))) (.of rfl) (sbG_oB (G_skip (neL g2.1.property rfl) (G_skip (neL g2.1.property rfl) (G_skip (neL g2.1.property rfl) (G_skip (neL g2.1.property rfl) (G_skip (neL g2.1.property rfl) G_hit))))) (sbG_some (G_skip rfl (G_skip rfl G_hit)) (.of rfl) (sbG_some G_hit (.of rfl) trivial))))) ?_
          refine l_drawT fun u9 hu9 => ?_
          refine t_val (.d _) rfl (v_loadG rfl (G_skip rfl (G_skip (neR g2.1.property rfl) (G_skip rfl G_hit))) rfl rfl) ?_
          refine t_val (.d _) rfl (v_loadG rfl (G_skip rfl (G_skip (neR g2.1.property rfl) (G_skip rfl G_hit))) rfl rfl) ?_
          refine t_val (.d _) rfl (v_loadG rfl (G_skip rfl (G_skip (neR g2.1.property rfl) (G_skip rfl G_hit))) rfl rfl) ?_
          refine t_new (.ptr _ _) (.box _ _) rfl rfl ?_
          refine t_new (.ptr _ _) (.box _ _) rfl rfl ?_
          refine t_new (.ptr _ _) (.box _ _) rfl rfl ?_
          refine t_store _ _ _ _ _ rfl rfl rfl (G_skip rfl (G_skip rfl G_hit)) (Nat.le_of_ble_eq_true rfl) [(.d (i64 0)), (.d (i64 v2.ID)), (.d (i64 0)), (.d (i64 p1.Tick)), (.d (i64 v3)), (.d (i64 v2.V)), (.d (i64 0))] rfl ?_
          refine t_store _ _ _ _ _ rfl rfl rfl (G_skip rfl (G_skip rfl G_hit)) (Nat.le_of_ble_eq_true rfl) [(.d (i64 0)), (.d (i64 v2.ID)), (.d (i64 0)), (.d (i64 p1.Tick)), (.d (i64 v3)), (.d (i64 v2.V)), (.d (i64 0))] rfl ?_
          refine t_store _ _ _ _ _ rfl rfl rfl (G_skip rfl (G_skip rfl G_hit)) (Nat.le_of_ble_eq_true rfl) [(.d (i64 0)), (.d (i64 v2.ID)), (.d (i64 0)), (.d (i64 p1.Tick)), (.d (i64 v3)), (.d (i64 v2.V)), (.d (i64 0))] rfl ?_
          refine t_nil ⟨rfl, ?_⟩
          refine l_seq ?_
          refine l_reg fun u10 hu10 => ?_
          refine s_val (.ptr _ _) rfl rfl ?_
          refine s_store _ _ _ _ _ rfl rfl rfl (G_skip rfl (G_skip rfl G_hit)) (Nat.le_of_ble_eq_true rfl) [(.d (i64 1)), (.d (i64 v2.ID)), (.d (i64 0)), (.d (i64 p1.Tick)), (.d (i64 v3)), (.d (i64 v2.V)), (.d (i64 0))] rfl ?_
          refine s_val (.ptr _ _) rfl rfl ?_
          refine s_store _ _ _ _ _ rfl rfl rfl (G_skip rfl (G_skip rfl G_hit)) (Nat.le_of_ble_eq_true rfl) [(.d (i64 4)), (.d (i64 v2.ID)), (.d (i64 0)), (.d (i64 p1.Tick)), (.d (i64 v3)), (.d (i64 v2.V)), (.d (i64 0))] rfl ?_
          refine s_val (.ptr _ _) rfl rfl ?_
          refine s_store _ _ _ _ _ rfl rfl rfl (G_skip rfl (G_skip rfl G_hit)) (Nat.le_of_ble_eq_true rfl) [(.d (i64 3)), (.d (i64 v2.ID)), (.d (i64 0)), (.d (i64 p1.Tick)), (.d (i64 v3)), (.d (i64 v2.V)), (.d (i64 0))] rfl ?_
          refine s_nil ?_
          refine l_seq ?_
          refine l_sub (s0 := ⟨T [(1, (.ptr (1, u1) 0)), (3, (oS x1.1 (g2.1.val, g2.2))), (4, (.d (i64 x1.2))), (5, (.ptr (5, u7) 0)), (7, (.ptr (7, u9) 0)), (8, (.ptr (8, u9) 0)), (9, (.ptr (9, u9) 0))], G [((1, u1), some (.box 38 [(.d (i64 p1.Tick)), (.d (i64 p1.Gap)), (.d (.list (List.map eMate p1.Mates))), (.d (i64 p1.Guest_.ID)), (.d (i64 p1.Guest_.S)), (.d (i64 p1.Guest_.V)), (.d (i64 p1.Guest_.Len)), (.d (i64 p1.Guest_.End)), (.d (i64 p1.Guest_.Ahead)), (.d (i64 p1.Guest_.Guess_.R)), (.d (i64 p1.Guest_.Guess_.V)), (.d (i64 p1.Guest_.From)), (.d (i64 p1.Guest_.Until))])), ((g2.1.val, g2.2), oB 68 7 eNote x1.1), ((5, u7), some (.box 65 [(.d (i64 v2.ID)), (.d (i64 v2.S)), (.d (i64 v2.V)), (.d (i64 v2.Len)), (.d (i64 v2.Ahead)), (.d (i64 v2.Guess_.R)), (.d (i64 v2.Guess_.V)), (.d (bo v2.Trust)), (.d (i64 v2.Ward)), (.d (i64 v2.WardGuess.R)), (.d (i64 v2.WardGuess.V)), (.d (i64 v2.Until))])), ((7, u9), some (.box 68 [(.d (i64 1)), (.d (i64 v2.ID)), (.d (i64 0)), (.d (i64 p1.Tick)), (.d (i64 v3)), (.d (i64 v2.V)), (.d (i64 0))])), ((8, u9), some (.box 68 [(.d (i64 4)), (.d (i64 v2.ID)), (.d (i64 0)), (.d (i64 p1.Tick)), (.d (i64 v3)), (.d (i64 v2.V)), (.d (i64 0))])), ((9, u9), some (.box 68 [(.d (i64 3)), (.d (i64 v2.ID)), (.d (i64 0)), (.d (i64 p1.Tick)), (.d (i64 v3)), (.d (i64 v2.V)), (.d (i64 0))]))]⟩) (sb_of ⟨.of rfl, .of rfl, .of rfl, .of rfl, .of rfl, .of rfl, .of rfl, trivial⟩ (sbG_some (G_skip rfl (G_skip rfl (G_skip rfl (G_skip rfl (G_skip rfl (G_skip rfl (G_skip rfl (G_skip rfl (G_skip rfl G_hit))))))))) (.of rfl) (sbG_oB (G_skip (neL g2.1.property rfl) (G_skip (neL g2.1.property rfl) (G_skip (neL g2.1.property rfl) (G_skip (neL g2.1.property rfl) (G_skip (neL g2.1.property rfl) (G_skip (neL g2.1.property rfl) (G_skip (neL g2.1.property rfl) (G_skip (neL g2.1.property rfl) (G_skip (neL g2.1.property rfl) (G_skip (neL g2.1.property rfl) G_hit)))))))))) (sbG_some (G_skip rfl (G_skip rfl (G_skip rfl (G_skip rfl (G_skip rfl (G_skip rfl (G_skip rfl (G_skip rfl (G_skip rfl (G_skip rfl (G_skip (neR g2.1.property rfl) G_hit))))))))))) (.of rfl) (sbG_some (G_skip rfl (G_skip rfl G_hit)) (.of rfl) (sbG_some (G_skip rfl G_hit) (.of rfl) (sbG_some G_hit (.of rfl) trivial))))))) ?_
          refine l_reg fun u11 hu11 => ?_
          refine s_val (oS x1.1 (g2.1.val, g2.2)) rfl rfl ?_
          refine s_val (.d _) rfl (v_loadG rfl (G_skip rfl (G_skip (neR g2.1.property rfl) (G_skip rfl G_hit))) rfl rfl) ?_
          refine s_val (.d (.list (List.map eNote [(Note.mk 1 v2.ID 0 p1.Tick v3 v2.V 0)]))) rfl rfl ?_
          obtain ⟨v4, hv4, hy2⟩ := bind_some hy2
          refine s_appendO eNote (g2.1.val, g2.2) x1.1 (Note.mk 1 v2.ID 0 p1.Tick v3 v2.V 0) [] _ (elems_list (fun _ => rfl)) rfl (G_skip (neL g2.1.property rfl) G_hit) hv4 ?_
          refine s_val (.sl _) rfl rfl ?_
          refine s_nil ?_
          refine l_seq ?_
          refine l_seq ?_
          refine l_reg fun u12 hu12 => ?_
          refine s_val (.d _) rfl rfl ?_
          refine s_val (.d _) rfl rfl ?_
          refine s_val (.ptr _ _) rfl rfl ?_
          refine s_val (.d _) rfl (v_load rfl (G_skip rfl (G_skip (neR g2.1.property rfl) G_hit)) rfl) ?_
          refine s_val (.d _) rfl (v_len rfl) ?_
          refine s_val (.d _) rfl rfl ?_
          refine s_nil ?_
          obtain ⟨y3, hy3, hy2⟩ := bind_some hy2
          refine l_join (fun s => ∃ g4 : ({d : Nat // d ∈ [45, 63]} × Nat), Sb ⟨T [(1, (.ptr (1, u1) 0)), (3, (oS y3 (g4.1.val, g4.2))), (4, (.d (i64 x1.2))), (5, (.ptr (5, u7) 0)), (9, (.ptr (9, u9) 0))], G [((1, u1), some (.box 38 [(.d (i64 p1.Tick)), (.d (i64 p1.Gap)), (.d (.list (List.map eMate p1.Mates))), (.d (i64 p1.Guest_.ID)), (.d (i64 p1.Guest_.S)), (.d (i64 p1.Guest_.V)), (.d (i64 p1.Guest_.Len)), (.d (i64 p1.Guest_.End)), (.d (i64 p1.Guest_.Ahead)), (.d (i64 p1.Guest_.Guess_.R)), (.d (i64 p1.Guest_.Guess_.V)), (.d (i64 p1.Guest_.From)), (.d (i64 p1.Guest_.Until))])), ((5, u7), some (.box 65 [(.d (i64 v2.ID)), (.d (i64 v2.S)), (.d (i64 v2.V)), (.d (i64 v2.Len)), (.d (i64 v2.Ahead)), (.d (i64 v2.Guess_.R)), (.d (i64 v2.Guess_.V)), (.d (bo v2.Trust)), (.d (i64 v2.Ward)), (.d (i64 v2.WardGuess.R)), (.d (i64 v2.WardGuess.V)), (.d (i64 v2.Until))])), ((9, u9), some (.box 68 [(.d (i64 3)), (.d (i64 v2.ID)), (.d (i64 0)), (.d (i64 p1.Tick)), (.d (i64 v3)), (.d (i64 v2.V)), (.d (i64 0))])), ((g4.1.val, g4.2), oB 68 7 eNote y3)]⟩ s) ?_ ?_
          · skip
            refine l_cond (decide ((w64 (x1.2 + 1)) < (p1.Mates.length : Int))) rfl (fun c3 => ?_) (fun c3 => ?_)
            · replace hy3 := cond_t c3 hy3
              refine l_seq ?_
              refine l_sub (s0 := ⟨T [(1, (.ptr (1, u1) 0)), (3, (.sl (45, u11))), (4, (.d (i64 x1.2))), (5, (.ptr (5, u7) 0)), (8, (.ptr (8, u9) 0)), (9, (.ptr (9, u9) 0))], G [((1, u1), some (.box 38 [(.d (i64 p1.Tick)), (.d (i64 p1.Gap)), (.d (.list (List.map eMate p1.Mates))), (.d (i64 p1.Guest_.ID)), (.d (i64 p1.Guest_.S)), (.d (i64 p1.Guest_.V)), (.d (i64 p1.Guest_.Len)), (.d (i64 p1.Guest_.End)), (.d (i64 p1.Guest_.Ahead)), (.d (i64 p1.Guest_.Guess_.R)), (.d (i64 p1.Guest_.Guess_.V)), (.d (i64 p1.Guest_.From)), (.d (i64 p1.Guest_.Until))])), ((45, u11), some (.arr 68 7 (List.map eNote v4))), ((5, u7), some (.box 65 [(.d (i64 v2.ID)), (.d (i64 v2.S)), (.d (i64 v2.V)), (.d (i64 v2.Len)), (.d (i64 v2.Ahead)), (.d (i64 v2.Guess_.R)), (.d (i64 v2.Guess_.V)), (.d (bo v2.Trust)), (.d (i64 v2.Ward)), (.d (i64 v2.WardGuess.R)), (.d (i64 v2.WardGuess.V)), (.d (i64 v2.Until))])), ((8, u9), some (.box 68 [(.d (i64 4)), (.d (i64 v2.ID)), (.d (i64 0)), (.d (i64 p1.Tick)), (.d (i64 v3)), (.d (i64 v2.V)), (.d (i64 0))])), ((9, u9), some (.box 68 [(.d (i64 3)), (.d (i64 v2.ID)), (.d (i64 0)), (.d (i64 p1.Tick)), (.d (i64 v3)), (.d (i64 v2.V)), (.d (i64 0))]))]⟩) (sb_of ⟨.of rfl, .of rfl, .of rfl, .of rfl, .of rfl, .of rfl, trivial⟩ (sbG_some (G_skip rfl (G_skip (neR g2.1.property rfl) G_hit)) (.of rfl) (sbG_some G_hit (.of rfl) (sbG_some (G_skip rfl (G_skip (neR g2.1.property rfl) (G_skip rfl (G_skip (neR g2.1.property rfl) G_hit)))) (.of rfl) (sbG_some (G_skip rfl (G_skip (neR g2.1.property rfl) (G_skip rfl (G_skip (neR g2.1.property rfl) (G_skip rfl (G_skip rfl G_hit)))))) (.of rfl) (sbG_some (G_skip rfl (G_skip (neR g2.1.property rfl) (G_skip rfl (G_skip (neR g2.1.property rfl) (G_skip rfl (G_skip rfl (G_skip rfl G_hit))))))) (.of rfl) trivial)))))) ?_
              refine l_reg fun u13 hu13 => ?_
              refine s_val (.ptr _ _) rfl rfl ?_
              refine s_val (.d _) rfl (v_load rfl G_hit rfl) ?_
              refine s_val (.d _) rfl rfl ?_
              refine s_val (.d _) rfl rfl ?_
              obtain ⟨v5, hv5, hy3⟩ := bind_some hy3
              refine s_val (.d _) rfl (v_idx rfl rfl hv5 rfl) ?_
              refine s_val (.d _) rfl rfl ?_
              refine s_val (.d _) rfl (v_loadL rfl hv5 rfl) ?_
              refine s_val (.ptr _ _) rfl rfl ?_
              refine s_store _ _ _ _ _ rfl rfl rfl (G_skip rfl (G_skip rfl (G_skip rfl G_hit))) (Nat.le_of_ble_eq_true rfl) [(.d (i64 4)), (.d (i64 v2.ID)), (.d (i64 v5.ID)), (.d (i64 p1.Tick)), (.d (i64 v3)), (.d (i64 v2.V)), (.d (i64 0))] rfl ?_
              refine s_nil ?_
              refine l_reg fun u14 hu14 => ?_
              refine s_val (.sl _) rfl rfl ?_
              refine s_val (.d _) rfl (v_loadG rfl G_hit rfl rfl) ?_
              refine s_val (.d (.list (List.map eNote [(Note.mk 4 v2.ID v5.ID p1.Tick v3 v2.V 0)]))) rfl rfl ?_
              obtain ⟨v6, hv6, hy3⟩ := bind_some hy3
              refine s_append eNote _ _ _ _ (elems_list (fun _ => rfl)) rfl (G_skip rfl (G_skip rfl G_hit)) hv6 ?_
              refine s_val (.sl _) rfl rfl ?_
              refine s_nil ?_
              obtain rfl := Option.some.inj hy3
              exact l_j ⟨(⟨63, .tail _ (.head _)⟩, u14), (sb_of ⟨.of rfl, (.of (oS_ne (appc_ne hv6)).symm), .of rfl, .of rfl, .of rfl, trivial⟩ (sbG_some (G_skip rfl (G_skip rfl (G_skip rfl G_hit))) (.of rfl) (sbG_some (G_skip rfl (G_skip rfl (G_skip rfl (G_skip rfl (G_skip rfl G_hit))))) (.of rfl) (sbG_some (G_skip rfl (G_skip rfl (G_skip rfl (G_skip rfl (G_skip rfl (G_skip rfl (G_skip rfl G_hit))))))) (.of rfl) (sbG_own G_hit trivial)))))⟩
            · replace hy3 := cond_f c3 hy3
              refine l_skip ?_
              obtain rfl := Option.some.inj hy3
              exact l_j ⟨(⟨45, .head _⟩, u11), (sb_of ⟨.of rfl, (.of (oS_ne (appc_ne hv4)).symm), .of rfl, .of rfl, .of rfl, trivial⟩ (sbG_some (G_skip rfl (G_skip (neR g2.1.property rfl) G_hit)) (.of rfl) (sbG_some (G_skip rfl (G_skip (neR g2.1.property rfl) (G_skip rfl (G_skip (neR g2.1.property rfl) G_hit)))) (.of rfl) (sbG_some (G_skip rfl (G_skip (neR g2.1.property rfl) (G_skip rfl (G_skip (neR g2.1.property rfl) (G_skip rfl (G_skip rfl (G_skip rfl G_hit))))))) (.of rfl) (sbG_own G_hit trivial)))))⟩
          · rintro _ ⟨g4, q1⟩
            refine l_sub q1 ?_
            refine l_seq ?_
            refine l_reg fun u15 hu15 => ?_
            refine s_val (.ptr _ _) rfl rfl ?_
            refine s_val (.d _) rfl (v_load rfl (G_skip rfl G_hit) rfl) ?_
            refine s_val (.d _) rfl rfl ?_
            refine s_val (.d _) rfl rfl ?_
            refine g_val (v2.Until != 0) (.ptr _ _) rfl (gw_t rfl) (fun w1 => rfl) ?_
            refine g_val (v2.Until != 0) (.d _) rfl (gw_t rfl) (fun w2 => (v_load (gd_pos w2) (G_skip rfl G_hit) rfl)) ?_
            refine g_val (v2.Until != 0) (.ptr _ _) rfl (gw_t rfl) (fun w3 => rfl) ?_
            refine g_val (v2.Until != 0) (.d _) rfl (gw_t rfl) (fun w4 => (v_load (gd_pos w4) G_hit rfl)) ?_
            refine g_val (v2.Until != 0) (.d _) rfl (gw_t rfl) (fun w5 => (v_bin (gd_pos w5) (gd_pos w5) rfl)) ?_
            refine s_val (.d _) rfl (v_and rfl (fun hc => gd_pos hc) rfl) ?_
            refine s_nil ?_
            refine l_cond ((v2.Until != 0) && (decide (v2.Until ≥ p1.Tick))) rfl (fun c4 => ?_) (fun c4 => ?_)
            · replace hy2 := cond_t c4 hy2
              refine l_seq ?_
              refine l_drawT fun u16 hu16 => ?_
              refine t_val (.ptr _ _) rfl rfl ?_
              refine t_val (.d _) rfl (v_load rfl (G_skip rfl G_hit) rfl) ?_
              refine t_val (.ptr _ _) rfl rfl ?_
              refine t_val (.d _) rfl (v_load rfl (G_skip rfl G_hit) rfl) ?_
              refine t_val (.ptr _ _) rfl rfl ?_
              refine t_store _ _ _ _ _ rfl rfl rfl (G_skip rfl (G_skip rfl G_hit)) (Nat.le_of_ble_eq_true rfl) [(.d (i64 3)), (.d (i64 v2.ID)), (.d (i64 v2.Ward)), (.d (i64 p1.Tick)), (.d (i64 v3)), (.d (i64 v2.V)), (.d (i64 0))] rfl ?_
              refine t_val (.ptr _ _) rfl rfl ?_
              refine t_store _ _ _ _ _ rfl rfl rfl G_hit (Nat.le_of_ble_eq_true rfl) [(.d (i64 3)), (.d (i64 v2.ID)), (.d (i64 v2.Ward)), (.d (i64 p1.Tick)), (.d (i64 v3)), (.d (i64 v2.V)), (.d (i64 v2.Until))] rfl ?_
              refine t_nil ⟨rfl, ?_⟩
              refine l_sub (s0 := ⟨T [(1, (.ptr (1, u1) 0)), (3, (oS y3 (g4.1.val, g4.2))), (4, (.d (i64 x1.2))), (9, (.ptr (9, u9) 0)), (68, (gd (v2.Until != 0) true (.ptr (5, u7) 11))), (69, (gd (v2.Until != 0) true (.d (i64 v2.Until)))), (70, (gd (v2.Until != 0) true (.ptr (1, u1) 0))), (71, (gd (v2.Until != 0) true (.d (i64 p1.Tick)))), (72, (gd (v2.Until != 0) true (.d (bo (decide (v2.Until ≥ p1.Tick))))))], G [((1, u1), some (.box 38 [(.d (i64 p1.Tick)), (.d (i64 p1.Gap)), (.d (.list (List.map eMate p1.Mates))), (.d (i64 p1.Guest_.ID)), (.d (i64 p1.Guest_.S)), (.d (i64 p1.Guest_.V)), (.d (i64 p1.Guest_.Len)), (.d (i64 p1.Guest_.End)), (.d (i64 p1.Guest_.Ahead)), (.d (i64 p1.Guest_.Guess_.R)), (.d (i64 p1.Guest_.Guess_.V)), (.d (i64 p1.Guest_.From)), (.d (i64 p1.Guest_.Until))])), ((g4.1.val, g4.2), oB 68 7 eNote y3), ((9, u9), some (.box 68 [(.d (i64 3)), (.d (i64 v2.ID)), (.d (i64 v2.Ward)), (.d (i64 p1.Tick)), (.d (i64 v3)), (.d (i64 v2.V)), (.d (i64 v2.Until))])), ((5, u7), some (.box 65 [(.d (i64 v2.ID)), (.d (i64 v2.S)), (.d (i64 v2.V)), (.d (i64 v2.Len)), (.d (i64 v2.Ahead)), (.d (i64 v2.Guess_.R)), (.d (i64 v2.Guess_.V)), (.d (bo v2.Trust)), (.d (i64 v2.Ward)), (.d (i64 v2.WardGuess.R)), (.d (i64 v2.WardGuess.V)), (.d (i64 v2.Until))]))]⟩) (sb_of ⟨.of rfl, .of rfl, .of rfl, .of rfl, .of rfl, .of rfl, .of rfl, .of rfl, .of rfl, trivial⟩ (sbG_some (G_skip rfl (G_skip rfl G_hit)) (.of rfl) (sbG_oB (G_skip (neL g4.1.property rfl) (G_skip (neL g4.1.property rfl) (G_skip (neL g4.1.property rfl) (G_skip (neL g4.1.property rfl) (G_skip (neL g4.1.property rfl) G_hit))))) (sbG_some G_hit (.of rfl) (sbG_some (G_skip rfl (G_skip rfl (G_skip rfl G_hit))) (.of rfl) trivial))))) ?_
              refine l_reg fun u17 hu17 => ?_
              refine s_val (oS y3 (g4.1.val, g4.2)) rfl rfl ?_
              refine s_val (.d _) rfl (v_loadG rfl (G_skip rfl (G_skip (neR g4.1.property rfl) G_hit)) rfl rfl) ?_
              refine s_val (.d (.list (List.map eNote [(Note.mk 3 v2.ID v2.Ward p1.Tick v3 v2.V v2.Until)]))) rfl rfl ?_
              obtain ⟨v7, hv7, hy2⟩ := bind_some hy2
              refine s_appendO eNote (g4.1.val, g4.2) y3 (Note.mk 3 v2.ID v2.Ward p1.Tick v3 v2.V v2.Until) [] _ (elems_list (fun _ => rfl)) rfl (G_skip (neL g4.1.property rfl) G_hit) hv7 ?_
              refine s_val (.sl _) rfl rfl ?_
              refine s_nil ?_
              refine l_end ?_
              obtain rfl := Option.some.inj hy2
              exact l_j ⟨(⟨83, .tail _ (.tail _ (.head _))⟩, u17), (sb_of ⟨.of rfl, (.of (oS_ne (appc_ne hv7)).symm), .of rfl, trivial⟩ (sbG_some (G_skip rfl (G_skip (neR g4.1.property rfl) G_hit)) (.of rfl) (sbG_own G_hit trivial)))⟩
            · replace hy2 := cond_f c4 hy2
              refine l_skip ?_
              refine l_end ?_
              obtain rfl := Option.some.inj hy2
              exact l_j ⟨(⟨g4.1.val, memL g4.1.property rfl⟩, g4.2), (sb_of ⟨.of rfl, .of rfl, .of rfl, trivial⟩ (sbG_some G_hit (.of rfl) (sbG_oB (G_skip (neL g4.1.property rfl) (G_skip (neL g4.1.property rfl) (G_skip (neL g4.1.property rfl) G_hit))) trivial)))⟩
        · rintro _ ⟨g3, q2⟩
          refine l_sub q2 ?_
          refine l_reg fun u18 hu18 => ?_
          refine s_val (.d _) rfl rfl ?_
          refine s_val (.d _) rfl rfl ?_
          refine s_val (.d _) rfl rfl ?_
          refine s_nil ?_
          refine l_nil ?_
          obtain rfl := Option.some.inj hz1
          exact ⟨rfl, (g3.1, g3.2), (sb_of ⟨.of rfl, .of rfl, .of rfl, trivial⟩ (sbG_some G_hit (.of rfl) (sbG_oB (G_skip (neL g3.1.property rfl) G_hit) trivial)))⟩
      · replace hz1 := cond_f c2 hz1
        refine l_exitN rfl ?_
        obtain rfl := Option.some.inj hz1
        obtain rfl := ez1 _ rfl
        refine ⟨nofun, awl_pop rfl (l_j ?_)⟩
        exact ⟨(g2.1, g2.2), (sb_of ⟨.of rfl, .of rfl, trivial⟩ (sbG_some G_hit (.of rfl) (sbG_oB (G_skip (neL g2.1.property rfl) G_hit) trivial)))⟩
    · rintro _ ⟨g1, q3⟩
      refine l_sub q3 ?_
      refine l_seq ?_
      refine l_reg fun u19 hu19 => ?_
      refine s_val (.d _) rfl (v_loadG rfl G_hit rfl rfl) ?_
      obtain ⟨v8, hv8, h⟩ := bind_some h
      refine s_call rfl rfl all2_refl (ref09_beside_ok _  _ hv8) (.inl rfl) ?_
      refine s_val (.d _) rfl rfl ?_
      refine s_val (.d _) rfl rfl ?_
      refine s_val (.d _) rfl rfl ?_
      refine s_val (.d _) rfl rfl ?_
      refine s_val (.d _) rfl rfl ?_
      refine s_nil ?_
      refine l_seq ?_
      refine l_seq ?_
      refine l_reg fun u20 hu20 => ?_
      refine s_val (.ptr _ _) rfl rfl ?_
      refine s_val (.ptr _ _) rfl rfl ?_
      refine s_val (.d _) rfl (v_load rfl G_hit rfl) ?_
      refine s_val (.d _) rfl rfl ?_
      refine s_val (.d _) rfl rfl ?_
      refine g_val (p1.Guest_.ID != 0) (.d _) rfl (gw_t rfl) (fun w6 => rfl) ?_
      refine g_val (p1.Guest_.ID != 0) (.d _) rfl (gw_t rfl) (fun w7 => (v_bin (gd_pos w7) rfl rfl)) ?_
      refine s_val (.d _) rfl (v_and rfl (fun hc => gd_pos hc) rfl) ?_
      refine s_nil ?_
      refine l_cond ((p1.Guest_.ID != 0) && (decide (v8.2 ≥ 0))) rfl (fun c5 => ?_) (fun c5 => ?_)
      · replace h := cond_t c5 h
        refine l_draw rfl fun u21 hu21 => ?_
        refine s_val (oS y1 (g1.1.val, g1.2)) rfl rfl ?_
        refine s_val (.ptr _ _) rfl rfl ?_
        refine s_val (.ptr _ _) rfl rfl ?_
        refine s_val (.d _) rfl (v_load rfl G_hit rfl) ?_
        refine s_val (.ptr _ _) rfl rfl ?_
        refine s_val (.d _) rfl (v_load rfl G_hit rfl) ?_
        refine s_val (.d _) rfl rfl ?_
        obtain ⟨v9, hv9, h⟩ := bind_some h
        refine s_val (.d _) rfl (v_idx rfl rfl hv9 rfl) ?_
        refine s_val (.d _) rfl rfl ?_
        refine s_val (.d _) rfl (v_loadL rfl hv9 rfl) ?_
        refine s_val (.ptr _ _) rfl rfl ?_
        refine s_val (.d _) rfl (v_load rfl G_hit rfl) ?_
        refine s_val (.ptr _ _) rfl rfl ?_
        refine s_val (.ptr _ _) rfl rfl ?_
        refine s_val (.d _) rfl (v_load rfl G_hit rfl) ?_
        refine s_val (.ptr _ _) rfl rfl ?_
        refine s_val (.ptr _ _) rfl rfl ?_
        refine s_val (.d _) rfl (v_load rfl G_hit rfl) ?_
        refine s_val (.d _) rfl rfl ?_
        refine s_val (.ptr _ _) rfl rfl ?_
        refine s_val (.ptr _ _) rfl rfl ?_
        refine s_val (.d _) rfl (v_load rfl G_hit rfl) ?_
        refine s_val (.d _) rfl rfl ?_
        refine s_val (.d (.list (List.map eNote [(Note.mk 2 p1.Guest_.ID v9.ID p1.Tick (w64 (p1.Guest_.S - p1.Guest_.Len)) p1.Guest_.V 0)]))) rfl rfl ?_
        obtain ⟨v10, hv10, h⟩ := bind_some h
        refine s_appendO eNote (g1.1.val, g1.2) y1 (Note.mk 2 p1.Guest_.ID v9.ID p1.Tick (w64 (p1.Guest_.S - p1.Guest_.Len)) p1.Guest_.V 0) [] _ (elems_list (fun _ => rfl)) rfl (G_skip (neL g1.1.property rfl) G_hit) hv10 ?_
        refine s_val (.sl _) rfl rfl ?_
        refine s_nil ?_
        refine l_seq ?_
        refine l_sub (s0 := ⟨T [(3, (.sl (121, u21)))], G [((121, u21), some (.arr 68 7 (List.map eNote v10)))]⟩) (sb_of ⟨.of rfl, trivial⟩ (sbG_some G_hit (.of rfl) trivial)) ?_
        refine l_reg fun u22 hu22 => ?_
        refine s_val (.sl _) rfl rfl ?_
        refine s_val (.sl _) rfl rfl ?_
        refine s_nil ?_
        refine l_ret ?_
        obtain rfl := Option.some.inj h
        refine fin_ok (.inr rfl) (resD1 (res_t rfl) (rf_sl G_hit)) ?_
        exact (.refl _)
      · replace h := cond_f c5 h
        refine l_skip ?_
        refine l_seq ?_
        refine l_reg fun u23 hu23 => ?_
        refine s_val (oS y1 (g1.1.val, g1.2)) rfl rfl ?_
        refine s_val (oS y1 (g1.1.val, g1.2)) rfl rfl ?_
        refine s_nil ?_
        refine l_ret ?_
        obtain rfl := Option.some.inj h
        refine fin_ok (.inr rfl) (resD1 (res_t rfl) (rf_oS (G_skip (neL g1.1.property rfl) G_hit))) ?_
        exact oD_le

noncomputable def kit_SameNotes_l1 (p1 : (List Note)) (p2 : (List Note)) (x1 : Int) : Option (Stp Int (Sum Unit Bool)) :=
  cond (decide (x1 < (p1.length : Int))) ((geti p1 x1).bind fun v1 => (geti p2 x1).bind fun v2 => cond (!(v1.Kind == v2.Kind && (v1.From == v2.From && (v1.To == v2.To && (v1.Stamp == v2.Stamp && (v1.R == v2.R && (v1.V == v2.V && (v1.Until == v2.Until && true)))))))) (some (.out (.inr false))) (some (.go (w64 (x1 + 1))))) (some (.out (.inl ())))
noncomputable def kit_SameNotes (p1 : (List Note)) (p2 : (List Note)) : Option Bool :=
  cond ((p1.length : Int) != (p2.length : Int)) (some false) (thenS (loop (kit_SameNotes_l1 p1 p2) 0) (fun _ => some true) (fun r => some r))

/-- kerbstone/kerbstonekit.SameNotes -/
def ac_kit_SameNotes : AC :=
  (.seq (.reg [⟨(some 4), .mv (.c (.v (.bool false))), none⟩])
  (.seq (.seq (.reg [⟨(some 6), .mv (.t 0), none⟩, ⟨(some 7), .len (.t 6), none⟩, ⟨(some 8), .mv (.t 1), none⟩, ⟨(some 9), .len (.t 8), none⟩, ⟨(some 10), .bin .neq (.t 7) (.t 9), none⟩])
  (.cond (.t 10)
    (.seq (.reg [⟨(some 4), .mv (.c (.v (.bool false))), none⟩])
    .ret)
    .skip))
  (.seq (.seq (.reg [⟨(some 5), .mv (.c (.v (.int .i64 0))), none⟩])
  (.block 0
    (.loop
      (.seq (.seq (.reg [⟨(some 11), .mv (.t 5), none⟩, ⟨(some 12), .mv (.t 0), none⟩, ⟨(some 13), .len (.t 12), none⟩, ⟨(some 14), .bin .lss (.t 11) (.t 13), none⟩])
      (.cond (.t 14)
        .skip
        (.exit 0)))
      (.seq (.block 1
        (.seq (.draw [⟨(some 17), .mv (.t 0), none⟩, ⟨(some 18), .mv (.t 5), none⟩, ⟨(some 19), .idxS 7 (.t 17) (.t 18), none⟩, ⟨(some 20), .load 7 true (.t 19), none⟩, ⟨(some 21), .mv (.t 1), none⟩, ⟨(some 22), .mv (.t 5), none⟩, ⟨(some 23), .idxS 7 (.t 21) (.t 22), none⟩, ⟨(some 24), .load 7 true (.t 23), none⟩, ⟨(some 25), .eqA true [false, false, false, false, false, false, false] (.t 20) (.t 24), none⟩] [])
        (.cond (.t 25)
          (.seq (.reg [⟨(some 4), .mv (.c (.v (.bool false))), none⟩])
          .ret)
          .skip)))
      (.reg [⟨(some 15), .mv (.t 5), none⟩, ⟨(some 16), .bin .add (.t 15) (.c (.v (.int .i64 1))), none⟩, ⟨(some 5), .mv (.t 16), none⟩]))))))
  (.seq (.reg [⟨(some 4), .mv (.c (.v (.bool true))), none⟩])
  .ret))))
theorem fn_kit_SameNotes : FnOK Try.prog 39 26 [.t 4] ac_kit_SameNotes := ⟨_, _, Try.func39, rfl, Try.ntmps39, by kernel_rfl, ⟨fun _ => [], by kernel_rfl⟩, by kernel_rfl⟩
set_option maxHeartbeats 4000000 in
theorem kit_SameNotes_ok (p1 : (List Note)) (p2 : (List Note)) (r : Bool) (h : kit_SameNotes p1 p2 = some r) : PCall Try.prog 39 [(.list (List.map eNote p1)), (.list (List.map eNote p2))] (bo r) := by
  refine l_call fn_kit_SameNotes (Nat.le_of_ble_eq_true rfl) ?_
  unfold kit_SameNotes at h
  unfold ac_kit_SameNotes
  refine (l_sub (s0 := ⟨T [(0, (.d (.list (List.map eNote p1)))), (1, (.d (.list (List.map eNote p2))))], G []⟩) (sb_of ⟨.of rfl, .of rfl, trivial⟩ trivial) ?_)
  refine l_seq ?_
  refine l_reg fun u1 hu1 => ?_
  refine s_val (.d _) rfl rfl ?_
  refine s_nil ?_
  refine l_seq ?_
  refine l_seq ?_
  refine l_reg fun u2 hu2 => ?_
  refine s_val (.d _) rfl rfl ?_
  refine s_val (.d _) rfl (v_len rfl) ?_
  refine s_val (.d _) rfl rfl ?_
  refine s_val (.d _) rfl (v_len rfl) ?_
  refine s_val (.d _) rfl rfl ?_
  refine s_nil ?_
  refine l_cond ((p1.length : Int) != (p2.length : Int)) rfl (fun c1 => ?_) (fun c1 => ?_)
  · replace h := cond_t c1 h
    refine l_seq ?_
    refine l_reg fun u3 hu3 => ?_
    refine s_val (.d _) rfl rfl ?_
    refine s_nil ?_
    refine l_ret ?_
    obtain rfl := Option.some.inj h
    refine fin_ok (.inr rfl) (resD1 (res_t rfl) rf_d) ?_
    exact (.refl _)
  · replace h := cond_f c1 h
    refine l_skip ?_
    refine l_seq ?_
    refine l_seq ?_
    refine l_reg fun u4 hu4 => ?_
    refine s_val (.d _) rfl rfl ?_
    refine s_nil ?_
    obtain ⟨z1, hz1, h⟩ := thenS_some h
    refine l_join (fun s => ∃ (y1 : Unit) (g1 : Unit), z1 = .inl y1 ∧ Sb ⟨T [], G []⟩ s) ?_ ?_
    · skip
      refine l_block ?_
      refine l_loop (kit_SameNotes_l1 p1 p2) (fun (x1 : Int) (g2 : Unit) => ⟨T [(0, (.d (.list (List.map eNote p1)))), (1, (.d (.list (List.map eNote p2)))), (5, (.d (i64 x1)))], G []⟩) 0 () _ hz1 (sb_of ⟨.of rfl, .of rfl, .of rfl, trivial⟩ trivial) ?_
      intro x1 g2 z2 hz2 ez2
      unfold kit_SameNotes_l1 at hz2
      refine l_seq ?_
      refine l_seq ?_
      refine l_reg fun u5 hu5 => ?_
      refine s_val (.d _) rfl rfl ?_
      refine s_val (.d _) rfl rfl ?_
      refine s_val (.d _) rfl (v_len rfl) ?_
      refine s_val (.d _) rfl rfl ?_
      refine s_nil ?_
      refine l_cond (decide (x1 < (p1.length : Int))) rfl (fun c2 => ?_) (fun c2 => ?_)
      · replace hz2 := cond_t c2 hz2
        refine l_skip ?_
        refine l_seq ?_
        refine l_block ?_
        refine l_seq ?_
        refine l_draw rfl fun u6 hu6 => ?_
        refine s_val (.d _) rfl rfl ?_
        refine s_val (.d _) rfl rfl ?_
        obtain ⟨v1, hv1, hz2⟩ := bind_some hz2
        refine s_val (.d _) rfl (v_idx rfl rfl hv1 rfl) ?_
        refine s_val (.d _) rfl (v_loadLG rfl hv1 rfl rfl) ?_
        refine s_val (.d _) rfl rfl ?_
        refine s_val (.d _) rfl rfl ?_
        obtain ⟨v2, hv2, hz2⟩ := bind_some hz2
        refine s_val (.d _) rfl (v_idx rfl rfl hv2 rfl) ?_
        refine s_val (.d _) rfl (v_loadLG rfl hv2 rfl rfl) ?_
        refine s_val (.d _) rfl rfl ?_
        refine s_nil ?_
        refine l_cond (!(v1.Kind == v2.Kind && (v1.From == v2.From && (v1.To == v2.To && (v1.Stamp == v2.Stamp && (v1.R == v2.R && (v1.V == v2.V && (v1.Until == v2.Until && true)))))))) rfl (fun c3 => ?_) (fun c3 => ?_)
        · replace hz2 := cond_t c3 hz2
          refine l_seq ?_
          refine l_reg fun u7 hu7 => ?_
          refine s_val (.d _) rfl rfl ?_
          refine s_nil ?_
          refine l_ret ?_
          obtain rfl := Option.some.inj hz2
          obtain rfl := ez2 _ rfl
          refine ⟨nofun, awl_ret ?_⟩
          rw [Sum.elim_inr] at h
          obtain rfl := Option.some.inj h
          refine fin_ok (.inr rfl) (resD1 (res_t rfl) rf_d) ?_
          exact (.refl _)
        · replace hz2 := cond_f c3 hz2
          refine l_skip ?_
          refine l_end ?_
          refine l_reg fun u8 hu8 => ?_
          refine s_val (.d _) rfl rfl ?_
          refine s_val (.d _) rfl rfl ?_
          refine s_val (.d _) rfl rfl ?_
          refine s_nil ?_
          refine l_nil ?_
          obtain rfl := Option.some.inj hz2
          exact ⟨rfl, (), (sb_of ⟨.of rfl, .of rfl, .of rfl, trivial⟩ trivial)⟩
      · replace hz2 := cond_f c2 hz2
        refine l_exitN rfl ?_
        obtain rfl := Option.some.inj hz2
        obtain rfl := ez2 _ rfl
        refine ⟨nofun, awl_pop rfl (l_j ?_)⟩
        exact ⟨_, (), rfl, (sb_of trivial trivial)⟩
    · rintro _ ⟨y1, g1, rfl, q1⟩
      rw [Sum.elim_inl] at h
      refine l_sub q1 ?_
      refine l_seq ?_
      refine l_reg fun u9 hu9 => ?_
      refine s_val (.d _) rfl rfl ?_
      refine s_nil ?_
      refine l_ret ?_
      obtain rfl := Option.some.inj h
      refine fin_ok (.inr rfl) (resD1 (res_t rfl) rf_d) ?_
      exact (.refl _)
end Go.Abs.Convoy
