/-
  The functions, part 3.
-/
import Derived.Test.YtdkgjoilcfoclaaFns2
set_option maxRecDepth 20000
set_option linter.unusedVariables false
namespace Go.Abs.Convoy
open Go Go.Abs Go.Proofs
attribute [local irreducible] regW regT AWL

noncomputable def ref09_mate (p1 : Mate) : Option Bool :=
  (ref09_moving p1.ID p1.S p1.V p1.Len).bind fun v1 => ((cond v1 (ref09_between p1.Ahead 0 99) (some default))).bind fun v2 => ((cond (v1 && v2) (ref09_between p1.Ward 0 99) (some default))).bind fun v3 => ((cond ((v1 && v2) && v3) (ref09_between p1.Until 0 2199023255552) (some default))).bind fun v4 => ((cond (((v1 && v2) && v3) && v4) (ref09_guessed p1.Guess_) (some default))).bind fun v5 => ((cond ((((v1 && v2) && v3) && v4) && v5) (ref09_guessed p1.WardGuess) (some default))).bind fun v6 => some (((((v1 && v2) && v3) && v4) && v5) && v6)

/-- kerbstone/kerbstoneref09.mate -/
def ac_ref09_mate : AC :=
  (.seq (.reg [⟨(some 1), .box 65 true (.t 0), none⟩, ⟨(some 2), .mv (.c (.v (.bool false))), none⟩])
  (.seq (.reg [⟨(some 3), .fieldA 0 (.t 1), none⟩, ⟨(some 4), .load 1 false (.t 3), none⟩, ⟨(some 5), .fieldA 1 (.t 1), none⟩, ⟨(some 6), .load 1 false (.t 5), none⟩, ⟨(some 7), .fieldA 2 (.t 1), none⟩, ⟨(some 8), .load 1 false (.t 7), none⟩, ⟨(some 9), .fieldA 3 (.t 1), none⟩, ⟨(some 10), .load 1 false (.t 9), none⟩, ⟨(some 11), .call (.c (.fn (.func 125) [] [])) [(.t 4), (.t 6), (.t 8), (.t 10)], none⟩, ⟨(some 12), .mv (.t 11), none⟩, ⟨(some 13), .fieldA 4 (.t 1), (some (12, true))⟩, ⟨(some 14), .load 1 false (.t 13), (some (12, true))⟩, ⟨(some 15), .call (.c (.fn (.func 104) [] [])) [(.t 14), (.c (.v (.int .i64 0))), (.c (.v (.int .i64 99)))], (some (12, true))⟩, ⟨(some 16), .pick (.t 12) (.t 15) (.c (.v (.bool false))), none⟩, ⟨(some 17), .mv (.t 16), none⟩, ⟨(some 18), .fieldA 8 (.t 1), (some (17, true))⟩, ⟨(some 19), .load 1 false (.t 18), (some (17, true))⟩, ⟨(some 20), .call (.c (.fn (.func 104) [] [])) [(.t 19), (.c (.v (.int .i64 0))), (.c (.v (.int .i64 99)))], (some (17, true))⟩, ⟨(some 21), .pick (.t 17) (.t 20) (.c (.v (.bool false))), none⟩, ⟨(some 22), .mv (.t 21), none⟩, ⟨(some 23), .fieldA 11 (.t 1), (some (22, true))⟩, ⟨(some 24), .load 1 false (.t 23), (some (22, true))⟩, ⟨(some 25), .call (.c (.fn (.func 104) [] [])) [(.t 24), (.c (.v (.int .i64 0))), (.c (.v (.int .i64 2199023255552)))], (some (22, true))⟩, ⟨(some 26), .pick (.t 22) (.t 25) (.c (.v (.bool false))), none⟩, ⟨(some 27), .mv (.t 26), none⟩, ⟨(some 28), .fieldA 5 (.t 1), (some (27, true))⟩, ⟨(some 29), .load 2 true (.t 28), (some (27, true))⟩, ⟨(some 30), .call (.c (.fn (.func 126) [] [])) [(.t 29)], (some (27, true))⟩, ⟨(some 31), .pick (.t 27) (.t 30) (.c (.v (.bool false))), none⟩, ⟨(some 32), .mv (.t 31), none⟩, ⟨(some 33), .fieldA 9 (.t 1), (some (32, true))⟩, ⟨(some 34), .load 2 true (.t 33), (some (32, true))⟩, ⟨(some 35), .call (.c (.fn (.func 126) [] [])) [(.t 34)], (some (32, true))⟩, ⟨(some 36), .pick (.t 32) (.t 35) (.c (.v (.bool false))), none⟩, ⟨(some 2), .mv (.t 36), none⟩])
  .ret))
theorem fn_ref09_mate : FnOK Try.prog 105 37 [.t 2] ac_ref09_mate := ⟨_, _, Try.func105, rfl, Try.ntmps105, by kernel_rfl, ⟨fun _ => [], by kernel_rfl⟩, by kernel_rfl⟩
theorem ref09_mate_ok (p1 : Mate) (r : Bool) (h : ref09_mate p1 = some r) : PCall Try.prog 105 [(.agg [(i64 p1.ID), (i64 p1.S), (i64 p1.V), (i64 p1.Len), (i64 p1.Ahead), (i64 p1.Guess_.R), (i64 p1.Guess_.V), (bo p1.Trust), (i64 p1.Ward), (i64 p1.WardGuess.R), (i64 p1.WardGuess.V), (i64 p1.Until)])] (bo r) := by
  refine l_call fn_ref09_mate (Nat.le_of_ble_eq_true rfl) ?_
  unfold ref09_mate at h
  unfold ac_ref09_mate
  refine (l_sub (s0 := ⟨T [(0, (.d (.agg [(i64 p1.ID), (i64 p1.S), (i64 p1.V), (i64 p1.Len), (i64 p1.Ahead), (i64 p1.Guess_.R), (i64 p1.Guess_.V), (bo p1.Trust), (i64 p1.Ward), (i64 p1.WardGuess.R), (i64 p1.WardGuess.V), (i64 p1.Until)])))], G []⟩) (sb_of ⟨.of rfl, trivial⟩ trivial) ?_)
  refine l_seq ?_
  refine l_reg fun u1 hu1 => ?_
  refine s_new (.ptr _ _) (.box _ _) rfl rfl ?_
  refine s_val (.d _) rfl rfl ?_
  refine s_nil ?_
  refine l_seq ?_
  refine l_reg fun u2 hu2 => ?_
  refine s_val (.ptr _ _) rfl rfl ?_
  refine s_val (.d _) rfl (v_load rfl G_hit rfl) ?_
  refine s_val (.ptr _ _) rfl rfl ?_
  refine s_val (.d _) rfl (v_load rfl G_hit rfl) ?_
  refine s_val (.ptr _ _) rfl rfl ?_
  refine s_val (.d _) rfl (v_load rfl G_hit rfl) ?_
  refine s_val (.ptr _ _) rfl rfl ?_
  refine s_val (.d _) rfl (v_load rfl G_hit rfl) ?_
  obtain ⟨v1, hv1, h⟩ := bind_some h
  refine s_call rfl rfl all2_refl (ref09_moving_ok _ _ _ _  _ hv1) (.inl rfl) ?_
  refine s_val (.d _) rfl rfl ?_
  refine g_val v1 (.ptr _ _) rfl (gw_t rfl) (fun w1 => rfl) ?_
  refine g_val v1 (.d _) rfl (gw_t rfl) (fun w2 => (v_load (gd_pos w2) G_hit rfl)) ?_
  obtain ⟨v2, hv2, h⟩ := bind_some h
  refine g_call v1 (bo v2) (gw_t rfl) (fun w3 => ⟨_, [(.d (i64 p1.Ahead)), (.d (i64 0)), (.d (i64 99))], _, _, (by simp only [gd_pos w3]; rfl), rfl, all2_refl, ref09_between_ok _ _ _  _ (cond_t w3 hv2), (.inl rfl)⟩) ?_
  refine s_val (.d _) rfl (v_and rfl (fun hc => gd_pos hc) rfl) ?_
  refine s_val (.d _) rfl rfl ?_
  refine g_val (v1 && v2) (.ptr _ _) rfl (gw_t rfl) (fun w4 => rfl) ?_
  refine g_val (v1 && v2) (.d _) rfl (gw_t rfl) (fun w5 => (v_load (gd_pos w5) G_hit rfl)) ?_
  obtain ⟨v3, hv3, h⟩ := bind_some h
  refine g_call (v1 && v2) (bo v3) (gw_t rfl) (fun w6 => ⟨_, [(.d (i64 p1.Ward)), (.d (i64 0)), (.d (i64 99))], _, _, (by simp only [gd_pos w6]; rfl), rfl, all2_refl, ref09_between_ok _ _ _  _ (cond_t w6 hv3), (.inl rfl)⟩) ?_
  refine s_val (.d _) rfl (v_and rfl (fun hc => gd_pos hc) rfl) ?_
  refine s_val (.d _) rfl rfl ?_
  refine g_val ((v1 && v2) && v3) (.ptr _ _) rfl (gw_t rfl) (fun w7 => rfl) ?_
  refine g_val ((v1 && v2) && v3) (.d _) rfl (gw_t rfl) (fun w8 => (v_load (gd_pos w8) G_hit rfl)) ?_
  obtain ⟨v4, hv4, h⟩ := bind_some h
  refine g_call ((v1 && v2) && v3) (bo v4) (gw_t rfl) (fun w9 => ⟨_, [(.d (i64 p1.Until)), (.d (i64 0)), (.d (i64 2199023255552))], _, _, (by simp only [gd_pos w9]; rfl), rfl, all2_refl, ref09_between_ok _ _ _  _ (cond_t w9 hv4), (.inl rfl)⟩) ?_
  refine s_val (.d _) rfl (v_and rfl (fun hc => gd_pos hc) rfl) ?_
  refine s_val (.d _) rfl rfl ?_
  refine g_val (((v1 && v2) && v3) && v4) (.ptr _ _) rfl (gw_t rfl) (fun w10 => rfl) ?_
  refine g_val (((v1 && v2) && v3) && v4) (.d _) rfl (gw_t rfl) (fun w11 => (v_loadG (gd_pos w11) G_hit rfl rfl)) ?_
  obtain ⟨v5, hv5, h⟩ := bind_some h
  refine g_call (((v1 && v2) && v3) && v4) (bo v5) (gw_t rfl) (fun w12 => ⟨_, [(.d (.agg [(i64 p1.Guess_.R), (i64 p1.Guess_.V)]))], _, _, (by simp only [gd_pos w12]; rfl), rfl, all2_refl, ref09_guessed_ok _  _ (cond_t w12 hv5), (.inl rfl)⟩) ?_
  refine s_val (.d _) rfl (v_and rfl (fun hc => gd_pos hc) rfl) ?_
  refine s_val (.d _) rfl rfl ?_
  refine g_val ((((v1 && v2) && v3) && v4) && v5) (.ptr _ _) rfl (gw_t rfl) (fun w13 => rfl) ?_
  refine g_val ((((v1 && v2) && v3) && v4) && v5) (.d _) rfl (gw_t rfl) (fun w14 => (v_loadG (gd_pos w14) G_hit rfl rfl)) ?_
  obtain ⟨v6, hv6, h⟩ := bind_some h
  refine g_call ((((v1 && v2) && v3) && v4) && v5) (bo v6) (gw_t rfl) (fun w15 => ⟨_, [(.d (.agg [(i64 p1.WardGuess.R), (i64 p1.WardGuess.V)]))], _, _, (by simp only [gd_pos w15]; rfl), rfl, all2_refl, ref09_guessed_ok _  _ (cond_t w15 hv6), (.inl rfl)⟩) ?_
  refine s_val (.d _) rfl (v_and rfl (fun hc => gd_pos hc) rfl) ?_
  refine s_val (.d _) rfl rfl ?_
  refine s_nil ?_
  refine l_ret ?_
  obtain rfl := Option.some.inj h
  refine fin_ok (.inr rfl) (resD1 (res_t rfl) rf_d) ?_
  exact (.refl _)

noncomputable def ref09_guest (p1 : Guest) : Option Bool :=
  (ref09_moving p1.ID p1.S p1.V p1.Len).bind fun v1 => ((cond v1 (ref09_between p1.Ahead 0 99) (some default))).bind fun v2 => ((cond (v1 && v2) (ref09_between p1.From 0 99) (some default))).bind fun v3 => ((cond ((v1 && v2) && v3) (ref09_between p1.Until 0 2199023255552) (some default))).bind fun v4 => ((cond (((v1 && v2) && v3) && v4) (ref09_between p1.End 0 1099511627776) (some default))).bind fun v5 => ((cond ((((v1 && v2) && v3) && v4) && v5) (ref09_guessed p1.Guess_) (some default))).bind fun v6 => some (((((v1 && v2) && v3) && v4) && v5) && v6)

/-- kerbstone/kerbstoneref09.guest -/
def ac_ref09_guest : AC :=
  (.seq (.reg [⟨(some 1), .box 36 true (.t 0), none⟩, ⟨(some 2), .mv (.c (.v (.bool false))), none⟩])
  (.seq (.reg [⟨(some 3), .fieldA 0 (.t 1), none⟩, ⟨(some 4), .load 1 false (.t 3), none⟩, ⟨(some 5), .fieldA 1 (.t 1), none⟩, ⟨(some 6), .load 1 false (.t 5), none⟩, ⟨(some 7), .fieldA 2 (.t 1), none⟩, ⟨(some 8), .load 1 false (.t 7), none⟩, ⟨(some 9), .fieldA 3 (.t 1), none⟩, ⟨(some 10), .load 1 false (.t 9), none⟩, ⟨(some 11), .call (.c (.fn (.func 125) [] [])) [(.t 4), (.t 6), (.t 8), (.t 10)], none⟩, ⟨(some 12), .mv (.t 11), none⟩, ⟨(some 13), .fieldA 5 (.t 1), (some (12, true))⟩, ⟨(some 14), .load 1 false (.t 13), (some (12, true))⟩, ⟨(some 15), .call (.c (.fn (.func 104) [] [])) [(.t 14), (.c (.v (.int .i64 0))), (.c (.v (.int .i64 99)))], (some (12, true))⟩, ⟨(some 16), .pick (.t 12) (.t 15) (.c (.v (.bool false))), none⟩, ⟨(some 17), .mv (.t 16), none⟩, ⟨(some 18), .fieldA 8 (.t 1), (some (17, true))⟩, ⟨(some 19), .load 1 false (.t 18), (some (17, true))⟩, ⟨(some 20), .call (.c (.fn (.func 104) [] [])) [(.t 19), (.c (.v (.int .i64 0))), (.c (.v (.int .i64 99)))], (some (17, true))⟩, ⟨(some 21), .pick (.t 17) (.t 20) (.c (.v (.bool false))), none⟩, ⟨(some 22), .mv (.t 21), none⟩, ⟨(some 23), .fieldA 9 (.t 1), (some (22, true))⟩, ⟨(some 24), .load 1 false (.t 23), (some (22, true))⟩, ⟨(some 25), .call (.c (.fn (.func 104) [] [])) [(.t 24), (.c (.v (.int .i64 0))), (.c (.v (.int .i64 2199023255552)))], (some (22, true))⟩, ⟨(some 26), .pick (.t 22) (.t 25) (.c (.v (.bool false))), none⟩, ⟨(some 27), .mv (.t 26), none⟩, ⟨(some 28), .fieldA 4 (.t 1), (some (27, true))⟩, ⟨(some 29), .load 1 false (.t 28), (some (27, true))⟩, ⟨(some 30), .call (.c (.fn (.func 104) [] [])) [(.t 29), (.c (.v (.int .i64 0))), (.c (.v (.int .i64 1099511627776)))], (some (27, true))⟩, ⟨(some 31), .pick (.t 27) (.t 30) (.c (.v (.bool false))), none⟩, ⟨(some 32), .mv (.t 31), none⟩, ⟨(some 33), .fieldA 6 (.t 1), (some (32, true))⟩, ⟨(some 34), .load 2 true (.t 33), (some (32, true))⟩, ⟨(some 35), .call (.c (.fn (.func 126) [] [])) [(.t 34)], (some (32, true))⟩, ⟨(some 36), .pick (.t 32) (.t 35) (.c (.v (.bool false))), none⟩, ⟨(some 2), .mv (.t 36), none⟩])
  .ret))
theorem fn_ref09_guest : FnOK Try.prog 106 37 [.t 2] ac_ref09_guest := ⟨_, _, Try.func106, rfl, Try.ntmps106, by kernel_rfl, ⟨fun _ => [], by kernel_rfl⟩, by kernel_rfl⟩
theorem ref09_guest_ok (p1 : Guest) (r : Bool) (h : ref09_guest p1 = some r) : PCall Try.prog 106 [(.agg [(i64 p1.ID), (i64 p1.S), (i64 p1.V), (i64 p1.Len), (i64 p1.End), (i64 p1.Ahead), (i64 p1.Guess_.R), (i64 p1.Guess_.V), (i64 p1.From), (i64 p1.Until)])] (bo r) := by
  refine l_call fn_ref09_guest (Nat.le_of_ble_eq_true rfl) ?_
  unfold ref09_guest at h
  unfold ac_ref09_guest
  refine (l_sub (s0 := ⟨T [(0, (.d (.agg [(i64 p1.ID), (i64 p1.S), (i64 p1.V), (i64 p1.Len), (i64 p1.End), (i64 p1.Ahead), (i64 p1.Guess_.R), (i64 p1.Guess_.V), (i64 p1.From), (i64 p1.Until)])))], G []⟩) (sb_of ⟨.of rfl, trivial⟩ trivial) ?_)
  refine l_seq ?_
  refine l_reg fun u1 hu1 => ?_
  refine s_new (.ptr _ _) (.box _ _) rfl rfl ?_
  refine s_val (.d _) rfl rfl ?_
  refine s_nil ?_
  refine l_seq ?_
  refine l_reg fun u2 hu2 => ?_
  refine s_val (.ptr _ _) rfl rfl ?_
  refine s_val (.d _) rfl (v_load rfl G_hit rfl) ?_
  refine s_val (.ptr _ _) rfl rfl ?_
  refine s_val (.d _) rfl (v_load rfl G_hit rfl) ?_
  refine s_val (.ptr _ _) rfl rfl ?_
  refine s_val (.d _) rfl (v_load rfl G_hit rfl) ?_
  refine s_val (.ptr _ _) rfl rfl ?_
  refine s_val (.d _) rfl (v_load rfl G_hit rfl) ?_
  obtain ⟨v1, hv1, h⟩ := bind_some h
  refine s_call rfl rfl all2_refl (ref09_moving_ok _ _ _ _  _ hv1) (.inl rfl) ?_
  refine s_val (.d _) rfl rfl ?_
  refine g_val v1 (.ptr _ _) rfl (gw_t rfl) (fun w1 => rfl) ?_
  refine g_val v1 (.d _) rfl (gw_t rfl) (fun w2 => (v_load (gd_pos w2) G_hit rfl)) ?_
  obtain ⟨v2, hv2, h⟩ := bind_some h
  refine g_call v1 (bo v2) (gw_t rfl) (fun w3 => ⟨_, [(.d (i64 p1.Ahead)), (.d (i64 0)), (.d (i64 99))], _, _, (by simp only [gd_pos w3]; rfl), rfl, all2_refl, ref09_between_ok _ _ _  _ (cond_t w3 hv2), (.inl rfl)⟩) ?_
  refine s_val (.d _) rfl (v_and rfl (fun hc => gd_pos hc) rfl) ?_
  refine s_val (.d _) rfl rfl ?_
  refine g_val (v1 && v2) (.ptr _ _) rfl (gw_t rfl) (fun w4 => rfl) ?_
  refine g_val (v1 && v2) (.d _) rfl (gw_t rfl) (fun w5 => (v_load (gd_pos w5) G_hit rfl)) ?_
  obtain ⟨v3, hv3, h⟩ := bind_some h
  refine g_call (v1 && v2) (bo v3) (gw_t rfl) (fun w6 => ⟨_, [(.d (i64 p1.From)), (.d (i64 0)), (.d (i64 99))], _, _, (by simp only [gd_pos w6]; rfl), rfl, all2_refl, ref09_between_ok _ _ _  _ (cond_t w6 hv3), (.inl rfl)⟩) ?_
  refine s_val (.d _) rfl (v_and rfl (fun hc => gd_pos hc) rfl) ?_
  refine s_val (.d _) rfl rfl ?_
  refine g_val ((v1 && v2) && v3) (.ptr _ _) rfl (gw_t rfl) (fun w7 => rfl) ?_
  refine g_val ((v1 && v2) && v3) (.d _) rfl (gw_t rfl) (fun w8 => (v_load (gd_pos w8) G_hit rfl)) ?_
  obtain ⟨v4, hv4, h⟩ := bind_some h
  refine g_call ((v1 && v2) && v3) (bo v4) (gw_t rfl) (fun w9 => ⟨_, [(.d (i64 p1.Until)), (.d (i64 0)), (.d (i64 2199023255552))], _, _, (by simp only [gd_pos w9]; rfl), rfl, all2_refl, ref09_between_ok _ _ _  _ (cond_t w9 hv4), (.inl rfl)⟩) ?_
  refine s_val (.d _) rfl (v_and rfl (fun hc => gd_pos hc) rfl) ?_
  refine s_val (.d _) rfl rfl ?_
  refine g_val (((v1 && v2) && v3) && v4) (.ptr _ _) rfl (gw_t rfl) (fun w10 => rfl) ?_
  refine g_val (((v1 && v2) && v3) && v4) (.d _) rfl (gw_t rfl) (fun w11 => (v_load (gd_pos w11) G_hit rfl)) ?_
  obtain ⟨v5, hv5, h⟩ := bind_some h
  refine g_call (((v1 && v2) && v3) && v4) (bo v5) (gw_t rfl) (fun w12 => ⟨_, [(.d (i64 p1.End)), (.d (i64 0)), (.d (i64 1099511627776))], _, _, (by simp only [gd_pos w12]; rfl), rfl, all2_refl, ref09_between_ok _ _ _  _ (cond_t w12 hv5), (.inl rfl)⟩) ?_
  refine s_val (.d _) rfl (v_and rfl (fun hc => gd_pos hc) rfl) ?_
  refine s_val (.d _) rfl rfl ?_
  refine g_val ((((v1 && v2) && v3) && v4) && v5) (.ptr _ _) rfl (gw_t rfl) (fun w13 => rfl) ?_
  refine g_val ((((v1 && v2) && v3) && v4) && v5) (.d _) rfl (gw_t rfl) (fun w14 => (v_loadG (gd_pos w14) G_hit rfl rfl)) ?_
  obtain ⟨v6, hv6, h⟩ := bind_some h
  refine g_call ((((v1 && v2) && v3) && v4) && v5) (bo v6) (gw_t rfl) (fun w15 => ⟨_, [(.d (.agg [(i64 p1.Guess_.R), (i64 p1.Guess_.V)]))], _, _, (by simp only [gd_pos w15]; rfl), rfl, all2_refl, ref09_guessed_ok _  _ (cond_t w15 hv6), (.inl rfl)⟩) ?_
  refine s_val (.d _) rfl (v_and rfl (fun hc => gd_pos hc) rfl) ?_
  refine s_val (.d _) rfl rfl ?_
  refine s_nil ?_
  refine l_ret ?_
  obtain rfl := Option.some.inj h
  refine fin_ok (.inr rfl) (resD1 (res_t rfl) rf_d) ?_
  exact (.refl _)

noncomputable def ref09_numbers_l3 (p1 : Convoy) (x2 : Int) (x3 : Int) : Option (Stp Int (Sum Unit Int)) :=
  cond (decide (x3 < x2)) ((geti p1.Mates x3).bind fun v6 => (geti p1.Mates x2).bind fun v7 => cond (v6.ID == v7.ID) (some (.out (.inr 9))) (some (.go (w64 (x3 + 1))))) (some (.out (.inl ())))
noncomputable def ref09_numbers_l2 (p1 : Convoy) (x2 : Int) : Option (Stp Int (Sum Unit Int)) :=
  cond (decide (x2 < (p1.Mates.length : Int))) (thenS (loop (ref09_numbers_l3 p1 x2) 0) (fun _ => (geti p1.Mates x2).bind fun v8 => cond (v8.ID == p1.Guest_.ID) (some (.out (.inr 9))) (some (.go (w64 (x2 + 1))))) (fun r => some (.out (.inr r)))) (some (.out (.inl ())))
noncomputable def ref09_numbers_l1 (p1 : Convoy) (x1 : Int) : Option (Stp Int (Sum Unit Int)) :=
  cond (decide (x1 < (p1.Mates.length : Int))) ((geti p1.Mates x1).bind fun v3 => (ref09_mate v3).bind fun v4 => cond (!v4) (some (.out (.inr 2))) (some (.go (w64 (x1 + 1))))) (some (.out (.inl ())))
noncomputable def ref09_numbers (p1 : Convoy) : Option Int :=
  (ref09_between p1.Tick 0 1099511627776).bind fun v1 => ((cond (!(!v1)) (ref09_between p1.Gap 1 20000) (some default))).bind fun v2 => cond ((!v1) || (!v2)) (some 2) (cond ((p1.Mates.length : Int) == 0) (some 6) ((cond (!(p1.Guest_.ID == 0 && (p1.Guest_.S == 0 && (p1.Guest_.V == 0 && (p1.Guest_.Len == 0 && (p1.Guest_.End == 0 && (p1.Guest_.Ahead == 0 && (p1.Guest_.Guess_.R == 0 && (p1.Guest_.Guess_.V == 0 && (p1.Guest_.From == 0 && (p1.Guest_.Until == 0 && true))))))))))) (some (w64 ((p1.Mates.length : Int) + 1))) (some (p1.Mates.length : Int))).bind fun y1 => cond (decide (y1 > 8)) (some 8) (thenS (loop (ref09_numbers_l1 p1) 0) (fun _ => ((cond (!(p1.Guest_.ID == 0 && (p1.Guest_.S == 0 && (p1.Guest_.V == 0 && (p1.Guest_.Len == 0 && (p1.Guest_.End == 0 && (p1.Guest_.Ahead == 0 && (p1.Guest_.Guess_.R == 0 && (p1.Guest_.Guess_.V == 0 && (p1.Guest_.From == 0 && (p1.Guest_.Until == 0 && true))))))))))) (ref09_guest p1.Guest_) (some default))).bind fun v5 => cond ((!(p1.Guest_.ID == 0 && (p1.Guest_.S == 0 && (p1.Guest_.V == 0 && (p1.Guest_.Len == 0 && (p1.Guest_.End == 0 && (p1.Guest_.Ahead == 0 && (p1.Guest_.Guess_.R == 0 && (p1.Guest_.Guess_.V == 0 && (p1.Guest_.From == 0 && (p1.Guest_.Until == 0 && true))))))))))) && (!v5)) (some 2) (thenS (loop (ref09_numbers_l2 p1) 0) (fun _ => some 0) (fun r => some r))) (fun r => some r))))

/-- kerbstone/kerbstoneref09.numbers -/
def ac_ref09_numbers : AC :=
  (.seq (.reg [⟨(some 1), .box 38 true (.t 0), none⟩, ⟨(some 2), .mv (.c (.v (.int .i64 0))), none⟩])
  (.seq (.seq (.reg [⟨(some 7), .fieldA 0 (.t 1), none⟩, ⟨(some 8), .load 1 false (.t 7), none⟩, ⟨(some 9), .call (.c (.fn (.func 104) [] [])) [(.t 8), (.c (.v (.int .i64 0))), (.c (.v (.int .i64 1099511627776)))], none⟩, ⟨(some 10), .un .not (.t 9), none⟩, ⟨(some 11), .mv (.t 10), none⟩, ⟨(some 12), .fieldA 1 (.t 1), (some (11, false))⟩, ⟨(some 13), .load 1 false (.t 12), (some (11, false))⟩, ⟨(some 14), .call (.c (.fn (.func 104) [] [])) [(.t 13), (.c (.v (.int .i64 1))), (.c (.v (.int .i64 20000)))], (some (11, false))⟩, ⟨(some 15), .un .not (.t 14), (some (11, false))⟩, ⟨(some 16), .pick (.t 11) (.c (.v (.bool true))) (.t 15), none⟩])
  (.cond (.t 16)
    (.seq (.reg [⟨(some 2), .mv (.c (.v (.int .i64 2))), none⟩])
    .ret)
    .skip))
  (.seq (.seq (.reg [⟨(some 17), .fieldA 2 (.t 1), none⟩, ⟨(some 18), .load 1 false (.t 17), none⟩, ⟨(some 19), .len (.t 18), none⟩, ⟨(some 20), .bin .eql (.t 19) (.c (.v (.int .i64 0))), none⟩])
  (.cond (.t 20)
    (.seq (.reg [⟨(some 2), .mv (.c (.v (.int .i64 6))), none⟩])
    .ret)
    .skip))
  (.seq (.reg [⟨(some 21), .fieldA 2 (.t 1), none⟩, ⟨(some 22), .load 1 false (.t 21), none⟩, ⟨(some 23), .len (.t 22), none⟩, ⟨(some 3), .mv (.t 23), none⟩])
  (.seq (.seq (.reg [⟨(some 24), .fieldA 3 (.t 1), none⟩, ⟨(some 25), .load 10 true (.t 24), none⟩, ⟨(some 26), .build [(.v (.int .i64 0)), (.v (.int .i64 0)), (.v (.int .i64 0)), (.v (.int .i64 0)), (.v (.int .i64 0)), (.v (.int .i64 0)), (.v (.int .i64 0)), (.v (.int .i64 0)), (.v (.int .i64 0)), (.v (.int .i64 0))] [], none⟩, ⟨(some 27), .eqA true [false, false, false, false, false, false, false, false, false, false] (.t 25) (.t 26), none⟩])
  (.cond (.t 27)
    (.reg [⟨(some 28), .mv (.t 3), none⟩, ⟨(some 29), .bin .add (.t 28) (.c (.v (.int .i64 1))), none⟩, ⟨(some 3), .mv (.t 29), none⟩])
    .skip))
  (.seq (.seq (.reg [⟨(some 30), .mv (.t 3), none⟩, ⟨(some 31), .bin .gtr (.t 30) (.c (.v (.int .i64 8))), none⟩])
  (.cond (.t 31)
    (.seq (.reg [⟨(some 2), .mv (.c (.v (.int .i64 8))), none⟩])
    .ret)
    .skip))
  (.seq (.seq (.reg [⟨(some 4), .mv (.c (.v (.int .i64 0))), none⟩])
  (.block 0
    (.loop
      (.seq (.seq (.reg [⟨(some 32), .mv (.t 4), none⟩, ⟨(some 33), .fieldA 2 (.t 1), none⟩, ⟨(some 34), .load 1 false (.t 33), none⟩, ⟨(some 35), .len (.t 34), none⟩, ⟨(some 36), .bin .lss (.t 32) (.t 35), none⟩])
      (.cond (.t 36)
        .skip
        (.exit 0)))
      (.seq (.block 1
        (.seq (.reg [⟨(some 39), .fieldA 2 (.t 1), none⟩, ⟨(some 40), .load 1 false (.t 39), none⟩, ⟨(some 41), .mv (.t 4), none⟩, ⟨(some 42), .idxS 12 (.t 40) (.t 41), none⟩, ⟨(some 43), .load 12 true (.t 42), none⟩, ⟨(some 44), .call (.c (.fn (.func 105) [] [])) [(.t 43)], none⟩, ⟨(some 45), .un .not (.t 44), none⟩])
        (.cond (.t 45)
          (.seq (.reg [⟨(some 2), .mv (.c (.v (.int .i64 2))), none⟩])
          .ret)
          .skip)))
      (.reg [⟨(some 37), .mv (.t 4), none⟩, ⟨(some 38), .bin .add (.t 37) (.c (.v (.int .i64 1))), none⟩, ⟨(some 4), .mv (.t 38), none⟩]))))))
  (.seq (.seq (.reg [⟨(some 46), .fieldA 3 (.t 1), none⟩, ⟨(some 47), .load 10 true (.t 46), none⟩, ⟨(some 48), .build [(.v (.int .i64 0)), (.v (.int .i64 0)), (.v (.int .i64 0)), (.v (.int .i64 0)), (.v (.int .i64 0)), (.v (.int .i64 0)), (.v (.int .i64 0)), (.v (.int .i64 0)), (.v (.int .i64 0)), (.v (.int .i64 0))] [], none⟩, ⟨(some 49), .eqA true [false, false, false, false, false, false, false, false, false, false] (.t 47) (.t 48), none⟩, ⟨(some 50), .mv (.t 49), none⟩, ⟨(some 51), .fieldA 3 (.t 1), (some (50, true))⟩, ⟨(some 52), .load 10 true (.t 51), (some (50, true))⟩, ⟨(some 53), .call (.c (.fn (.func 106) [] [])) [(.t 52)], (some (50, true))⟩, ⟨(some 54), .un .not (.t 53), (some (50, true))⟩, ⟨(some 55), .pick (.t 50) (.t 54) (.c (.v (.bool false))), none⟩])
  (.cond (.t 55)
    (.seq (.reg [⟨(some 2), .mv (.c (.v (.int .i64 2))), none⟩])
    .ret)
    .skip))
  (.seq (.seq (.reg [⟨(some 5), .mv (.c (.v (.int .i64 0))), none⟩])
  (.block 2
    (.loop
      (.seq (.seq (.reg [⟨(some 56), .mv (.t 5), none⟩, ⟨(some 57), .fieldA 2 (.t 1), none⟩, ⟨(some 58), .load 1 false (.t 57), none⟩, ⟨(some 59), .len (.t 58), none⟩, ⟨(some 60), .bin .lss (.t 56) (.t 59), none⟩])
      (.cond (.t 60)
        .skip
        (.exit 2)))
      (.seq (.block 3
        (.seq (.seq (.reg [⟨(some 6), .mv (.c (.v (.int .i64 0))), none⟩])
        (.block 4
          (.loop
            (.seq (.seq (.reg [⟨(some 63), .mv (.t 6), none⟩, ⟨(some 64), .mv (.t 5), none⟩, ⟨(some 65), .bin .lss (.t 63) (.t 64), none⟩])
            (.cond (.t 65)
              .skip
              (.exit 4)))
            (.seq (.block 5
              (.seq (.draw [⟨(some 68), .fieldA 2 (.t 1), none⟩, ⟨(some 69), .load 1 false (.t 68), none⟩, ⟨(some 70), .mv (.t 6), none⟩, ⟨(some 71), .idxS 12 (.t 69) (.t 70), none⟩, ⟨(some 72), .fieldA 0 (.t 71), none⟩, ⟨(some 73), .load 1 false (.t 72), none⟩, ⟨(some 74), .fieldA 2 (.t 1), none⟩, ⟨(some 75), .load 1 false (.t 74), none⟩, ⟨(some 76), .mv (.t 5), none⟩, ⟨(some 77), .idxS 12 (.t 75) (.t 76), none⟩, ⟨(some 78), .fieldA 0 (.t 77), none⟩, ⟨(some 79), .load 1 false (.t 78), none⟩, ⟨(some 80), .bin .eql (.t 73) (.t 79), none⟩] [])
              (.cond (.t 80)
                (.seq (.reg [⟨(some 2), .mv (.c (.v (.int .i64 9))), none⟩])
                .ret)
                .skip)))
            (.reg [⟨(some 66), .mv (.t 6), none⟩, ⟨(some 67), .bin .add (.t 66) (.c (.v (.int .i64 1))), none⟩, ⟨(some 6), .mv (.t 67), none⟩]))))))
        (.seq (.draw [⟨(some 81), .fieldA 2 (.t 1), none⟩, ⟨(some 82), .load 1 false (.t 81), none⟩, ⟨(some 83), .mv (.t 5), none⟩, ⟨(some 84), .idxS 12 (.t 82) (.t 83), none⟩, ⟨(some 85), .fieldA 0 (.t 84), none⟩, ⟨(some 86), .load 1 false (.t 85), none⟩, ⟨(some 87), .fieldA 3 (.t 1), none⟩, ⟨(some 88), .fieldA 0 (.t 87), none⟩, ⟨(some 89), .load 1 false (.t 88), none⟩, ⟨(some 90), .bin .eql (.t 86) (.t 89), none⟩] [])
        (.cond (.t 90)
          (.seq (.reg [⟨(some 2), .mv (.c (.v (.int .i64 9))), none⟩])
          .ret)
          .skip))))
      (.reg [⟨(some 61), .mv (.t 5), none⟩, ⟨(some 62), .bin .add (.t 61) (.c (.v (.int .i64 1))), none⟩, ⟨(some 5), .mv (.t 62), none⟩]))))))
  (.seq (.reg [⟨(some 2), .mv (.c (.v (.int .i64 0))), none⟩])
  .ret))))))))))
theorem fn_ref09_numbers : FnOK Try.prog 78 91 [.t 2] ac_ref09_numbers := ⟨_, _, Try.func78, rfl, Try.ntmps78, by kernel_rfl, ⟨fun _ => [], by kernel_rfl⟩, by kernel_rfl⟩
set_option maxHeartbeats 4000000 in
theorem ref09_numbers_ok (p1 : Convoy) (r : Int) (h : ref09_numbers p1 = some r) : PCall Try.prog 78 [(.agg [(i64 p1.Tick), (i64 p1.Gap), (.list (List.map eMate p1.Mates)), (i64 p1.Guest_.ID), (i64 p1.Guest_.S), (i64 p1.Guest_.V), (i64 p1.Guest_.Len), (i64 p1.Guest_.End), (i64 p1.Guest_.Ahead), (i64 p1.Guest_.Guess_.R), (i64 p1.Guest_.Guess_.V), (i64 p1.Guest_.From), (i64 p1.Guest_.Until)])] (i64 r) := by
  refine l_call fn_ref09_numbers (Nat.le_of_ble_eq_true rfl) ?_
  unfold ref09_numbers at h
  unfold ac_ref09_numbers
  refine (l_sub (s0 := ⟨T [(0, (.d (.agg [(i64 p1.Tick), (i64 p1.Gap), (.list (List.map eMate p1.Mates)), (i64 p1.Guest_.ID), (i64 p1.Guest_.S), (i64 p1.Guest_.V), (i64 p1.Guest_.Len), (i64 p1.Guest_.End), (i64 p1.Guest_.Ahead), (i64 p1.Guest_.Guess_.R), (i64 p1.Guest_.Guess_.V), (i64 p1.Guest_.From), (i64 p1.Guest_.Until)])))], G []⟩) (sb_of ⟨.of rfl, trivial⟩ trivial) ?_)
  refine l_seq ?_
  refine l_reg fun u1 hu1 => ?_
  refine s_new (.ptr _ _) (.box _ _) rfl rfl ?_
  refine s_val (.d _) rfl rfl ?_
  refine s_nil ?_
  refine l_seq ?_
  refine l_seq ?_
  refine l_reg fun u2 hu2 => ?_
  refine s_val (.ptr _ _) rfl rfl ?_
  refine s_val (.d _) rfl (v_load rfl G_hit rfl) ?_
  obtain ⟨v1, hv1, h⟩ := bind_some h
  refine s_call rfl rfl all2_refl (ref09_between_ok _ _ _  _ hv1) (.inl rfl) ?_
  refine s_val (.d _) rfl rfl ?_
  refine s_val (.d _) rfl rfl ?_
  refine g_val (!(!v1)) (.ptr _ _) rfl (gw_f rfl) (fun w1 => rfl) ?_
  refine g_val (!(!v1)) (.d _) rfl (gw_f rfl) (fun w2 => (v_load (gd_pos w2) G_hit rfl)) ?_
  obtain ⟨v2, hv2, h⟩ := bind_some h
  refine g_call (!(!v1)) (bo v2) (gw_f rfl) (fun w3 => ⟨_, [(.d (i64 p1.Gap)), (.d (i64 1)), (.d (i64 20000))], _, _, (by simp only [gd_pos w3]; rfl), rfl, all2_refl, ref09_between_ok _ _ _  _ (cond_t w3 hv2), (.inl rfl)⟩) ?_
  refine g_val (!(!v1)) (.d _) rfl (gw_f rfl) (fun w4 => (by simp only [gd_pos w4]; rfl)) ?_
  refine s_val (.d _) rfl (v_or rfl rfl (fun hc => gd_pos (not_t hc))) ?_
  refine s_nil ?_
  refine l_cond ((!v1) || (!v2)) rfl (fun c1 => ?_) (fun c1 => ?_)
  · replace h := cond_t c1 h
    refine l_seq ?_
    refine l_reg fun u3 hu3 => ?_
    refine s_val (.d _) rfl rfl ?_
    refine s_nil ?_
    refine l_ret ?_
    obtain rfl := Option.some.inj h
    refine fin_ok (.inr rfl) (resD1 (res_t rfl) rf_d) ?_
    exact (.refl _)
  · replace h := cond_f c1 h
    refine l_skip ?_
    refine l_seq ?_
    refine l_seq ?_
    refine l_reg fun u4 hu4 => ?_
    refine s_val (.ptr _ _) rfl rfl ?_
    refine s_val (.d _) rfl (v_load rfl G_hit rfl) ?_
    refine s_val (.d _) rfl (v_len rfl) ?_
    refine s_val (.d _) rfl rfl ?_
    refine s_nil ?_
    refine l_cond ((p1.Mates.length : Int) == 0) rfl (fun c2 => ?_) (fun c2 => ?_)
    · replace h := cond_t c2 h
      refine l_seq ?_
      refine l_reg fun u5 hu5 => ?_
      refine s_val (.d _) rfl rfl ?_
      refine s_nil ?_
      refine l_ret ?_
      obtain rfl := Option.some.inj h
      refine fin_ok (.inr rfl) (resD1 (res_t rfl) rf_d) ?_
      exact (.refl _)
    · replace h := cond_f c2 h
      refine l_skip ?_
      refine l_seq ?_
      refine l_reg fun u6 hu6 => ?_
      refine s_val (.ptr _ _) rfl rfl ?_
      refine s_val (.d _) rfl (v_load rfl G_hit rfl) ?_
      refine s_val (.d _) rfl (v_len rfl) ?_
      refine s_val (.d _) rfl rfl ?_
      refine s_nil ?_
      refine l_seq ?_
      refine l_seq ?_
      refine l_reg fun u7 hu7 => ?_
      refine s_val (.ptr _ _) rfl rfl ?_
      refine s_val (.d _) rfl (v_loadG rfl G_hit rfl rfl) ?_
      refine s_val (.d _) rfl rfl ?_
      refine s_val (.d _) rfl rfl ?_
      refine s_nil ?_
      obtain ⟨y1, hy1, h⟩ := bind_some h
      refine l_join (fun s => ∃ g1 : Unit, Sb ⟨T [(1, (.ptr (1, u1) 0)), (3, (.d (i64 y1)))], G [((1, u1), some (.box 38 [(.d (i64 p1.Tick)), (.d (i64 p1.Gap)), (.d (.list (List.map eMate p1.Mates))), (.d (i64 p1.Guest_.ID)), (.d (i64 p1.Guest_.S)), (.d (i64 p1.Guest_.V)), (.d (i64 p1.Guest_.Len)), (.d (i64 p1.Guest_.End)), (.d (i64 p1.Guest_.Ahead)), (.d (i64 p1.Guest_.Guess_.R)), (.d (i64 p1.Guest_.Guess_.V)), (.d (i64 p1.Guest_.From)), (.d (i64 p1.Guest_.Until))]))]⟩ s) ?_ ?_
      · skip
        refine l_cond (!(p1.Guest_.ID == 0 && (p1.Guest_.S == 0 && (p1.Guest_.V == 0 && (p1.Guest_.Len == 0 && (p1.Guest_.End == 0 && (p1.Guest_.Ahead == 0 && (p1.Guest_.Guess_.R == 0 && (p1.Guest_.Guess_.V == 0 && (p1.Guest_.From == 0 && (p1.Guest_.Until == 0 && true))))))))))) rfl (fun c3 => ?_) (fun c3 => ?_)
        · replace hy1 := cond_t c3 hy1
          refine l_sub (s0 := ⟨T [(1, (.ptr (1, u1) 0)), (3, (.d (i64 (p1.Mates.length : Int))))], G [((1, u1), some (.box 38 [(.d (i64 p1.Tick)), (.d (i64 p1.Gap)), (.d (.list (List.map eMate p1.Mates))), (.d (i64 p1.Guest_.ID)), (.d (i64 p1.Guest_.S)), (.d (i64 p1.Guest_.V)), (.d (i64 p1.Guest_.Len)), (.d (i64 p1.Guest_.End)), (.d (i64 p1.Guest_.Ahead)), (.d (i64 p1.Guest_.Guess_.R)), (.d (i64 p1.Guest_.Guess_.V)), (.d (i64 p1.Guest_.From)), (.d (i64 p1.Guest_.Until))]))]⟩) (sb_of ⟨.of rfl, .of rfl, trivial⟩ (sbG_some G_hit (.of rfl) trivial)) ?_
          refine l_reg fun u8 hu8 => ?_
          refine s_val (.d _) rfl rfl ?_
          refine s_val (.d _) rfl rfl ?_
          refine s_val (.d _) rfl rfl ?_
          refine s_nil ?_
          obtain rfl := Option.some.inj hy1
          exact l_j ⟨(), (sb_of ⟨.of rfl, .of rfl, trivial⟩ (sbG_some G_hit (.of rfl) trivial))⟩
        · replace hy1 := cond_f c3 hy1
          refine l_skip ?_
          obtain rfl := Option.some.inj hy1
          exact l_j ⟨(), (sb_of ⟨.of rfl, .of rfl, trivial⟩ (sbG_some G_hit (.of rfl) trivial))⟩
      · rintro _ ⟨g1, q1⟩
        refine l_sub q1 ?_
        refine l_seq ?_
        refine l_seq ?_
        refine l_reg fun u9 hu9 => ?_
        refine s_val (.d _) rfl rfl ?_
        refine s_val (.d _) rfl rfl ?_
        refine s_nil ?_
        refine l_cond (decide (y1 > 8)) rfl (fun c4 => ?_) (fun c4 => ?_)
        · replace h := cond_t c4 h
          refine l_seq ?_
          refine l_reg fun u10 hu10 => ?_
          refine s_val (.d _) rfl rfl ?_
          refine s_nil ?_
          refine l_ret ?_
          obtain rfl := Option.some.inj h
          refine fin_ok (.inr rfl) (resD1 (res_t rfl) rf_d) ?_
          exact (.refl _)
        · replace h := cond_f c4 h
          refine l_skip ?_
          refine l_seq ?_
          refine l_seq ?_
          refine l_reg fun u11 hu11 => ?_
          refine s_val (.d _) rfl rfl ?_
          refine s_nil ?_
          obtain ⟨z1, hz1, h⟩ := thenS_some h
          refine l_join (fun s => ∃ (y2 : Unit) (g2 : Unit), z1 = .inl y2 ∧ Sb ⟨T [(1, (.ptr (1, u1) 0))], G [((1, u1), some (.box 38 [(.d (i64 p1.Tick)), (.d (i64 p1.Gap)), (.d (.list (List.map eMate p1.Mates))), (.d (i64 p1.Guest_.ID)), (.d (i64 p1.Guest_.S)), (.d (i64 p1.Guest_.V)), (.d (i64 p1.Guest_.Len)), (.d (i64 p1.Guest_.End)), (.d (i64 p1.Guest_.Ahead)), (.d (i64 p1.Guest_.Guess_.R)), (.d (i64 p1.Guest_.Guess_.V)), (.d (i64 p1.Guest_.From)), (.d (i64 p1.Guest_.Until))]))]⟩ s) ?_ ?_
          · skip
            refine l_block ?_
            refine l_loop (ref09_numbers_l1 p1) (fun (x1 : Int) (g3 : Unit) => ⟨T [(1, (.ptr (1, u1) 0)), (4, (.d (i64 x1)))], G [((1, u1), some (.box 38 [(.d (i64 p1.Tick)), (.d (i64 p1.Gap)), (.d (.list (List.map eMate p1.Mates))), (.d (i64 p1.Guest_.ID)), (.d (i64 p1.Guest_.S)), (.d (i64 p1.Guest_.V)), (.d (i64 p1.Guest_.Len)), (.d (i64 p1.Guest_.End)), (.d (i64 p1.Guest_.Ahead)), (.d (i64 p1.Guest_.Guess_.R)), (.d (i64 p1.Guest_.Guess_.V)), (.d (i64 p1.Guest_.From)), (.d (i64 p1.Guest_.Until))]))]⟩) 0 () _ hz1 (sb_of ⟨.of rfl, .of rfl, trivial⟩ (sbG_some G_hit (.of rfl) trivial)) ?_
            intro x1 g3 z2 hz2 ez2
            unfold ref09_numbers_l1 at hz2
            refine l_seq ?_
            refine l_seq ?_
            refine l_reg fun u12 hu12 => ?_
            refine s_val (.d _) rfl rfl ?_
            refine s_val (.ptr _ _) rfl rfl ?_
            refine s_val (.d _) rfl (v_load rfl G_hit rfl) ?_
            refine s_val (.d _) rfl (v_len rfl) ?_
            refine s_val (.d _) rfl rfl ?_
            refine s_nil ?_
            refine l_cond (decide (x1 < (p1.Mates.length : Int))) rfl (fun c5 => ?_) (fun c5 => ?_)
            · replace hz2 := cond_t c5 hz2
              refine l_skip ?_
              refine l_seq ?_
              refine l_block ?_
              refine l_seq ?_
              refine l_reg fun u13 hu13 => ?_
              refine s_val (.ptr _ _) rfl rfl ?_
              refine s_val (.d _) rfl (v_load rfl G_hit rfl) ?_
              refine s_val (.d _) rfl rfl ?_
              obtain ⟨v3, hv3, hz2⟩ := bind_some hz2
              refine s_val (.d _) rfl (v_idx rfl rfl hv3 rfl) ?_
              refine s_val (.d _) rfl (v_loadLG rfl hv3 rfl rfl) ?_
              obtain ⟨v4, hv4, hz2⟩ := bind_some hz2
              refine s_call rfl rfl all2_refl (ref09_mate_ok _  _ hv4) (.inl rfl) ?_
              refine s_val (.d _) rfl rfl ?_
              refine s_nil ?_
              refine l_cond (!v4) rfl (fun c6 => ?_) (fun c6 => ?_)
              · replace hz2 := cond_t c6 hz2
                refine l_seq ?_
                refine l_reg fun u14 hu14 => ?_
                refine s_val (.d _) rfl rfl ?_
                refine s_nil ?_
                refine l_ret ?_
                obtain rfl := Option.some.inj hz2
                obtain rfl := ez2 _ rfl
                refine ⟨nofun, awl_ret ?_⟩
                rw [Sum.elim_inr] at h
                obtain rfl := Option.some.inj h
                refine fin_ok (.inr rfl) (resD1 (res_t rfl) rf_d) ?_
                exact (.refl _)
              · replace hz2 := cond_f c6 hz2
                refine l_skip ?_
                refine l_end ?_
                refine l_reg fun u15 hu15 => ?_
                refine s_val (.d _) rfl rfl ?_
                refine s_val (.d _) rfl rfl ?_
                refine s_val (.d _) rfl rfl ?_
                refine s_nil ?_
                refine l_nil ?_
                obtain rfl := Option.some.inj hz2
                exact ⟨rfl, (), (sb_of ⟨.of rfl, .of rfl, trivial⟩ (sbG_some G_hit (.of rfl) trivial))⟩
            · replace hz2 := cond_f c5 hz2
              refine l_exitN rfl ?_
              obtain rfl := Option.some.inj hz2
              obtain rfl := ez2 _ rfl
              refine ⟨nofun, awl_pop rfl (l_j ?_)⟩
              exact ⟨_, (), rfl, (sb_of ⟨.of rfl, trivial⟩ (sbG_some G_hit (.of rfl) trivial))⟩
          · rintro _ ⟨y2, g2, rfl, q2⟩
            rw [Sum.elim_inl] at h
            refine l_sub q2 ?_
            refine l_seq ?_
            refine l_seq ?_
            refine l_reg fun u16 hu16 => ?_
            refine s_val (.ptr _ _) rfl rfl ?_
            refine s_val (.d _) rfl (v_loadG rfl G_hit rfl rfl) ?_
            refine s_val (.d _) rfl rfl ?_
            refine s_val (.d _) rfl rfl ?_
            refine s_val (.d _) rfl rfl ?_
            refine g_val (!(p1.Guest_.ID == 0 && (p1.Guest_.S == 0 && (p1.Guest_.V == 0 && (p1.Guest_.Len == 0 && (p1.Guest_.End == 0 && (p1.Guest_.Ahead == 0 && (p1.Guest_.Guess_.R == 0 && (p1.Guest_.Guess_.V == 0 && (p1.Guest_.From == 0 && (p1.Guest_.Until == 0 && true))))))))))) (.ptr _ _) rfl (gw_t rfl) (fun w5 => rfl) ?_
            refine g_val (!(p1.Guest_.ID == 0 && (p1.Guest_.S == 0 && (p1.Guest_.V == 0 && (p1.Guest_.Len == 0 && (p1.Guest_.End == 0 && (p1.Guest_.Ahead == 0 && (p1.Guest_.Guess_.R == 0 && (p1.Guest_.Guess_.V == 0 && (p1.Guest_.From == 0 && (p1.Guest_.Until == 0 && true))))))))))) (.d _) rfl (gw_t rfl) (fun w6 => (v_loadG (gd_pos w6) G_hit rfl rfl)) ?_
            obtain ⟨v5, hv5, h⟩ := bind_some h
            refine g_call (!(p1.Guest_.ID == 0 && (p1.Guest_.S == 0 && (p1.Guest_.V == 0 && (p1.Guest_.Len == 0 && (p1.Guest_.End == 0 && (p1.Guest_.Ahead == 0 && (p1.Guest_.Guess_.R == 0 && (p1.Guest_.Guess_.V == 0 && (p1.Guest_.From == 0 && (p1.Guest_.Until == 0 && true))))))))))) (bo v5) (gw_t rfl) (fun w7 => ⟨_, [(.d (.agg [(i64 p1.Guest_.ID), (i64 p1.Guest_.S), (i64 p1.Guest_.V), (i64 p1.Guest_.Len), (i64 p1.Guest_.End), (i64 p1.Guest_.Ahead), (i64 p1.Guest_.Guess_.R), (i64 p1.Guest_.Guess_.V), (i64 p1.Guest_.From), (i64 p1.Guest_.Until)]))], _, _, (by simp only [gd_pos w7]; rfl), rfl, all2_refl, ref09_guest_ok _  _ (cond_t w7 hv5), (.inl rfl)⟩) ?_
            refine g_val (!(p1.Guest_.ID == 0 && (p1.Guest_.S == 0 && (p1.Guest_.V == 0 && (p1.Guest_.Len == 0 && (p1.Guest_.End == 0 && (p1.Guest_.Ahead == 0 && (p1.Guest_.Guess_.R == 0 && (p1.Guest_.Guess_.V == 0 && (p1.Guest_.From == 0 && (p1.Guest_.Until == 0 && true))))))))))) (.d _) rfl (gw_t rfl) (fun w8 => (by simp only [gd_pos w8]; rfl)) ?_
            refine s_val (.d _) rfl (v_and rfl (fun hc => gd_pos hc) rfl) ?_
            refine s_nil ?_
            refine l_cond ((!(p1.Guest_.ID == 0 && (p1.Guest_.S == 0 && (p1.Guest_.V == 0 && (p1.Guest_.Len == 0 && (p1.Guest_.End == 0 && (p1.Guest_.Ahead == 0 && (p1.Guest_.Guess_.R == 0 && (p1.Guest_.Guess_.V == 0 && (p1.Guest_.From == 0 && (p1.Guest_.Until == 0 && true))))))))))) && (!v5)) rfl (fun c7 => ?_) (fun c7 => ?_)
            · replace h := cond_t c7 h
              refine l_seq ?_
              refine l_reg fun u17 hu17 => ?_
              refine s_val (.d _) rfl rfl ?_
              refine s_nil ?_
              refine l_ret ?_
              obtain rfl := Option.some.inj h
              refine fin_ok (.inr rfl) (resD1 (res_t rfl) rf_d) ?_
              exact (.refl _)
            · replace h := cond_f c7 h
              refine l_skip ?_
              refine l_seq ?_
              refine l_seq ?_
              refine l_reg fun u18 hu18 => ?_
              refine s_val (.d _) rfl rfl ?_
              refine s_nil ?_
              obtain ⟨z3, hz3, h⟩ := thenS_some h
              refine l_join (fun s => ∃ (y3 : Unit) (g4 : Unit), z3 = .inl y3 ∧ Sb ⟨T [], G []⟩ s) ?_ ?_
              · skip
                refine l_block ?_
                refine l_loop (ref09_numbers_l2 p1) (fun (x2 : Int) (g5 : Unit) => ⟨T [(1, (.ptr (1, u1) 0)), (5, (.d (i64 x2)))], G [((1, u1), some (.box 38 [(.d (i64 p1.Tick)), (.d (i64 p1.Gap)), (.d (.list (List.map eMate p1.Mates))), (.d (i64 p1.Guest_.ID)), (.d (i64 p1.Guest_.S)), (.d (i64 p1.Guest_.V)), (.d (i64 p1.Guest_.Len)), (.d (i64 p1.Guest_.End)), (.d (i64 p1.Guest_.Ahead)), (.d (i64 p1.Guest_.Guess_.R)), (.d (i64 p1.Guest_.Guess_.V)), (.d (i64 p1.Guest_.From)), (.d (i64 p1.Guest_.Until))]))]⟩) 0 () _ hz3 (sb_of ⟨.of rfl, .of rfl, trivial⟩ (sbG_some G_hit (.of rfl) trivial)) ?_
                intro x2 g5 z4 hz4 ez4
                unfold ref09_numbers_l2 at hz4
                refine l_seq ?_
                refine l_seq ?_
                refine l_reg fun u19 hu19 => ?_
                refine s_val (.d _) rfl rfl ?_
                refine s_val (.ptr _ _) rfl rfl ?_
                refine s_val (.d _) rfl (v_load rfl G_hit rfl) ?_
                refine s_val (.d _) rfl (v_len rfl) ?_
                refine s_val (.d _) rfl rfl ?_
                refine s_nil ?_
                refine l_cond (decide (x2 < (p1.Mates.length : Int))) rfl (fun c8 => ?_) (fun c8 => ?_)
                · replace hz4 := cond_t c8 hz4
                  refine l_skip ?_
                  refine l_seq ?_
                  refine l_block ?_
                  refine l_seq ?_
                  refine l_seq ?_
                  refine l_reg fun u20 hu20 => ?_
                  refine s_val (.d _) rfl rfl ?_
                  refine s_nil ?_
                  obtain ⟨z5, hz5, hz4⟩ := thenS_some hz4
                  refine l_join (fun s => ∃ (y4 : Unit) (g6 : Unit), z5 = .inl y4 ∧ Sb ⟨T [(1, (.ptr (1, u1) 0)), (5, (.d (i64 x2)))], G [((1, u1), some (.box 38 [(.d (i64 p1.Tick)), (.d (i64 p1.Gap)), (.d (.list (List.map eMate p1.Mates))), (.d (i64 p1.Guest_.ID)), (.d (i64 p1.Guest_.S)), (.d (i64 p1.Guest_.V)), (.d (i64 p1.Guest_.Len)), (.d (i64 p1.Guest_.End)), (.d (i64 p1.Guest_.Ahead)), (.d (i64 p1.Guest_.Guess_.R)), (.d (i64 p1.Guest_.Guess_.V)), (.d (i64 p1.Guest_.From)), (.d (i64 p1.Guest_.Until))]))]⟩ s) ?_ ?_
                  · skip
                    refine l_block ?_
                    refine l_loop (ref09_numbers_l3 p1 x2) (fun (x3 : Int) (g7 : Unit) => ⟨T [(1, (.ptr (1, u1) 0)), (5, (.d (i64 x2))), (6, (.d (i64 x3)))], G [((1, u1), some (.box 38 [(.d (i64 p1.Tick)), (.d (i64 p1.Gap)), (.d (.list (List.map eMate p1.Mates))), (.d (i64 p1.Guest_.ID)), (.d (i64 p1.Guest_.S)), (.d (i64 p1.Guest_.V)), (.d (i64 p1.Guest_.Len)), (.d (i64 p1.Guest_.End)), (.d (i64 p1.Guest_.Ahead)), (.d (i64 p1.Guest_.Guess_.R)), (.d (i64 p1.Guest_.Guess_.V)), (.d (i64 p1.Guest_.From)), (.d (i64 p1.Guest_.Until))]))]⟩) 0 () _ hz5 (sb_of ⟨.of rfl, .of rfl, .of rfl, trivial⟩ (sbG_some G_hit (.of rfl) trivial)) ?_
                    intro x3 g7 z6 hz6 ez6
                    unfold ref09_numbers_l3 at hz6
                    refine l_seq ?_
                    refine l_seq ?_
                    refine l_reg fun u21 hu21 => ?_
                    refine s_val (.d _) rfl rfl ?_
                    refine s_val (.d _) rfl rfl ?_
                    refine s_val (.d _) rfl rfl ?_
                    refine s_nil ?_
                    refine l_cond (decide (x3 < x2)) rfl (fun c9 => ?_) (fun c9 => ?_)
                    · replace hz6 := cond_t c9 hz6
                      refine l_skip ?_
                      refine l_seq ?_
                      refine l_block ?_
                      refine l_seq ?_
                      refine l_draw rfl fun u22 hu22 => ?_
                      refine s_val (.ptr _ _) rfl rfl ?_
                      refine s_val (.d _) rfl (v_load rfl G_hit rfl) ?_
                      refine s_val (.d _) rfl rfl ?_
                      obtain ⟨v6, hv6, hz6⟩ := bind_some hz6
                      refine s_val (.d _) rfl (v_idx rfl rfl hv6 rfl) ?_
                      refine s_val (.d _) rfl rfl ?_
                      refine s_val (.d _) rfl (v_loadL rfl hv6 rfl) ?_
                      refine s_val (.ptr _ _) rfl rfl ?_
                      refine s_val (.d _) rfl (v_load rfl G_hit rfl) ?_
                      refine s_val (.d _) rfl rfl ?_
                      obtain ⟨v7, hv7, hz6⟩ := bind_some hz6
                      refine s_val (.d _) rfl (v_idx rfl rfl hv7 rfl) ?_
                      refine s_val (.d _) rfl rfl ?_
                      refine s_val (.d _) rfl (v_loadL rfl hv7 rfl) ?_
                      refine s_val (.d _) rfl rfl ?_
                      refine s_nil ?_
                      refine l_cond (v6.ID == v7.ID) rfl (fun c10 => ?_) (fun c10 => ?_)
                      · replace hz6 := cond_t c10 hz6
                        refine l_seq ?_
                        refine l_reg fun u23 hu23 => ?_
                        refine s_val (.d _) rfl rfl ?_
                        refine s_nil ?_
                        refine l_ret ?_
                        obtain rfl := Option.some.inj hz6
                        obtain rfl := ez6 _ rfl
                        refine ⟨nofun, awl_ret ?_⟩
                        rw [Sum.elim_inr] at hz4
                        obtain rfl := Option.some.inj hz4
                        obtain rfl := ez4 _ rfl
                        refine ⟨nofun, awl_ret ?_⟩
                        rw [Sum.elim_inr] at h
                        obtain rfl := Option.some.inj h
                        refine fin_ok (.inr rfl) (resD1 (res_t rfl) rf_d) ?_
                        exact (.refl _)
                      · replace hz6 := cond_f c10 hz6
                        refine l_skip ?_
                        refine l_end ?_
                        refine l_reg fun u24 hu24 => ?_
                        refine s_val (.d _) rfl rfl ?_
                        refine s_val (.d _) rfl rfl ?_
                        refine s_val (.d _) rfl rfl ?_
                        refine s_nil ?_
                        refine l_nil ?_
                        obtain rfl := Option.some.inj hz6
                        exact ⟨rfl, (), (sb_of ⟨.of rfl, .of rfl, .of rfl, trivial⟩ (sbG_some G_hit (.of rfl) trivial))⟩
                    · replace hz6 := cond_f c9 hz6
                      refine l_exitN rfl ?_
                      obtain rfl := Option.some.inj hz6
                      obtain rfl := ez6 _ rfl
                      refine ⟨nofun, awl_pop rfl (l_j ?_)⟩
                      exact ⟨_, (), rfl, (sb_of ⟨.of rfl, .of rfl, trivial⟩ (sbG_some G_hit (.of rfl) trivial))⟩
                  · rintro _ ⟨y4, g6, rfl, q3⟩
                    rw [Sum.elim_inl] at hz4
                    refine l_sub q3 ?_
                    refine l_seq ?_
                    refine l_draw rfl fun u25 hu25 => ?_
                    refine s_val (.ptr _ _) rfl rfl ?_
                    refine s_val (.d _) rfl (v_load rfl G_hit rfl) ?_
                    refine s_val (.d _) rfl rfl ?_
                    obtain ⟨v8, hv8, hz4⟩ := bind_some hz4
                    refine s_val (.d _) rfl (v_idx rfl rfl hv8 rfl) ?_
                    refine s_val (.d _) rfl rfl ?_
                    refine s_val (.d _) rfl (v_loadL rfl hv8 rfl) ?_
                    refine s_val (.ptr _ _) rfl rfl ?_
                    refine s_val (.ptr _ _) rfl rfl ?_
                    refine s_val (.d _) rfl (v_load rfl G_hit rfl) ?_
                    refine s_val (.d _) rfl rfl ?_
                    refine s_nil ?_
                    refine l_cond (v8.ID == p1.Guest_.ID) rfl (fun c11 => ?_) (fun c11 => ?_)
                    · replace hz4 := cond_t c11 hz4
                      refine l_seq ?_
                      refine l_reg fun u26 hu26 => ?_
                      refine s_val (.d _) rfl rfl ?_
                      refine s_nil ?_
                      refine l_ret ?_
                      obtain rfl := Option.some.inj hz4
                      obtain rfl := ez4 _ rfl
                      refine ⟨nofun, awl_ret ?_⟩
                      rw [Sum.elim_inr] at h
                      obtain rfl := Option.some.inj h
                      refine fin_ok (.inr rfl) (resD1 (res_t rfl) rf_d) ?_
                      exact (.refl _)
                    · replace hz4 := cond_f c11 hz4
                      refine l_skip ?_
                      refine l_end ?_
                      refine l_reg fun u27 hu27 => ?_
                      refine s_val (.d _) rfl rfl ?_
                      refine s_val (.d _) rfl rfl ?_
                      refine s_val (.d _) rfl rfl ?_
                      refine s_nil ?_
                      refine l_nil ?_
                      obtain rfl := Option.some.inj hz4
                      exact ⟨rfl, (), (sb_of ⟨.of rfl, .of rfl, trivial⟩ (sbG_some G_hit (.of rfl) trivial))⟩
                · replace hz4 := cond_f c8 hz4
                  refine l_exitN rfl ?_
                  obtain rfl := Option.some.inj hz4
                  obtain rfl := ez4 _ rfl
                  refine ⟨nofun, awl_pop rfl (l_j ?_)⟩
                  exact ⟨_, (), rfl, (sb_of trivial trivial)⟩
              · rintro _ ⟨y3, g4, rfl, q4⟩
                rw [Sum.elim_inl] at h
                refine l_sub q4 ?_
                refine l_seq ?_
                refine l_reg fun u28 hu28 => ?_
                refine s_val (.d _) rfl rfl ?_
                refine s_nil ?_
                refine l_ret ?_
                obtain rfl := Option.some.inj h
                refine fin_ok (.inr rfl) (resD1 (res_t rfl) rf_d) ?_
                exact (.refl _)

noncomputable def ref09_Check_l3 (p1 : Convoy) (x3 : Int) : Option (Stp Int (Sum Unit Int)) :=
  cond (decide (x3 < (p1.Mates.length : Int))) ((geti p1.Mates x3).bind fun v6 => ((cond (v6.Ahead != 0) (ref09_Safe v6.S v6.V p1.Gap v6.Guess_) (some default))).bind fun v7 => ((cond ((!((v6.Ahead != 0) && (!v7))) && (v6.Until != 0)) (ref09_Safe v6.S v6.V p1.Gap v6.WardGuess) (some default))).bind fun v8 => cond (((v6.Ahead != 0) && (!v7)) || ((v6.Until != 0) && (!v8))) (some (.out (.inr 12))) (some (.go (w64 (x3 + 1))))) (some (.out (.inl ())))
noncomputable def ref09_Check_l2 (p1 : Convoy) (x2 : Int) : Option (Stp Int (Sum Unit Int)) :=
  cond (decide (x2 < (p1.Mates.length : Int))) ((geti p1.Mates x2).bind fun v5 => cond ((((x2 == 0) && (v5.Ahead != 0)) || (((decide (x2 > 0)) && (v5.Ahead == 0)) && (v5.Until == 0))) || ((v5.Ward == 0) && (v5.Until != 0))) (some (.out (.inr 10))) (some (.go (w64 (x2 + 1))))) (some (.out (.inl ())))
noncomputable def ref09_Check_l1 (p1 : Convoy) (x1 : Int) : Option (Stp Int (Sum Unit Int)) :=
  cond (decide (x1 < (p1.Mates.length : Int))) ((geti p1.Mates x1).bind fun v2 => (geti p1.Mates (w64 (x1 - 1))).bind fun v3 => (ref09_rear v3).bind fun v4 => cond (decide (v2.S ≥ v4)) (some (.out (.inr 11))) (some (.go (w64 (x1 + 1))))) (some (.out (.inl ())))
noncomputable def ref09_Check (p1 : Convoy) : Option Int :=
  (ref09_numbers p1).bind fun v1 => cond (v1 != 0) (some v1) (thenS (loop (ref09_Check_l1 p1) 1) (fun _ => thenS (loop (ref09_Check_l2 p1) 0) (fun _ => thenS (loop (ref09_Check_l3 p1) 0) (fun _ => ((cond (p1.Guest_.ID != 0) (ref09_stop p1.Guest_.V) (some default))).bind fun v9 => cond ((p1.Guest_.ID != 0) && (decide ((w64 (p1.Guest_.S + v9)) ≥ p1.Guest_.End))) (some 12) (some 0)) (fun r => some r)) (fun r => some r)) (fun r => some r))

/-- kerbstone/kerbstoneref09.Check -/
def ac_ref09_Check : AC :=
  (.seq (.reg [⟨(some 1), .box 38 true (.t 0), none⟩, ⟨(some 2), .mv (.c (.v (.int .i64 0))), none⟩])
  (.seq (.seq (.reg [⟨(some 9), .load 13 true (.t 1), none⟩, ⟨(some 10), .call (.c (.fn (.func 78) [] [])) [(.t 9)], none⟩, ⟨(some 3), .mv (.t 10), none⟩])
  (.seq (.reg [⟨(some 11), .mv (.t 3), none⟩, ⟨(some 12), .bin .neq (.t 11) (.c (.v (.int .i64 0))), none⟩])
  (.cond (.t 12)
    (.seq (.reg [⟨(some 13), .mv (.t 3), none⟩, ⟨(some 2), .mv (.t 13), none⟩])
    .ret)
    .skip)))
  (.seq (.seq (.reg [⟨(some 4), .mv (.c (.v (.int .i64 1))), none⟩])
  (.block 0
    (.loop
      (.seq (.seq (.reg [⟨(some 14), .mv (.t 4), none⟩, ⟨(some 15), .fieldA 2 (.t 1), none⟩, ⟨(some 16), .load 1 false (.t 15), none⟩, ⟨(some 17), .len (.t 16), none⟩, ⟨(some 18), .bin .lss (.t 14) (.t 17), none⟩])
      (.cond (.t 18)
        .skip
        (.exit 0)))
      (.seq (.block 1
        (.seq (.draw [⟨(some 21), .fieldA 2 (.t 1), none⟩, ⟨(some 22), .load 1 false (.t 21), none⟩, ⟨(some 23), .mv (.t 4), none⟩, ⟨(some 24), .idxS 12 (.t 22) (.t 23), none⟩, ⟨(some 25), .fieldA 1 (.t 24), none⟩, ⟨(some 26), .load 1 false (.t 25), none⟩, ⟨(some 27), .fieldA 2 (.t 1), none⟩, ⟨(some 28), .load 1 false (.t 27), none⟩, ⟨(some 29), .mv (.t 4), none⟩, ⟨(some 30), .bin .sub (.t 29) (.c (.v (.int .i64 1))), none⟩, ⟨(some 31), .idxS 12 (.t 28) (.t 30), none⟩, ⟨(some 32), .load 12 true (.t 31), none⟩, ⟨(some 33), .call (.c (.fn (.func 70) [] [])) [(.t 32)], none⟩, ⟨(some 34), .bin .geq (.t 26) (.t 33), none⟩] [])
        (.cond (.t 34)
          (.seq (.reg [⟨(some 2), .mv (.c (.v (.int .i64 11))), none⟩])
          .ret)
          .skip)))
      (.reg [⟨(some 19), .mv (.t 4), none⟩, ⟨(some 20), .bin .add (.t 19) (.c (.v (.int .i64 1))), none⟩, ⟨(some 4), .mv (.t 20), none⟩]))))))
  (.seq (.seq (.reg [⟨(some 5), .mv (.c (.v (.int .i64 0))), none⟩])
  (.block 2
    (.loop
      (.seq (.seq (.reg [⟨(some 35), .mv (.t 5), none⟩, ⟨(some 36), .fieldA 2 (.t 1), none⟩, ⟨(some 37), .load 1 false (.t 36), none⟩, ⟨(some 38), .len (.t 37), none⟩, ⟨(some 39), .bin .lss (.t 35) (.t 38), none⟩])
      (.cond (.t 39)
        .skip
        (.exit 2)))
      (.seq (.block 3
        (.seq (.reg [⟨(some 42), .fieldA 2 (.t 1), none⟩, ⟨(some 43), .load 1 false (.t 42), none⟩, ⟨(some 44), .mv (.t 5), none⟩, ⟨(some 45), .idxS 12 (.t 43) (.t 44), none⟩, ⟨(some 46), .load 12 true (.t 45), none⟩, ⟨(some 6), .alloc 65 [(.v (.int .i64 0)), (.v (.int .i64 0)), (.v (.int .i64 0)), (.v (.int .i64 0)), (.v (.int .i64 0)), (.v (.int .i64 0)), (.v (.int .i64 0)), (.v (.bool false)), (.v (.int .i64 0)), (.v (.int .i64 0)), (.v (.int .i64 0)), (.v (.int .i64 0))], none⟩, ⟨none, .store 12 (.t 6) (.t 46), none⟩])
        (.seq (.reg [⟨(some 47), .mv (.t 5), none⟩, ⟨(some 48), .bin .eql (.t 47) (.c (.v (.int .i64 0))), none⟩, ⟨(some 49), .mv (.t 48), none⟩, ⟨(some 50), .fieldA 4 (.t 6), (some (49, true))⟩, ⟨(some 51), .load 1 false (.t 50), (some (49, true))⟩, ⟨(some 52), .bin .neq (.t 51) (.c (.v (.int .i64 0))), (some (49, true))⟩, ⟨(some 53), .pick (.t 49) (.t 52) (.c (.v (.bool false))), none⟩, ⟨(some 54), .mv (.t 53), none⟩, ⟨(some 55), .mv (.t 5), (some (54, false))⟩, ⟨(some 56), .bin .gtr (.t 55) (.c (.v (.int .i64 0))), (some (54, false))⟩, ⟨(some 57), .mv (.t 56), (some (54, false))⟩, ⟨(some 58), .fieldA 4 (.t 6), (some (57, true))⟩, ⟨(some 59), .load 1 false (.t 58), (some (57, true))⟩, ⟨(some 60), .bin .eql (.t 59) (.c (.v (.int .i64 0))), (some (57, true))⟩, ⟨(some 61), .pick (.t 57) (.t 60) (.c (.v (.bool false))), (some (54, false))⟩, ⟨(some 62), .mv (.t 61), (some (54, false))⟩, ⟨(some 63), .fieldA 11 (.t 6), (some (62, true))⟩, ⟨(some 64), .load 1 false (.t 63), (some (62, true))⟩, ⟨(some 65), .bin .eql (.t 64) (.c (.v (.int .i64 0))), (some (62, true))⟩, ⟨(some 66), .pick (.t 62) (.t 65) (.c (.v (.bool false))), (some (54, false))⟩, ⟨(some 67), .pick (.t 54) (.c (.v (.bool true))) (.t 66), none⟩, ⟨(some 68), .mv (.t 67), none⟩, ⟨(some 69), .fieldA 8 (.t 6), (some (68, false))⟩, ⟨(some 70), .load 1 false (.t 69), (some (68, false))⟩, ⟨(some 71), .bin .eql (.t 70) (.c (.v (.int .i64 0))), (some (68, false))⟩, ⟨(some 72), .mv (.t 71), (some (68, false))⟩, ⟨(some 73), .fieldA 11 (.t 6), (some (72, true))⟩, ⟨(some 74), .load 1 false (.t 73), (some (72, true))⟩, ⟨(some 75), .bin .neq (.t 74) (.c (.v (.int .i64 0))), (some (72, true))⟩, ⟨(some 76), .pick (.t 72) (.t 75) (.c (.v (.bool false))), (some (68, false))⟩, ⟨(some 77), .pick (.t 68) (.c (.v (.bool true))) (.t 76), none⟩])
        (.cond (.t 77)
          (.seq (.reg [⟨(some 2), .mv (.c (.v (.int .i64 10))), none⟩])
          .ret)
          .skip))))
      (.reg [⟨(some 40), .mv (.t 5), none⟩, ⟨(some 41), .bin .add (.t 40) (.c (.v (.int .i64 1))), none⟩, ⟨(some 5), .mv (.t 41), none⟩]))))))
  (.seq (.seq (.reg [⟨(some 7), .mv (.c (.v (.int .i64 0))), none⟩])
  (.block 4
    (.loop
      (.seq (.seq (.reg [⟨(some 78), .mv (.t 7), none⟩, ⟨(some 79), .fieldA 2 (.t 1), none⟩, ⟨(some 80), .load 1 false (.t 79), none⟩, ⟨(some 81), .len (.t 80), none⟩, ⟨(some 82), .bin .lss (.t 78) (.t 81), none⟩])
      (.cond (.t 82)
        .skip
        (.exit 4)))
      (.seq (.block 5
        (.seq (.reg [⟨(some 85), .fieldA 2 (.t 1), none⟩, ⟨(some 86), .load 1 false (.t 85), none⟩, ⟨(some 87), .mv (.t 7), none⟩, ⟨(some 88), .idxS 12 (.t 86) (.t 87), none⟩, ⟨(some 89), .load 12 true (.t 88), none⟩, ⟨(some 8), .alloc 65 [(.v (.int .i64 0)), (.v (.int .i64 0)), (.v (.int .i64 0)), (.v (.int .i64 0)), (.v (.int .i64 0)), (.v (.int .i64 0)), (.v (.int .i64 0)), (.v (.bool false)), (.v (.int .i64 0)), (.v (.int .i64 0)), (.v (.int .i64 0)), (.v (.int .i64 0))], none⟩, ⟨none, .store 12 (.t 8) (.t 89), none⟩])
        (.seq (.reg [⟨(some 90), .fieldA 4 (.t 8), none⟩, ⟨(some 91), .load 1 false (.t 90), none⟩, ⟨(some 92), .bin .neq (.t 91) (.c (.v (.int .i64 0))), none⟩, ⟨(some 93), .mv (.t 92), none⟩, ⟨(some 94), .fieldA 1 (.t 8), (some (93, true))⟩, ⟨(some 95), .load 1 false (.t 94), (some (93, true))⟩, ⟨(some 96), .fieldA 2 (.t 8), (some (93, true))⟩, ⟨(some 97), .load 1 false (.t 96), (some (93, true))⟩, ⟨(some 98), .fieldA 1 (.t 1), (some (93, true))⟩, ⟨(some 99), .load 1 false (.t 98), (some (93, true))⟩, ⟨(some 100), .fieldA 5 (.t 8), (some (93, true))⟩, ⟨(some 101), .load 2 true (.t 100), (some (93, true))⟩, ⟨(some 102), .call (.c (.fn (.func 22) [] [])) [(.t 95), (.t 97), (.t 99), (.t 101)], (some (93, true))⟩, ⟨(some 103), .un .not (.t 102), (some (93, true))⟩, ⟨(some 104), .pick (.t 93) (.t 103) (.c (.v (.bool false))), none⟩, ⟨(some 105), .mv (.t 104), none⟩, ⟨(some 106), .fieldA 11 (.t 8), (some (105, false))⟩, ⟨(some 107), .load 1 false (.t 106), (some (105, false))⟩, ⟨(some 108), .bin .neq (.t 107) (.c (.v (.int .i64 0))), (some (105, false))⟩, ⟨(some 109), .mv (.t 108), (some (105, false))⟩, ⟨(some 110), .fieldA 1 (.t 8), (some (109, true))⟩, ⟨(some 111), .load 1 false (.t 110), (some (109, true))⟩, ⟨(some 112), .fieldA 2 (.t 8), (some (109, true))⟩, ⟨(some 113), .load 1 false (.t 112), (some (109, true))⟩, ⟨(some 114), .fieldA 1 (.t 1), (some (109, true))⟩, ⟨(some 115), .load 1 false (.t 114), (some (109, true))⟩, ⟨(some 116), .fieldA 9 (.t 8), (some (109, true))⟩, ⟨(some 117), .load 2 true (.t 116), (some (109, true))⟩, ⟨(some 118), .call (.c (.fn (.func 22) [] [])) [(.t 111), (.t 113), (.t 115), (.t 117)], (some (109, true))⟩, ⟨(some 119), .un .not (.t 118), (some (109, true))⟩, ⟨(some 120), .pick (.t 109) (.t 119) (.c (.v (.bool false))), (some (105, false))⟩, ⟨(some 121), .pick (.t 105) (.c (.v (.bool true))) (.t 120), none⟩])
        (.cond (.t 121)
          (.seq (.reg [⟨(some 2), .mv (.c (.v (.int .i64 12))), none⟩])
          .ret)
          .skip))))
      (.reg [⟨(some 83), .mv (.t 7), none⟩, ⟨(some 84), .bin .add (.t 83) (.c (.v (.int .i64 1))), none⟩, ⟨(some 7), .mv (.t 84), none⟩]))))))
  (.seq (.seq (.draw [⟨(some 122), .fieldA 3 (.t 1), none⟩, ⟨(some 123), .fieldA 0 (.t 122), none⟩, ⟨(some 124), .load 1 false (.t 123), none⟩, ⟨(some 125), .bin .neq (.t 124) (.c (.v (.int .i64 0))), none⟩, ⟨(some 126), .mv (.t 125), none⟩, ⟨(some 127), .fieldA 3 (.t 1), (some (126, true))⟩, ⟨(some 128), .fieldA 1 (.t 127), (some (126, true))⟩, ⟨(some 129), .load 1 false (.t 128), (some (126, true))⟩, ⟨(some 130), .fieldA 3 (.t 1), (some (126, true))⟩, ⟨(some 131), .fieldA 2 (.t 130), (some (126, true))⟩, ⟨(some 132), .load 1 false (.t 131), (some (126, true))⟩, ⟨(some 133), .call (.c (.fn (.func 63) [] [])) [(.t 132)], (some (126, true))⟩, ⟨(some 134), .bin .add (.t 129) (.t 133), (some (126, true))⟩, ⟨(some 135), .fieldA 3 (.t 1), (some (126, true))⟩, ⟨(some 136), .fieldA 4 (.t 135), (some (126, true))⟩, ⟨(some 137), .load 1 false (.t 136), (some (126, true))⟩, ⟨(some 138), .bin .geq (.t 134) (.t 137), (some (126, true))⟩, ⟨(some 139), .pick (.t 126) (.t 138) (.c (.v (.bool false))), none⟩] [])
  (.cond (.t 139)
    (.seq (.reg [⟨(some 2), .mv (.c (.v (.int .i64 12))), none⟩])
    .ret)
    .skip))
  (.seq (.reg [⟨(some 2), .mv (.c (.v (.int .i64 0))), none⟩])
  .ret)))))))
theorem fn_ref09_Check : FnOK Try.prog 33 140 [.t 2] ac_ref09_Check := ⟨_, _, Try.func33, rfl, Try.ntmps33, by kernel_rfl, ⟨fun _ => [], by kernel_rfl⟩, by kernel_rfl⟩
set_option maxHeartbeats 4000000 in
theorem ref09_Check_ok (p1 : Convoy) (r : Int) (h : ref09_Check p1 = some r) : PCall Try.prog 33 [(.agg [(i64 p1.Tick), (i64 p1.Gap), (.list (List.map eMate p1.Mates)), (i64 p1.Guest_.ID), (i64 p1.Guest_.S), (i64 p1.Guest_.V), (i64 p1.Guest_.Len), (i64 p1.Guest_.End), (i64 p1.Guest_.Ahead), (i64 p1.Guest_.Guess_.R), (i64 p1.Guest_.Guess_.V), (i64 p1.Guest_.From), (i64 p1.Guest_.Until)])] (i64 r) := by
  refine l_call fn_ref09_Check (Nat.le_of_ble_eq_true rfl) ?_
  unfold ref09_Check at h
  unfold ac_ref09_Check
  refine (l_sub (s0 := ⟨T [(0, (.d (.agg [(i64 p1.Tick), (i64 p1.Gap), (.list (List.map eMate p1.Mates)), (i64 p1.Guest_.ID), (i64 p1.Guest_.S), (i64 p1.Guest_.V), (i64 p1.Guest_.Len), (i64 p1.Guest_.End), (i64 p1.Guest_.Ahead), (i64 p1.Guest_.Guess_.R), (i64 p1.Guest_.Guess_.V), (i64 p1.Guest_.From), (i64 p1.Guest_.Until)])))], G []⟩) (sb_of ⟨.of rfl, trivial⟩ trivial) ?_)
  refine l_seq ?_
  refine l_reg fun u1 hu1 => ?_
  refine s_new (.ptr _ _) (.box _ _) rfl rfl ?_
  refine s_val (.d _) rfl rfl ?_
  refine s_nil ?_
  refine l_seq ?_
  refine l_seq ?_
  refine l_reg fun u2 hu2 => ?_
  refine s_val (.d _) rfl (v_loadG rfl G_hit rfl rfl) ?_
  obtain ⟨v1, hv1, h⟩ := bind_some h
  refine s_call rfl rfl all2_refl (ref09_numbers_ok _  _ hv1) (.inl rfl) ?_
  refine s_val (.d _) rfl rfl ?_
  refine s_nil ?_
  refine l_seq ?_
  refine l_reg fun u3 hu3 => ?_
  refine s_val (.d _) rfl rfl ?_
  refine s_val (.d _) rfl rfl ?_
  refine s_nil ?_
  refine l_cond (v1 != 0) rfl (fun c1 => ?_) (fun c1 => ?_)
  · replace h := cond_t c1 h
    refine l_seq ?_
    refine l_reg fun u4 hu4 => ?_
    refine s_val (.d _) rfl rfl ?_
    refine s_val (.d _) rfl rfl ?_
    refine s_nil ?_
    refine l_ret ?_
    obtain rfl := Option.some.inj h
    refine fin_ok (.inr rfl) (resD1 (res_t rfl) rf_d) ?_
    exact (.refl _)
  · replace h := cond_f c1 h
    refine l_skip ?_
    refine l_seq ?_
    refine l_seq ?_
    refine l_reg fun u5 hu5 => ?_
    refine s_val (.d _) rfl rfl ?_
    refine s_nil ?_
    obtain ⟨z1, hz1, h⟩ := thenS_some h
    refine l_join (fun s => ∃ (y1 : Unit) (g1 : Unit), z1 = .inl y1 ∧ Sb ⟨T [(1, (.ptr (1, u1) 0))], G [((1, u1), some (.box 38 [(.d (i64 p1.Tick)), (.d (i64 p1.Gap)), (.d (.list (List.map eMate p1.Mates))), (.d (i64 p1.Guest_.ID)), (.d (i64 p1.Guest_.S)), (.d (i64 p1.Guest_.V)), (.d (i64 p1.Guest_.Len)), (.d (i64 p1.Guest_.End)), (.d (i64 p1.Guest_.Ahead)), (.d (i64 p1.Guest_.Guess_.R)), (.d (i64 p1.Guest_.Guess_.V)), (.d (i64 p1.Guest_.From)), (.d (i64 p1.Guest_.Until))]))]⟩ s) ?_ ?_
    · skip
      refine l_block ?_
      refine l_loop (ref09_Check_l1 p1) (fun (x1 : Int) (g2 : Unit) => ⟨T [(1, (.ptr (1, u1) 0)), (4, (.d (i64 x1)))], G [((1, u1), some (.box 38 [(.d (i64 p1.Tick)), (.d (i64 p1.Gap)), (.d (.list (List.map eMate p1.Mates))), (.d (i64 p1.Guest_.ID)), (.d (i64 p1.Guest_.S)), (.d (i64 p1.Guest_.V)), (.d (i64 p1.Guest_.Len)), (.d (i64 p1.Guest_.End)), (.d (i64 p1.Guest_.Ahead)), (.d (i64 p1.Guest_.Guess_.R)), (.d (i64 p1.Guest_.Guess_.V)), (.d (i64 p1.Guest_.From)), (.d (i64 p1.Guest_.Until))]))]⟩) 1 () _ hz1 (sb_of ⟨.of rfl, .of rfl, trivial⟩ (sbG_some G_hit (.of rfl) trivial)) ?_
      intro x1 g2 z2 hz2 ez2
      unfold ref09_Check_l1 at hz2
      refine l_seq ?_
      refine l_seq ?_
      refine l_reg fun u6 hu6 => ?_
      refine s_val (.d _) rfl rfl ?_
      refine s_val (.ptr _ _) rfl rfl ?_
      refine s_val (.d _) rfl (v_load rfl G_hit rfl) ?_
      refine s_val (.d _) rfl (v_len rfl) ?_
      refine s_val (.d _) rfl rfl ?_
      refine s_nil ?_
      refine l_cond (decide (x1 < (p1.Mates.length : Int))) rfl (fun c2 => ?_) (fun c2 => ?_)
      · replace hz2 := cond_t c2 hz2
        refine l_skip ?_
        refine l_seq ?_
        refine l_block ?_
        refine l_seq ?_
        refine l_draw rfl fun u7 hu7 => ?_
        refine s_val (.ptr _ _) rfl rfl ?_
        refine s_val (.d _) rfl (v_load rfl G_hit rfl) ?_
        refine s_val (.d _) rfl rfl ?_
        obtain ⟨v2, hv2, hz2⟩ := bind_some hz2
        refine s_val (.d _) rfl (v_idx rfl rfl hv2 rfl) ?_
        refine s_val (.d _) rfl rfl ?_
        refine s_val (.d _) rfl (v_loadL rfl hv2 rfl) ?_
        refine s_val (.ptr _ _) rfl rfl ?_
        refine s_val (.d _) rfl (v_load rfl G_hit rfl) ?_
        refine s_val (.d _) rfl rfl ?_
        refine s_val (.d _) rfl rfl ?_
        obtain ⟨v3, hv3, hz2⟩ := bind_some hz2
        refine s_val (.d _) rfl (v_idx rfl rfl hv3 rfl) ?_
        refine s_val (.d _) rfl (v_loadLG rfl hv3 rfl rfl) ?_
        obtain ⟨v4, hv4, hz2⟩ := bind_some hz2
        refine s_call rfl rfl all2_refl (ref09_rear_ok _  _ hv4) (.inl rfl) ?_
        refine s_val (.d _) rfl rfl ?_
        refine s_nil ?_
        refine l_cond (decide (v2.S ≥ v4)) rfl (fun c3 => ?_) (fun c3 => ?_)
        · replace hz2 := cond_t c3 hz2
          refine l_seq ?_
          refine l_reg fun u8 hu8 => ?_
          refine s_val (.d _) rfl rfl ?_
          refine s_nil ?_
          refine l_ret ?_
          obtain rfl := Option.some.inj hz2
          obtain rfl := ez2 _ rfl
          refine ⟨nofun, awl_ret ?_⟩
          rw [Sum.elim_inr] at h
          obtain rfl := Option.some.inj h
          refine fin_ok (.inr rfl) (resD1 (res_t rfl) rf_d) ?_
          exact (.refl _)
        · replace hz2 := cond_f c3 hz2
          refine l_skip ?_
          refine l_end ?_
          refine l_reg fun u9 hu9 => ?_
          refine s_val (.d _) rfl rfl ?_
          refine s_val (.d _) rfl rfl ?_
          refine s_val (.d _) rfl rfl ?_
          refine s_nil ?_
          refine l_nil ?_
          obtain rfl := Option.some.inj hz2
          exact ⟨rfl, (), (sb_of ⟨.of rfl, .of rfl, trivial⟩ (sbG_some G_hit (.of rfl) trivial))⟩
      · replace hz2 := cond_f c2 hz2
        refine l_exitN rfl ?_
        obtain rfl := Option.some.inj hz2
        obtain rfl := ez2 _ rfl
        refine ⟨nofun, awl_pop rfl (l_j ?_)⟩
        exact ⟨_, (), rfl, (sb_of ⟨.of rfl, trivial⟩ (sbG_some G_hit (.of rfl) trivial))⟩
    · rintro _ ⟨y1, g1, rfl, q1⟩
      rw [Sum.elim_inl] at h
      refine l_sub q1 ?_
      refine l_seq ?_
      refine l_seq ?_
      refine l_reg fun u10 hu10 => ?_
      refine s_val (.d _) rfl rfl ?_
      refine s_nil ?_
      obtain ⟨z3, hz3, h⟩ := thenS_some h
      refine l_join (fun s => ∃ (y2 : Unit) (g3 : Unit), z3 = .inl y2 ∧ Sb ⟨T [(1, (.ptr (1, u1) 0))], G [((1, u1), some (.box 38 [(.d (i64 p1.Tick)), (.d (i64 p1.Gap)), (.d (.list (List.map eMate p1.Mates))), (.d (i64 p1.Guest_.ID)), (.d (i64 p1.Guest_.S)), (.d (i64 p1.Guest_.V)), (.d (i64 p1.Guest_.Len)), (.d (i64 p1.Guest_.End)), (.d (i64 p1.Guest_.Ahead)), (.d (i64 p1.Guest_.Guess_.R)), (.d (i64 p1.Guest_.Guess_.V)), (.d (i64 p1.Guest_.From)), (.d (i64 p1.Guest_.Until))]))]⟩ s) ?_ ?_
      · skip
        refine l_block ?_
        refine l_loop (ref09_Check_l2 p1) (fun (x2 : Int) (g4 : Unit) => ⟨T [(1, (.ptr (1, u1) 0)), (5, (.d (i64 x2)))], G [((1, u1), some (.box 38 [(.d (i64 p1.Tick)), (.d (i64 p1.Gap)), (.d (.list (List.map eMate p1.Mates))), (.d (i64 p1.Guest_.ID)), (.d (i64 p1.Guest_.S)), (.d (i64 p1.Guest_.V)), (.d (i64 p1.Guest_.Len)), (.d (i64 p1.Guest_.End)), (.d (i64 p1.Guest_.Ahead)), (.d (i64 p1.Guest_.Guess_.R)), (.d (i64 p1.Guest_.Guess_.V)), (.d (i64 p1.Guest_.From)), (.d (i64 p1.Guest_.Until))]))]⟩) 0 () _ hz3 (sb_of ⟨.of rfl, .of rfl, trivial⟩ (sbG_some G_hit (.of rfl) trivial)) ?_
        intro x2 g4 z4 hz4 ez4
        unfold ref09_Check_l2 at hz4
        refine l_seq ?_
        refine l_seq ?_
        refine l_reg fun u11 hu11 => ?_
        refine s_val (.d _) rfl rfl ?_
        refine s_val (.ptr _ _) rfl rfl ?_
        refine s_val (.d _) rfl (v_load rfl G_hit rfl) ?_
        refine s_val (.d _) rfl (v_len rfl) ?_
        refine s_val (.d _) rfl rfl ?_
        refine s_nil ?_
        refine l_cond (decide (x2 < (p1.Mates.length : Int))) rfl (fun c4 => ?_) (fun c4 => ?_)
        · replace hz4 := cond_t c4 hz4
          refine l_skip ?_
          refine l_seq ?_
          refine l_block ?_
          refine l_seq ?_
          refine l_reg fun u12 hu12 => ?_
          refine s_val (.ptr _ _) rfl rfl ?_
          refine s_val (.d _) rfl (v_load rfl G_hit rfl) ?_
          refine s_val (.d _) rfl rfl ?_
          obtain ⟨v5, hv5, hz4⟩ := bind_some hz4
          refine s_val (.d _) rfl (v_idx rfl rfl hv5 rfl) ?_
          refine s_val (.d _) rfl (v_loadLG rfl hv5 rfl rfl) ?_
          refine s_new (.ptr _ _) (.box _ _) rfl rfl ?_
          refine s_store _ _ _ _ _ rfl rfl rfl G_hit (Nat.le_of_ble_eq_true rfl) [(.d (i64 v5.ID)), (.d (i64 v5.S)), (.d (i64 v5.V)), (.d (i64 v5.Len)), (.d (i64 v5.Ahead)), (.d (i64 v5.Guess_.R)), (.d (i64 v5.Guess_.V)), (.d (bo v5.Trust)), (.d (i64 v5.Ward)), (.d (i64 v5.WardGuess.R)), (.d (i64 v5.WardGuess.V)), (.d (i64 v5.Until))] rfl ?_
          refine s_nil ?_
          refine l_seq ?_
          refine l_reg fun u13 hu13 => ?_
          refine s_val (.d _) rfl rfl ?_
          refine s_val (.d _) rfl rfl ?_
          refine s_val (.d _) rfl rfl ?_
          refine g_val (x2 == 0) (.ptr _ _) rfl (gw_t rfl) (fun w1 => rfl) ?_
          refine g_val (x2 == 0) (.d _) rfl (gw_t rfl) (fun w2 => (v_load (gd_pos w2) G_hit rfl)) ?_
          refine g_val (x2 == 0) (.d _) rfl (gw_t rfl) (fun w3 => (v_bin (gd_pos w3) rfl rfl)) ?_
          refine s_val (.d _) rfl (v_and rfl (fun hc => gd_pos hc) rfl) ?_
          refine s_val (.d _) rfl rfl ?_
          refine g_val (!((x2 == 0) && (v5.Ahead != 0))) (.d _) rfl (gw_f rfl) (fun w4 => rfl) ?_
          refine g_val (!((x2 == 0) && (v5.Ahead != 0))) (.d _) rfl (gw_f rfl) (fun w5 => (v_bin (gd_pos w5) rfl rfl)) ?_
          refine g_val (!((x2 == 0) && (v5.Ahead != 0))) (.d _) rfl (gw_f rfl) (fun w6 => (v_mv (gd_pos w6))) ?_
          refine g_val ((!((x2 == 0) && (v5.Ahead != 0))) && (decide (x2 > 0))) (.ptr _ _) rfl (gw_gt rfl) (fun w7 => rfl) ?_
          refine g_val ((!((x2 == 0) && (v5.Ahead != 0))) && (decide (x2 > 0))) (.d _) rfl (gw_gt rfl) (fun w8 => (v_load (gd_pos w8) G_hit rfl)) ?_
          refine g_val ((!((x2 == 0) && (v5.Ahead != 0))) && (decide (x2 > 0))) (.d _) rfl (gw_gt rfl) (fun w9 => (v_bin (gd_pos w9) rfl rfl)) ?_
          refine g_val (!((x2 == 0) && (v5.Ahead != 0))) (.d _) rfl (gw_f rfl) (fun w10 => (v_and (gd_pos w10) (fun hc => gd_pos (and_i w10 hc)) rfl)) ?_
          refine g_val (!((x2 == 0) && (v5.Ahead != 0))) (.d _) rfl (gw_f rfl) (fun w11 => (v_mv (gd_pos w11))) ?_
          refine g_val ((!((x2 == 0) && (v5.Ahead != 0))) && ((decide (x2 > 0)) && (v5.Ahead == 0))) (.ptr _ _) rfl (gw_gt rfl) (fun w12 => rfl) ?_
          refine g_val ((!((x2 == 0) && (v5.Ahead != 0))) && ((decide (x2 > 0)) && (v5.Ahead == 0))) (.d _) rfl (gw_gt rfl) (fun w13 => (v_load (gd_pos w13) G_hit rfl)) ?_
          refine g_val ((!((x2 == 0) && (v5.Ahead != 0))) && ((decide (x2 > 0)) && (v5.Ahead == 0))) (.d _) rfl (gw_gt rfl) (fun w14 => (v_bin (gd_pos w14) rfl rfl)) ?_
          refine g_val (!((x2 == 0) && (v5.Ahead != 0))) (.d _) rfl (gw_f rfl) (fun w15 => (v_and (gd_pos w15) (fun hc => gd_pos (and_i w15 hc)) rfl)) ?_
          refine s_val (.d _) rfl (v_or rfl rfl (fun hc => gd_pos (not_t hc))) ?_
          refine s_val (.d _) rfl rfl ?_
          refine g_val (!(((x2 == 0) && (v5.Ahead != 0)) || (((decide (x2 > 0)) && (v5.Ahead == 0)) && (v5.Until == 0)))) (.ptr _ _) rfl (gw_f rfl) (fun w16 => rfl) ?_
          refine g_val (!(((x2 == 0) && (v5.Ahead != 0)) || (((decide (x2 > 0)) && (v5.Ahead == 0)) && (v5.Until == 0)))) (.d _) rfl (gw_f rfl) (fun w17 => (v_load (gd_pos w17) G_hit rfl)) ?_
          refine g_val (!(((x2 == 0) && (v5.Ahead != 0)) || (((decide (x2 > 0)) && (v5.Ahead == 0)) && (v5.Until == 0)))) (.d _) rfl (gw_f rfl) (fun w18 => (v_bin (gd_pos w18) rfl rfl)) ?_
          refine g_val (!(((x2 == 0) && (v5.Ahead != 0)) || (((decide (x2 > 0)) && (v5.Ahead == 0)) && (v5.Until == 0)))) (.d _) rfl (gw_f rfl) (fun w19 => (v_mv (gd_pos w19))) ?_
          refine g_val ((!(((x2 == 0) && (v5.Ahead != 0)) || (((decide (x2 > 0)) && (v5.Ahead == 0)) && (v5.Until == 0)))) && (v5.Ward == 0)) (.ptr _ _) rfl (gw_gt rfl) (fun w20 => rfl) ?_
          refine g_val ((!(((x2 == 0) && (v5.Ahead != 0)) || (((decide (x2 > 0)) && (v5.Ahead == 0)) && (v5.Until == 0)))) && (v5.Ward == 0)) (.d _) rfl (gw_gt rfl) (fun w21 => (v_load (gd_pos w21) G_hit rfl)) ?_
          refine g_val ((!(((x2 == 0) && (v5.Ahead != 0)) || (((decide (x2 > 0)) && (v5.Ahead == 0)) && (v5.Until == 0)))) && (v5.Ward == 0)) (.d _) rfl (gw_gt rfl) (fun w22 => (v_bin (gd_pos w22) rfl rfl)) ?_
          refine g_val (!(((x2 == 0) && (v5.Ahead != 0)) || (((decide (x2 > 0)) && (v5.Ahead == 0)) && (v5.Until == 0)))) (.d _) rfl (gw_f rfl) (fun w23 => (v_and (gd_pos w23) (fun hc => gd_pos (and_i w23 hc)) rfl)) ?_
          refine s_val (.d _) rfl (v_or rfl rfl (fun hc => gd_pos (not_t hc))) ?_
          refine s_nil ?_
          refine l_cond ((((x2 == 0) && (v5.Ahead != 0)) || (((decide (x2 > 0)) && (v5.Ahead == 0)) && (v5.Until == 0))) || ((v5.Ward == 0) && (v5.Until != 0))) rfl (fun c5 => ?_) (fun c5 => ?_)
          · replace hz4 := cond_t c5 hz4
            refine l_seq ?_
            refine l_sub (s0 := ⟨T [], G []⟩) (sb_of trivial trivial) ?_
            refine l_reg fun u14 hu14 => ?_
            refine s_val (.d _) rfl rfl ?_
            refine s_nil ?_
            refine l_ret ?_
            obtain rfl := Option.some.inj hz4
            obtain rfl := ez4 _ rfl
            refine ⟨nofun, awl_ret ?_⟩
            rw [Sum.elim_inr] at h
            obtain rfl := Option.some.inj h
            refine fin_ok (.inr rfl) (resD1 (res_t rfl) rf_d) ?_
            exact (.refl _)
          · replace hz4 := cond_f c5 hz4
            refine l_skip ?_
            refine l_end ?_
            refine l_sub (s0 := ⟨T [(1, (.ptr (1, u1) 0)), (5, (.d (i64 x2))), (50, (gd (x2 == 0) true (.ptr (6, u12) 4))), (51, (gd (x2 == 0) true (.d (i64 v5.Ahead)))), (52, (gd (x2 == 0) true (.d (bo (v5.Ahead != 0))))), (55, (gd (!((x2 == 0) && (v5.Ahead != 0))) true (.d (i64 x2)))), (56, (gd (!((x2 == 0) && (v5.Ahead != 0))) true (.d (bo (decide (x2 > 0)))))), (57, (gd (!((x2 == 0) && (v5.Ahead != 0))) true (.d (bo (decide (x2 > 0)))))), (58, (gd ((!((x2 == 0) && (v5.Ahead != 0))) && (decide (x2 > 0))) true (.ptr (6, u12) 4))), (59, (gd ((!((x2 == 0) && (v5.Ahead != 0))) && (decide (x2 > 0))) true (.d (i64 v5.Ahead)))), (60, (gd ((!((x2 == 0) && (v5.Ahead != 0))) && (decide (x2 > 0))) true (.d (bo (v5.Ahead == 0))))), (61, (gd (!((x2 == 0) && (v5.Ahead != 0))) true (.d (bo ((decide (x2 > 0)) && (v5.Ahead == 0)))))), (62, (gd (!((x2 == 0) && (v5.Ahead != 0))) true (.d (bo ((decide (x2 > 0)) && (v5.Ahead == 0)))))), (63, (gd ((!((x2 == 0) && (v5.Ahead != 0))) && ((decide (x2 > 0)) && (v5.Ahead == 0))) true (.ptr (6, u12) 11))), (64, (gd ((!((x2 == 0) && (v5.Ahead != 0))) && ((decide (x2 > 0)) && (v5.Ahead == 0))) true (.d (i64 v5.Until)))), (65, (gd ((!((x2 == 0) && (v5.Ahead != 0))) && ((decide (x2 > 0)) && (v5.Ahead == 0))) true (.d (bo (v5.Until == 0))))), (66, (gd (!((x2 == 0) && (v5.Ahead != 0))) true (.d (bo (((decide (x2 > 0)) && (v5.Ahead == 0)) && (v5.Until == 0)))))), (69, (gd (!(((x2 == 0) && (v5.Ahead != 0)) || (((decide (x2 > 0)) && (v5.Ahead == 0)) && (v5.Until == 0)))) true (.ptr (6, u12) 8))), (70, (gd (!(((x2 == 0) && (v5.Ahead != 0)) || (((decide (x2 > 0)) && (v5.Ahead == 0)) && (v5.Until == 0)))) true (.d (i64 v5.Ward)))), (71, (gd (!(((x2 == 0) && (v5.Ahead != 0)) || (((decide (x2 > 0)) && (v5.Ahead == 0)) && (v5.Until == 0)))) true (.d (bo (v5.Ward == 0))))), (72, (gd (!(((x2 == 0) && (v5.Ahead != 0)) || (((decide (x2 > 0)) && (v5.Ahead == 0)) && (v5.Until == 0)))) true (.d (bo (v5.Ward == 0))))), (73, (gd ((!(((x2 == 0) && (v5.Ahead != 0)) || (((decide (x2 > 0)) && (v5.Ahead == 0)) && (v5.Until == 0)))) && (v5.Ward == 0)) true (.ptr (6, u12) 11))), (74, (gd ((!(((x2 == 0) && (v5.Ahead != 0)) || (((decide (x2 > 0)) && (v5.Ahead == 0)) && (v5.Until == 0)))) && (v5.Ward == 0)) true (.d (i64 v5.Until)))), (75, (gd ((!(((x2 == 0) && (v5.Ahead != 0)) || (((decide (x2 > 0)) && (v5.Ahead == 0)) && (v5.Until == 0)))) && (v5.Ward == 0)) true (.d (bo (v5.Until != 0))))), (76, (gd (!(((x2 == 0) && (v5.Ahead != 0)) || (((decide (x2 > 0)) && (v5.Ahead == 0)) && (v5.Until == 0)))) true (.d (bo ((v5.Ward == 0) && (v5.Until != 0))))))], G [((1, u1), some (.box 38 [(.d (i64 p1.Tick)), (.d (i64 p1.Gap)), (.d (.list (List.map eMate p1.Mates))), (.d (i64 p1.Guest_.ID)), (.d (i64 p1.Guest_.S)), (.d (i64 p1.Guest_.V)), (.d (i64 p1.Guest_.Len)), (.d (i64 p1.Guest_.End)), (.d (i64 p1.Guest_.Ahead)), (.d (i64 p1.Guest_.Guess_.R)), (.d (i64 p1.Guest_.Guess_.V)), (.d (i64 p1.Guest_.From)), (.d (i64 p1.Guest_.Until))])), ((6, u12), some (.box 65 [(.d (i64 v5.ID)), (.d (i64 v5.S)), (.d (i64 v5.V)), (.d (i64 v5.Len)), (.d (i64 v5.Ahead)), (.d (i64 v5.Guess_.R)), (.d (i64 v5.Guess_.V)), (.d (bo v5.Trust)), (.d (i64 v5.Ward)), (.d (i64 v5.WardGuess.R)), (.d (i64 v5.WardGuess.V)), (.d (i64 v5.Until))]))]⟩) (sb_of ⟨.of rfl, .of rfl, .of rfl, .of rfl, .of rfl, .of rfl, .of rfl, .of rfl, .of rfl, .of rfl, .of rfl, .of rfl, .of rfl, .of rfl, .of rfl, .of rfl, .of rfl, .of rfl, .of rfl, .of rfl, .of rfl, .of rfl, .of rfl, .of rfl, .of rfl, trivial⟩ (sbG_some (G_skip rfl (G_skip rfl G_hit)) (.of rfl) (sbG_some G_hit (.of rfl) trivial))) ?_
            refine l_reg fun u15 hu15 => ?_
            refine s_val (.d _) rfl rfl ?_
            refine s_val (.d _) rfl rfl ?_
            refine s_val (.d _) rfl rfl ?_
            refine s_nil ?_
            refine l_nil ?_
            obtain rfl := Option.some.inj hz4
            exact ⟨rfl, (), (sb_of ⟨.of rfl, .of rfl, trivial⟩ (sbG_some G_hit (.of rfl) trivial))⟩
        · replace hz4 := cond_f c4 hz4
          refine l_exitN rfl ?_
          obtain rfl := Option.some.inj hz4
          obtain rfl := ez4 _ rfl
          refine ⟨nofun, awl_pop rfl (l_j ?_)⟩
          exact ⟨_, (), rfl, (sb_of ⟨.of rfl, trivial⟩ (sbG_some G_hit (.of rfl) trivial))⟩
      · rintro _ ⟨y2, g3, rfl, q2⟩
        rw [Sum.elim_inl] at h
        refine l_sub q2 ?_
        refine l_seq ?_
        refine l_seq ?_
        refine l_reg fun u16 hu16 => ?_
        refine s_val (.d _) rfl rfl ?_
        refine s_nil ?_
        obtain ⟨z5, hz5, h⟩ := thenS_some h
        refine l_join (fun s => ∃ (y3 : Unit) (g5 : Unit), z5 = .inl y3 ∧ Sb ⟨T [(1, (.ptr (1, u1) 0))], G [((1, u1), some (.box 38 [(.d (i64 p1.Tick)), (.d (i64 p1.Gap)), (.d (.list (List.map eMate p1.Mates))), (.d (i64 p1.Guest_.ID)), (.d (i64 p1.Guest_.S)), (.d (i64 p1.Guest_.V)), (.d (i64 p1.Guest_.Len)), (.d (i64 p1.Guest_.End)), (.d (i64 p1.Guest_.Ahead)), (.d (i64 p1.Guest_.Guess_.R)), (.d (i64 p1.Guest_.Guess_.V)), (.d (i64 p1.Guest_.From)), (.d (i64 p1.Guest_.Until))]))]⟩ s) ?_ ?_
        · skip
          refine l_block ?_
          refine l_loop (ref09_Check_l3 p1) (fun (x3 : Int) (g6 : Unit) => ⟨T [(1, (.ptr (1, u1) 0)), (7, (.d (i64 x3)))], G [((1, u1), some (.box 38 [(.d (i64 p1.Tick)), (.d (i64 p1.Gap)), (.d (.list (List.map eMate p1.Mates))), (.d (i64 p1.Guest_.ID)), (.d (i64 p1.Guest_.S)), (.d (i64 p1.Guest_.V)), (.d (i64 p1.Guest_.Len)), (.d (i64 p1.Guest_.End)), (.d (i64 p1.Guest_.Ahead)), (.d (i64 p1.Guest_.Guess_.R)), (.d (i64 p1.Guest_.Guess_.V)), (.d (i64 p1.Guest_.From)), (.d (i64 p1.Guest_.Until))]))]⟩) 0 () _ hz5 (sb_of ⟨.of rfl, .of rfl, trivial⟩ (sbG_some G_hit (.of rfl) trivial)) ?_
          intro x3 g6 z6 hz6 ez6
          unfold ref09_Check_l3 at hz6
          refine l_seq ?_
          refine l_seq ?_
          refine l_reg fun u17 hu17 => ?_
          refine s_val (.d _) rfl rfl ?_
          refine s_val (.ptr _ _) rfl rfl ?_
          refine s_val (.d _) rfl (v_load rfl G_hit rfl) ?_
          refine s_val (.d _) rfl (v_len rfl) ?_
          refine s_val (.d _) rfl rfl ?_
          refine s_nil ?_
          refine l_cond (decide (x3 < (p1.Mates.length : Int))) rfl (fun c6 => ?_) (fun c6 => ?_)
          · replace hz6 := cond_t c6 hz6
            refine l_skip ?_
            refine l_seq ?_
            refine l_block ?_
            refine l_seq ?_
            refine l_reg fun u18 hu18 => ?_
            refine s_val (.ptr _ _) rfl rfl ?_
            refine s_val (.d _) rfl (v_load rfl G_hit rfl) ?_
            refine s_val (.d _) rfl rfl ?_
            obtain ⟨v6, hv6, hz6⟩ := bind_some hz6
            refine s_val (.d _) rfl (v_idx rfl rfl hv6 rfl) ?_
            refine s_val (.d _) rfl (v_loadLG rfl hv6 rfl rfl) ?_
            refine s_new (.ptr _ _) (.box _ _) rfl rfl ?_
            refine s_store _ _ _ _ _ rfl rfl rfl G_hit (Nat.le_of_ble_eq_true rfl) [(.d (i64 v6.ID)), (.d (i64 v6.S)), (.d (i64 v6.V)), (.d (i64 v6.Len)), (.d (i64 v6.Ahead)), (.d (i64 v6.Guess_.R)), (.d (i64 v6.Guess_.V)), (.d (bo v6.Trust)), (.d (i64 v6.Ward)), (.d (i64 v6.WardGuess.R)), (.d (i64 v6.WardGuess.V)), (.d (i64 v6.Until))] rfl ?_
            refine s_nil ?_
            refine l_seq ?_
            refine l_reg fun u19 hu19 => ?_
            refine s_val (.ptr _ _) rfl rfl ?_
            refine s_val (.d _) rfl (v_load rfl G_hit rfl) ?_
            refine s_val (.d _) rfl rfl ?_
            refine s_val (.d _) rfl rfl ?_
            refine g_val (v6.Ahead != 0) (.ptr _ _) rfl (gw_t rfl) (fun w24 => rfl) ?_
            refine g_val (v6.Ahead != 0) (.d _) rfl (gw_t rfl) (fun w25 => (v_load (gd_pos w25) G_hit rfl)) ?_
            refine g_val (v6.Ahead != 0) (.ptr _ _) rfl (gw_t rfl) (fun w26 => rfl) ?_
            refine g_val (v6.Ahead != 0) (.d _) rfl (gw_t rfl) (fun w27 => (v_load (gd_pos w27) G_hit rfl)) ?_
            refine g_val (v6.Ahead != 0) (.ptr _ _) rfl (gw_t rfl) (fun w28 => rfl) ?_
            refine g_val (v6.Ahead != 0) (.d _) rfl (gw_t rfl) (fun w29 => (v_load (gd_pos w29) (G_skip rfl (G_skip rfl G_hit)) rfl)) ?_
            refine g_val (v6.Ahead != 0) (.ptr _ _) rfl (gw_t rfl) (fun w30 => rfl) ?_
            refine g_val (v6.Ahead != 0) (.d _) rfl (gw_t rfl) (fun w31 => (v_loadG (gd_pos w31) G_hit rfl rfl)) ?_
            obtain ⟨v7, hv7, hz6⟩ := bind_some hz6
            refine g_call (v6.Ahead != 0) (bo v7) (gw_t rfl) (fun w32 => ⟨_, [(.d (i64 v6.S)), (.d (i64 v6.V)), (.d (i64 p1.Gap)), (.d (.agg [(i64 v6.Guess_.R), (i64 v6.Guess_.V)]))], _, _, (by simp only [gd_pos w32]; rfl), rfl, all2_refl, ref09_Safe_ok _ _ _ _  _ (cond_t w32 hv7), (.inl rfl)⟩) ?_
            refine g_val (v6.Ahead != 0) (.d _) rfl (gw_t rfl) (fun w33 => (by simp only [gd_pos w33]; rfl)) ?_
            refine s_val (.d _) rfl (v_and rfl (fun hc => gd_pos hc) rfl) ?_
            refine s_val (.d _) rfl rfl ?_
            refine g_val (!((v6.Ahead != 0) && (!v7))) (.ptr _ _) rfl (gw_f rfl) (fun w34 => rfl) ?_
            refine g_val (!((v6.Ahead != 0) && (!v7))) (.d _) rfl (gw_f rfl) (fun w35 => (v_load (gd_pos w35) G_hit rfl)) ?_
            refine g_val (!((v6.Ahead != 0) && (!v7))) (.d _) rfl (gw_f rfl) (fun w36 => (v_bin (gd_pos w36) rfl rfl)) ?_
            refine g_val (!((v6.Ahead != 0) && (!v7))) (.d _) rfl (gw_f rfl) (fun w37 => (v_mv (gd_pos w37))) ?_
            refine g_val ((!((v6.Ahead != 0) && (!v7))) && (v6.Until != 0)) (.ptr _ _) rfl (gw_gt rfl) (fun w38 => rfl) ?_
            refine g_val ((!((v6.Ahead != 0) && (!v7))) && (v6.Until != 0)) (.d _) rfl (gw_gt rfl) (fun w39 => (v_load (gd_pos w39) G_hit rfl)) ?_
            refine g_val ((!((v6.Ahead != 0) && (!v7))) && (v6.Until != 0)) (.ptr _ _) rfl (gw_gt rfl) (fun w40 => rfl) ?_
            refine g_val ((!((v6.Ahead != 0) && (!v7))) && (v6.Until != 0)) (.d _) rfl (gw_gt rfl) (fun w41 => (v_load (gd_pos w41) G_hit rfl)) ?_
            refine g_val ((!((v6.Ahead != 0) && (!v7))) && (v6.Until != 0)) (.ptr _ _) rfl (gw_gt rfl) (fun w42 => rfl) ?_
            refine g_val ((!((v6.Ahead != 0) && (!v7))) && (v6.Until != 0)) (.d _) rfl (gw_gt rfl) (fun w43 => (v_load (gd_pos w43) (G_skip rfl (G_skip rfl G_hit)) rfl)) ?_
            refine g_val ((!((v6.Ahead != 0) && (!v7))) && (v6.Until != 0)) (.ptr _ _) rfl (gw_gt rfl) (fun w44 => rfl) ?_
            refine g_val ((!((v6.Ahead != 0) && (!v7))) && (v6.Until != 0)) (.d _) rfl (gw_gt rfl) (fun w45 => (v_loadG (gd_pos w45) G_hit rfl rfl)) ?_
            obtain ⟨v8, hv8, hz6⟩ := bind_some hz6
            refine g_call ((!((v6.Ahead != 0) && (!v7))) && (v6.Until != 0)) (bo v8) (gw_gt rfl) (fun w46 => ⟨_, [(.d (i64 v6.S)), (.d (i64 v6.V)), (.d (i64 p1.Gap)), (.d (.agg [(i64 v6.WardGuess.R), (i64 v6.WardGuess.V)]))], _, _, (by simp only [gd_pos w46]; rfl), rfl, all2_refl, ref09_Safe_ok _ _ _ _  _ (cond_t w46 hv8), (.inl rfl)⟩) ?_
            refine g_val ((!((v6.Ahead != 0) && (!v7))) && (v6.Until != 0)) (.d _) rfl (gw_gt rfl) (fun w47 => (by simp only [gd_pos w47]; rfl)) ?_
            refine g_val (!((v6.Ahead != 0) && (!v7))) (.d _) rfl (gw_f rfl) (fun w48 => (v_and (gd_pos w48) (fun hc => gd_pos (and_i w48 hc)) rfl)) ?_
            refine s_val (.d _) rfl (v_or rfl rfl (fun hc => gd_pos (not_t hc))) ?_
            refine s_nil ?_
            refine l_cond (((v6.Ahead != 0) && (!v7)) || ((v6.Until != 0) && (!v8))) rfl (fun c7 => ?_) (fun c7 => ?_)
            · replace hz6 := cond_t c7 hz6
              refine l_seq ?_
              refine l_sub (s0 := ⟨T [], G []⟩) (sb_of trivial trivial) ?_
              refine l_reg fun u20 hu20 => ?_
              refine s_val (.d _) rfl rfl ?_
              refine s_nil ?_
              refine l_ret ?_
              obtain rfl := Option.some.inj hz6
              obtain rfl := ez6 _ rfl
              refine ⟨nofun, awl_ret ?_⟩
              rw [Sum.elim_inr] at h
              obtain rfl := Option.some.inj h
              refine fin_ok (.inr rfl) (resD1 (res_t rfl) rf_d) ?_
              exact (.refl _)
            · replace hz6 := cond_f c7 hz6
              refine l_skip ?_
              refine l_end ?_
              refine l_sub (s0 := ⟨T [(1, (.ptr (1, u1) 0)), (7, (.d (i64 x3))), (94, (gd (v6.Ahead != 0) true (.ptr (8, u18) 1))), (95, (gd (v6.Ahead != 0) true (.d (i64 v6.S)))), (96, (gd (v6.Ahead != 0) true (.ptr (8, u18) 2))), (97, (gd (v6.Ahead != 0) true (.d (i64 v6.V)))), (98, (gd (v6.Ahead != 0) true (.ptr (1, u1) 1))), (99, (gd (v6.Ahead != 0) true (.d (i64 p1.Gap)))), (100, (gd (v6.Ahead != 0) true (.ptr (8, u18) 5))), (101, (gd (v6.Ahead != 0) true (.d (.agg [(i64 v6.Guess_.R), (i64 v6.Guess_.V)])))), (102, (gd (v6.Ahead != 0) true (.d (bo v7)))), (103, (gd (v6.Ahead != 0) true (.d (bo (!v7))))), (106, (gd (!((v6.Ahead != 0) && (!v7))) true (.ptr (8, u18) 11))), (107, (gd (!((v6.Ahead != 0) && (!v7))) true (.d (i64 v6.Until)))), (108, (gd (!((v6.Ahead != 0) && (!v7))) true (.d (bo (v6.Until != 0))))), (109, (gd (!((v6.Ahead != 0) && (!v7))) true (.d (bo (v6.Until != 0))))), (110, (gd ((!((v6.Ahead != 0) && (!v7))) && (v6.Until != 0)) true (.ptr (8, u18) 1))), (111, (gd ((!((v6.Ahead != 0) && (!v7))) && (v6.Until != 0)) true (.d (i64 v6.S)))), (112, (gd ((!((v6.Ahead != 0) && (!v7))) && (v6.Until != 0)) true (.ptr (8, u18) 2))), (113, (gd ((!((v6.Ahead != 0) && (!v7))) && (v6.Until != 0)) true (.d (i64 v6.V)))), (114, (gd ((!((v6.Ahead != 0) && (!v7))) && (v6.Until != 0)) true (.ptr (1, u1) 1))), (115, (gd ((!((v6.Ahead != 0) && (!v7))) && (v6.Until != 0)) true (.d (i64 p1.Gap)))), (116, (gd ((!((v6.Ahead != 0) && (!v7))) && (v6.Until != 0)) true (.ptr (8, u18) 9))), (117, (gd ((!((v6.Ahead != 0) && (!v7))) && (v6.Until != 0)) true (.d (.agg [(i64 v6.WardGuess.R), (i64 v6.WardGuess.V)])))), (118, (gd ((!((v6.Ahead != 0) && (!v7))) && (v6.Until != 0)) true (.d (bo v8)))), (119, (gd ((!((v6.Ahead != 0) && (!v7))) && (v6.Until != 0)) true (.d (bo (!v8))))), (120, (gd (!((v6.Ahead != 0) && (!v7))) true (.d (bo ((v6.Until != 0) && (!v8))))))], G [((1, u1), some (.box 38 [(.d (i64 p1.Tick)), (.d (i64 p1.Gap)), (.d (.list (List.map eMate p1.Mates))), (.d (i64 p1.Guest_.ID)), (.d (i64 p1.Guest_.S)), (.d (i64 p1.Guest_.V)), (.d (i64 p1.Guest_.Len)), (.d (i64 p1.Guest_.End)), (.d (i64 p1.Guest_.Ahead)), (.d (i64 p1.Guest_.Guess_.R)), (.d (i64 p1.Guest_.Guess_.V)), (.d (i64 p1.Guest_.From)), (.d (i64 p1.Guest_.Until))])), ((8, u18), some (.box 65 [(.d (i64 v6.ID)), (.d (i64 v6.S)), (.d (i64 v6.V)), (.d (i64 v6.Len)), (.d (i64 v6.Ahead)), (.d (i64 v6.Guess_.R)), (.d (i64 v6.Guess_.V)), (.d (bo v6.Trust)), (.d (i64 v6.Ward)), (.d (i64 v6.WardGuess.R)), (.d (i64 v6.WardGuess.V)), (.d (i64 v6.Until))]))]⟩) (sb_of ⟨.of rfl, .of rfl, .of rfl, .of rfl, .of rfl, .of rfl, .of rfl, .of rfl, .of rfl, .of rfl, .of rfl, .of rfl, .of rfl, .of rfl, .of rfl, .of rfl, .of rfl, .of rfl, .of rfl, .of rfl, .of rfl, .of rfl, .of rfl, .of rfl, .of rfl, .of rfl, .of rfl, trivial⟩ (sbG_some (G_skip rfl (G_skip rfl G_hit)) (.of rfl) (sbG_some G_hit (.of rfl) trivial))) ?_
              refine l_reg fun u21 hu21 => ?_
              refine s_val (.d _) rfl rfl ?_
              refine s_val (.d _) rfl rfl ?_
              refine s_val (.d _) rfl rfl ?_
              refine s_nil ?_
              refine l_nil ?_
              obtain rfl := Option.some.inj hz6
              exact ⟨rfl, (), (sb_of ⟨.of rfl, .of rfl, trivial⟩ (sbG_some G_hit (.of rfl) trivial))⟩
          · replace hz6 := cond_f c6 hz6
            refine l_exitN rfl ?_
            obtain rfl := Option.some.inj hz6
            obtain rfl := ez6 _ rfl
            refine ⟨nofun, awl_pop rfl (l_j ?_)⟩
            exact ⟨_, (), rfl, (sb_of ⟨.of rfl, trivial⟩ (sbG_some G_hit (.of rfl) trivial))⟩
        · rintro _ ⟨y3, g5, rfl, q3⟩
          rw [Sum.elim_inl] at h
          refine l_sub q3 ?_
          refine l_seq ?_
          refine l_seq ?_
          refine l_draw rfl fun u22 hu22 => ?_
          refine s_val (.ptr _ _) rfl rfl ?_
          refine s_val (.ptr _ _) rfl rfl ?_
          refine s_val (.d _) rfl (v_load rfl G_hit rfl) ?_
          refine s_val (.d _) rfl rfl ?_
          refine s_val (.d _) rfl rfl ?_
          refine g_val (p1.Guest_.ID != 0) (.ptr _ _) rfl (gw_t rfl) (fun w49 => rfl) ?_
          refine g_val (p1.Guest_.ID != 0) (.ptr _ _) rfl (gw_t rfl) (fun w50 => (by simp only [gd_pos w50]; rfl)) ?_
          refine g_val (p1.Guest_.ID != 0) (.d _) rfl (gw_t rfl) (fun w51 => (v_load (gd_pos w51) G_hit rfl)) ?_
          refine g_val (p1.Guest_.ID != 0) (.ptr _ _) rfl (gw_t rfl) (fun w52 => rfl) ?_
          refine g_val (p1.Guest_.ID != 0) (.ptr _ _) rfl (gw_t rfl) (fun w53 => (by simp only [gd_pos w53]; rfl)) ?_
          refine g_val (p1.Guest_.ID != 0) (.d _) rfl (gw_t rfl) (fun w54 => (v_load (gd_pos w54) G_hit rfl)) ?_
          obtain ⟨v9, hv9, h⟩ := bind_some h
          refine g_call (p1.Guest_.ID != 0) (i64 v9) (gw_t rfl) (fun w55 => ⟨_, [(.d (i64 p1.Guest_.V))], _, _, (by simp only [gd_pos w55]; rfl), rfl, all2_refl, ref09_stop_ok _  _ (cond_t w55 hv9), (.inl rfl)⟩) ?_
          refine g_val (p1.Guest_.ID != 0) (.d _) rfl (gw_t rfl) (fun w56 => (v_bin (gd_pos w56) (gd_pos w56) rfl)) ?_
          refine g_val (p1.Guest_.ID != 0) (.ptr _ _) rfl (gw_t rfl) (fun w57 => rfl) ?_
          refine g_val (p1.Guest_.ID != 0) (.ptr _ _) rfl (gw_t rfl) (fun w58 => (by simp only [gd_pos w58]; rfl)) ?_
          refine g_val (p1.Guest_.ID != 0) (.d _) rfl (gw_t rfl) (fun w59 => (v_load (gd_pos w59) G_hit rfl)) ?_
          refine g_val (p1.Guest_.ID != 0) (.d _) rfl (gw_t rfl) (fun w60 => (v_bin (gd_pos w60) (gd_pos w60) rfl)) ?_
          refine s_val (.d _) rfl (v_and rfl (fun hc => gd_pos hc) rfl) ?_
          refine s_nil ?_
          refine l_cond ((p1.Guest_.ID != 0) && (decide ((w64 (p1.Guest_.S + v9)) ≥ p1.Guest_.End))) rfl (fun c8 => ?_) (fun c8 => ?_)
          · replace h := cond_t c8 h
            refine l_seq ?_
            refine l_reg fun u23 hu23 => ?_
            refine s_val (.d _) rfl rfl ?_
            refine s_nil ?_
            refine l_ret ?_
            obtain rfl := Option.some.inj h
            refine fin_ok (.inr rfl) (resD1 (res_t rfl) rf_d) ?_
            exact (.refl _)
          · replace h := cond_f c8 h
            refine l_skip ?_
            refine l_seq ?_
            refine l_reg fun u24 hu24 => ?_
            refine s_val (.d _) rfl rfl ?_
            refine s_nil ?_
            refine l_ret ?_
            obtain rfl := Option.some.inj h
            refine fin_ok (.inr rfl) (resD1 (res_t rfl) rf_d) ?_
            exact (.refl _)

noncomputable def ref09_New_l1 (p2 : (List Mate)) (x1 : (Int × Convoy)) : Option (Stp (Int × Convoy) Convoy) :=
  cond (decide (x1.1 < (p2.length : Int))) ((geti p2 x1.1).bind fun v1 => (geti p2 x1.1).bind fun v2 => (geti p2 x1.1).bind fun v3 => (cond (decide (x1.1 > 0)) ((geti p2 (w64 (x1.1 - 1))).bind fun v4 => (ref09_rear v4).bind fun v5 => (geti p2 (w64 (x1.1 - 1))).bind fun v6 => some (Mate.mk (w64 (x1.1 + 1)) v1.S v2.V v3.Len x1.1 (Guess.mk v5 v6.V) true 0 (Guess.mk 0 0) 0)) (some (Mate.mk (w64 (x1.1 + 1)) v1.S v2.V v3.Len x1.1 (Guess.mk 0 0) true 0 (Guess.mk 0 0) 0))).bind fun y2 => (appc x1.2.Mates [y2]).bind fun v7 => some (.go ((w64 (x1.1 + 1)), (Convoy.mk x1.2.Tick x1.2.Gap v7 x1.2.Guest_)))) (some (.out x1.2))
noncomputable def ref09_New (p1 : Int) (p2 : (List Mate)) : Option (Convoy × Int) :=
  (loop (ref09_New_l1 p2) (0, (Convoy.mk 0 p1 [] (Guest.mk 0 0 0 0 0 0 (Guess.mk 0 0) 0 0)))).bind fun y1 => (ref09_Check y1).bind fun v8 => cond (v8 != 0) (some ((Convoy.mk 0 0 [] (Guest.mk 0 0 0 0 0 0 (Guess.mk 0 0) 0 0)), v8)) (some (y1, 0))

/-- kerbstone/kerbstoneref09.New -/
def ac_ref09_New : AC :=
  (.seq (.reg [⟨(some 4), .alloc 38 [(.v (.int .i64 0)), (.v (.int .i64 0)), .nilS, (.v (.int .i64 0)), (.v (.int .i64 0)), (.v (.int .i64 0)), (.v (.int .i64 0)), (.v (.int .i64 0)), (.v (.int .i64 0)), (.v (.int .i64 0)), (.v (.int .i64 0)), (.v (.int .i64 0)), (.v (.int .i64 0))], none⟩, ⟨(some 5), .mv (.c (.v (.int .i64 0))), none⟩])
  (.seq (.reg [⟨(some 10), .mv (.t 0), none⟩, ⟨(some 11), .build [(.v (.int .i64 0)), (.v (.int .i64 0)), .nilS, (.v (.int .i64 0)), (.v (.int .i64 0)), (.v (.int .i64 0)), (.v (.int .i64 0)), (.v (.int .i64 0)), (.v (.int .i64 0)), (.v (.int .i64 0)), (.v (.int .i64 0)), (.v (.int .i64 0)), (.v (.int .i64 0))] [(1, 1, (.t 10))], none⟩, ⟨(some 6), .alloc 38 [(.v (.int .i64 0)), (.v (.int .i64 0)), .nilS, (.v (.int .i64 0)), (.v (.int .i64 0)), (.v (.int .i64 0)), (.v (.int .i64 0)), (.v (.int .i64 0)), (.v (.int .i64 0)), (.v (.int .i64 0)), (.v (.int .i64 0)), (.v (.int .i64 0)), (.v (.int .i64 0))], none⟩, ⟨none, .store 13 (.t 6) (.t 11), none⟩])
  (.seq (.seq (.reg [⟨(some 7), .mv (.c (.v (.int .i64 0))), none⟩])
  (.block 0
    (.loop
      (.seq (.seq (.reg [⟨(some 12), .mv (.t 7), none⟩, ⟨(some 13), .mv (.t 1), none⟩, ⟨(some 14), .len (.t 13), none⟩, ⟨(some 15), .bin .lss (.t 12) (.t 14), none⟩])
      (.cond (.t 15)
        .skip
        (.exit 0)))
      (.seq (.block 1
        (.seq (.draw [⟨(some 18), .mv (.t 7), none⟩, ⟨(some 19), .bin .add (.t 18) (.c (.v (.int .i64 1))), none⟩, ⟨(some 20), .mv (.t 1), none⟩, ⟨(some 21), .mv (.t 7), none⟩, ⟨(some 22), .idxS 12 (.t 20) (.t 21), none⟩, ⟨(some 23), .fieldA 1 (.t 22), none⟩, ⟨(some 24), .load 1 false (.t 23), none⟩, ⟨(some 25), .mv (.t 1), none⟩, ⟨(some 26), .mv (.t 7), none⟩, ⟨(some 27), .idxS 12 (.t 25) (.t 26), none⟩, ⟨(some 28), .fieldA 2 (.t 27), none⟩, ⟨(some 29), .load 1 false (.t 28), none⟩, ⟨(some 30), .mv (.t 1), none⟩, ⟨(some 31), .mv (.t 7), none⟩, ⟨(some 32), .idxS 12 (.t 30) (.t 31), none⟩, ⟨(some 33), .fieldA 3 (.t 32), none⟩, ⟨(some 34), .load 1 false (.t 33), none⟩, ⟨(some 35), .mv (.t 7), none⟩, ⟨(some 36), .build [(.v (.int .i64 0)), (.v (.int .i64 0)), (.v (.int .i64 0)), (.v (.int .i64 0)), (.v (.int .i64 0)), (.v (.int .i64 0)), (.v (.int .i64 0)), (.v (.bool false)), (.v (.int .i64 0)), (.v (.int .i64 0)), (.v (.int .i64 0)), (.v (.int .i64 0))] [(0, 1, (.t 19)), (1, 1, (.t 24)), (2, 1, (.t 29)), (3, 1, (.t 34)), (4, 1, (.t 35)), (7, 1, (.c (.v (.bool true))))], none⟩, ⟨(some 8), .alloc 65 [(.v (.int .i64 0)), (.v (.int .i64 0)), (.v (.int .i64 0)), (.v (.int .i64 0)), (.v (.int .i64 0)), (.v (.int .i64 0)), (.v (.int .i64 0)), (.v (.bool false)), (.v (.int .i64 0)), (.v (.int .i64 0)), (.v (.int .i64 0)), (.v (.int .i64 0))], none⟩, ⟨none, .store 12 (.t 8) (.t 36), none⟩] [])
        (.seq (.seq (.reg [⟨(some 37), .mv (.t 7), none⟩, ⟨(some 38), .bin .gtr (.t 37) (.c (.v (.int .i64 0))), none⟩])
        (.cond (.t 38)
          (.draw [⟨(some 39), .mv (.t 1), none⟩, ⟨(some 40), .mv (.t 7), none⟩, ⟨(some 41), .bin .sub (.t 40) (.c (.v (.int .i64 1))), none⟩, ⟨(some 42), .idxS 12 (.t 39) (.t 41), none⟩, ⟨(some 43), .load 12 true (.t 42), none⟩, ⟨(some 44), .call (.c (.fn (.func 70) [] [])) [(.t 43)], none⟩, ⟨(some 45), .mv (.t 1), none⟩, ⟨(some 46), .mv (.t 7), none⟩, ⟨(some 47), .bin .sub (.t 46) (.c (.v (.int .i64 1))), none⟩, ⟨(some 48), .idxS 12 (.t 45) (.t 47), none⟩, ⟨(some 49), .fieldA 2 (.t 48), none⟩, ⟨(some 50), .load 1 false (.t 49), none⟩, ⟨(some 51), .build [(.v (.int .i64 0)), (.v (.int .i64 0))] [(0, 1, (.t 44)), (1, 1, (.t 50))], none⟩, ⟨(some 52), .fieldA 5 (.t 8), none⟩, ⟨none, .store 2 (.t 52) (.t 51), none⟩] [])
          .skip))
        (.reg [⟨(some 53), .fieldA 2 (.t 6), none⟩, ⟨(some 54), .load 1 false (.t 53), none⟩, ⟨(some 55), .load 12 true (.t 8), none⟩, ⟨(some 56), .dslice 65 12 1 [(.v (.int .i64 0)), (.v (.int .i64 0)), (.v (.int .i64 0)), (.v (.int .i64 0)), (.v (.int .i64 0)), (.v (.int .i64 0)), (.v (.int .i64 0)), (.v (.bool false)), (.v (.int .i64 0)), (.v (.int .i64 0)), (.v (.int .i64 0)), (.v (.int .i64 0))] [(0, 12, (.t 55))], none⟩, ⟨(some 57), .append 34 65 12 (.t 54) (.t 56), none⟩, ⟨(some 58), .fieldA 2 (.t 6), none⟩, ⟨none, .store 1 (.t 58) (.t 57), none⟩]))))
      (.reg [⟨(some 16), .mv (.t 7), none⟩, ⟨(some 17), .bin .add (.t 16) (.c (.v (.int .i64 1))), none⟩, ⟨(some 7), .mv (.t 17), none⟩]))))))
  (.seq (.seq (.reg [⟨(some 59), .load 13 true (.t 6), none⟩, ⟨(some 60), .call (.c (.fn (.func 33) [] [])) [(.t 59)], none⟩, ⟨(some 9), .mv (.t 60), none⟩])
  (.seq (.reg [⟨(some 61), .mv (.t 9), none⟩, ⟨(some 62), .bin .neq (.t 61) (.c (.v (.int .i64 0))), none⟩])
  (.cond (.t 62)
    (.seq (.reg [⟨(some 63), .build [(.v (.int .i64 0)), (.v (.int .i64 0)), .nilS, (.v (.int .i64 0)), (.v (.int .i64 0)), (.v (.int .i64 0)), (.v (.int .i64 0)), (.v (.int .i64 0)), (.v (.int .i64 0)), (.v (.int .i64 0)), (.v (.int .i64 0)), (.v (.int .i64 0)), (.v (.int .i64 0))] [], none⟩, ⟨(some 64), .mv (.t 9), none⟩, ⟨none, .store 13 (.t 4) (.t 63), none⟩, ⟨(some 5), .mv (.t 64), none⟩])
    .ret)
    .skip)))
  (.seq (.reg [⟨(some 65), .load 13 true (.t 6), none⟩, ⟨none, .store 13 (.t 4) (.t 65), none⟩, ⟨(some 5), .mv (.c (.v (.int .i64 0))), none⟩])
  .ret)))))
theorem fn_ref09_New : FnOK Try.prog 44 66 [.cell 4 13 true, .t 5] ac_ref09_New := ⟨_, _, Try.func44, rfl, Try.ntmps44, by kernel_rfl, ⟨fun r => if r == 8 then [1003] else [], by kernel_rfl⟩, by kernel_rfl⟩
set_option maxHeartbeats 4000000 in
theorem ref09_New_ok (p1 : Int) (p2 : (List Mate)) (r : (Convoy × Int)) (h : ref09_New p1 p2 = some r) : PCall Try.prog 44 [(i64 p1), (.list (List.map eMate p2))] (.tup [(.agg [(i64 r.1.Tick), (i64 r.1.Gap), (.list (List.map eMate r.1.Mates)), (i64 r.1.Guest_.ID), (i64 r.1.Guest_.S), (i64 r.1.Guest_.V), (i64 r.1.Guest_.Len), (i64 r.1.Guest_.End), (i64 r.1.Guest_.Ahead), (i64 r.1.Guest_.Guess_.R), (i64 r.1.Guest_.Guess_.V), (i64 r.1.Guest_.From), (i64 r.1.Guest_.Until)]), (i64 r.2)]) := by
  refine l_call fn_ref09_New (Nat.le_of_ble_eq_true rfl) ?_
  unfold ref09_New at h
  unfold ac_ref09_New
  refine (l_sub (s0 := ⟨T [(0, (.d (i64 p1))), (1, (.d (.list (List.map eMate p2))))], G []⟩) (sb_of ⟨.of rfl, .of rfl, trivial⟩ trivial) ?_)
  refine l_seq ?_
  refine l_reg fun u1 hu1 => ?_
  refine s_new (.ptr _ _) (.box _ _) rfl rfl ?_
  refine s_val (.d _) rfl rfl ?_
  refine s_nil ?_
  refine l_seq ?_
  refine l_reg fun u2 hu2 => ?_
  refine s_val (.d _) rfl rfl ?_
  refine s_val (.d _) rfl rfl ?_
  refine s_new (.ptr _ _) (.box _ _) rfl rfl ?_
  refine s_store _ _ _ _ _ rfl rfl rfl G_hit (Nat.le_of_ble_eq_true rfl) [(.d (i64 0)), (.d (i64 p1)), (.d .nilS), (.d (i64 0)), (.d (i64 0)), (.d (i64 0)), (.d (i64 0)), (.d (i64 0)), (.d (i64 0)), (.d (i64 0)), (.d (i64 0)), (.d (i64 0)), (.d (i64 0))] rfl ?_
  refine s_nil ?_
  refine l_seq ?_
  refine l_seq ?_
  refine l_reg fun u3 hu3 => ?_
  refine s_val (.d _) rfl rfl ?_
  refine s_nil ?_
  obtain ⟨y1, hy1, h⟩ := bind_some h
  refine l_join (fun s => ∃ g1 : Nat, Sb ⟨T [(4, (.ptr (4, u1) 0)), (6, (.ptr (6, u2) 0))], G [((4, u1), some (.box 38 [(.d (i64 0)), (.d (i64 0)), (.d .nilS), (.d (i64 0)), (.d (i64 0)), (.d (i64 0)), (.d (i64 0)), (.d (i64 0)), (.d (i64 0)), (.d (i64 0)), (.d (i64 0)), (.d (i64 0)), (.d (i64 0))])), ((6, u2), some (.box 38 [(.d (i64 y1.Tick)), (.d (i64 y1.Gap)), (oS y1.Mates (57, g1)), (.d (i64 y1.Guest_.ID)), (.d (i64 y1.Guest_.S)), (.d (i64 y1.Guest_.V)), (.d (i64 y1.Guest_.Len)), (.d (i64 y1.Guest_.End)), (.d (i64 y1.Guest_.Ahead)), (.d (i64 y1.Guest_.Guess_.R)), (.d (i64 y1.Guest_.Guess_.V)), (.d (i64 y1.Guest_.From)), (.d (i64 y1.Guest_.Until))])), ((57, g1), oB 65 12 eMate y1.Mates)]⟩ s) ?_ ?_
  · skip
    refine l_block ?_
    refine l_loop (ref09_New_l1 p2) (fun (x1 : (Int × Convoy)) (g2 : Nat) => ⟨T [(1, (.d (.list (List.map eMate p2)))), (4, (.ptr (4, u1) 0)), (6, (.ptr (6, u2) 0)), (7, (.d (i64 x1.1)))], G [((4, u1), some (.box 38 [(.d (i64 0)), (.d (i64 0)), (.d .nilS), (.d (i64 0)), (.d (i64 0)), (.d (i64 0)), (.d (i64 0)), (.d (i64 0)), (.d (i64 0)), (.d (i64 0)), (.d (i64 0)), (.d (i64 0)), (.d (i64 0))])), ((6, u2), some (.box 38 [(.d (i64 x1.2.Tick)), (.d (i64 x1.2.Gap)), (oS x1.2.Mates (57, g2)), (.d (i64 x1.2.Guest_.ID)), (.d (i64 x1.2.Guest_.S)), (.d (i64 x1.2.Guest_.V)), (.d (i64 x1.2.Guest_.Len)), (.d (i64 x1.2.Guest_.End)), (.d (i64 x1.2.Guest_.Ahead)), (.d (i64 x1.2.Guest_.Guess_.R)), (.d (i64 x1.2.Guest_.Guess_.V)), (.d (i64 x1.2.Guest_.From)), (.d (i64 x1.2.Guest_.Until))])), ((57, g2), oB 65 12 eMate x1.2.Mates)]⟩) (0, (Convoy.mk 0 p1 [] (Guest.mk 0 0 0 0 0 0 (Guess.mk 0 0) 0 0))) 0 _ hy1 (sb_of ⟨.of rfl, .of rfl, .of rfl, .of rfl, trivial⟩ (sbG_some (G_skip rfl (G_skip rfl G_hit)) (.of rfl) (sbG_some G_hit (.of rfl) (sbG_nil trivial)))) ?_
    intro x1 g2 z1 hz1 ez1
    unfold ref09_New_l1 at hz1
    refine l_seq ?_
    refine l_seq ?_
    refine l_reg fun u4 hu4 => ?_
    refine s_val (.d _) rfl rfl ?_
    refine s_val (.d _) rfl rfl ?_
    refine s_val (.d _) rfl (v_len rfl) ?_
    refine s_val (.d _) rfl rfl ?_
    refine s_nil ?_
    refine l_cond (decide (x1.1 < (p2.length : Int))) rfl (fun c1 => ?_) (fun c1 => ?_)
    · replace hz1 := cond_t c1 hz1
      refine l_skip ?_
      refine l_seq ?_
      refine l_block ?_
      refine l_seq ?_
      refine l_draw rfl fun u5 hu5 => ?_
      refine s_val (.d _) rfl rfl ?_
      refine s_val (.d _) rfl rfl ?_
      refine s_val (.d _) rfl rfl ?_
      refine s_val (.d _) rfl rfl ?_
      obtain ⟨v1, hv1, hz1⟩ := bind_some hz1
      refine s_val (.d _) rfl (v_idx rfl rfl hv1 rfl) ?_
      refine s_val (.d _) rfl rfl ?_
      refine s_val (.d _) rfl (v_loadL rfl hv1 rfl) ?_
      refine s_val (.d _) rfl rfl ?_
      refine s_val (.d _) rfl rfl ?_
      obtain ⟨v2, hv2, hz1⟩ := bind_some hz1
      refine s_val (.d _) rfl (v_idx rfl rfl hv2 rfl) ?_
      refine s_val (.d _) rfl rfl ?_
      refine s_val (.d _) rfl (v_loadL rfl hv2 rfl) ?_
      refine s_val (.d _) rfl rfl ?_
      refine s_val (.d _) rfl rfl ?_
      obtain ⟨v3, hv3, hz1⟩ := bind_some hz1
      refine s_val (.d _) rfl (v_idx rfl rfl hv3 rfl) ?_
      refine s_val (.d _) rfl rfl ?_
      refine s_val (.d _) rfl (v_loadL rfl hv3 rfl) ?_
      refine s_val (.d _) rfl rfl ?_
      refine s_val (.d _) rfl rfl ?_
      refine s_new (.ptr _ _) (.box _ _) rfl rfl ?_
      refine s_store _ _ _ _ _ rfl rfl rfl G_hit (Nat.le_of_ble_eq_true rfl) [(.d (i64 (w64 (x1.1 + 1)))), (.d (i64 v1.S)), (.d (i64 v2.V)), (.d (i64 v3.Len)), (.d (i64 x1.1)), (.d (i64 0)), (.d (i64 0)), (.d (bo true)), (.d (i64 0)), (.d (i64 0)), (.d (i64 0)), (.d (i64 0))] rfl ?_
      refine s_nil ?_
      refine l_seq ?_
      refine l_seq ?_
      refine l_sub (s0 := ⟨T [(1, (.d (.list (List.map eMate p2)))), (4, (.ptr (4, u1) 0)), (6, (.ptr (6, u2) 0)), (7, (.d (i64 x1.1))), (8, (.ptr (8, u5) 0))], G [((4, u1), some (.box 38 [(.d (i64 0)), (.d (i64 0)), (.d .nilS), (.d (i64 0)), (.d (i64 0)), (.d (i64 0)), (.d (i64 0)), (.d (i64 0)), (.d (i64 0)), (.d (i64 0)), (.d (i64 0)), (.d (i64 0)), (.d (i64 0))])), ((6, u2), some (.box 38 [(.d (i64 x1.2.Tick)), (.d (i64 x1.2.Gap)), (oS x1.2.Mates (57, g2)), (.d (i64 x1.2.Guest_.ID)), (.d (i64 x1.2.Guest_.S)), (.d (i64 x1.2.Guest_.V)), (.d (i64 x1.2.Guest_.Len)), (.d (i64 x1.2.Guest_.End)), (.d (i64 x1.2.Guest_.Ahead)), (.d (i64 x1.2.Guest_.Guess_.R)), (.d (i64 x1.2.Guest_.Guess_.V)), (.d (i64 x1.2.Guest_.From)), (.d (i64 x1.2.Guest_.Until))])), ((57, g2), oB 65 12 eMate x1.2.Mates), ((8, u5), some (.box 65 [(.d (i64 (w64 (x1.1 + 1)))), (.d (i64 v1.S)), (.d (i64 v2.V)), (.d (i64 v3.Len)), (.d (i64 x1.1)), (.d (i64 0)), (.d (i64 0)), (.d (bo true)), (.d (i64 0)), (.d (i64 0)), (.d (i64 0)), (.d (i64 0))]))]⟩) (sb_of ⟨.of rfl, .of rfl, .of rfl, .of rfl, .of rfl, trivial⟩ (sbG_some (G_skip rfl (G_skip rfl G_hit)) (.of rfl) (sbG_some (G_skip rfl (G_skip rfl (G_skip rfl G_hit))) (.of rfl) (sbG_oB (G_skip rfl (G_skip rfl (G_skip rfl (G_skip rfl G_hit)))) (sbG_some G_hit (.of rfl) trivial))))) ?_
      refine l_reg fun u6 hu6 => ?_
      refine s_val (.d _) rfl rfl ?_
      refine s_val (.d _) rfl rfl ?_
      refine s_nil ?_
      obtain ⟨y2, hy2, hz1⟩ := bind_some hz1
      refine l_join (fun s => ∃ g3 : Unit, Sb ⟨T [(1, (.d (.list (List.map eMate p2)))), (4, (.ptr (4, u1) 0)), (6, (.ptr (6, u2) 0)), (7, (.d (i64 x1.1))), (8, (.ptr (8, u5) 0))], G [((4, u1), some (.box 38 [(.d (i64 0)), (.d (i64 0)), (.d .nilS), (.d (i64 0)), (.d (i64 0)), (.d (i64 0)), (.d (i64 0)), (.d (i64 0)), (.d (i64 0)), (.d (i64 0)), (.d (i64 0)), (.d (i64 0)), (.d (i64 0))])), ((6, u2), some (.box 38 [(.d (i64 x1.2.Tick)), (.d (i64 x1.2.Gap)), (oS x1.2.Mates (57, g2)), (.d (i64 x1.2.Guest_.ID)), (.d (i64 x1.2.Guest_.S)), (.d (i64 x1.2.Guest_.V)), (.d (i64 x1.2.Guest_.Len)), (.d (i64 x1.2.Guest_.End)), (.d (i64 x1.2.Guest_.Ahead)), (.d (i64 x1.2.Guest_.Guess_.R)), (.d (i64 x1.2.Guest_.Guess_.V)), (.d (i64 x1.2.Guest_.From)), (.d (i64 x1.2.Guest_.Until))])), ((8, u5), some (.box 65 [(.d (i64 y2.ID)), (.d (i64 y2.S)), (.d (i64 y2.V)), (.d (i64 y2.Len)), (.d (i64 y2.Ahead)), (.d (i64 y2.Guess_.R)), (.d (i64 y2.Guess_.V)), (.d (bo y2.Trust)), (.d (i64 y2.Ward)), (.d (i64 y2.WardGuess.R)), (.d (i64 y2.WardGuess.V)), (.d (i64 y2.Until))])), ((57, g2), oB 65 12 eMate x1.2.Mates)]⟩ s) ?_ ?_
      · skip
        refine l_cond (decide (x1.1 > 0)) rfl (fun c2 => ?_) (fun c2 => ?_)
        · replace hy2 := cond_t c2 hy2
          refine l_draw rfl fun u7 hu7 => ?_
          refine s_val (.d _) rfl rfl ?_
          refine s_val (.d _) rfl rfl ?_
          refine s_val (.d _) rfl rfl ?_
          obtain ⟨v4, hv4, hy2⟩ := bind_some hy2
          refine s_val (.d _) rfl (v_idx rfl rfl hv4 rfl) ?_
          refine s_val (.d _) rfl (v_loadLG rfl hv4 rfl rfl) ?_
          obtain ⟨v5, hv5, hy2⟩ := bind_some hy2
          refine s_call rfl rfl all2_refl (ref09_rear_ok _  _ hv5) (.inl rfl) ?_
          refine s_val (.d _) rfl rfl ?_
          refine s_val (.d _) rfl rfl ?_
          refine s_val (.d _) rfl rfl ?_
          obtain ⟨v6, hv6, hy2⟩ := bind_some hy2
          refine s_val (.d _) rfl (v_idx rfl rfl hv6 rfl) ?_
          refine s_val (.d _) rfl rfl ?_
          refine s_val (.d _) rfl (v_loadL rfl hv6 rfl) ?_
          refine s_val (.d _) rfl rfl ?_
          refine s_val (.ptr _ _) rfl rfl ?_
          refine s_store _ _ _ _ _ rfl rfl rfl (G_skip rfl (G_skip rfl (G_skip rfl G_hit))) (Nat.le_of_ble_eq_true rfl) [(.d (i64 (w64 (x1.1 + 1)))), (.d (i64 v1.S)), (.d (i64 v2.V)), (.d (i64 v3.Len)), (.d (i64 x1.1)), (.d (i64 v5)), (.d (i64 v6.V)), (.d (bo true)), (.d (i64 0)), (.d (i64 0)), (.d (i64 0)), (.d (i64 0))] rfl ?_
          refine s_nil ?_
          obtain rfl := Option.some.inj hy2
          exact l_j ⟨(), (sb_of ⟨.of rfl, .of rfl, .of rfl, .of rfl, .of rfl, trivial⟩ (sbG_some (G_skip rfl G_hit) (.of rfl) (sbG_some (G_skip rfl (G_skip rfl G_hit)) (.of rfl) (sbG_some G_hit (.of rfl) (sbG_oB (G_skip rfl (G_skip rfl (G_skip rfl G_hit))) trivial)))))⟩
        · replace hy2 := cond_f c2 hy2
          refine l_skip ?_
          obtain rfl := Option.some.inj hy2
          exact l_j ⟨(), (sb_of ⟨.of rfl, .of rfl, .of rfl, .of rfl, .of rfl, trivial⟩ (sbG_some G_hit (.of rfl) (sbG_some (G_skip rfl G_hit) (.of rfl) (sbG_some (G_skip rfl (G_skip rfl (G_skip rfl G_hit))) (.of rfl) (sbG_oB (G_skip rfl (G_skip rfl G_hit)) trivial)))))⟩
      · rintro _ ⟨g3, q1⟩
        refine l_sub q1 ?_
        refine l_reg fun u8 hu8 => ?_
        refine s_val (.ptr _ _) rfl rfl ?_
        refine s_val (oS x1.2.Mates (57, g2)) rfl (v_load rfl (G_skip rfl G_hit) rfl) ?_
        refine s_val (.d _) rfl (v_loadG rfl (G_skip rfl (G_skip rfl G_hit)) rfl rfl) ?_
        refine s_val (.d (.list (List.map eMate [y2]))) rfl (v_dsliceN eMate ([y2] : List Mate) (fun _ => rfl) rfl rfl ⟨rfl, rfl, rfl, trivial⟩) ?_
        obtain ⟨v7, hv7, hz1⟩ := bind_some hz1
        refine s_appendO eMate (57, g2) x1.2.Mates y2 [] _ (elems_list (fun _ => rfl)) rfl (G_skip rfl (G_skip rfl (G_skip rfl G_hit))) hv7 ?_
        refine s_val (.ptr _ _) rfl rfl ?_
        refine s_store _ _ _ _ _ rfl rfl rfl (G_skip rfl (G_skip rfl (G_skip rfl G_hit))) (Nat.le_of_ble_eq_true rfl) [(.d (i64 x1.2.Tick)), (.d (i64 x1.2.Gap)), (.sl (57, u8)), (.d (i64 x1.2.Guest_.ID)), (.d (i64 x1.2.Guest_.S)), (.d (i64 x1.2.Guest_.V)), (.d (i64 x1.2.Guest_.Len)), (.d (i64 x1.2.Guest_.End)), (.d (i64 x1.2.Guest_.Ahead)), (.d (i64 x1.2.Guest_.Guess_.R)), (.d (i64 x1.2.Guest_.Guess_.V)), (.d (i64 x1.2.Guest_.From)), (.d (i64 x1.2.Guest_.Until))] rfl ?_
        refine s_nil ?_
        refine l_end ?_
        refine l_reg fun u9 hu9 => ?_
        refine s_val (.d _) rfl rfl ?_
        refine s_val (.d _) rfl rfl ?_
        refine s_val (.d _) rfl rfl ?_
        refine s_nil ?_
        refine l_nil ?_
        obtain rfl := Option.some.inj hz1
        exact ⟨rfl, u8, (sb_of ⟨.of rfl, .of rfl, .of rfl, .of rfl, trivial⟩ (sbG_some (G_skip rfl (G_skip rfl (G_skip rfl G_hit))) (.of rfl) (sbG_some G_hit (.box (.cons (.of rfl) (.cons (.of rfl) (.cons (.of (oS_ne (appc_ne hv7)).symm) (.cons (.of rfl) (.cons (.of rfl) (.cons (.of rfl) (.cons (.of rfl) (.cons (.of rfl) (.cons (.of rfl) (.cons (.of rfl) (.cons (.of rfl) (.cons (.of rfl) (.cons (.of rfl) .nil)))))))))))))) (sbG_own (G_skip rfl G_hit) trivial))))⟩
    · replace hz1 := cond_f c1 hz1
      refine l_exitN rfl ?_
      obtain rfl := Option.some.inj hz1
      obtain rfl := ez1 _ rfl
      refine ⟨nofun, awl_pop rfl (l_j ?_)⟩
      exact ⟨g2, (sb_of ⟨.of rfl, .of rfl, trivial⟩ (sbG_some G_hit (.of rfl) (sbG_some (G_skip rfl G_hit) (.of rfl) (sbG_oB (G_skip rfl (G_skip rfl G_hit)) trivial))))⟩
  · rintro _ ⟨g1, q2⟩
    refine l_sub q2 ?_
    refine l_seq ?_
    refine l_seq ?_
    refine l_reg fun u10 hu10 => ?_
    refine s_val (mkAgg [(.d (i64 y1.Tick)), (.d (i64 y1.Gap)), (oS y1.Mates (57, g1)), (.d (i64 y1.Guest_.ID)), (.d (i64 y1.Guest_.S)), (.d (i64 y1.Guest_.V)), (.d (i64 y1.Guest_.Len)), (.d (i64 y1.Guest_.End)), (.d (i64 y1.Guest_.Ahead)), (.d (i64 y1.Guest_.Guess_.R)), (.d (i64 y1.Guest_.Guess_.V)), (.d (i64 y1.Guest_.From)), (.d (i64 y1.Guest_.Until))]) rfl (v_loadG rfl (G_skip rfl G_hit) rfl rfl) ?_
    obtain ⟨v8, hv8, h⟩ := bind_some h
    refine s_call rfl (rfL_cons (rf_mkAgg (rfL_cons rf_d (rfL_cons rf_d (rfL_cons (rf_oS (G_skip rfl (G_skip rfl G_hit))) (rfL_cons rf_d (rfL_cons rf_d (rfL_cons rf_d (rfL_cons rf_d (rfL_cons rf_d (rfL_cons rf_d (rfL_cons rf_d (rfL_cons rf_d (rfL_cons rf_d (rfL_cons rf_d rfL_nil)))))))))))))) rfL_nil) (.cons (.agg (.cons ⟨(.refl _), rfl⟩ (.cons ⟨(.refl _), rfl⟩ (.cons ⟨oD_le, rfl⟩ (.cons ⟨(.refl _), rfl⟩ (.cons ⟨(.refl _), rfl⟩ (.cons ⟨(.refl _), rfl⟩ (.cons ⟨(.refl _), rfl⟩ (.cons ⟨(.refl _), rfl⟩ (.cons ⟨(.refl _), rfl⟩ (.cons ⟨(.refl _), rfl⟩ (.cons ⟨(.refl _), rfl⟩ (.cons ⟨(.refl _), rfl⟩ (.cons ⟨(.refl _), rfl⟩ .nil)))))))))))))) .nil) (ref09_Check_ok _  _ hv8) (.inr rfl) ?_
    refine s_val (.d _) rfl rfl ?_
    refine s_nil ?_
    refine l_seq ?_
    refine l_reg fun u11 hu11 => ?_
    refine s_val (.d _) rfl rfl ?_
    refine s_val (.d _) rfl rfl ?_
    refine s_nil ?_
    refine l_cond (v8 != 0) rfl (fun c3 => ?_) (fun c3 => ?_)
    · replace h := cond_t c3 h
      refine l_seq ?_
      refine l_reg fun u12 hu12 => ?_
      refine s_val (.d _) rfl rfl ?_
      refine s_val (.d _) rfl rfl ?_
      refine s_store _ _ _ _ _ rfl rfl rfl G_hit (Nat.le_of_ble_eq_true rfl) [(.d (i64 0)), (.d (i64 0)), (.d .nilS), (.d (i64 0)), (.d (i64 0)), (.d (i64 0)), (.d (i64 0)), (.d (i64 0)), (.d (i64 0)), (.d (i64 0)), (.d (i64 0)), (.d (i64 0)), (.d (i64 0))] rfl ?_
      refine s_val (.d _) rfl rfl ?_
      refine s_nil ?_
      refine l_ret ?_
      obtain rfl := Option.some.inj h
      refine fin_ok (.inr rfl) (resD2 (res_cellG rfl G_hit (Nat.le_of_ble_eq_true rfl) rfl) (res_t rfl) rf_d rf_d) ?_
      exact .tup (.cons (.agg (.cons ⟨(.refl _), rfl⟩ (.cons ⟨(.refl _), rfl⟩ (.cons ⟨DLe.nil, rfl⟩ (.cons ⟨(.refl _), rfl⟩ (.cons ⟨(.refl _), rfl⟩ (.cons ⟨(.refl _), rfl⟩ (.cons ⟨(.refl _), rfl⟩ (.cons ⟨(.refl _), rfl⟩ (.cons ⟨(.refl _), rfl⟩ (.cons ⟨(.refl _), rfl⟩ (.cons ⟨(.refl _), rfl⟩ (.cons ⟨(.refl _), rfl⟩ (.cons ⟨(.refl _), rfl⟩ .nil)))))))))))))) (.cons (.refl _) .nil))
    · replace h := cond_f c3 h
      refine l_skip ?_
      refine l_seq ?_
      refine l_reg fun u13 hu13 => ?_
      refine s_val (mkAgg [(.d (i64 y1.Tick)), (.d (i64 y1.Gap)), (oS y1.Mates (57, g1)), (.d (i64 y1.Guest_.ID)), (.d (i64 y1.Guest_.S)), (.d (i64 y1.Guest_.V)), (.d (i64 y1.Guest_.Len)), (.d (i64 y1.Guest_.End)), (.d (i64 y1.Guest_.Ahead)), (.d (i64 y1.Guest_.Guess_.R)), (.d (i64 y1.Guest_.Guess_.V)), (.d (i64 y1.Guest_.From)), (.d (i64 y1.Guest_.Until))]) rfl (v_loadG rfl (G_skip rfl G_hit) rfl rfl) ?_
      refine s_store _ _ _ _ _ (cellsV_mkAgg _) rfl rfl G_hit (Nat.le_of_ble_eq_true rfl) [(.d (i64 y1.Tick)), (.d (i64 y1.Gap)), (oS y1.Mates (57, g1)), (.d (i64 y1.Guest_.ID)), (.d (i64 y1.Guest_.S)), (.d (i64 y1.Guest_.V)), (.d (i64 y1.Guest_.Len)), (.d (i64 y1.Guest_.End)), (.d (i64 y1.Guest_.Ahead)), (.d (i64 y1.Guest_.Guess_.R)), (.d (i64 y1.Guest_.Guess_.V)), (.d (i64 y1.Guest_.From)), (.d (i64 y1.Guest_.Until))] rfl ?_
      refine s_val (.d _) rfl rfl ?_
      refine s_nil ?_
      refine l_ret ?_
      obtain rfl := Option.some.inj h
      refine fin_ok (.inr rfl) (resD2 (res_cellG rfl G_hit (Nat.le_of_ble_eq_true rfl) rfl) (res_t rfl) (rf_mkAgg (rfL_cons rf_d (rfL_cons rf_d (rfL_cons (rf_oS (G_skip rfl (G_skip rfl (G_skip rfl G_hit)))) (rfL_cons rf_d (rfL_cons rf_d (rfL_cons rf_d (rfL_cons rf_d (rfL_cons rf_d (rfL_cons rf_d (rfL_cons rf_d (rfL_cons rf_d (rfL_cons rf_d (rfL_cons rf_d rfL_nil)))))))))))))) rf_d) ?_
      exact .tup (.cons (.agg (.cons ⟨(.refl _), rfl⟩ (.cons ⟨(.refl _), rfl⟩ (.cons ⟨oD_le, rfl⟩ (.cons ⟨(.refl _), rfl⟩ (.cons ⟨(.refl _), rfl⟩ (.cons ⟨(.refl _), rfl⟩ (.cons ⟨(.refl _), rfl⟩ (.cons ⟨(.refl _), rfl⟩ (.cons ⟨(.refl _), rfl⟩ (.cons ⟨(.refl _), rfl⟩ (.cons ⟨(.refl _), rfl⟩ (.cons ⟨(.refl _), rfl⟩ (.cons ⟨(.refl _), rfl⟩ .nil)))))))))))))) (.cons (.refl _) .nil))

noncomputable def ref09_Copy (p1 : Convoy) : Option Convoy :=
  (appc ([] : List Mate) p1.Mates).bind fun v1 => some (Convoy.mk p1.Tick p1.Gap v1 p1.Guest_)

/-- kerbstone/kerbstoneref09.Copy -/
def ac_ref09_Copy : AC :=
  (.seq (.reg [⟨(some 1), .box 38 true (.t 0), none⟩, ⟨(some 2), .alloc 38 [(.v (.int .i64 0)), (.v (.int .i64 0)), .nilS, (.v (.int .i64 0)), (.v (.int .i64 0)), (.v (.int .i64 0)), (.v (.int .i64 0)), (.v (.int .i64 0)), (.v (.int .i64 0)), (.v (.int .i64 0)), (.v (.int .i64 0)), (.v (.int .i64 0)), (.v (.int .i64 0))], none⟩])
  (.seq (.reg [⟨(some 3), .fieldA 2 (.t 1), none⟩, ⟨(some 4), .load 1 false (.t 3), none⟩, ⟨(some 5), .append 34 65 12 (.c .nilS) (.t 4), none⟩, ⟨(some 6), .fieldA 2 (.t 1), none⟩, ⟨none, .store 1 (.t 6) (.t 5), none⟩])
  (.seq (.reg [⟨(some 7), .load 13 true (.t 1), none⟩, ⟨none, .store 13 (.t 2) (.t 7), none⟩])
  .ret)))
theorem fn_ref09_Copy : FnOK Try.prog 31 8 [.cell 2 13 true] ac_ref09_Copy := ⟨_, _, Try.func31, rfl, Try.ntmps31, by kernel_rfl, ⟨fun _ => [], by kernel_rfl⟩, by kernel_rfl⟩
theorem ref09_Copy_ok (p1 : Convoy) (r : Convoy) (h : ref09_Copy p1 = some r) : PCall Try.prog 31 [(.agg [(i64 p1.Tick), (i64 p1.Gap), (.list (List.map eMate p1.Mates)), (i64 p1.Guest_.ID), (i64 p1.Guest_.S), (i64 p1.Guest_.V), (i64 p1.Guest_.Len), (i64 p1.Guest_.End), (i64 p1.Guest_.Ahead), (i64 p1.Guest_.Guess_.R), (i64 p1.Guest_.Guess_.V), (i64 p1.Guest_.From), (i64 p1.Guest_.Until)])] (.agg [(i64 r.Tick), (i64 r.Gap), (.list (List.map eMate r.Mates)), (i64 r.Guest_.ID), (i64 r.Guest_.S), (i64 r.Guest_.V), (i64 r.Guest_.Len), (i64 r.Guest_.End), (i64 r.Guest_.Ahead), (i64 r.Guest_.Guess_.R), (i64 r.Guest_.Guess_.V), (i64 r.Guest_.From), (i64 r.Guest_.Until)]) := by
  refine l_call fn_ref09_Copy (Nat.le_of_ble_eq_true rfl) ?_
  unfold ref09_Copy at h
  unfold ac_ref09_Copy
  refine (l_sub (s0 := ⟨T [(0, (.d (.agg [(i64 p1.Tick), (i64 p1.Gap), (.list (List.map eMate p1.Mates)), (i64 p1.Guest_.ID), (i64 p1.Guest_.S), (i64 p1.Guest_.V), (i64 p1.Guest_.Len), (i64 p1.Guest_.End), (i64 p1.Guest_.Ahead), (i64 p1.Guest_.Guess_.R), (i64 p1.Guest_.Guess_.V), (i64 p1.Guest_.From), (i64 p1.Guest_.Until)])))], G []⟩) (sb_of ⟨.of rfl, trivial⟩ trivial) ?_)
  refine l_seq ?_
  refine l_reg fun u1 hu1 => ?_
  refine s_new (.ptr _ _) (.box _ _) rfl rfl ?_
  refine s_new (.ptr _ _) (.box _ _) rfl rfl ?_
  refine s_nil ?_
  refine l_seq ?_
  refine l_reg fun u2 hu2 => ?_
  refine s_val (.ptr _ _) rfl rfl ?_
  refine s_val (.d _) rfl (v_load rfl (G_skip rfl G_hit) rfl) ?_
  obtain ⟨v1, hv1, h⟩ := bind_some h
  refine s_appendG eMate (5, u2) ([] : List Mate) p1.Mates _ (elems_list (fun _ => rfl)) rfl (fresh_none hu2) hv1 (fresh_none hu2) ?_
  refine s_val (.ptr _ _) rfl rfl ?_
  refine s_store _ _ _ _ _ (cellsV_oS _ _) rfl rfl (G_skip rfl (G_skip rfl (G_skip rfl G_hit))) (Nat.le_of_ble_eq_true rfl) [(.d (i64 p1.Tick)), (.d (i64 p1.Gap)), (oS v1 (5, u2)), (.d (i64 p1.Guest_.ID)), (.d (i64 p1.Guest_.S)), (.d (i64 p1.Guest_.V)), (.d (i64 p1.Guest_.Len)), (.d (i64 p1.Guest_.End)), (.d (i64 p1.Guest_.Ahead)), (.d (i64 p1.Guest_.Guess_.R)), (.d (i64 p1.Guest_.Guess_.V)), (.d (i64 p1.Guest_.From)), (.d (i64 p1.Guest_.Until))] rfl ?_
  refine s_nil ?_
  refine l_seq ?_
  refine l_reg fun u3 hu3 => ?_
  refine s_val (mkAgg [(.d (i64 p1.Tick)), (.d (i64 p1.Gap)), (oS v1 (5, u2)), (.d (i64 p1.Guest_.ID)), (.d (i64 p1.Guest_.S)), (.d (i64 p1.Guest_.V)), (.d (i64 p1.Guest_.Len)), (.d (i64 p1.Guest_.End)), (.d (i64 p1.Guest_.Ahead)), (.d (i64 p1.Guest_.Guess_.R)), (.d (i64 p1.Guest_.Guess_.V)), (.d (i64 p1.Guest_.From)), (.d (i64 p1.Guest_.Until))]) rfl (v_loadG rfl G_hit rfl rfl) ?_
  refine s_store _ _ _ _ _ (cellsV_mkAgg _) rfl rfl (G_skip rfl (G_skip rfl (G_skip rfl G_hit))) (Nat.le_of_ble_eq_true rfl) [(.d (i64 p1.Tick)), (.d (i64 p1.Gap)), (oS v1 (5, u2)), (.d (i64 p1.Guest_.ID)), (.d (i64 p1.Guest_.S)), (.d (i64 p1.Guest_.V)), (.d (i64 p1.Guest_.Len)), (.d (i64 p1.Guest_.End)), (.d (i64 p1.Guest_.Ahead)), (.d (i64 p1.Guest_.Guess_.R)), (.d (i64 p1.Guest_.Guess_.V)), (.d (i64 p1.Guest_.From)), (.d (i64 p1.Guest_.Until))] rfl ?_
  refine s_nil ?_
  refine l_ret ?_
  obtain rfl := Option.some.inj h
  refine fin_ok (.inr rfl) (resD1 (res_cellG rfl G_hit (Nat.le_of_ble_eq_true rfl) rfl) (rf_mkAgg (rfL_cons rf_d (rfL_cons rf_d (rfL_cons (rf_oS (G_skip rfl (G_skip rfl G_hit))) (rfL_cons rf_d (rfL_cons rf_d (rfL_cons rf_d (rfL_cons rf_d (rfL_cons rf_d (rfL_cons rf_d (rfL_cons rf_d (rfL_cons rf_d (rfL_cons rf_d (rfL_cons rf_d rfL_nil))))))))))))))) ?_
  exact (.agg (.cons ⟨(.refl _), rfl⟩ (.cons ⟨(.refl _), rfl⟩ (.cons ⟨oD_le, rfl⟩ (.cons ⟨(.refl _), rfl⟩ (.cons ⟨(.refl _), rfl⟩ (.cons ⟨(.refl _), rfl⟩ (.cons ⟨(.refl _), rfl⟩ (.cons ⟨(.refl _), rfl⟩ (.cons ⟨(.refl _), rfl⟩ (.cons ⟨(.refl _), rfl⟩ (.cons ⟨(.refl _), rfl⟩ (.cons ⟨(.refl _), rfl⟩ (.cons ⟨(.refl _), rfl⟩ .nil))))))))))))))

noncomputable def ref09_Ramp_l1 (p1 : Convoy) (p2 : Guest) (x1 : (Bool × Int)) : Option (Stp (Bool × Int) Bool) :=
  cond (decide (x1.2 < (p1.Mates.length : Int))) (((cond (!x1.1) (geti p1.Mates x1.2) (some default))).bind fun v2 => ((cond (!(x1.1 || (v2.ID == p2.ID))) (geti p1.Mates x1.2) (some default))).bind fun v3 => some (.go (((x1.1 || (v2.ID == p2.ID)) || ((v3.Ward == p2.ID) && (p2.ID != 0))), (w64 (x1.2 + 1))))) (some (.out x1.1))
noncomputable def ref09_Ramp (p1 : Convoy) (p2 : Guest) : Option (Convoy × Int) :=
  (ref09_Check p1).bind fun v1 => cond (v1 != 0) (some ((Convoy.mk 0 0 [] (Guest.mk 0 0 0 0 0 0 (Guess.mk 0 0) 0 0)), v1)) ((loop (ref09_Ramp_l1 p1 p2) ((p1.Guest_.ID != 0), 0)).bind fun y1 => cond y1 (some ((Convoy.mk 0 0 [] (Guest.mk 0 0 0 0 0 0 (Guess.mk 0 0) 0 0)), 9)) (cond (p2.ID == 0) (some ((Convoy.mk 0 0 [] (Guest.mk 0 0 0 0 0 0 (Guess.mk 0 0) 0 0)), 2)) ((ref09_Copy p1).bind fun v4 => (ref09_Check (Convoy.mk v4.Tick v4.Gap v4.Mates (Guest.mk p2.ID p2.S p2.V p2.Len p2.End 0 (Guess.mk 0 0) 0 0))).bind fun v5 => cond (v5 != 0) (some ((Convoy.mk 0 0 [] (Guest.mk 0 0 0 0 0 0 (Guess.mk 0 0) 0 0)), v5)) (some ((Convoy.mk v4.Tick v4.Gap v4.Mates (Guest.mk p2.ID p2.S p2.V p2.Len p2.End 0 (Guess.mk 0 0) 0 0)), 0)))))

/-- kerbstone/kerbstoneref09.Ramp -/
def ac_ref09_Ramp : AC :=
  (.seq (.reg [⟨(some 2), .box 38 true (.t 0), none⟩, ⟨(some 3), .box 36 true (.t 1), none⟩, ⟨(some 4), .alloc 38 [(.v (.int .i64 0)), (.v (.int .i64 0)), .nilS, (.v (.int .i64 0)), (.v (.int .i64 0)), (.v (.int .i64 0)), (.v (.int .i64 0)), (.v (.int .i64 0)), (.v (.int .i64 0)), (.v (.int .i64 0)), (.v (.int .i64 0)), (.v (.int .i64 0)), (.v (.int .i64 0))], none⟩, ⟨(some 5), .mv (.c (.v (.int .i64 0))), none⟩])
  (.seq (.seq (.reg [⟨(some 11), .load 13 true (.t 2), none⟩, ⟨(some 12), .call (.c (.fn (.func 33) [] [])) [(.t 11)], none⟩, ⟨(some 6), .mv (.t 12), none⟩])
  (.seq (.reg [⟨(some 13), .mv (.t 6), none⟩, ⟨(some 14), .bin .neq (.t 13) (.c (.v (.int .i64 0))), none⟩])
  (.cond (.t 14)
    (.seq (.reg [⟨(some 15), .build [(.v (.int .i64 0)), (.v (.int .i64 0)), .nilS, (.v (.int .i64 0)), (.v (.int .i64 0)), (.v (.int .i64 0)), (.v (.int .i64 0)), (.v (.int .i64 0)), (.v (.int .i64 0)), (.v (.int .i64 0)), (.v (.int .i64 0)), (.v (.int .i64 0)), (.v (.int .i64 0))] [], none⟩, ⟨(some 16), .mv (.t 6), none⟩, ⟨none, .store 13 (.t 4) (.t 15), none⟩, ⟨(some 5), .mv (.t 16), none⟩])
    .ret)
    .skip)))
  (.seq (.reg [⟨(some 17), .fieldA 3 (.t 2), none⟩, ⟨(some 18), .fieldA 0 (.t 17), none⟩, ⟨(some 19), .load 1 false (.t 18), none⟩, ⟨(some 20), .bin .neq (.t 19) (.c (.v (.int .i64 0))), none⟩, ⟨(some 7), .mv (.t 20), none⟩])
  (.seq (.seq (.reg [⟨(some 8), .mv (.c (.v (.int .i64 0))), none⟩])
  (.block 0
    (.loop
      (.seq (.seq (.reg [⟨(some 21), .mv (.t 8), none⟩, ⟨(some 22), .fieldA 2 (.t 2), none⟩, ⟨(some 23), .load 1 false (.t 22), none⟩, ⟨(some 24), .len (.t 23), none⟩, ⟨(some 25), .bin .lss (.t 21) (.t 24), none⟩])
      (.cond (.t 25)
        .skip
        (.exit 0)))
      (.seq (.block 1
        (.draw [⟨(some 28), .mv (.t 7), none⟩, ⟨(some 29), .mv (.t 28), none⟩, ⟨(some 30), .fieldA 2 (.t 2), (some (29, false))⟩, ⟨(some 31), .load 1 false (.t 30), (some (29, false))⟩, ⟨(some 32), .mv (.t 8), (some (29, false))⟩, ⟨(some 33), .idxS 12 (.t 31) (.t 32), (some (29, false))⟩, ⟨(some 34), .fieldA 0 (.t 33), (some (29, false))⟩, ⟨(some 35), .load 1 false (.t 34), (some (29, false))⟩, ⟨(some 36), .fieldA 0 (.t 3), (some (29, false))⟩, ⟨(some 37), .load 1 false (.t 36), (some (29, false))⟩, ⟨(some 38), .bin .eql (.t 35) (.t 37), (some (29, false))⟩, ⟨(some 39), .pick (.t 29) (.c (.v (.bool true))) (.t 38), none⟩, ⟨(some 40), .mv (.t 39), none⟩, ⟨(some 41), .fieldA 2 (.t 2), (some (40, false))⟩, ⟨(some 42), .load 1 false (.t 41), (some (40, false))⟩, ⟨(some 43), .mv (.t 8), (some (40, false))⟩, ⟨(some 44), .idxS 12 (.t 42) (.t 43), (some (40, false))⟩, ⟨(some 45), .fieldA 8 (.t 44), (some (40, false))⟩, ⟨(some 46), .load 1 false (.t 45), (some (40, false))⟩, ⟨(some 47), .fieldA 0 (.t 3), (some (40, false))⟩, ⟨(some 48), .load 1 false (.t 47), (some (40, false))⟩, ⟨(some 49), .bin .eql (.t 46) (.t 48), (some (40, false))⟩, ⟨(some 50), .mv (.t 49), (some (40, false))⟩, ⟨(some 51), .fieldA 0 (.t 3), (some (50, true))⟩, ⟨(some 52), .load 1 false (.t 51), (some (50, true))⟩, ⟨(some 53), .bin .neq (.t 52) (.c (.v (.int .i64 0))), (some (50, true))⟩, ⟨(some 54), .pick (.t 50) (.t 53) (.c (.v (.bool false))), (some (40, false))⟩, ⟨(some 55), .pick (.t 40) (.c (.v (.bool true))) (.t 54), none⟩, ⟨(some 7), .mv (.t 55), none⟩] []))
      (.reg [⟨(some 26), .mv (.t 8), none⟩, ⟨(some 27), .bin .add (.t 26) (.c (.v (.int .i64 1))), none⟩, ⟨(some 8), .mv (.t 27), none⟩]))))))
  (.seq (.seq (.reg [⟨(some 56), .mv (.t 7), none⟩])
  (.cond (.t 56)
    (.seq (.reg [⟨(some 57), .build [(.v (.int .i64 0)), (.v (.int .i64 0)), .nilS, (.v (.int .i64 0)), (.v (.int .i64 0)), (.v (.int .i64 0)), (.v (.int .i64 0)), (.v (.int .i64 0)), (.v (.int .i64 0)), (.v (.int .i64 0)), (.v (.int .i64 0)), (.v (.int .i64 0)), (.v (.int .i64 0))] [], none⟩, ⟨none, .store 13 (.t 4) (.t 57), none⟩, ⟨(some 5), .mv (.c (.v (.int .i64 9))), none⟩])
    .ret)
    .skip))
  (.seq (.seq (.reg [⟨(some 58), .fieldA 0 (.t 3), none⟩, ⟨(some 59), .load 1 false (.t 58), none⟩, ⟨(some 60), .bin .eql (.t 59) (.c (.v (.int .i64 0))), none⟩])
  (.cond (.t 60)
    (.seq (.reg [⟨(some 61), .build [(.v (.int .i64 0)), (.v (.int .i64 0)), .nilS, (.v (.int .i64 0)), (.v (.int .i64 0)), (.v (.int .i64 0)), (.v (.int .i64 0)), (.v (.int .i64 0)), (.v (.int .i64 0)), (.v (.int .i64 0)), (.v (.int .i64 0)), (.v (.int .i64 0)), (.v (.int .i64 0))] [], none⟩, ⟨none, .store 13 (.t 4) (.t 61), none⟩, ⟨(some 5), .mv (.c (.v (.int .i64 2))), none⟩])
    .ret)
    .skip))
  (.seq (.reg [⟨(some 62), .load 13 true (.t 2), none⟩, ⟨(some 63), .call (.c (.fn (.func 31) [] [])) [(.t 62)], none⟩, ⟨(some 9), .alloc 38 [(.v (.int .i64 0)), (.v (.int .i64 0)), .nilS, (.v (.int .i64 0)), (.v (.int .i64 0)), (.v (.int .i64 0)), (.v (.int .i64 0)), (.v (.int .i64 0)), (.v (.int .i64 0)), (.v (.int .i64 0)), (.v (.int .i64 0)), (.v (.int .i64 0)), (.v (.int .i64 0))], none⟩, ⟨none, .store 13 (.t 9) (.t 63), none⟩])
  (.seq (.reg [⟨(some 64), .fieldA 0 (.t 3), none⟩, ⟨(some 65), .load 1 false (.t 64), none⟩, ⟨(some 66), .fieldA 1 (.t 3), none⟩, ⟨(some 67), .load 1 false (.t 66), none⟩, ⟨(some 68), .fieldA 2 (.t 3), none⟩, ⟨(some 69), .load 1 false (.t 68), none⟩, ⟨(some 70), .fieldA 3 (.t 3), none⟩, ⟨(some 71), .load 1 false (.t 70), none⟩, ⟨(some 72), .fieldA 4 (.t 3), none⟩, ⟨(some 73), .load 1 false (.t 72), none⟩, ⟨(some 74), .build [(.v (.int .i64 0)), (.v (.int .i64 0)), (.v (.int .i64 0)), (.v (.int .i64 0)), (.v (.int .i64 0)), (.v (.int .i64 0)), (.v (.int .i64 0)), (.v (.int .i64 0)), (.v (.int .i64 0)), (.v (.int .i64 0))] [(0, 1, (.t 65)), (1, 1, (.t 67)), (2, 1, (.t 69)), (3, 1, (.t 71)), (4, 1, (.t 73))], none⟩, ⟨(some 75), .fieldA 3 (.t 9), none⟩, ⟨none, .store 10 (.t 75) (.t 74), none⟩])
  (.seq (.seq (.reg [⟨(some 76), .load 13 true (.t 9), none⟩, ⟨(some 77), .call (.c (.fn (.func 33) [] [])) [(.t 76)], none⟩, ⟨(some 10), .mv (.t 77), none⟩])
  (.seq (.reg [⟨(some 78), .mv (.t 10), none⟩, ⟨(some 79), .bin .neq (.t 78) (.c (.v (.int .i64 0))), none⟩])
  (.cond (.t 79)
    (.seq (.reg [⟨(some 80), .build [(.v (.int .i64 0)), (.v (.int .i64 0)), .nilS, (.v (.int .i64 0)), (.v (.int .i64 0)), (.v (.int .i64 0)), (.v (.int .i64 0)), (.v (.int .i64 0)), (.v (.int .i64 0)), (.v (.int .i64 0)), (.v (.int .i64 0)), (.v (.int .i64 0)), (.v (.int .i64 0))] [], none⟩, ⟨(some 81), .mv (.t 10), none⟩, ⟨none, .store 13 (.t 4) (.t 80), none⟩, ⟨(some 5), .mv (.t 81), none⟩])
    .ret)
    .skip)))
  (.seq (.reg [⟨(some 82), .load 13 true (.t 9), none⟩, ⟨none, .store 13 (.t 4) (.t 82), none⟩, ⟨(some 5), .mv (.c (.v (.int .i64 0))), none⟩])
  .ret))))))))))
theorem fn_ref09_Ramp : FnOK Try.prog 46 83 [.cell 4 13 true, .t 5] ac_ref09_Ramp := ⟨_, _, Try.func46, rfl, Try.ntmps46, by kernel_rfl, ⟨fun _ => [], by kernel_rfl⟩, by kernel_rfl⟩
set_option maxHeartbeats 4000000 in
theorem ref09_Ramp_ok (p1 : Convoy) (p2 : Guest) (r : (Convoy × Int)) (h : ref09_Ramp p1 p2 = some r) : PCall Try.prog 46 [(.agg [(i64 p1.Tick), (i64 p1.Gap), (.list (List.map eMate p1.Mates)), (i64 p1.Guest_.ID), (i64 p1.Guest_.S), (i64 p1.Guest_.V), (i64 p1.Guest_.Len), (i64 p1.Guest_.End), (i64 p1.Guest_.Ahead), (i64 p1.Guest_.Guess_.R), (i64 p1.Guest_.Guess_.V), (i64 p1.Guest_.From), (i64 p1.Guest_.Until)]), (.agg [(i64 p2.ID), (i64 p2.S), (i64 p2.V), (i64 p2.Len), (i64 p2.End), (i64 p2.Ahead), (i64 p2.Guess_.R), (i64 p2.Guess_.V), (i64 p2.From), (i64 p2.Until)])] (.tup [(.agg [(i64 r.1.Tick), (i64 r.1.Gap), (.list (List.map eMate r.1.Mates)), (i64 r.1.Guest_.ID), (i64 r.1.Guest_.S), (i64 r.1.Guest_.V), (i64 r.1.Guest_.Len), (i64 r.1.Guest_.End), (i64 r.1.Guest_.Ahead), (i64 r.1.Guest_.Guess_.R), (i64 r.1.Guest_.Guess_.V), (i64 r.1.Guest_.From), (i64 r.1.Guest_.Until)]), (i64 r.2)]) := by
  refine l_call fn_ref09_Ramp (Nat.le_of_ble_eq_true rfl) ?_
  unfold ref09_Ramp at h
  unfold ac_ref09_Ramp
  refine (l_sub (s0 := ⟨T [(0, (.d (.agg [(i64 p1.Tick), (i64 p1.Gap), (.list (List.map eMate p1.Mates)), (i64 p1.Guest_.ID), (i64 p1.Guest_.S), (i64 p1.Guest_.V), (i64 p1.Guest_.Len), (i64 p1.Guest_.End), (i64 p1.Guest_.Ahead), (i64 p1.Guest_.Guess_.R), (i64 p1.Guest_.Guess_.V), (i64 p1.Guest_.From), (i64 p1.Guest_.Until)]))), (1, (.d (.agg [(i64 p2.ID), (i64 p2.S), (i64 p2.V), (i64 p2.Len), (i64 p2.End), (i64 p2.Ahead), (i64 p2.Guess_.R), (i64 p2.Guess_.V), (i64 p2.From), (i64 p2.Until)])))], G []⟩) (sb_of ⟨.of rfl, .of rfl, trivial⟩ trivial) ?_)
  refine l_seq ?_
  refine l_reg fun u1 hu1 => ?_
  refine s_new (.ptr _ _) (.box _ _) rfl rfl ?_
  refine s_new (.ptr _ _) (.box _ _) rfl rfl ?_
  refine s_new (.ptr _ _) (.box _ _) rfl rfl ?_
  refine s_val (.d _) rfl rfl ?_
  refine s_nil ?_
  refine l_seq ?_
  refine l_seq ?_
  refine l_reg fun u2 hu2 => ?_
  refine s_val (.d _) rfl (v_loadG rfl (G_skip rfl (G_skip rfl G_hit)) rfl rfl) ?_
  obtain ⟨v1, hv1, h⟩ := bind_some h
  refine s_call rfl rfl all2_refl (ref09_Check_ok _  _ hv1) (.inl rfl) ?_
  refine s_val (.d _) rfl rfl ?_
  refine s_nil ?_
  refine l_seq ?_
  refine l_reg fun u3 hu3 => ?_
  refine s_val (.d _) rfl rfl ?_
  refine s_val (.d _) rfl rfl ?_
  refine s_nil ?_
  refine l_cond (v1 != 0) rfl (fun c1 => ?_) (fun c1 => ?_)
  · replace h := cond_t c1 h
    refine l_seq ?_
    refine l_reg fun u4 hu4 => ?_
    refine s_val (.d _) rfl rfl ?_
    refine s_val (.d _) rfl rfl ?_
    refine s_store _ _ _ _ _ rfl rfl rfl G_hit (Nat.le_of_ble_eq_true rfl) [(.d (i64 0)), (.d (i64 0)), (.d .nilS), (.d (i64 0)), (.d (i64 0)), (.d (i64 0)), (.d (i64 0)), (.d (i64 0)), (.d (i64 0)), (.d (i64 0)), (.d (i64 0)), (.d (i64 0)), (.d (i64 0))] rfl ?_
    refine s_val (.d _) rfl rfl ?_
    refine s_nil ?_
    refine l_ret ?_
    obtain rfl := Option.some.inj h
    refine fin_ok (.inr rfl) (resD2 (res_cellG rfl G_hit (Nat.le_of_ble_eq_true rfl) rfl) (res_t rfl) rf_d rf_d) ?_
    exact .tup (.cons (.agg (.cons ⟨(.refl _), rfl⟩ (.cons ⟨(.refl _), rfl⟩ (.cons ⟨DLe.nil, rfl⟩ (.cons ⟨(.refl _), rfl⟩ (.cons ⟨(.refl _), rfl⟩ (.cons ⟨(.refl _), rfl⟩ (.cons ⟨(.refl _), rfl⟩ (.cons ⟨(.refl _), rfl⟩ (.cons ⟨(.refl _), rfl⟩ (.cons ⟨(.refl _), rfl⟩ (.cons ⟨(.refl _), rfl⟩ (.cons ⟨(.refl _), rfl⟩ (.cons ⟨(.refl _), rfl⟩ .nil)))))))))))))) (.cons (.refl _) .nil))
  · replace h := cond_f c1 h
    refine l_skip ?_
    refine l_seq ?_
    refine l_reg fun u5 hu5 => ?_
    refine s_val (.ptr _ _) rfl rfl ?_
    refine s_val (.ptr _ _) rfl rfl ?_
    refine s_val (.d _) rfl (v_load rfl (G_skip rfl (G_skip rfl G_hit)) rfl) ?_
    refine s_val (.d _) rfl rfl ?_
    refine s_val (.d _) rfl rfl ?_
    refine s_nil ?_
    refine l_seq ?_
    refine l_seq ?_
    refine l_reg fun u6 hu6 => ?_
    refine s_val (.d _) rfl rfl ?_
    refine s_nil ?_
    obtain ⟨y1, hy1, h⟩ := bind_some h
    refine l_join (fun s => ∃ g1 : Unit, Sb ⟨T [(2, (.ptr (2, u1) 0)), (3, (.ptr (3, u1) 0)), (4, (.ptr (4, u1) 0)), (7, (.d (bo y1)))], G [((2, u1), some (.box 38 [(.d (i64 p1.Tick)), (.d (i64 p1.Gap)), (.d (.list (List.map eMate p1.Mates))), (.d (i64 p1.Guest_.ID)), (.d (i64 p1.Guest_.S)), (.d (i64 p1.Guest_.V)), (.d (i64 p1.Guest_.Len)), (.d (i64 p1.Guest_.End)), (.d (i64 p1.Guest_.Ahead)), (.d (i64 p1.Guest_.Guess_.R)), (.d (i64 p1.Guest_.Guess_.V)), (.d (i64 p1.Guest_.From)), (.d (i64 p1.Guest_.Until))])), ((3, u1), some (.box 36 [(.d (i64 p2.ID)), (.d (i64 p2.S)), (.d (i64 p2.V)), (.d (i64 p2.Len)), (.d (i64 p2.End)), (.d (i64 p2.Ahead)), (.d (i64 p2.Guess_.R)), (.d (i64 p2.Guess_.V)), (.d (i64 p2.From)), (.d (i64 p2.Until))])), ((4, u1), some (.box 38 [(.d (i64 0)), (.d (i64 0)), (.d .nilS), (.d (i64 0)), (.d (i64 0)), (.d (i64 0)), (.d (i64 0)), (.d (i64 0)), (.d (i64 0)), (.d (i64 0)), (.d (i64 0)), (.d (i64 0)), (.d (i64 0))]))]⟩ s) ?_ ?_
    · skip
      refine l_block ?_
      refine l_loop (ref09_Ramp_l1 p1 p2) (fun (x1 : (Bool × Int)) (g2 : Unit) => ⟨T [(2, (.ptr (2, u1) 0)), (3, (.ptr (3, u1) 0)), (4, (.ptr (4, u1) 0)), (7, (.d (bo x1.1))), (8, (.d (i64 x1.2)))], G [((2, u1), some (.box 38 [(.d (i64 p1.Tick)), (.d (i64 p1.Gap)), (.d (.list (List.map eMate p1.Mates))), (.d (i64 p1.Guest_.ID)), (.d (i64 p1.Guest_.S)), (.d (i64 p1.Guest_.V)), (.d (i64 p1.Guest_.Len)), (.d (i64 p1.Guest_.End)), (.d (i64 p1.Guest_.Ahead)), (.d (i64 p1.Guest_.Guess_.R)), (.d (i64 p1.Guest_.Guess_.V)), (.d (i64 p1.Guest_.From)), (.d (i64 p1.Guest_.Until))])), ((3, u1), some (.box 36 [(.d (i64 p2.ID)), (.d (i64 p2.S)), (.d (i64 p2.V)), (.d (i64 p2.Len)), (.d (i64 p2.End)), (.d (i64 p2.Ahead)), (.d (i64 p2.Guess_.R)), (.d (i64 p2.Guess_.V)), (.d (i64 p2.From)), (.d (i64 p2.Until))])), ((4, u1), some (.box 38 [(.d (i64 0)), (.d (i64 0)), (.d .nilS), (.d (i64 0)), (.d (i64 0)), (.d (i64 0)), (.d (i64 0)), (.d (i64 0)), (.d (i64 0)), (.d (i64 0)), (.d (i64 0)), (.d (i64 0)), (.d (i64 0))]))]⟩) ((p1.Guest_.ID != 0), 0) () _ hy1 (sb_of ⟨.of rfl, .of rfl, .of rfl, .of rfl, .of rfl, trivial⟩ (sbG_some (G_skip rfl (G_skip rfl G_hit)) (.of rfl) (sbG_some (G_skip rfl G_hit) (.of rfl) (sbG_some G_hit (.of rfl) trivial)))) ?_
      intro x1 g2 z1 hz1 ez1
      unfold ref09_Ramp_l1 at hz1
      refine l_seq ?_
      refine l_seq ?_
      refine l_reg fun u7 hu7 => ?_
      refine s_val (.d _) rfl rfl ?_
      refine s_val (.ptr _ _) rfl rfl ?_
      refine s_val (.d _) rfl (v_load rfl G_hit rfl) ?_
      refine s_val (.d _) rfl (v_len rfl) ?_
      refine s_val (.d _) rfl rfl ?_
      refine s_nil ?_
      refine l_cond (decide (x1.2 < (p1.Mates.length : Int))) rfl (fun c2 => ?_) (fun c2 => ?_)
      · replace hz1 := cond_t c2 hz1
        refine l_skip ?_
        refine l_seq ?_
        refine l_block ?_
        refine l_draw rfl fun u8 hu8 => ?_
        refine s_val (.d _) rfl rfl ?_
        refine s_val (.d _) rfl rfl ?_
        refine g_val (!x1.1) (.ptr _ _) rfl (gw_f rfl) (fun w1 => rfl) ?_
        refine g_val (!x1.1) (.d _) rfl (gw_f rfl) (fun w2 => (v_load (gd_pos w2) G_hit rfl)) ?_
        refine g_val (!x1.1) (.d _) rfl (gw_f rfl) (fun w3 => rfl) ?_
        obtain ⟨v2, hv2, hz1⟩ := bind_some hz1
        refine g_val (!x1.1) (.d _) rfl (gw_f rfl) (fun w4 => (v_idx (gd_pos w4) (gd_pos w4) (cond_t w4 hv2) rfl)) ?_
        refine g_val (!x1.1) (.d _) rfl (gw_f rfl) (fun w5 => (by simp only [gd_pos w5]; rfl)) ?_
        refine g_val (!x1.1) (.d _) rfl (gw_f rfl) (fun w6 => (v_loadL (gd_pos w6) (cond_t w6 hv2) rfl)) ?_
        refine g_val (!x1.1) (.ptr _ _) rfl (gw_f rfl) (fun w7 => rfl) ?_
        refine g_val (!x1.1) (.d _) rfl (gw_f rfl) (fun w8 => (v_load (gd_pos w8) (G_skip rfl G_hit) rfl)) ?_
        refine g_val (!x1.1) (.d _) rfl (gw_f rfl) (fun w9 => (v_bin (gd_pos w9) (gd_pos w9) rfl)) ?_
        refine s_val (.d _) rfl (v_or rfl rfl (fun hc => gd_pos (not_t hc))) ?_
        refine s_val (.d _) rfl rfl ?_
        refine g_val (!(x1.1 || (v2.ID == p2.ID))) (.ptr _ _) rfl (gw_f rfl) (fun w10 => rfl) ?_
        refine g_val (!(x1.1 || (v2.ID == p2.ID))) (.d _) rfl (gw_f rfl) (fun w11 => (v_load (gd_pos w11) G_hit rfl)) ?_
        refine g_val (!(x1.1 || (v2.ID == p2.ID))) (.d _) rfl (gw_f rfl) (fun w12 => rfl) ?_
        obtain ⟨v3, hv3, hz1⟩ := bind_some hz1
        refine g_val (!(x1.1 || (v2.ID == p2.ID))) (.d _) rfl (gw_f rfl) (fun w13 => (v_idx (gd_pos w13) (gd_pos w13) (cond_t w13 hv3) rfl)) ?_
        refine g_val (!(x1.1 || (v2.ID == p2.ID))) (.d _) rfl (gw_f rfl) (fun w14 => (by simp only [gd_pos w14]; rfl)) ?_
        refine g_val (!(x1.1 || (v2.ID == p2.ID))) (.d _) rfl (gw_f rfl) (fun w15 => (v_loadL (gd_pos w15) (cond_t w15 hv3) rfl)) ?_
        refine g_val (!(x1.1 || (v2.ID == p2.ID))) (.ptr _ _) rfl (gw_f rfl) (fun w16 => rfl) ?_
        refine g_val (!(x1.1 || (v2.ID == p2.ID))) (.d _) rfl (gw_f rfl) (fun w17 => (v_load (gd_pos w17) (G_skip rfl G_hit) rfl)) ?_
        refine g_val (!(x1.1 || (v2.ID == p2.ID))) (.d _) rfl (gw_f rfl) (fun w18 => (v_bin (gd_pos w18) (gd_pos w18) rfl)) ?_
        refine g_val (!(x1.1 || (v2.ID == p2.ID))) (.d _) rfl (gw_f rfl) (fun w19 => (v_mv (gd_pos w19))) ?_
        refine g_val ((!(x1.1 || (v2.ID == p2.ID))) && (v3.Ward == p2.ID)) (.ptr _ _) rfl (gw_gt rfl) (fun w20 => rfl) ?_
        refine g_val ((!(x1.1 || (v2.ID == p2.ID))) && (v3.Ward == p2.ID)) (.d _) rfl (gw_gt rfl) (fun w21 => (v_load (gd_pos w21) (G_skip rfl G_hit) rfl)) ?_
        refine g_val ((!(x1.1 || (v2.ID == p2.ID))) && (v3.Ward == p2.ID)) (.d _) rfl (gw_gt rfl) (fun w22 => (v_bin (gd_pos w22) rfl rfl)) ?_
        refine g_val (!(x1.1 || (v2.ID == p2.ID))) (.d _) rfl (gw_f rfl) (fun w23 => (v_and (gd_pos w23) (fun hc => gd_pos (and_i w23 hc)) rfl)) ?_
        refine s_val (.d _) rfl (v_or rfl rfl (fun hc => gd_pos (not_t hc))) ?_
        refine s_val (.d _) rfl rfl ?_
        refine s_nil ?_
        refine l_end ?_
        refine l_sub (s0 := ⟨T [(2, (.ptr (2, u1) 0)), (3, (.ptr (3, u1) 0)), (4, (.ptr (4, u1) 0)), (7, (.d (bo ((x1.1 || (v2.ID == p2.ID)) || ((v3.Ward == p2.ID) && (p2.ID != 0)))))), (8, (.d (i64 x1.2))), (30, (gd (!x1.1) true (.ptr (2, u1) 2))), (31, (gd (!x1.1) true (.d (.list (List.map eMate p1.Mates))))), (32, (gd (!x1.1) true (.d (i64 x1.2)))), (33, (gd (!x1.1) true (.d (.lp (List.map eMate p1.Mates) (x1.2).toNat 0)))), (34, (gd (!x1.1) true (.d (.lp (List.map eMate p1.Mates) (x1.2).toNat 0)))), (35, (gd (!x1.1) true (.d (i64 v2.ID)))), (36, (gd (!x1.1) true (.ptr (3, u1) 0))), (37, (gd (!x1.1) true (.d (i64 p2.ID)))), (38, (gd (!x1.1) true (.d (bo (v2.ID == p2.ID))))), (41, (gd (!(x1.1 || (v2.ID == p2.ID))) true (.ptr (2, u1) 2))), (42, (gd (!(x1.1 || (v2.ID == p2.ID))) true (.d (.list (List.map eMate p1.Mates))))), (43, (gd (!(x1.1 || (v2.ID == p2.ID))) true (.d (i64 x1.2)))), (44, (gd (!(x1.1 || (v2.ID == p2.ID))) true (.d (.lp (List.map eMate p1.Mates) (x1.2).toNat 0)))), (45, (gd (!(x1.1 || (v2.ID == p2.ID))) true (.d (.lp (List.map eMate p1.Mates) (x1.2).toNat 8)))), (46, (gd (!(x1.1 || (v2.ID == p2.ID))) true (.d (i64 v3.Ward)))), (47, (gd (!(x1.1 || (v2.ID == p2.ID))) true (.ptr (3, u1) 0))), (48, (gd (!(x1.1 || (v2.ID == p2.ID))) true (.d (i64 p2.ID)))), (49, (gd (!(x1.1 || (v2.ID == p2.ID))) true (.d (bo (v3.Ward == p2.ID))))), (50, (gd (!(x1.1 || (v2.ID == p2.ID))) true (.d (bo (v3.Ward == p2.ID))))), (51, (gd ((!(x1.1 || (v2.ID == p2.ID))) && (v3.Ward == p2.ID)) true (.ptr (3, u1) 0))), (52, (gd ((!(x1.1 || (v2.ID == p2.ID))) && (v3.Ward == p2.ID)) true (.d (i64 p2.ID)))), (53, (gd ((!(x1.1 || (v2.ID == p2.ID))) && (v3.Ward == p2.ID)) true (.d (bo (p2.ID != 0))))), (54, (gd (!(x1.1 || (v2.ID == p2.ID))) true (.d (bo ((v3.Ward == p2.ID) && (p2.ID != 0))))))], G [((2, u1), some (.box 38 [(.d (i64 p1.Tick)), (.d (i64 p1.Gap)), (.d (.list (List.map eMate p1.Mates))), (.d (i64 p1.Guest_.ID)), (.d (i64 p1.Guest_.S)), (.d (i64 p1.Guest_.V)), (.d (i64 p1.Guest_.Len)), (.d (i64 p1.Guest_.End)), (.d (i64 p1.Guest_.Ahead)), (.d (i64 p1.Guest_.Guess_.R)), (.d (i64 p1.Guest_.Guess_.V)), (.d (i64 p1.Guest_.From)), (.d (i64 p1.Guest_.Until))])), ((3, u1), some (.box 36 [(.d (i64 p2.ID)), (.d (i64 p2.S)), (.d (i64 p2.V)), (.d (i64 p2.Len)), (.d (i64 p2.End)), (.d (i64 p2.Ahead)), (.d (i64 p2.Guess_.R)), (.d (i64 p2.Guess_.V)), (.d (i64 p2.From)), (.d (i64 p2.Until))])), ((4, u1), some (.box 38 [(.d (i64 0)), (.d (i64 0)), (.d .nilS), (.d (i64 0)), (.d (i64 0)), (.d (i64 0)), (.d (i64 0)), (.d (i64 0)), (.d (i64 0)), (.d (i64 0)), (.d (i64 0)), (.d (i64 0)), (.d (i64 0))]))]⟩) (sb_of ⟨.of rfl, .of rfl, .of rfl, .of rfl, .of rfl, .of rfl, .of rfl, .of rfl, .of rfl, .of rfl, .of rfl, .of rfl, .of rfl, .of rfl, .of rfl, .of rfl, .of rfl, .of rfl, .of rfl, .of rfl, .of rfl, .of rfl, .of rfl, .of rfl, .of rfl, .of rfl, .of rfl, .of rfl, trivial⟩ (sbG_some G_hit (.of rfl) (sbG_some (G_skip rfl G_hit) (.of rfl) (sbG_some (G_skip rfl (G_skip rfl G_hit)) (.of rfl) trivial)))) ?_
        refine l_reg fun u9 hu9 => ?_
        refine s_val (.d _) rfl rfl ?_
        refine s_val (.d _) rfl rfl ?_
        refine s_val (.d _) rfl rfl ?_
        refine s_nil ?_
        refine l_nil ?_
        obtain rfl := Option.some.inj hz1
        exact ⟨rfl, (), (sb_of ⟨.of rfl, .of rfl, .of rfl, .of rfl, .of rfl, trivial⟩ (sbG_some G_hit (.of rfl) (sbG_some (G_skip rfl G_hit) (.of rfl) (sbG_some (G_skip rfl (G_skip rfl G_hit)) (.of rfl) trivial))))⟩
      · replace hz1 := cond_f c2 hz1
        refine l_exitN rfl ?_
        obtain rfl := Option.some.inj hz1
        obtain rfl := ez1 _ rfl
        refine ⟨nofun, awl_pop rfl (l_j ?_)⟩
        exact ⟨(), (sb_of ⟨.of rfl, .of rfl, .of rfl, .of rfl, trivial⟩ (sbG_some G_hit (.of rfl) (sbG_some (G_skip rfl G_hit) (.of rfl) (sbG_some (G_skip rfl (G_skip rfl G_hit)) (.of rfl) trivial))))⟩
    · rintro _ ⟨g1, q1⟩
      refine l_sub q1 ?_
      refine l_seq ?_
      refine l_seq ?_
      refine l_reg fun u10 hu10 => ?_
      refine s_val (.d _) rfl rfl ?_
      refine s_nil ?_
      refine l_cond y1 rfl (fun c3 => ?_) (fun c3 => ?_)
      · replace h := cond_t c3 h
        refine l_seq ?_
        refine l_reg fun u11 hu11 => ?_
        refine s_val (.d _) rfl rfl ?_
        refine s_store _ _ _ _ _ rfl rfl rfl (G_skip rfl (G_skip rfl G_hit)) (Nat.le_of_ble_eq_true rfl) [(.d (i64 0)), (.d (i64 0)), (.d .nilS), (.d (i64 0)), (.d (i64 0)), (.d (i64 0)), (.d (i64 0)), (.d (i64 0)), (.d (i64 0)), (.d (i64 0)), (.d (i64 0)), (.d (i64 0)), (.d (i64 0))] rfl ?_
        refine s_val (.d _) rfl rfl ?_
        refine s_nil ?_
        refine l_ret ?_
        obtain rfl := Option.some.inj h
        refine fin_ok (.inr rfl) (resD2 (res_cellG rfl G_hit (Nat.le_of_ble_eq_true rfl) rfl) (res_t rfl) rf_d rf_d) ?_
        exact .tup (.cons (.agg (.cons ⟨(.refl _), rfl⟩ (.cons ⟨(.refl _), rfl⟩ (.cons ⟨DLe.nil, rfl⟩ (.cons ⟨(.refl _), rfl⟩ (.cons ⟨(.refl _), rfl⟩ (.cons ⟨(.refl _), rfl⟩ (.cons ⟨(.refl _), rfl⟩ (.cons ⟨(.refl _), rfl⟩ (.cons ⟨(.refl _), rfl⟩ (.cons ⟨(.refl _), rfl⟩ (.cons ⟨(.refl _), rfl⟩ (.cons ⟨(.refl _), rfl⟩ (.cons ⟨(.refl _), rfl⟩ .nil)))))))))))))) (.cons (.refl _) .nil))
      · replace h := cond_f c3 h
        refine l_skip ?_
        refine l_seq ?_
        refine l_seq ?_
        refine l_reg fun u12 hu12 => ?_
        refine s_val (.ptr _ _) rfl rfl ?_
        refine s_val (.d _) rfl (v_load rfl (G_skip rfl G_hit) rfl) ?_
        refine s_val (.d _) rfl rfl ?_
        refine s_nil ?_
        refine l_cond (p2.ID == 0) rfl (fun c4 => ?_) (fun c4 => ?_)
        · replace h := cond_t c4 h
          refine l_seq ?_
          refine l_reg fun u13 hu13 => ?_
          refine s_val (.d _) rfl rfl ?_
          refine s_store _ _ _ _ _ rfl rfl rfl (G_skip rfl (G_skip rfl G_hit)) (Nat.le_of_ble_eq_true rfl) [(.d (i64 0)), (.d (i64 0)), (.d .nilS), (.d (i64 0)), (.d (i64 0)), (.d (i64 0)), (.d (i64 0)), (.d (i64 0)), (.d (i64 0)), (.d (i64 0)), (.d (i64 0)), (.d (i64 0)), (.d (i64 0))] rfl ?_
          refine s_val (.d _) rfl rfl ?_
          refine s_nil ?_
          refine l_ret ?_
          obtain rfl := Option.some.inj h
          refine fin_ok (.inr rfl) (resD2 (res_cellG rfl G_hit (Nat.le_of_ble_eq_true rfl) rfl) (res_t rfl) rf_d rf_d) ?_
          exact .tup (.cons (.agg (.cons ⟨(.refl _), rfl⟩ (.cons ⟨(.refl _), rfl⟩ (.cons ⟨DLe.nil, rfl⟩ (.cons ⟨(.refl _), rfl⟩ (.cons ⟨(.refl _), rfl⟩ (.cons ⟨(.refl _), rfl⟩ (.cons ⟨(.refl _), rfl⟩ (.cons ⟨(.refl _), rfl⟩ (.cons ⟨(.refl _), rfl⟩ (.cons ⟨(.refl _), rfl⟩ (.cons ⟨(.refl _), rfl⟩ (.cons ⟨(.refl _), rfl⟩ (.cons ⟨(.refl _), rfl⟩ .nil)))))))))))))) (.cons (.refl _) .nil))
        · replace h := cond_f c4 h
          refine l_skip ?_
          refine l_seq ?_
          refine l_reg fun u14 hu14 => ?_
          refine s_val (.d _) rfl (v_loadG rfl G_hit rfl rfl) ?_
          obtain ⟨v4, hv4, h⟩ := bind_some h
          refine s_call rfl rfl all2_refl (ref09_Copy_ok _  _ hv4) (.inl rfl) ?_
          refine s_new (.ptr _ _) (.box _ _) rfl rfl ?_
          refine s_store _ _ _ _ _ rfl rfl rfl G_hit (Nat.le_of_ble_eq_true rfl) [(.d (i64 v4.Tick)), (.d (i64 v4.Gap)), (.d (.list (List.map eMate v4.Mates))), (.d (i64 v4.Guest_.ID)), (.d (i64 v4.Guest_.S)), (.d (i64 v4.Guest_.V)), (.d (i64 v4.Guest_.Len)), (.d (i64 v4.Guest_.End)), (.d (i64 v4.Guest_.Ahead)), (.d (i64 v4.Guest_.Guess_.R)), (.d (i64 v4.Guest_.Guess_.V)), (.d (i64 v4.Guest_.From)), (.d (i64 v4.Guest_.Until))] rfl ?_
          refine s_nil ?_
          refine l_seq ?_
          refine l_reg fun u15 hu15 => ?_
          refine s_val (.ptr _ _) rfl rfl ?_
          refine s_val (.d _) rfl (v_load rfl (G_skip rfl (G_skip rfl (G_skip rfl G_hit))) rfl) ?_
          refine s_val (.ptr _ _) rfl rfl ?_
          refine s_val (.d _) rfl (v_load rfl (G_skip rfl (G_skip rfl (G_skip rfl G_hit))) rfl) ?_
          refine s_val (.ptr _ _) rfl rfl ?_
          refine s_val (.d _) rfl (v_load rfl (G_skip rfl (G_skip rfl (G_skip rfl G_hit))) rfl) ?_
          refine s_val (.ptr _ _) rfl rfl ?_
          refine s_val (.d _) rfl (v_load rfl (G_skip rfl (G_skip rfl (G_skip rfl G_hit))) rfl) ?_
          refine s_val (.ptr _ _) rfl rfl ?_
          refine s_val (.d _) rfl (v_load rfl (G_skip rfl (G_skip rfl (G_skip rfl G_hit))) rfl) ?_
          refine s_val (.d _) rfl rfl ?_
          refine s_val (.ptr _ _) rfl rfl ?_
          refine s_store _ _ _ _ _ rfl rfl rfl G_hit (Nat.le_of_ble_eq_true rfl) [(.d (i64 v4.Tick)), (.d (i64 v4.Gap)), (.d (.list (List.map eMate v4.Mates))), (.d (i64 p2.ID)), (.d (i64 p2.S)), (.d (i64 p2.V)), (.d (i64 p2.Len)), (.d (i64 p2.End)), (.d (i64 0)), (.d (i64 0)), (.d (i64 0)), (.d (i64 0)), (.d (i64 0))] rfl ?_
          refine s_nil ?_
          refine l_seq ?_
          refine l_seq ?_
          refine l_sub (s0 := ⟨T [(4, (.ptr (4, u1) 0)), (9, (.ptr (9, u14) 0))], G [((4, u1), some (.box 38 [(.d (i64 0)), (.d (i64 0)), (.d .nilS), (.d (i64 0)), (.d (i64 0)), (.d (i64 0)), (.d (i64 0)), (.d (i64 0)), (.d (i64 0)), (.d (i64 0)), (.d (i64 0)), (.d (i64 0)), (.d (i64 0))])), ((9, u14), some (.box 38 [(.d (i64 v4.Tick)), (.d (i64 v4.Gap)), (.d (.list (List.map eMate v4.Mates))), (.d (i64 p2.ID)), (.d (i64 p2.S)), (.d (i64 p2.V)), (.d (i64 p2.Len)), (.d (i64 p2.End)), (.d (i64 0)), (.d (i64 0)), (.d (i64 0)), (.d (i64 0)), (.d (i64 0))]))]⟩) (sb_of ⟨.of rfl, .of rfl, trivial⟩ (sbG_some (G_skip rfl (G_skip rfl (G_skip rfl (G_skip rfl (G_skip rfl G_hit))))) (.of rfl) (sbG_some G_hit (.of rfl) trivial))) ?_
          refine l_reg fun u16 hu16 => ?_
          refine s_val (.d _) rfl (v_loadG rfl (G_skip rfl G_hit) rfl rfl) ?_
          obtain ⟨v5, hv5, h⟩ := bind_some h
          refine s_call rfl rfl all2_refl (ref09_Check_ok _  _ hv5) (.inl rfl) ?_
          refine s_val (.d _) rfl rfl ?_
          refine s_nil ?_
          refine l_seq ?_
          refine l_reg fun u17 hu17 => ?_
          refine s_val (.d _) rfl rfl ?_
          refine s_val (.d _) rfl rfl ?_
          refine s_nil ?_
          refine l_cond (v5 != 0) rfl (fun c5 => ?_) (fun c5 => ?_)
          · replace h := cond_t c5 h
            refine l_seq ?_
            refine l_reg fun u18 hu18 => ?_
            refine s_val (.d _) rfl rfl ?_
            refine s_val (.d _) rfl rfl ?_
            refine s_store _ _ _ _ _ rfl rfl rfl G_hit (Nat.le_of_ble_eq_true rfl) [(.d (i64 0)), (.d (i64 0)), (.d .nilS), (.d (i64 0)), (.d (i64 0)), (.d (i64 0)), (.d (i64 0)), (.d (i64 0)), (.d (i64 0)), (.d (i64 0)), (.d (i64 0)), (.d (i64 0)), (.d (i64 0))] rfl ?_
            refine s_val (.d _) rfl rfl ?_
            refine s_nil ?_
            refine l_ret ?_
            obtain rfl := Option.some.inj h
            refine fin_ok (.inr rfl) (resD2 (res_cellG rfl G_hit (Nat.le_of_ble_eq_true rfl) rfl) (res_t rfl) rf_d rf_d) ?_
            exact .tup (.cons (.agg (.cons ⟨(.refl _), rfl⟩ (.cons ⟨(.refl _), rfl⟩ (.cons ⟨DLe.nil, rfl⟩ (.cons ⟨(.refl _), rfl⟩ (.cons ⟨(.refl _), rfl⟩ (.cons ⟨(.refl _), rfl⟩ (.cons ⟨(.refl _), rfl⟩ (.cons ⟨(.refl _), rfl⟩ (.cons ⟨(.refl _), rfl⟩ (.cons ⟨(.refl _), rfl⟩ (.cons ⟨(.refl _), rfl⟩ (.cons ⟨(.refl _), rfl⟩ (.cons ⟨(.refl _), rfl⟩ .nil)))))))))))))) (.cons (.refl _) .nil))
          · replace h := cond_f c5 h
            refine l_skip ?_
            refine l_seq ?_
            refine l_reg fun u19 hu19 => ?_
            refine s_val (.d _) rfl (v_loadG rfl (G_skip rfl G_hit) rfl rfl) ?_
            refine s_store _ _ _ _ _ rfl rfl rfl G_hit (Nat.le_of_ble_eq_true rfl) [(.d (i64 v4.Tick)), (.d (i64 v4.Gap)), (.d (.list (List.map eMate v4.Mates))), (.d (i64 p2.ID)), (.d (i64 p2.S)), (.d (i64 p2.V)), (.d (i64 p2.Len)), (.d (i64 p2.End)), (.d (i64 0)), (.d (i64 0)), (.d (i64 0)), (.d (i64 0)), (.d (i64 0))] rfl ?_
            refine s_val (.d _) rfl rfl ?_
            refine s_nil ?_
            refine l_ret ?_
            obtain rfl := Option.some.inj h
            refine fin_ok (.inr rfl) (resD2 (res_cellG rfl G_hit (Nat.le_of_ble_eq_true rfl) rfl) (res_t rfl) rf_d rf_d) ?_
            exact .refl _

noncomputable def kit_Convoy_o (p1 : KitRing) (p2 : Bool) : Option (Convoy × KitRing) :=
  (kit_Ring_Next_o p1 3000).bind fun v1 => (kit_Mates_o v1.2 (w64 (1 + v1.1)) 5).bind fun v2 => (ref09_New (w64 (1 + v1.1)) v2.1).bind fun v3 => cond (v3.2 != 0) (some ((Convoy.mk 0 0 [] (Guest.mk 0 0 0 0 0 0 (Guess.mk 0 0) 0 0)), v2.2)) (cond (!p2) (some (v3.1, v2.2)) ((kit_Ring_Next_o v2.2 (v3.1.Mates.length : Int)).bind fun v4 => (geti v3.1.Mates v4.1).bind fun v5 => (kit_Ring_Next_o v4.2 20).bind fun v6 => (kit_Ring_Next_o v6.2 20000).bind fun v7 => (kit_Ring_Next_o v7.2 2001).bind fun v8 => (kit_Ring_Next_o v8.2 6000).bind fun v9 => (kit_Ring_Next_o v9.2 60000).bind fun v10 => (ref09_Ramp v3.1 (Guest.mk (w64 (70 + v6.1)) (w64 ((w64 ((w64 (v5.S - v5.Len)) - v7.1)) + 8000)) v8.1 (w64 (300 + v9.1)) (w64 ((w64 ((w64 ((w64 ((w64 (v5.S - v5.Len)) - v7.1)) + 8000)) + 22000)) + v10.1)) 0 (Guess.mk 0 0) 0 0)).bind fun v11 => cond (v11.2 != 0) (some (v3.1, v10.2)) (some (v11.1, v10.2))))

/-- kerbstone/kerbstonekit.Convoy -/
def ac_kit_Convoy_o : AC :=
  (.seq (.reg [⟨(some 4), .alloc 38 [(.v (.int .i64 0)), (.v (.int .i64 0)), .nilS, (.v (.int .i64 0)), (.v (.int .i64 0)), (.v (.int .i64 0)), (.v (.int .i64 0)), (.v (.int .i64 0)), (.v (.int .i64 0)), (.v (.int .i64 0)), (.v (.int .i64 0)), (.v (.int .i64 0)), (.v (.int .i64 0))], none⟩])
  (.seq (.reg [⟨(some 11), .mv (.t 0), none⟩, ⟨(some 12), .ocall 10010010 (.c (.fn (.func 49) [] [])) [(.t 11), (.c (.v (.int .i64 3000)))], none⟩, ⟨(some 13), .bin .add (.c (.v (.int .i64 1))) (.t 12), none⟩, ⟨(some 5), .mv (.t 13), none⟩])
  (.seq (.reg [⟨(some 15), .mv (.t 5), none⟩, ⟨(some 16), .mv (.t 0), none⟩, ⟨(some 17), .mv (.t 5), none⟩, ⟨(some 18), .ocall 10020030 (.c (.fn (.func 72) [] [])) [(.t 16), (.t 17), (.c (.v (.int .i64 5)))], none⟩, ⟨(some 19), .call (.c (.fn (.func 44) [] [])) [(.t 15), (.t 18)], none⟩, ⟨(some 14), .mv (.t 19), none⟩, ⟨(some 20), .ext (.t 14) 0, none⟩, ⟨(some 21), .ext (.t 14) 1, none⟩, ⟨(some 6), .alloc 38 [(.v (.int .i64 0)), (.v (.int .i64 0)), .nilS, (.v (.int .i64 0)), (.v (.int .i64 0)), (.v (.int .i64 0)), (.v (.int .i64 0)), (.v (.int .i64 0)), (.v (.int .i64 0)), (.v (.int .i64 0)), (.v (.int .i64 0)), (.v (.int .i64 0)), (.v (.int .i64 0))], none⟩, ⟨none, .store 13 (.t 6) (.t 20), none⟩, ⟨(some 7), .mv (.t 21), none⟩])
  (.seq (.seq (.reg [⟨(some 22), .mv (.t 7), none⟩, ⟨(some 23), .bin .neq (.t 22) (.c (.v (.int .i64 0))), none⟩])
  (.cond (.t 23)
    (.seq (.reg [⟨(some 24), .build [(.v (.int .i64 0)), (.v (.int .i64 0)), .nilS, (.v (.int .i64 0)), (.v (.int .i64 0)), (.v (.int .i64 0)), (.v (.int .i64 0)), (.v (.int .i64 0)), (.v (.int .i64 0)), (.v (.int .i64 0)), (.v (.int .i64 0)), (.v (.int .i64 0)), (.v (.int .i64 0))] [], none⟩, ⟨none, .store 13 (.t 4) (.t 24), none⟩])
    .ret)
    .skip))
  (.seq (.seq (.reg [⟨(some 25), .mv (.t 1), none⟩, ⟨(some 26), .un .not (.t 25), none⟩])
  (.cond (.t 26)
    (.seq (.reg [⟨(some 27), .load 13 true (.t 6), none⟩, ⟨none, .store 13 (.t 4) (.t 27), none⟩])
    .ret)
    .skip))
  (.seq (.draw [⟨(some 28), .fieldA 2 (.t 6), none⟩, ⟨(some 29), .load 1 false (.t 28), none⟩, ⟨(some 30), .mv (.t 0), none⟩, ⟨(some 31), .fieldA 2 (.t 6), none⟩, ⟨(some 32), .load 1 false (.t 31), none⟩, ⟨(some 33), .len (.t 32), none⟩, ⟨(some 34), .ocall 10070060 (.c (.fn (.func 49) [] [])) [(.t 30), (.t 33)], none⟩, ⟨(some 35), .idxS 12 (.t 29) (.t 34), none⟩, ⟨(some 36), .load 12 true (.t 35), none⟩, ⟨(some 8), .alloc 65 [(.v (.int .i64 0)), (.v (.int .i64 0)), (.v (.int .i64 0)), (.v (.int .i64 0)), (.v (.int .i64 0)), (.v (.int .i64 0)), (.v (.int .i64 0)), (.v (.bool false)), (.v (.int .i64 0)), (.v (.int .i64 0)), (.v (.int .i64 0)), (.v (.int .i64 0))], none⟩, ⟨none, .store 12 (.t 8) (.t 36), none⟩] [(1, 6), (6, 9)])
  (.seq (.draw [⟨(some 37), .mv (.t 0), none⟩, ⟨(some 38), .ocall 10080010 (.c (.fn (.func 49) [] [])) [(.t 37), (.c (.v (.int .i64 20)))], none⟩, ⟨(some 39), .bin .add (.c (.v (.int .i64 70))) (.t 38), none⟩, ⟨(some 40), .fieldA 1 (.t 8), none⟩, ⟨(some 41), .load 1 false (.t 40), none⟩, ⟨(some 42), .fieldA 3 (.t 8), none⟩, ⟨(some 43), .load 1 false (.t 42), none⟩, ⟨(some 44), .bin .sub (.t 41) (.t 43), none⟩, ⟨(some 45), .mv (.t 0), none⟩, ⟨(some 46), .ocall 10080090 (.c (.fn (.func 49) [] [])) [(.t 45), (.c (.v (.int .i64 20000)))], none⟩, ⟨(some 47), .bin .sub (.t 44) (.t 46), none⟩, ⟨(some 48), .bin .add (.t 47) (.c (.v (.int .i64 8000))), none⟩, ⟨(some 49), .mv (.t 0), none⟩, ⟨(some 50), .ocall 10080130 (.c (.fn (.func 49) [] [])) [(.t 49), (.c (.v (.int .i64 2001)))], none⟩, ⟨(some 51), .mv (.t 0), none⟩, ⟨(some 52), .ocall 10080150 (.c (.fn (.func 49) [] [])) [(.t 51), (.c (.v (.int .i64 6000)))], none⟩, ⟨(some 53), .bin .add (.c (.v (.int .i64 300))) (.t 52), none⟩, ⟨(some 54), .build [(.v (.int .i64 0)), (.v (.int .i64 0)), (.v (.int .i64 0)), (.v (.int .i64 0)), (.v (.int .i64 0)), (.v (.int .i64 0)), (.v (.int .i64 0)), (.v (.int .i64 0)), (.v (.int .i64 0)), (.v (.int .i64 0))] [(0, 1, (.t 39)), (1, 1, (.t 48)), (2, 1, (.t 50)), (3, 1, (.t 53))], none⟩, ⟨(some 9), .alloc 36 [(.v (.int .i64 0)), (.v (.int .i64 0)), (.v (.int .i64 0)), (.v (.int .i64 0)), (.v (.int .i64 0)), (.v (.int .i64 0)), (.v (.int .i64 0)), (.v (.int .i64 0)), (.v (.int .i64 0)), (.v (.int .i64 0))], none⟩, ⟨none, .store 10 (.t 9) (.t 54), none⟩] [(1, 4), (1, 6), (4, 9), (6, 9), (4, 13), (6, 13), (4, 15), (6, 15), (1, 18), (9, 18), (13, 18), (15, 18)])
  (.seq (.draw [⟨(some 55), .fieldA 1 (.t 9), none⟩, ⟨(some 56), .load 1 false (.t 55), none⟩, ⟨(some 57), .bin .add (.t 56) (.c (.v (.int .i64 22000))), none⟩, ⟨(some 58), .mv (.t 0), none⟩, ⟨(some 59), .ocall 10090040 (.c (.fn (.func 49) [] [])) [(.t 58), (.c (.v (.int .i64 60000)))], none⟩, ⟨(some 60), .bin .add (.t 57) (.t 59), none⟩, ⟨(some 61), .fieldA 4 (.t 9), none⟩, ⟨none, .store 1 (.t 61) (.t 60), none⟩] [(1, 4)])
  (.seq (.reg [⟨(some 63), .load 13 true (.t 6), none⟩, ⟨(some 64), .load 10 true (.t 9), none⟩, ⟨(some 65), .call (.c (.fn (.func 46) [] [])) [(.t 63), (.t 64)], none⟩, ⟨(some 62), .mv (.t 65), none⟩, ⟨(some 66), .ext (.t 62) 0, none⟩, ⟨(some 67), .ext (.t 62) 1, none⟩, ⟨(some 10), .alloc 38 [(.v (.int .i64 0)), (.v (.int .i64 0)), .nilS, (.v (.int .i64 0)), (.v (.int .i64 0)), (.v (.int .i64 0)), (.v (.int .i64 0)), (.v (.int .i64 0)), (.v (.int .i64 0)), (.v (.int .i64 0)), (.v (.int .i64 0)), (.v (.int .i64 0)), (.v (.int .i64 0))], none⟩, ⟨none, .store 13 (.t 10) (.t 66), none⟩, ⟨(some 7), .mv (.t 67), none⟩])
  (.seq (.seq (.reg [⟨(some 68), .mv (.t 7), none⟩, ⟨(some 69), .bin .neq (.t 68) (.c (.v (.int .i64 0))), none⟩])
  (.cond (.t 69)
    (.seq (.reg [⟨(some 70), .load 13 true (.t 6), none⟩, ⟨none, .store 13 (.t 4) (.t 70), none⟩])
    .ret)
    .skip))
  (.seq (.reg [⟨(some 71), .load 13 true (.t 10), none⟩, ⟨none, .store 13 (.t 4) (.t 71), none⟩])
  .ret)))))))))))
theorem fn_kit_Convoy_o : FnOK Try.prog 29 72 [.cell 4 13 true] ac_kit_Convoy_o := ⟨_, _, Try.func29, rfl, Try.ntmps29, by kernel_rfl, ⟨fun r => if r == 1 then [1001001] else if r == 2 then [1002003] else if r == 7 then [1007006] else if r == 8 then [1008001, 1008009, 1008013, 1008015] else if r == 9 then [1009004] else [], by kernel_rfl⟩, by kernel_rfl⟩
set_option maxHeartbeats 4000000 in
theorem kit_Convoy_o_ok (p1 : KitRing) (p2 : Bool) (r : (Convoy × KitRing)) (h : kit_Convoy_o p1 p2 = some r) : MCall Try.prog 29 [(.ptr (900000, 0) 0), (.d (bo p2))] [(.box 94 [(.d (.list (List.map eInt_i64 p1.l))), (.d (i64 p1.at_))])] (.d (.agg [(i64 r.1.Tick), (i64 r.1.Gap), (.list (List.map eMate r.1.Mates)), (i64 r.1.Guest_.ID), (i64 r.1.Guest_.S), (i64 r.1.Guest_.V), (i64 r.1.Guest_.Len), (i64 r.1.Guest_.End), (i64 r.1.Guest_.Ahead), (i64 r.1.Guest_.Guess_.R), (i64 r.1.Guest_.Guess_.V), (i64 r.1.Guest_.From), (i64 r.1.Guest_.Until)])) [some (.box 94 [(.d (.list (List.map eInt_i64 r.2.l))), (.d (i64 r.2.at_))])] [] := by
  refine m_callF fn_kit_Convoy_o rfl (Nat.le_of_ble_eq_true rfl) ?_
  unfold kit_Convoy_o at h
  unfold ac_kit_Convoy_o
  refine (l_sub (s0 := ⟨T [(0, (.ptr (900000, 0) 0)), (1, (.d (bo p2)))], G [((900000, 0), some (.box 94 [(.d (.list (List.map eInt_i64 p1.l))), (.d (i64 p1.at_))]))]⟩) (sb_of ⟨.of rfl, .of rfl, trivial⟩ (sbG_some G_hit (.of rfl) trivial)) ?_)
  refine l_seq ?_
  refine l_reg fun u1 hu1 => ?_
  refine s_new (.ptr _ _) (.box _ _) rfl rfl ?_
  refine s_nil ?_
  refine l_seq ?_
  refine l_reg fun u2 hu2 => ?_
  refine s_val (.ptr _ _) rfl rfl ?_
  obtain ⟨v1, hv1, h⟩ := bind_some h
  refine s_oc (v := .d (i64 v1.1)) (us := [(900000, 0)]) (oc_m (kit_Ring_Next_o_ok _ _ _ hv1) [(900000, 0)] [(900000, 0)] _ (((900000, 0), some (.box 94 [(.d (.list (List.map eInt_i64 v1.2.l))), (.d (i64 v1.2.at_))])) :: _) rfl all2_av (kl_cons (kr_ptr (G_skip rfl G_hit) rfl) (kl_cons kr_d kl_nil)) (live_cons (G_skip rfl G_hit) live_nil) ⟨⟨_, (G_skip rfl G_hit), .of rfl⟩, trivial⟩ (fun _ h => h) nd1 rfl rfl rfl) ?_
  refine s_val (.d _) rfl rfl ?_
  refine s_val (.d _) rfl rfl ?_
  refine s_nil ?_
  refine l_seq ?_
  refine l_reg fun u3 hu3 => ?_
  refine s_val (.d _) rfl rfl ?_
  refine s_val (.ptr _ _) rfl rfl ?_
  refine s_val (.d _) rfl rfl ?_
  obtain ⟨v2, hv2, h⟩ := bind_some h
  refine s_oc (v := .d (.list (List.map eMate v2.1))) (us := [(900000, 0)]) (oc_m (kit_Mates_o_ok _ _ _ _ hv2) [(900000, 0)] [(900000, 0)] _ (((900000, 0), some (.box 94 [(.d (.list (List.map eInt_i64 v2.2.l))), (.d (i64 v2.2.at_))])) :: _) rfl all2_av (kl_cons (kr_ptr G_hit rfl) (kl_cons kr_d (kl_cons kr_d kl_nil))) (live_cons G_hit live_nil) ⟨⟨_, G_hit, .of rfl⟩, trivial⟩ (fun _ h => h) nd1 rfl rfl rfl) ?_
  obtain ⟨v3, hv3, h⟩ := bind_some h
  refine s_call rfl rfl all2_refl (ref09_New_ok _ _  _ hv3) (.inl rfl) ?_
  refine s_val (.d _) rfl rfl ?_
  refine s_val (.d _) rfl rfl ?_
  refine s_val (.d _) rfl rfl ?_
  refine s_new (.ptr _ _) (.box _ _) rfl rfl ?_
  refine s_store _ _ _ _ _ rfl rfl rfl G_hit (Nat.le_of_ble_eq_true rfl) [(.d (i64 v3.1.Tick)), (.d (i64 v3.1.Gap)), (.d (.list (List.map eMate v3.1.Mates))), (.d (i64 v3.1.Guest_.ID)), (.d (i64 v3.1.Guest_.S)), (.d (i64 v3.1.Guest_.V)), (.d (i64 v3.1.Guest_.Len)), (.d (i64 v3.1.Guest_.End)), (.d (i64 v3.1.Guest_.Ahead)), (.d (i64 v3.1.Guest_.Guess_.R)), (.d (i64 v3.1.Guest_.Guess_.V)), (.d (i64 v3.1.Guest_.From)), (.d (i64 v3.1.Guest_.Until))] rfl ?_
  refine s_val (.d _) rfl rfl ?_
  refine s_nil ?_
  refine l_seq ?_
  refine l_seq ?_
  refine l_sub (s0 := ⟨T [(0, (.ptr (900000, 0) 0)), (1, (.d (bo p2))), (4, (.ptr (4, u1) 0)), (6, (.ptr (6, u3) 0)), (7, (.d (i64 v3.2)))], G [((900000, 0), some (.box 94 [(.d (.list (List.map eInt_i64 v2.2.l))), (.d (i64 v2.2.at_))])), ((4, u1), some (.box 38 [(.d (i64 0)), (.d (i64 0)), (.d .nilS), (.d (i64 0)), (.d (i64 0)), (.d (i64 0)), (.d (i64 0)), (.d (i64 0)), (.d (i64 0)), (.d (i64 0)), (.d (i64 0)), (.d (i64 0)), (.d (i64 0))])), ((6, u3), some (.box 38 [(.d (i64 v3.1.Tick)), (.d (i64 v3.1.Gap)), (.d (.list (List.map eMate v3.1.Mates))), (.d (i64 v3.1.Guest_.ID)), (.d (i64 v3.1.Guest_.S)), (.d (i64 v3.1.Guest_.V)), (.d (i64 v3.1.Guest_.Len)), (.d (i64 v3.1.Guest_.End)), (.d (i64 v3.1.Guest_.Ahead)), (.d (i64 v3.1.Guest_.Guess_.R)), (.d (i64 v3.1.Guest_.Guess_.V)), (.d (i64 v3.1.Guest_.From)), (.d (i64 v3.1.Guest_.Until))]))]⟩) (sb_of ⟨.of rfl, .of rfl, .of rfl, .of rfl, .of rfl, trivial⟩ (sbG_some (G_skip rfl (G_skip rfl G_hit)) (.of rfl) (sbG_some (G_skip rfl (G_skip rfl (G_skip rfl (G_skip rfl G_hit)))) (.of rfl) (sbG_some G_hit (.of rfl) trivial)))) ?_
  refine l_reg fun u4 hu4 => ?_
  refine s_val (.d _) rfl rfl ?_
  refine s_val (.d _) rfl rfl ?_
  refine s_nil ?_
  refine l_cond (v3.2 != 0) rfl (fun c1 => ?_) (fun c1 => ?_)
  · replace h := cond_t c1 h
    refine l_seq ?_
    refine l_reg fun u5 hu5 => ?_
    refine s_val (.d _) rfl rfl ?_
    refine s_store _ _ _ _ _ rfl rfl rfl (G_skip rfl G_hit) (Nat.le_of_ble_eq_true rfl) [(.d (i64 0)), (.d (i64 0)), (.d .nilS), (.d (i64 0)), (.d (i64 0)), (.d (i64 0)), (.d (i64 0)), (.d (i64 0)), (.d (i64 0)), (.d (i64 0)), (.d (i64 0)), (.d (i64 0)), (.d (i64 0))] rfl ?_
    refine s_nil ?_
    refine l_ret ?_
    obtain rfl := Option.some.inj h
    exact fin_mf (.inr rfl) [] (resDF1 (res_cellG rfl G_hit (Nat.le_of_ble_eq_true rfl) rfl) rf_d) (.agg (.cons ⟨(.refl _), rfl⟩ (.cons ⟨(.refl _), rfl⟩ (.cons ⟨DLe.nil, rfl⟩ (.cons ⟨(.refl _), rfl⟩ (.cons ⟨(.refl _), rfl⟩ (.cons ⟨(.refl _), rfl⟩ (.cons ⟨(.refl _), rfl⟩ (.cons ⟨(.refl _), rfl⟩ (.cons ⟨(.refl _), rfl⟩ (.cons ⟨(.refl _), rfl⟩ (.cons ⟨(.refl _), rfl⟩ (.cons ⟨(.refl _), rfl⟩ (.cons ⟨(.refl _), rfl⟩ .nil)))))))))))))) ⟨⟨_, _, _, (G_skip rfl G_hit), old_notin_nil, rfl, all2_d, rfl⟩, trivial⟩
  · replace h := cond_f c1 h
    refine l_skip ?_
    refine l_seq ?_
    refine l_seq ?_
    refine l_reg fun u6 hu6 => ?_
    refine s_val (.d _) rfl rfl ?_
    refine s_val (.d _) rfl rfl ?_
    refine s_nil ?_
    refine l_cond (!p2) rfl (fun c2 => ?_) (fun c2 => ?_)
    · replace h := cond_t c2 h
      refine l_seq ?_
      refine l_reg fun u7 hu7 => ?_
      refine s_val (.d _) rfl (v_loadG rfl (G_skip rfl (G_skip rfl G_hit)) rfl rfl) ?_
      refine s_store _ _ _ _ _ rfl rfl rfl (G_skip rfl G_hit) (Nat.le_of_ble_eq_true rfl) [(.d (i64 v3.1.Tick)), (.d (i64 v3.1.Gap)), (.d (.list (List.map eMate v3.1.Mates))), (.d (i64 v3.1.Guest_.ID)), (.d (i64 v3.1.Guest_.S)), (.d (i64 v3.1.Guest_.V)), (.d (i64 v3.1.Guest_.Len)), (.d (i64 v3.1.Guest_.End)), (.d (i64 v3.1.Guest_.Ahead)), (.d (i64 v3.1.Guest_.Guess_.R)), (.d (i64 v3.1.Guest_.Guess_.V)), (.d (i64 v3.1.Guest_.From)), (.d (i64 v3.1.Guest_.Until))] rfl ?_
      refine s_nil ?_
      refine l_ret ?_
      obtain rfl := Option.some.inj h
      exact fin_mf (.inr rfl) [] (resDF1 (res_cellG rfl G_hit (Nat.le_of_ble_eq_true rfl) rfl) rf_d) (.refl _) ⟨⟨_, _, _, (G_skip rfl G_hit), old_notin_nil, rfl, all2_d, rfl⟩, trivial⟩
    · replace h := cond_f c2 h
      refine l_skip ?_
      refine l_seq ?_
      refine l_drawT fun u8 hu8 => ?_
      refine t_val (.ptr _ _) rfl rfl ?_
      refine t_val (.d _) rfl (v_load rfl (G_skip rfl (G_skip rfl G_hit)) rfl) ?_
      refine t_val (.ptr _ _) rfl rfl ?_
      refine t_val (.ptr _ _) rfl rfl ?_
      refine t_val (.d _) rfl (v_load rfl (G_skip rfl (G_skip rfl G_hit)) rfl) ?_
      refine t_val (.d _) rfl (v_len rfl) ?_
      obtain ⟨v4, hv4, h⟩ := bind_some h
      refine t_oc (v := .d (i64 v4.1)) (us := [(900000, 0)]) (oc_m (kit_Ring_Next_o_ok _ _ _ hv4) [(900000, 0)] [(900000, 0)] _ (((900000, 0), some (.box 94 [(.d (.list (List.map eInt_i64 v4.2.l))), (.d (i64 v4.2.at_))])) :: _) rfl all2_av (kl_cons (kr_ptr G_hit rfl) (kl_cons kr_d kl_nil)) (live_cons G_hit live_nil) ⟨⟨_, G_hit, .of rfl⟩, trivial⟩ (fun _ h => h) nd1 rfl rfl rfl) ?_
      obtain ⟨v5, hv5, h⟩ := bind_some h
      refine t_val (.d _) rfl (v_idx rfl rfl hv5 rfl) ?_
      refine t_val (.d _) rfl (v_loadLG rfl hv5 rfl rfl) ?_
      refine t_new (.ptr _ _) (.box _ _) rfl rfl ?_
      refine t_store _ _ _ _ _ rfl rfl rfl G_hit (Nat.le_of_ble_eq_true rfl) [(.d (i64 v5.ID)), (.d (i64 v5.S)), (.d (i64 v5.V)), (.d (i64 v5.Len)), (.d (i64 v5.Ahead)), (.d (i64 v5.Guess_.R)), (.d (i64 v5.Guess_.V)), (.d (bo v5.Trust)), (.d (i64 v5.Ward)), (.d (i64 v5.WardGuess.R)), (.d (i64 v5.WardGuess.V)), (.d (i64 v5.Until))] rfl ?_
      refine t_nil ⟨rfl, ?_⟩
      refine l_seq ?_
      refine l_sub (s0 := ⟨T [(0, (.ptr (900000, 0) 0)), (4, (.ptr (4, u1) 0)), (6, (.ptr (6, u3) 0)), (8, (.ptr (8, u8) 0))], G [((900000, 0), some (.box 94 [(.d (.list (List.map eInt_i64 v4.2.l))), (.d (i64 v4.2.at_))])), ((4, u1), some (.box 38 [(.d (i64 0)), (.d (i64 0)), (.d .nilS), (.d (i64 0)), (.d (i64 0)), (.d (i64 0)), (.d (i64 0)), (.d (i64 0)), (.d (i64 0)), (.d (i64 0)), (.d (i64 0)), (.d (i64 0)), (.d (i64 0))])), ((6, u3), some (.box 38 [(.d (i64 v3.1.Tick)), (.d (i64 v3.1.Gap)), (.d (.list (List.map eMate v3.1.Mates))), (.d (i64 v3.1.Guest_.ID)), (.d (i64 v3.1.Guest_.S)), (.d (i64 v3.1.Guest_.V)), (.d (i64 v3.1.Guest_.Len)), (.d (i64 v3.1.Guest_.End)), (.d (i64 v3.1.Guest_.Ahead)), (.d (i64 v3.1.Guest_.Guess_.R)), (.d (i64 v3.1.Guest_.Guess_.V)), (.d (i64 v3.1.Guest_.From)), (.d (i64 v3.1.Guest_.Until))])), ((8, u8), some (.box 65 [(.d (i64 v5.ID)), (.d (i64 v5.S)), (.d (i64 v5.V)), (.d (i64 v5.Len)), (.d (i64 v5.Ahead)), (.d (i64 v5.Guess_.R)), (.d (i64 v5.Guess_.V)), (.d (bo v5.Trust)), (.d (i64 v5.Ward)), (.d (i64 v5.WardGuess.R)), (.d (i64 v5.WardGuess.V)), (.d (i64 v5.Until))]))]⟩) (sb_of ⟨.of rfl, .of rfl, .of rfl, .of rfl, trivial⟩ (sbG_some (G_skip rfl (G_skip rfl G_hit)) (.of rfl) (sbG_some (G_skip rfl (G_skip rfl (G_skip rfl (G_skip rfl G_hit)))) (.of rfl) (sbG_some (G_skip rfl (G_skip rfl (G_skip rfl (G_skip rfl (G_skip rfl G_hit))))) (.of rfl) (sbG_some G_hit (.of rfl) trivial))))) ?_
      refine l_drawT fun u9 hu9 => ?_
      refine t_val (.ptr _ _) rfl rfl ?_
      obtain ⟨v6, hv6, h⟩ := bind_some h
      refine t_oc (v := .d (i64 v6.1)) (us := [(900000, 0)]) (oc_m (kit_Ring_Next_o_ok _ _ _ hv6) [(900000, 0)] [(900000, 0)] _ (((900000, 0), some (.box 94 [(.d (.list (List.map eInt_i64 v6.2.l))), (.d (i64 v6.2.at_))])) :: _) rfl all2_av (kl_cons (kr_ptr G_hit rfl) (kl_cons kr_d kl_nil)) (live_cons G_hit live_nil) ⟨⟨_, G_hit, .of rfl⟩, trivial⟩ (fun _ h => h) nd1 rfl rfl rfl) ?_
      refine t_val (.d _) rfl rfl ?_
      refine t_val (.ptr _ _) rfl rfl ?_
      refine t_val (.d _) rfl (v_load rfl (G_skip rfl (G_skip rfl (G_skip rfl (G_skip rfl G_hit)))) rfl) ?_
      refine t_val (.ptr _ _) rfl rfl ?_
      refine t_val (.d _) rfl (v_load rfl (G_skip rfl (G_skip rfl (G_skip rfl (G_skip rfl G_hit)))) rfl) ?_
      refine t_val (.d _) rfl rfl ?_
      refine t_val (.ptr _ _) rfl rfl ?_
      obtain ⟨v7, hv7, h⟩ := bind_some h
      refine t_oc (v := .d (i64 v7.1)) (us := [(900000, 0)]) (oc_m (kit_Ring_Next_o_ok _ _ _ hv7) [(900000, 0)] [(900000, 0)] _ (((900000, 0), some (.box 94 [(.d (.list (List.map eInt_i64 v7.2.l))), (.d (i64 v7.2.at_))])) :: _) rfl all2_av (kl_cons (kr_ptr G_hit rfl) (kl_cons kr_d kl_nil)) (live_cons G_hit live_nil) ⟨⟨_, G_hit, .of rfl⟩, trivial⟩ (fun _ h => h) nd1 rfl rfl rfl) ?_
      refine t_val (.d _) rfl rfl ?_
      refine t_val (.d _) rfl rfl ?_
      refine t_val (.ptr _ _) rfl rfl ?_
      obtain ⟨v8, hv8, h⟩ := bind_some h
      refine t_oc (v := .d (i64 v8.1)) (us := [(900000, 0)]) (oc_m (kit_Ring_Next_o_ok _ _ _ hv8) [(900000, 0)] [(900000, 0)] _ (((900000, 0), some (.box 94 [(.d (.list (List.map eInt_i64 v8.2.l))), (.d (i64 v8.2.at_))])) :: _) rfl all2_av (kl_cons (kr_ptr G_hit rfl) (kl_cons kr_d kl_nil)) (live_cons G_hit live_nil) ⟨⟨_, G_hit, .of rfl⟩, trivial⟩ (fun _ h => h) nd1 rfl rfl rfl) ?_
      refine t_val (.ptr _ _) rfl rfl ?_
      obtain ⟨v9, hv9, h⟩ := bind_some h
      refine t_oc (v := .d (i64 v9.1)) (us := [(900000, 0)]) (oc_m (kit_Ring_Next_o_ok _ _ _ hv9) [(900000, 0)] [(900000, 0)] _ (((900000, 0), some (.box 94 [(.d (.list (List.map eInt_i64 v9.2.l))), (.d (i64 v9.2.at_))])) :: _) rfl all2_av (kl_cons (kr_ptr G_hit rfl) (kl_cons kr_d kl_nil)) (live_cons G_hit live_nil) ⟨⟨_, G_hit, .of rfl⟩, trivial⟩ (fun _ h => h) nd1 rfl rfl rfl) ?_
      refine t_val (.d _) rfl rfl ?_
      refine t_val (.d _) rfl rfl ?_
      refine t_new (.ptr _ _) (.box _ _) rfl rfl ?_
      refine t_store _ _ _ _ _ rfl rfl rfl G_hit (Nat.le_of_ble_eq_true rfl) [(.d (i64 (w64 (70 + v6.1)))), (.d (i64 (w64 ((w64 ((w64 (v5.S - v5.Len)) - v7.1)) + 8000)))), (.d (i64 v8.1)), (.d (i64 (w64 (300 + v9.1)))), (.d (i64 0)), (.d (i64 0)), (.d (i64 0)), (.d (i64 0)), (.d (i64 0)), (.d (i64 0))] rfl ?_
      refine t_nil ⟨rfl, ?_⟩
      refine l_seq ?_
      refine l_sub (s0 := ⟨T [(0, (.ptr (900000, 0) 0)), (4, (.ptr (4, u1) 0)), (6, (.ptr (6, u3) 0)), (9, (.ptr (9, u9) 0))], G [((900000, 0), some (.box 94 [(.d (.list (List.map eInt_i64 v9.2.l))), (.d (i64 v9.2.at_))])), ((4, u1), some (.box 38 [(.d (i64 0)), (.d (i64 0)), (.d .nilS), (.d (i64 0)), (.d (i64 0)), (.d (i64 0)), (.d (i64 0)), (.d (i64 0)), (.d (i64 0)), (.d (i64 0)), (.d (i64 0)), (.d (i64 0)), (.d (i64 0))])), ((6, u3), some (.box 38 [(.d (i64 v3.1.Tick)), (.d (i64 v3.1.Gap)), (.d (.list (List.map eMate v3.1.Mates))), (.d (i64 v3.1.Guest_.ID)), (.d (i64 v3.1.Guest_.S)), (.d (i64 v3.1.Guest_.V)), (.d (i64 v3.1.Guest_.Len)), (.d (i64 v3.1.Guest_.End)), (.d (i64 v3.1.Guest_.Ahead)), (.d (i64 v3.1.Guest_.Guess_.R)), (.d (i64 v3.1.Guest_.Guess_.V)), (.d (i64 v3.1.Guest_.From)), (.d (i64 v3.1.Guest_.Until))])), ((9, u9), some (.box 36 [(.d (i64 (w64 (70 + v6.1)))), (.d (i64 (w64 ((w64 ((w64 (v5.S - v5.Len)) - v7.1)) + 8000)))), (.d (i64 v8.1)), (.d (i64 (w64 (300 + v9.1)))), (.d (i64 0)), (.d (i64 0)), (.d (i64 0)), (.d (i64 0)), (.d (i64 0)), (.d (i64 0))]))]⟩) (sb_of ⟨.of rfl, .of rfl, .of rfl, .of rfl, trivial⟩ (sbG_some (G_skip rfl (G_skip rfl G_hit)) (.of rfl) (sbG_some (G_skip rfl (G_skip rfl (G_skip rfl (G_skip rfl (G_skip rfl (G_skip rfl (G_skip rfl G_hit))))))) (.of rfl) (sbG_some (G_skip rfl (G_skip rfl (G_skip rfl (G_skip rfl (G_skip rfl (G_skip rfl (G_skip rfl (G_skip rfl G_hit)))))))) (.of rfl) (sbG_some G_hit (.of rfl) trivial))))) ?_
      refine l_drawT fun u10 hu10 => ?_
      refine t_val (.ptr _ _) rfl rfl ?_
      refine t_val (.d _) rfl (v_load rfl (G_skip rfl (G_skip rfl (G_skip rfl G_hit))) rfl) ?_
      refine t_val (.d _) rfl rfl ?_
      refine t_val (.ptr _ _) rfl rfl ?_
      obtain ⟨v10, hv10, h⟩ := bind_some h
      refine t_oc (v := .d (i64 v10.1)) (us := [(900000, 0)]) (oc_m (kit_Ring_Next_o_ok _ _ _ hv10) [(900000, 0)] [(900000, 0)] _ (((900000, 0), some (.box 94 [(.d (.list (List.map eInt_i64 v10.2.l))), (.d (i64 v10.2.at_))])) :: _) rfl all2_av (kl_cons (kr_ptr G_hit rfl) (kl_cons kr_d kl_nil)) (live_cons G_hit live_nil) ⟨⟨_, G_hit, .of rfl⟩, trivial⟩ (fun _ h => h) nd1 rfl rfl rfl) ?_
      refine t_val (.d _) rfl rfl ?_
      refine t_val (.ptr _ _) rfl rfl ?_
      refine t_store _ _ _ _ _ rfl rfl rfl (G_skip rfl (G_skip rfl (G_skip rfl (G_skip rfl G_hit)))) (Nat.le_of_ble_eq_true rfl) [(.d (i64 (w64 (70 + v6.1)))), (.d (i64 (w64 ((w64 ((w64 (v5.S - v5.Len)) - v7.1)) + 8000)))), (.d (i64 v8.1)), (.d (i64 (w64 (300 + v9.1)))), (.d (i64 (w64 ((w64 ((w64 ((w64 ((w64 (v5.S - v5.Len)) - v7.1)) + 8000)) + 22000)) + v10.1)))), (.d (i64 0)), (.d (i64 0)), (.d (i64 0)), (.d (i64 0)), (.d (i64 0))] rfl ?_
      refine t_nil ⟨rfl, ?_⟩
      refine l_seq ?_
      refine l_reg fun u11 hu11 => ?_
      refine s_val (.d _) rfl (v_loadG rfl (G_skip rfl (G_skip rfl (G_skip rfl (G_skip rfl G_hit)))) rfl rfl) ?_
      refine s_val (.d _) rfl (v_loadG rfl G_hit rfl rfl) ?_
      obtain ⟨v11, hv11, h⟩ := bind_some h
      refine s_call rfl rfl all2_refl (ref09_Ramp_ok _ _  _ hv11) (.inl rfl) ?_
      refine s_val (.d _) rfl rfl ?_
      refine s_val (.d _) rfl rfl ?_
      refine s_val (.d _) rfl rfl ?_
      refine s_new (.ptr _ _) (.box _ _) rfl rfl ?_
      refine s_store _ _ _ _ _ rfl rfl rfl G_hit (Nat.le_of_ble_eq_true rfl) [(.d (i64 v11.1.Tick)), (.d (i64 v11.1.Gap)), (.d (.list (List.map eMate v11.1.Mates))), (.d (i64 v11.1.Guest_.ID)), (.d (i64 v11.1.Guest_.S)), (.d (i64 v11.1.Guest_.V)), (.d (i64 v11.1.Guest_.Len)), (.d (i64 v11.1.Guest_.End)), (.d (i64 v11.1.Guest_.Ahead)), (.d (i64 v11.1.Guest_.Guess_.R)), (.d (i64 v11.1.Guest_.Guess_.V)), (.d (i64 v11.1.Guest_.From)), (.d (i64 v11.1.Guest_.Until))] rfl ?_
      refine s_val (.d _) rfl rfl ?_
      refine s_nil ?_
      refine l_seq ?_
      refine l_seq ?_
      refine l_sub (s0 := ⟨T [(0, (.ptr (900000, 0) 0)), (4, (.ptr (4, u1) 0)), (6, (.ptr (6, u3) 0)), (7, (.d (i64 v11.2))), (10, (.ptr (10, u11) 0))], G [((900000, 0), some (.box 94 [(.d (.list (List.map eInt_i64 v10.2.l))), (.d (i64 v10.2.at_))])), ((4, u1), some (.box 38 [(.d (i64 0)), (.d (i64 0)), (.d .nilS), (.d (i64 0)), (.d (i64 0)), (.d (i64 0)), (.d (i64 0)), (.d (i64 0)), (.d (i64 0)), (.d (i64 0)), (.d (i64 0)), (.d (i64 0)), (.d (i64 0))])), ((6, u3), some (.box 38 [(.d (i64 v3.1.Tick)), (.d (i64 v3.1.Gap)), (.d (.list (List.map eMate v3.1.Mates))), (.d (i64 v3.1.Guest_.ID)), (.d (i64 v3.1.Guest_.S)), (.d (i64 v3.1.Guest_.V)), (.d (i64 v3.1.Guest_.Len)), (.d (i64 v3.1.Guest_.End)), (.d (i64 v3.1.Guest_.Ahead)), (.d (i64 v3.1.Guest_.Guess_.R)), (.d (i64 v3.1.Guest_.Guess_.V)), (.d (i64 v3.1.Guest_.From)), (.d (i64 v3.1.Guest_.Until))])), ((10, u11), some (.box 38 [(.d (i64 v11.1.Tick)), (.d (i64 v11.1.Gap)), (.d (.list (List.map eMate v11.1.Mates))), (.d (i64 v11.1.Guest_.ID)), (.d (i64 v11.1.Guest_.S)), (.d (i64 v11.1.Guest_.V)), (.d (i64 v11.1.Guest_.Len)), (.d (i64 v11.1.Guest_.End)), (.d (i64 v11.1.Guest_.Ahead)), (.d (i64 v11.1.Guest_.Guess_.R)), (.d (i64 v11.1.Guest_.Guess_.V)), (.d (i64 v11.1.Guest_.From)), (.d (i64 v11.1.Guest_.Until))]))]⟩) (sb_of ⟨.of rfl, .of rfl, .of rfl, .of rfl, .of rfl, trivial⟩ (sbG_some (G_skip rfl (G_skip rfl (G_skip rfl G_hit))) (.of rfl) (sbG_some (G_skip rfl (G_skip rfl (G_skip rfl (G_skip rfl (G_skip rfl G_hit))))) (.of rfl) (sbG_some (G_skip rfl (G_skip rfl (G_skip rfl (G_skip rfl (G_skip rfl (G_skip rfl G_hit)))))) (.of rfl) (sbG_some G_hit (.of rfl) trivial))))) ?_
      refine l_reg fun u12 hu12 => ?_
      refine s_val (.d _) rfl rfl ?_
      refine s_val (.d _) rfl rfl ?_
      refine s_nil ?_
      refine l_cond (v11.2 != 0) rfl (fun c3 => ?_) (fun c3 => ?_)
      · replace h := cond_t c3 h
        refine l_seq ?_
        refine l_reg fun u13 hu13 => ?_
        refine s_val (.d _) rfl (v_loadG rfl (G_skip rfl (G_skip rfl G_hit)) rfl rfl) ?_
        refine s_store _ _ _ _ _ rfl rfl rfl (G_skip rfl G_hit) (Nat.le_of_ble_eq_true rfl) [(.d (i64 v3.1.Tick)), (.d (i64 v3.1.Gap)), (.d (.list (List.map eMate v3.1.Mates))), (.d (i64 v3.1.Guest_.ID)), (.d (i64 v3.1.Guest_.S)), (.d (i64 v3.1.Guest_.V)), (.d (i64 v3.1.Guest_.Len)), (.d (i64 v3.1.Guest_.End)), (.d (i64 v3.1.Guest_.Ahead)), (.d (i64 v3.1.Guest_.Guess_.R)), (.d (i64 v3.1.Guest_.Guess_.V)), (.d (i64 v3.1.Guest_.From)), (.d (i64 v3.1.Guest_.Until))] rfl ?_
        refine s_nil ?_
        refine l_ret ?_
        obtain rfl := Option.some.inj h
        exact fin_mf (.inr rfl) [] (resDF1 (res_cellG rfl G_hit (Nat.le_of_ble_eq_true rfl) rfl) rf_d) (.refl _) ⟨⟨_, _, _, (G_skip rfl G_hit), old_notin_nil, rfl, all2_d, rfl⟩, trivial⟩
      · replace h := cond_f c3 h
        refine l_skip ?_
        refine l_seq ?_
        refine l_reg fun u14 hu14 => ?_
        refine s_val (.d _) rfl (v_loadG rfl (G_skip rfl (G_skip rfl (G_skip rfl G_hit))) rfl rfl) ?_
        refine s_store _ _ _ _ _ rfl rfl rfl (G_skip rfl G_hit) (Nat.le_of_ble_eq_true rfl) [(.d (i64 v11.1.Tick)), (.d (i64 v11.1.Gap)), (.d (.list (List.map eMate v11.1.Mates))), (.d (i64 v11.1.Guest_.ID)), (.d (i64 v11.1.Guest_.S)), (.d (i64 v11.1.Guest_.V)), (.d (i64 v11.1.Guest_.Len)), (.d (i64 v11.1.Guest_.End)), (.d (i64 v11.1.Guest_.Ahead)), (.d (i64 v11.1.Guest_.Guess_.R)), (.d (i64 v11.1.Guest_.Guess_.V)), (.d (i64 v11.1.Guest_.From)), (.d (i64 v11.1.Guest_.Until))] rfl ?_
        refine s_nil ?_
        refine l_ret ?_
        obtain rfl := Option.some.inj h
        exact fin_mf (.inr rfl) [] (resDF1 (res_cellG rfl G_hit (Nat.le_of_ble_eq_true rfl) rfl) rf_d) (.refl _) ⟨⟨_, _, _, (G_skip rfl G_hit), old_notin_nil, rfl, all2_d, rfl⟩, trivial⟩
end Go.Abs.Convoy
