/-
  The functions, part 2.
-/
import Derived.Test.YtkpmfcpgmhkleaaFns1
set_option maxRecDepth 20000
set_option linter.unusedVariables false
namespace Go.Abs.Curve
open Go Go.Abs Go.Proofs
attribute [local irreducible] regW regT AWL

noncomputable def law01_awake : Option Bool :=
  (law01_bent).bind fun v1 => (curve_Length v1).bind fun v2 => ((cond (v2 == 10000) (law01_bent) (some default))).bind fun v3 => ((cond (v2 == 10000) (curve_At v3 2500) (some default))).bind fun v4 => ((cond ((v2 == 10000) && (v4.X == 1500 && (v4.Y == 2000 && true))) (law01_of [0, 0, 1000, 1000]) (some default))).bind fun v5 => ((cond ((v2 == 10000) && (v4.X == 1500 && (v4.Y == 2000 && true))) (curve_Check v5) (some default))).bind fun v6 => some (((v2 == 10000) && (v4.X == 1500 && (v4.Y == 2000 && true))) && (v6 == 3))

/-- kerbstone/kerbstonelaw01.awake -/
def ac_law01_awake : AC :=
  (.seq (.reg [⟨(some 0), .mv (.c (.v (.bool false))), none⟩])
  (.seq (.reg [⟨(some 1), .call (.c (.fn (.func 56) [] [])) [], none⟩, ⟨(some 2), .call (.c (.fn (.func 22) [] [])) [(.t 1)], none⟩, ⟨(some 3), .bin .eql (.t 2) (.c (.v (.int .i64 10000))), none⟩, ⟨(some 4), .mv (.t 3), none⟩, ⟨(some 5), .call (.c (.fn (.func 56) [] [])) [], (some (4, true))⟩, ⟨(some 6), .call (.c (.fn (.func 31) [] [])) [(.t 5), (.c (.v (.int .i64 2500)))], (some (4, true))⟩, ⟨(some 7), .build [(.v (.int .i64 0)), (.v (.int .i64 0))] [(0, 1, (.c (.v (.int .i64 1500)))), (1, 1, (.c (.v (.int .i64 2000))))], (some (4, true))⟩, ⟨(some 8), .eqA false [false, false] (.t 6) (.t 7), (some (4, true))⟩, ⟨(some 9), .pick (.t 4) (.t 8) (.c (.v (.bool false))), none⟩, ⟨(some 10), .mv (.t 9), none⟩, ⟨(some 11), .dslice 2 1 4 [(.v (.int .i64 0))] [(0, 1, (.c (.v (.int .i64 0)))), (1, 1, (.c (.v (.int .i64 0)))), (2, 1, (.c (.v (.int .i64 1000)))), (3, 1, (.c (.v (.int .i64 1000))))], (some (10, true))⟩, ⟨(some 12), .call (.c (.fn (.func 57) [] [])) [(.t 11)], (some (10, true))⟩, ⟨(some 13), .call (.c (.fn (.func 20) [] [])) [(.t 12)], (some (10, true))⟩, ⟨(some 14), .bin .eql (.t 13) (.c (.v (.int .i64 3))), (some (10, true))⟩, ⟨(some 15), .pick (.t 10) (.t 14) (.c (.v (.bool false))), none⟩, ⟨(some 0), .mv (.t 15), none⟩])
  .ret))
theorem fn_law01_awake : FnOK Try.prog 18 16 [.t 0] ac_law01_awake := ⟨_, _, Try.func18, rfl, Try.ntmps18, by kernel_rfl, ⟨fun r => if r == 1 then [1010] else [], by kernel_rfl⟩, by kernel_rfl⟩
theorem law01_awake_ok (r : Bool) (h : law01_awake = some r) : PCall Try.prog 18 [] (bo r) := by
  refine l_call fn_law01_awake (Nat.le_of_ble_eq_true rfl) ?_
  unfold law01_awake at h
  unfold ac_law01_awake
  refine (l_sub (s0 := ⟨T [], G []⟩) (sb_of trivial trivial) ?_)
  refine l_seq ?_
  refine l_reg fun u1 hu1 => ?_
  refine s_val (.d _) rfl rfl ?_
  refine s_nil ?_
  refine l_seq ?_
  refine l_reg fun u2 hu2 => ?_
  obtain ⟨v1, hv1, h⟩ := bind_some h
  refine s_call rfl rfl all2_refl (law01_bent_ok  _ hv1) (.inl rfl) ?_
  obtain ⟨v2, hv2, h⟩ := bind_some h
  refine s_call rfl rfl all2_refl (curve_Length_ok _  _ hv2) (.inl rfl) ?_
  refine s_val (.d _) rfl rfl ?_
  refine s_val (.d _) rfl rfl ?_
  obtain ⟨v3, hv3, h⟩ := bind_some h
  refine g_call (v2 == 10000) (.agg [(.list (List.map eSpot v3.Pts))]) (gw_t rfl) (fun w1 => ⟨_, _, _, _, rfl, rfl, all2_refl, law01_bent_ok  _ (cond_t w1 hv3), (.inl rfl)⟩) ?_
  obtain ⟨v4, hv4, h⟩ := bind_some h
  refine g_call (v2 == 10000) (.agg [(i64 v4.X), (i64 v4.Y)]) (gw_t rfl) (fun w2 => ⟨_, [(.d (.agg [(.list (List.map eSpot v3.Pts))])), (.d (i64 2500))], _, _, (by simp only [gd_pos w2]; rfl), rfl, all2_refl, curve_At_ok _ _  _ (cond_t w2 hv4), (.inl rfl)⟩) ?_
  refine g_val (v2 == 10000) (.d _) rfl (gw_t rfl) (fun w3 => rfl) ?_
  refine g_val (v2 == 10000) (.d _) rfl (gw_t rfl) (fun w4 => (by simp only [gd_pos w4]; rfl)) ?_
  refine s_val (.d _) rfl (v_and rfl (fun hc => gd_pos hc) rfl) ?_
  refine s_val (.d _) rfl rfl ?_
  refine g_val ((v2 == 10000) && (v4.X == 1500 && (v4.Y == 2000 && true))) (.d (.list (List.map eInt_i64 [0, 0, 1000, 1000]))) rfl (gw_t rfl) (fun w5 => rfl) ?_
  obtain ⟨v5, hv5, h⟩ := bind_some h
  refine g_call ((v2 == 10000) && (v4.X == 1500 && (v4.Y == 2000 && true))) (.agg [(.list (List.map eSpot v5.Pts))]) (gw_t rfl) (fun w6 => ⟨_, [(.d (.list (List.map eInt_i64 [0, 0, 1000, 1000])))], _, _, (by simp only [gd_pos w6]; rfl), rfl, all2_refl, law01_of_ok _  _ (cond_t w6 hv5), (.inl rfl)⟩) ?_
  obtain ⟨v6, hv6, h⟩ := bind_some h
  refine g_call ((v2 == 10000) && (v4.X == 1500 && (v4.Y == 2000 && true))) (i64 v6) (gw_t rfl) (fun w7 => ⟨_, [(.d (.agg [(.list (List.map eSpot v5.Pts))]))], _, _, (by simp only [gd_pos w7]; rfl), rfl, all2_refl, curve_Check_ok _  _ (cond_t w7 hv6), (.inl rfl)⟩) ?_
  refine g_val ((v2 == 10000) && (v4.X == 1500 && (v4.Y == 2000 && true))) (.d _) rfl (gw_t rfl) (fun w8 => (v_bin (gd_pos w8) rfl rfl)) ?_
  refine s_val (.d _) rfl (v_and rfl (fun hc => gd_pos hc) rfl) ?_
  refine s_val (.d _) rfl rfl ?_
  refine s_nil ?_
  refine l_ret ?_
  obtain rfl := Option.some.inj h
  refine fin_ok (.inr rfl) (resD1 (res_t rfl) rf_d) ?_
  exact (.refl _)

noncomputable def kit_Mod64 (p1 : Int) (p2 : Int) : Option Int :=
  (remc p1 p2).bind fun v1 => cond (decide (v1 < 0)) (some (w64 (v1 + p2))) (some v1)

/-- kerbstone/kerbstonekit.Mod64 -/
def ac_kit_Mod64 : AC :=
  (.seq (.reg [⟨(some 4), .mv (.c (.v (.int .i64 0))), none⟩])
  (.seq (.reg [⟨(some 5), .mv (.t 0), none⟩, ⟨(some 6), .mv (.t 1), none⟩, ⟨(some 7), .bin .rem (.t 5) (.t 6), none⟩, ⟨(some 0), .mv (.t 7), none⟩])
  (.seq (.seq (.reg [⟨(some 8), .mv (.t 0), none⟩, ⟨(some 9), .bin .lss (.t 8) (.c (.v (.int .i64 0))), none⟩])
  (.cond (.t 9)
    (.reg [⟨(some 10), .mv (.t 0), none⟩, ⟨(some 11), .mv (.t 1), none⟩, ⟨(some 12), .bin .add (.t 10) (.t 11), none⟩, ⟨(some 0), .mv (.t 12), none⟩])
    .skip))
  (.seq (.reg [⟨(some 13), .mv (.t 0), none⟩, ⟨(some 4), .mv (.t 13), none⟩])
  .ret))))
theorem fn_kit_Mod64 : FnOK Try.prog 33 14 [.t 4] ac_kit_Mod64 := ⟨_, _, Try.func33, rfl, Try.ntmps33, by kernel_rfl, ⟨fun _ => [], by kernel_rfl⟩, by kernel_rfl⟩
theorem kit_Mod64_ok (p1 : Int) (p2 : Int) (r : Int) (h : kit_Mod64 p1 p2 = some r) : PCall Try.prog 33 [(i64 p1), (i64 p2)] (i64 r) := by
  refine l_call fn_kit_Mod64 (Nat.le_of_ble_eq_true rfl) ?_
  unfold kit_Mod64 at h
  unfold ac_kit_Mod64
  refine (l_sub (s0 := ⟨T [(0, (.d (i64 p1))), (1, (.d (i64 p2)))], G []⟩) (sb_of ⟨.of rfl, .of rfl, trivial⟩ trivial) ?_)
  refine l_seq ?_
  refine l_reg fun u1 hu1 => ?_
  refine s_val (.d _) rfl rfl ?_
  refine s_nil ?_
  refine l_seq ?_
  refine l_reg fun u2 hu2 => ?_
  refine s_val (.d _) rfl rfl ?_
  refine s_val (.d _) rfl rfl ?_
  obtain ⟨v1, hv1, h⟩ := bind_some h
  refine s_val (.d _) rfl (v_rem rfl rfl hv1) ?_
  refine s_val (.d _) rfl rfl ?_
  refine s_nil ?_
  refine l_seq ?_
  refine l_seq ?_
  refine l_reg fun u3 hu3 => ?_
  refine s_val (.d _) rfl rfl ?_
  refine s_val (.d _) rfl rfl ?_
  refine s_nil ?_
  refine l_cond (decide (v1 < 0)) rfl (fun c1 => ?_) (fun c1 => ?_)
  · replace h := cond_t c1 h
    refine l_reg fun u4 hu4 => ?_
    refine s_val (.d _) rfl rfl ?_
    refine s_val (.d _) rfl rfl ?_
    refine s_val (.d _) rfl rfl ?_
    refine s_val (.d _) rfl rfl ?_
    refine s_nil ?_
    refine l_seq ?_
    refine l_reg fun u5 hu5 => ?_
    refine s_val (.d _) rfl rfl ?_
    refine s_val (.d _) rfl rfl ?_
    refine s_nil ?_
    refine l_ret ?_
    obtain rfl := Option.some.inj h
    refine fin_ok (.inr rfl) (resD1 (res_t rfl) rf_d) ?_
    exact (.refl _)
  · replace h := cond_f c1 h
    refine l_skip ?_
    refine l_seq ?_
    refine l_reg fun u6 hu6 => ?_
    refine s_val (.d _) rfl rfl ?_
    refine s_val (.d _) rfl rfl ?_
    refine s_nil ?_
    refine l_ret ?_
    obtain rfl := Option.some.inj h
    refine fin_ok (.inr rfl) (resD1 (res_t rfl) rf_d) ?_
    exact (.refl _)

noncomputable def law01_CurveTogether (p1 : KitChain) (p2 : KitChain) (p3 : Int) : Option Bool :=
  (kit_Curve p1).bind fun v1 => (kit_Curve p2).bind fun v2 => (geti v1.Pts (w64 ((v1.Pts.length : Int) - 1))).bind fun v3 => (geti v2.Pts 0).bind fun v4 => (geti v2.Pts 0).bind fun v5 => (law01_moved v2 (Spot.mk (w64 (v3.X - v4.X)) (w64 (v3.Y - v5.Y)))).bind fun v6 => (curve_Length v1).bind fun v7 => (curve_Length v6).bind fun v8 => cond ((decide (v7 ≤ 0)) || (decide (v8 ≤ 0))) (some false) ((curve_Join v1 v6).bind fun v9 => cond (v9.2 != 0) (((cond (v9.2 == 12) (law01_awake) (some default))).bind fun v10 => some ((v9.2 == 12) && v10)) ((kit_Mod64 p3 (w64 ((w64 (v7 + v8)) + 1))).bind fun v11 => (curve_At v6 (w64 (v11 - v7))).bind fun v12 => (cond (decide (v11 < v7)) ((curve_At v1 v11).bind fun v13 => some v13) (some v12)).bind fun y1 => (curve_Length v9.1).bind fun v14 => ((cond (v14 == (w64 (v7 + v8))) (curve_At v9.1 v11) (some default))).bind fun v15 => ((cond ((v14 == (w64 (v7 + v8))) && (v15.X == y1.X && (v15.Y == y1.Y && true))) (law01_awake) (some default))).bind fun v16 => some (((v14 == (w64 (v7 + v8))) && (v15.X == y1.X && (v15.Y == y1.Y && true))) && v16)))

/-- kerbstone/kerbstonelaw01.CurveTogether -/
def ac_law01_CurveTogether : AC :=
  (.seq (.reg [⟨(some 3), .box 37 true (.t 0), none⟩, ⟨(some 4), .box 37 true (.t 1), none⟩, ⟨(some 6), .mv (.c (.v (.bool false))), none⟩])
  (.seq (.draw [⟨(some 15), .load 3 true (.t 3), none⟩, ⟨(some 16), .call (.c (.fn (.func 28) [] [])) [(.t 15)], none⟩, ⟨(some 17), .load 3 true (.t 4), none⟩, ⟨(some 18), .call (.c (.fn (.func 28) [] [])) [(.t 17)], none⟩, ⟨(some 7), .alloc 24 [.nilS], none⟩, ⟨(some 8), .alloc 24 [.nilS], none⟩, ⟨none, .store 1 (.t 7) (.t 16), none⟩, ⟨none, .store 1 (.t 8) (.t 18), none⟩] [])
  (.seq (.reg [⟨(some 19), .fieldA 0 (.t 7), none⟩, ⟨(some 20), .load 1 false (.t 19), none⟩, ⟨(some 21), .fieldA 0 (.t 7), none⟩, ⟨(some 22), .load 1 false (.t 21), none⟩, ⟨(some 23), .len (.t 22), none⟩, ⟨(some 24), .bin .sub (.t 23) (.c (.v (.int .i64 1))), none⟩, ⟨(some 25), .idxS 2 (.t 20) (.t 24), none⟩, ⟨(some 26), .load 2 true (.t 25), none⟩, ⟨(some 9), .alloc 43 [(.v (.int .i64 0)), (.v (.int .i64 0))], none⟩, ⟨none, .store 2 (.t 9) (.t 26), none⟩])
  (.seq (.draw [⟨(some 27), .load 1 true (.t 8), none⟩, ⟨(some 28), .fieldA 0 (.t 9), none⟩, ⟨(some 29), .load 1 false (.t 28), none⟩, ⟨(some 30), .fieldA 0 (.t 8), none⟩, ⟨(some 31), .load 1 false (.t 30), none⟩, ⟨(some 32), .idxS 2 (.t 31) (.c (.v (.int .i64 0))), none⟩, ⟨(some 33), .fieldA 0 (.t 32), none⟩, ⟨(some 34), .load 1 false (.t 33), none⟩, ⟨(some 35), .bin .sub (.t 29) (.t 34), none⟩, ⟨(some 36), .fieldA 1 (.t 9), none⟩, ⟨(some 37), .load 1 false (.t 36), none⟩, ⟨(some 38), .fieldA 0 (.t 8), none⟩, ⟨(some 39), .load 1 false (.t 38), none⟩, ⟨(some 40), .idxS 2 (.t 39) (.c (.v (.int .i64 0))), none⟩, ⟨(some 41), .fieldA 1 (.t 40), none⟩, ⟨(some 42), .load 1 false (.t 41), none⟩, ⟨(some 43), .bin .sub (.t 37) (.t 42), none⟩, ⟨(some 44), .build [(.v (.int .i64 0)), (.v (.int .i64 0))] [(0, 1, (.t 35)), (1, 1, (.t 43))], none⟩, ⟨(some 45), .call (.c (.fn (.func 35) [] [])) [(.t 27), (.t 44)], none⟩, ⟨none, .store 1 (.t 8) (.t 45), none⟩] [])
  (.seq (.draw [⟨(some 46), .load 1 true (.t 7), none⟩, ⟨(some 47), .call (.c (.fn (.func 22) [] [])) [(.t 46)], none⟩, ⟨(some 48), .load 1 true (.t 8), none⟩, ⟨(some 49), .call (.c (.fn (.func 22) [] [])) [(.t 48)], none⟩, ⟨(some 10), .mv (.t 47), none⟩, ⟨(some 11), .mv (.t 49), none⟩] [])
  (.seq (.seq (.reg [⟨(some 50), .mv (.t 10), none⟩, ⟨(some 51), .bin .leq (.t 50) (.c (.v (.int .i64 0))), none⟩, ⟨(some 52), .mv (.t 51), none⟩, ⟨(some 53), .mv (.t 11), (some (52, false))⟩, ⟨(some 54), .bin .leq (.t 53) (.c (.v (.int .i64 0))), (some (52, false))⟩, ⟨(some 55), .pick (.t 52) (.c (.v (.bool true))) (.t 54), none⟩])
  (.cond (.t 55)
    (.seq (.reg [⟨(some 6), .mv (.c (.v (.bool false))), none⟩])
    .ret)
    .skip))
  (.seq (.reg [⟨(some 57), .load 1 true (.t 7), none⟩, ⟨(some 58), .load 1 true (.t 8), none⟩, ⟨(some 59), .call (.c (.fn (.func 36) [] [])) [(.t 57), (.t 58)], none⟩, ⟨(some 56), .mv (.t 59), none⟩, ⟨(some 60), .ext (.t 56) 0, none⟩, ⟨(some 61), .ext (.t 56) 1, none⟩, ⟨(some 12), .alloc 24 [.nilS], none⟩, ⟨none, .store 1 (.t 12) (.t 60), none⟩, ⟨(some 13), .mv (.t 61), none⟩])
  (.seq (.seq (.reg [⟨(some 62), .mv (.t 13), none⟩, ⟨(some 63), .bin .neq (.t 62) (.c (.v (.int .i64 0))), none⟩])
  (.cond (.t 63)
    (.seq (.reg [⟨(some 64), .mv (.t 13), none⟩, ⟨(some 65), .bin .eql (.t 64) (.c (.v (.int .i64 12))), none⟩, ⟨(some 66), .mv (.t 65), none⟩, ⟨(some 67), .call (.c (.fn (.func 18) [] [])) [], (some (66, true))⟩, ⟨(some 68), .pick (.t 66) (.t 67) (.c (.v (.bool false))), none⟩, ⟨(some 6), .mv (.t 68), none⟩])
    .ret)
    .skip))
  (.seq (.reg [⟨(some 69), .mv (.t 2), none⟩, ⟨(some 70), .mv (.t 10), none⟩, ⟨(some 71), .mv (.t 11), none⟩, ⟨(some 72), .bin .add (.t 70) (.t 71), none⟩, ⟨(some 73), .bin .add (.t 72) (.c (.v (.int .i64 1))), none⟩, ⟨(some 74), .call (.c (.fn (.func 33) [] [])) [(.t 69), (.t 73)], none⟩, ⟨(some 2), .mv (.t 74), none⟩])
  (.seq (.reg [⟨(some 75), .load 1 true (.t 8), none⟩, ⟨(some 76), .mv (.t 2), none⟩, ⟨(some 77), .mv (.t 10), none⟩, ⟨(some 78), .bin .sub (.t 76) (.t 77), none⟩, ⟨(some 79), .call (.c (.fn (.func 31) [] [])) [(.t 75), (.t 78)], none⟩, ⟨(some 14), .alloc 43 [(.v (.int .i64 0)), (.v (.int .i64 0))], none⟩, ⟨none, .store 2 (.t 14) (.t 79), none⟩])
  (.seq (.seq (.reg [⟨(some 80), .mv (.t 2), none⟩, ⟨(some 81), .mv (.t 10), none⟩, ⟨(some 82), .bin .lss (.t 80) (.t 81), none⟩])
  (.cond (.t 82)
    (.reg [⟨(some 83), .load 1 true (.t 7), none⟩, ⟨(some 84), .mv (.t 2), none⟩, ⟨(some 85), .call (.c (.fn (.func 31) [] [])) [(.t 83), (.t 84)], none⟩, ⟨none, .store 2 (.t 14) (.t 85), none⟩])
    .skip))
  (.seq (.draw [⟨(some 86), .load 1 true (.t 12), none⟩, ⟨(some 87), .call (.c (.fn (.func 22) [] [])) [(.t 86)], none⟩, ⟨(some 88), .mv (.t 10), none⟩, ⟨(some 89), .mv (.t 11), none⟩, ⟨(some 90), .bin .add (.t 88) (.t 89), none⟩, ⟨(some 91), .bin .eql (.t 87) (.t 90), none⟩, ⟨(some 92), .mv (.t 91), none⟩, ⟨(some 93), .load 1 true (.t 12), (some (92, true))⟩, ⟨(some 94), .mv (.t 2), (some (92, true))⟩, ⟨(some 95), .call (.c (.fn (.func 31) [] [])) [(.t 93), (.t 94)], (some (92, true))⟩, ⟨(some 96), .load 2 true (.t 14), (some (92, true))⟩, ⟨(some 97), .eqA false [false, false] (.t 95) (.t 96), (some (92, true))⟩, ⟨(some 98), .pick (.t 92) (.t 97) (.c (.v (.bool false))), none⟩, ⟨(some 99), .mv (.t 98), none⟩, ⟨(some 100), .call (.c (.fn (.func 18) [] [])) [], (some (99, true))⟩, ⟨(some 101), .pick (.t 99) (.t 100) (.c (.v (.bool false))), none⟩, ⟨(some 6), .mv (.t 101), none⟩] [])
  .ret))))))))))))
theorem fn_law01_CurveTogether : FnOK Try.prog 7 102 [.t 6] ac_law01_CurveTogether := ⟨_, _, Try.func7, rfl, Try.ntmps7, by kernel_rfl, ⟨fun _ => [], by kernel_rfl⟩, by kernel_rfl⟩
set_option maxHeartbeats 4000000 in
theorem law01_CurveTogether_ok (p1 : KitChain) (p2 : KitChain) (p3 : Int) (r : Bool) (h : law01_CurveTogether p1 p2 p3 = some r) : PCall Try.prog 7 [(.agg [(i64 p1.X), (i64 p1.Y), (.list (List.map eInt_i64 p1.Steps))]), (.agg [(i64 p2.X), (i64 p2.Y), (.list (List.map eInt_i64 p2.Steps))]), (i64 p3)] (bo r) := by
  refine l_call fn_law01_CurveTogether (Nat.le_of_ble_eq_true rfl) ?_
  unfold law01_CurveTogether at h
  unfold ac_law01_CurveTogether
  refine (l_sub (s0 := ⟨T [(0, (.d (.agg [(i64 p1.X), (i64 p1.Y), (.list (List.map eInt_i64 p1.Steps))]))), (1, (.d (.agg [(i64 p2.X), (i64 p2.Y), (.list (List.map eInt_i64 p2.Steps))]))), (2, (.d (i64 p3)))], G []⟩) (sb_of ⟨.of rfl, .of rfl, .of rfl, trivial⟩ trivial) ?_)
  refine l_seq ?_
  refine l_reg fun u1 hu1 => ?_
  refine s_new (.ptr _ _) (.box _ _) rfl rfl ?_
  refine s_new (.ptr _ _) (.box _ _) rfl rfl ?_
  refine s_val (.d _) rfl rfl ?_
  refine s_nil ?_
  refine l_seq ?_
  refine l_draw rfl fun u2 hu2 => ?_
  refine s_val (.d _) rfl (v_loadG rfl (G_skip rfl G_hit) rfl rfl) ?_
  obtain ⟨v1, hv1, h⟩ := bind_some h
  refine s_call rfl rfl all2_refl (kit_Curve_ok _  _ hv1) (.inl rfl) ?_
  refine s_val (.d _) rfl (v_loadG rfl G_hit rfl rfl) ?_
  obtain ⟨v2, hv2, h⟩ := bind_some h
  refine s_call rfl rfl all2_refl (kit_Curve_ok _  _ hv2) (.inl rfl) ?_
  refine s_new (.ptr _ _) (.box _ _) rfl rfl ?_
  refine s_new (.ptr _ _) (.box _ _) rfl rfl ?_
  refine s_store _ _ _ _ _ rfl rfl rfl (G_skip rfl G_hit) (Nat.le_of_ble_eq_true rfl) [(.d (.list (List.map eSpot v1.Pts)))] rfl ?_
  refine s_store _ _ _ _ _ rfl rfl rfl (G_skip rfl G_hit) (Nat.le_of_ble_eq_true rfl) [(.d (.list (List.map eSpot v2.Pts)))] rfl ?_
  refine s_nil ?_
  refine l_seq ?_
  refine l_reg fun u3 hu3 => ?_
  refine s_val (.ptr _ _) rfl rfl ?_
  refine s_val (.d _) rfl (v_load rfl (G_skip rfl G_hit) rfl) ?_
  refine s_val (.ptr _ _) rfl rfl ?_
  refine s_val (.d _) rfl (v_load rfl (G_skip rfl G_hit) rfl) ?_
  refine s_val (.d _) rfl (v_len rfl) ?_
  refine s_val (.d _) rfl rfl ?_
  obtain ⟨v3, hv3, h⟩ := bind_some h
  refine s_val (.d _) rfl (v_idx rfl rfl hv3 rfl) ?_
  refine s_val (.d _) rfl (v_loadLG rfl hv3 rfl rfl) ?_
  refine s_new (.ptr _ _) (.box _ _) rfl rfl ?_
  refine s_store _ _ _ _ _ rfl rfl rfl G_hit (Nat.le_of_ble_eq_true rfl) [(.d (i64 v3.X)), (.d (i64 v3.Y))] rfl ?_
  refine s_nil ?_
  refine l_seq ?_
  refine l_sub (s0 := ⟨T [(2, (.d (i64 p3))), (7, (.ptr (7, u2) 0)), (8, (.ptr (8, u2) 0)), (9, (.ptr (9, u3) 0))], G [((7, u2), some (.box 24 [(.d (.list (List.map eSpot v1.Pts)))])), ((8, u2), some (.box 24 [(.d (.list (List.map eSpot v2.Pts)))])), ((9, u3), some (.box 43 [(.d (i64 v3.X)), (.d (i64 v3.Y))]))]⟩) (sb_of ⟨.of rfl, .of rfl, .of rfl, .of rfl, trivial⟩ (sbG_some (G_skip rfl (G_skip rfl (G_skip rfl G_hit))) (.of rfl) (sbG_some (G_skip rfl (G_skip rfl G_hit)) (.of rfl) (sbG_some G_hit (.of rfl) trivial)))) ?_
  refine l_draw rfl fun u4 hu4 => ?_
  refine s_val (.d _) rfl (v_loadG rfl (G_skip rfl G_hit) rfl rfl) ?_
  refine s_val (.ptr _ _) rfl rfl ?_
  refine s_val (.d _) rfl (v_load rfl (G_skip rfl (G_skip rfl G_hit)) rfl) ?_
  refine s_val (.ptr _ _) rfl rfl ?_
  refine s_val (.d _) rfl (v_load rfl (G_skip rfl G_hit) rfl) ?_
  obtain ⟨v4, hv4, h⟩ := bind_some h
  refine s_val (.d _) rfl (v_idx rfl rfl hv4 rfl) ?_
  refine s_val (.d _) rfl rfl ?_
  refine s_val (.d _) rfl (v_loadL rfl hv4 rfl) ?_
  refine s_val (.d _) rfl rfl ?_
  refine s_val (.ptr _ _) rfl rfl ?_
  refine s_val (.d _) rfl (v_load rfl (G_skip rfl (G_skip rfl G_hit)) rfl) ?_
  refine s_val (.ptr _ _) rfl rfl ?_
  refine s_val (.d _) rfl (v_load rfl (G_skip rfl G_hit) rfl) ?_
  obtain ⟨v5, hv5, h⟩ := bind_some h
  refine s_val (.d _) rfl (v_idx rfl rfl hv5 rfl) ?_
  refine s_val (.d _) rfl rfl ?_
  refine s_val (.d _) rfl (v_loadL rfl hv5 rfl) ?_
  refine s_val (.d _) rfl rfl ?_
  refine s_val (.d _) rfl rfl ?_
  obtain ⟨v6, hv6, h⟩ := bind_some h
  refine s_call rfl rfl all2_refl (law01_moved_ok _ _  _ hv6) (.inl rfl) ?_
  refine s_store _ _ _ _ _ rfl rfl rfl (G_skip rfl G_hit) (Nat.le_of_ble_eq_true rfl) [(.d (.list (List.map eSpot v6.Pts)))] rfl ?_
  refine s_nil ?_
  refine l_seq ?_
  refine l_sub (s0 := ⟨T [(2, (.d (i64 p3))), (7, (.ptr (7, u2) 0)), (8, (.ptr (8, u2) 0))], G [((7, u2), some (.box 24 [(.d (.list (List.map eSpot v1.Pts)))])), ((8, u2), some (.box 24 [(.d (.list (List.map eSpot v6.Pts)))]))]⟩) (sb_of ⟨.of rfl, .of rfl, .of rfl, trivial⟩ (sbG_some (G_skip rfl G_hit) (.of rfl) (sbG_some G_hit (.of rfl) trivial))) ?_
  refine l_draw rfl fun u5 hu5 => ?_
  refine s_val (.d _) rfl (v_loadG rfl G_hit rfl rfl) ?_
  obtain ⟨v7, hv7, h⟩ := bind_some h
  refine s_call rfl rfl all2_refl (curve_Length_ok _  _ hv7) (.inl rfl) ?_
  refine s_val (.d _) rfl (v_loadG rfl (G_skip rfl G_hit) rfl rfl) ?_
  obtain ⟨v8, hv8, h⟩ := bind_some h
  refine s_call rfl rfl all2_refl (curve_Length_ok _  _ hv8) (.inl rfl) ?_
  refine s_val (.d _) rfl rfl ?_
  refine s_val (.d _) rfl rfl ?_
  refine s_nil ?_
  refine l_seq ?_
  refine l_seq ?_
  refine l_reg fun u6 hu6 => ?_
  refine s_val (.d _) rfl rfl ?_
  refine s_val (.d _) rfl rfl ?_
  refine s_val (.d _) rfl rfl ?_
  refine g_val (!(decide (v7 ≤ 0))) (.d _) rfl (gw_f rfl) (fun w1 => rfl) ?_
  refine g_val (!(decide (v7 ≤ 0))) (.d _) rfl (gw_f rfl) (fun w2 => (v_bin (gd_pos w2) rfl rfl)) ?_
  refine s_val (.d _) rfl (v_or rfl rfl (fun hc => gd_pos (not_t hc))) ?_
  refine s_nil ?_
  refine l_cond ((decide (v7 ≤ 0)) || (decide (v8 ≤ 0))) rfl (fun c1 => ?_) (fun c1 => ?_)
  · replace h := cond_t c1 h
    refine l_seq ?_
    refine l_reg fun u7 hu7 => ?_
    refine s_val (.d _) rfl rfl ?_
    refine s_nil ?_
    refine l_ret ?_
    obtain rfl := Option.some.inj h
    refine fin_ok (.inr rfl) (resD1 (res_t rfl) rf_d) ?_
    exact (.refl _)
  · replace h := cond_f c1 h
    refine l_skip ?_
    refine l_seq ?_
    refine l_reg fun u8 hu8 => ?_
    refine s_val (.d _) rfl (v_loadG rfl G_hit rfl rfl) ?_
    refine s_val (.d _) rfl (v_loadG rfl (G_skip rfl G_hit) rfl rfl) ?_
    obtain ⟨v9, hv9, h⟩ := bind_some h
    refine s_call rfl rfl all2_refl (curve_Join_ok _ _  _ hv9) (.inl rfl) ?_
    refine s_val (.d _) rfl rfl ?_
    refine s_val (.d _) rfl rfl ?_
    refine s_val (.d _) rfl rfl ?_
    refine s_new (.ptr _ _) (.box _ _) rfl rfl ?_
    refine s_store _ _ _ _ _ rfl rfl rfl G_hit (Nat.le_of_ble_eq_true rfl) [(.d (.list (List.map eSpot v9.1.Pts)))] rfl ?_
    refine s_val (.d _) rfl rfl ?_
    refine s_nil ?_
    refine l_seq ?_
    refine l_seq ?_
    refine l_sub (s0 := ⟨T [(2, (.d (i64 p3))), (7, (.ptr (7, u2) 0)), (8, (.ptr (8, u2) 0)), (10, (.d (i64 v7))), (11, (.d (i64 v8))), (12, (.ptr (12, u8) 0)), (13, (.d (i64 v9.2)))], G [((7, u2), some (.box 24 [(.d (.list (List.map eSpot v1.Pts)))])), ((8, u2), some (.box 24 [(.d (.list (List.map eSpot v6.Pts)))])), ((12, u8), some (.box 24 [(.d (.list (List.map eSpot v9.1.Pts)))]))]⟩) (sb_of ⟨.of rfl, .of rfl, .of rfl, .of rfl, .of rfl, .of rfl, .of rfl, trivial⟩ (sbG_some (G_skip rfl (G_skip rfl G_hit)) (.of rfl) (sbG_some (G_skip rfl (G_skip rfl (G_skip rfl G_hit))) (.of rfl) (sbG_some G_hit (.of rfl) trivial)))) ?_
    refine l_reg fun u9 hu9 => ?_
    refine s_val (.d _) rfl rfl ?_
    refine s_val (.d _) rfl rfl ?_
    refine s_nil ?_
    refine l_cond (v9.2 != 0) rfl (fun c2 => ?_) (fun c2 => ?_)
    · replace h := cond_t c2 h
      refine l_seq ?_
      refine l_reg fun u10 hu10 => ?_
      refine s_val (.d _) rfl rfl ?_
      refine s_val (.d _) rfl rfl ?_
      refine s_val (.d _) rfl rfl ?_
      obtain ⟨v10, hv10, h⟩ := bind_some h
      refine g_call (v9.2 == 12) (bo v10) (gw_t rfl) (fun w3 => ⟨_, _, _, _, rfl, rfl, all2_refl, law01_awake_ok  _ (cond_t w3 hv10), (.inl rfl)⟩) ?_
      refine s_val (.d _) rfl (v_and rfl (fun hc => gd_pos hc) rfl) ?_
      refine s_val (.d _) rfl rfl ?_
      refine s_nil ?_
      refine l_ret ?_
      obtain rfl := Option.some.inj h
      refine fin_ok (.inr rfl) (resD1 (res_t rfl) rf_d) ?_
      exact (.refl _)
    · replace h := cond_f c2 h
      refine l_skip ?_
      refine l_seq ?_
      refine l_reg fun u11 hu11 => ?_
      refine s_val (.d _) rfl rfl ?_
      refine s_val (.d _) rfl rfl ?_
      refine s_val (.d _) rfl rfl ?_
      refine s_val (.d _) rfl rfl ?_
      refine s_val (.d _) rfl rfl ?_
      obtain ⟨v11, hv11, h⟩ := bind_some h
      refine s_call rfl rfl all2_refl (kit_Mod64_ok _ _  _ hv11) (.inl rfl) ?_
      refine s_val (.d _) rfl rfl ?_
      refine s_nil ?_
      refine l_seq ?_
      refine l_reg fun u12 hu12 => ?_
      refine s_val (.d _) rfl (v_loadG rfl (G_skip rfl G_hit) rfl rfl) ?_
      refine s_val (.d _) rfl rfl ?_
      refine s_val (.d _) rfl rfl ?_
      refine s_val (.d _) rfl rfl ?_
      obtain ⟨v12, hv12, h⟩ := bind_some h
      refine s_call rfl rfl all2_refl (curve_At_ok _ _  _ hv12) (.inl rfl) ?_
      refine s_new (.ptr _ _) (.box _ _) rfl rfl ?_
      refine s_store _ _ _ _ _ rfl rfl rfl G_hit (Nat.le_of_ble_eq_true rfl) [(.d (i64 v12.X)), (.d (i64 v12.Y))] rfl ?_
      refine s_nil ?_
      refine l_seq ?_
      refine l_seq ?_
      refine l_sub (s0 := ⟨T [(2, (.d (i64 v11))), (7, (.ptr (7, u2) 0)), (10, (.d (i64 v7))), (11, (.d (i64 v8))), (12, (.ptr (12, u8) 0)), (14, (.ptr (14, u12) 0))], G [((7, u2), some (.box 24 [(.d (.list (List.map eSpot v1.Pts)))])), ((12, u8), some (.box 24 [(.d (.list (List.map eSpot v9.1.Pts)))])), ((14, u12), some (.box 43 [(.d (i64 v12.X)), (.d (i64 v12.Y))]))]⟩) (sb_of ⟨.of rfl, .of rfl, .of rfl, .of rfl, .of rfl, .of rfl, trivial⟩ (sbG_some (G_skip rfl (G_skip rfl G_hit)) (.of rfl) (sbG_some (G_skip rfl (G_skip rfl (G_skip rfl (G_skip rfl G_hit)))) (.of rfl) (sbG_some G_hit (.of rfl) trivial)))) ?_
      refine l_reg fun u13 hu13 => ?_
      refine s_val (.d _) rfl rfl ?_
      refine s_val (.d _) rfl rfl ?_
      refine s_val (.d _) rfl rfl ?_
      refine s_nil ?_
      obtain ⟨y1, hy1, h⟩ := bind_some h
      refine l_join (fun s => ∃ g1 : Unit, Sb ⟨T [(2, (.d (i64 v11))), (10, (.d (i64 v7))), (11, (.d (i64 v8))), (12, (.ptr (12, u8) 0)), (14, (.ptr (14, u12) 0))], G [((12, u8), some (.box 24 [(.d (.list (List.map eSpot v9.1.Pts)))])), ((14, u12), some (.box 43 [(.d (i64 y1.X)), (.d (i64 y1.Y))]))]⟩ s) ?_ ?_
      · skip
        refine l_cond (decide (v11 < v7)) rfl (fun c3 => ?_) (fun c3 => ?_)
        · replace hy1 := cond_t c3 hy1
          refine l_reg fun u14 hu14 => ?_
          refine s_val (.d _) rfl (v_loadG rfl G_hit rfl rfl) ?_
          refine s_val (.d _) rfl rfl ?_
          obtain ⟨v13, hv13, hy1⟩ := bind_some hy1
          refine s_call rfl rfl all2_refl (curve_At_ok _ _  _ hv13) (.inl rfl) ?_
          refine s_store _ _ _ _ _ rfl rfl rfl (G_skip rfl (G_skip rfl G_hit)) (Nat.le_of_ble_eq_true rfl) [(.d (i64 v13.X)), (.d (i64 v13.Y))] rfl ?_
          refine s_nil ?_
          obtain rfl := Option.some.inj hy1
          exact l_j ⟨(), (sb_of ⟨.of rfl, .of rfl, .of rfl, .of rfl, .of rfl, trivial⟩ (sbG_some (G_skip rfl (G_skip rfl G_hit)) (.of rfl) (sbG_some G_hit (.of rfl) trivial)))⟩
        · replace hy1 := cond_f c3 hy1
          refine l_skip ?_
          obtain rfl := Option.some.inj hy1
          exact l_j ⟨(), (sb_of ⟨.of rfl, .of rfl, .of rfl, .of rfl, .of rfl, trivial⟩ (sbG_some (G_skip rfl G_hit) (.of rfl) (sbG_some (G_skip rfl (G_skip rfl G_hit)) (.of rfl) trivial)))⟩
      · rintro _ ⟨g1, q1⟩
        refine l_sub q1 ?_
        refine l_seq ?_
        refine l_draw rfl fun u15 hu15 => ?_
        refine s_val (.d _) rfl (v_loadG rfl G_hit rfl rfl) ?_
        obtain ⟨v14, hv14, h⟩ := bind_some h
        refine s_call rfl rfl all2_refl (curve_Length_ok _  _ hv14) (.inl rfl) ?_
        refine s_val (.d _) rfl rfl ?_
        refine s_val (.d _) rfl rfl ?_
        refine s_val (.d _) rfl rfl ?_
        refine s_val (.d _) rfl rfl ?_
        refine s_val (.d _) rfl rfl ?_
        refine g_val (v14 == (w64 (v7 + v8))) (.d _) rfl (gw_t rfl) (fun w4 => (v_loadG rfl G_hit rfl rfl)) ?_
        refine g_val (v14 == (w64 (v7 + v8))) (.d _) rfl (gw_t rfl) (fun w5 => rfl) ?_
        obtain ⟨v15, hv15, h⟩ := bind_some h
        refine g_call (v14 == (w64 (v7 + v8))) (.agg [(i64 v15.X), (i64 v15.Y)]) (gw_t rfl) (fun w6 => ⟨_, [(.d (.agg [(.list (List.map eSpot v9.1.Pts))])), (.d (i64 v11))], _, _, (by simp only [gd_pos w6]; rfl), rfl, all2_refl, curve_At_ok _ _  _ (cond_t w6 hv15), (.inl rfl)⟩) ?_
        refine g_val (v14 == (w64 (v7 + v8))) (.d _) rfl (gw_t rfl) (fun w7 => (v_loadG rfl (G_skip rfl G_hit) rfl rfl)) ?_
        refine g_val (v14 == (w64 (v7 + v8))) (.d _) rfl (gw_t rfl) (fun w8 => (by simp only [gd_pos w8]; rfl)) ?_
        refine s_val (.d _) rfl (v_and rfl (fun hc => gd_pos hc) rfl) ?_
        refine s_val (.d _) rfl rfl ?_
        obtain ⟨v16, hv16, h⟩ := bind_some h
        refine g_call ((v14 == (w64 (v7 + v8))) && (v15.X == y1.X && (v15.Y == y1.Y && true))) (bo v16) (gw_t rfl) (fun w9 => ⟨_, _, _, _, rfl, rfl, all2_refl, law01_awake_ok  _ (cond_t w9 hv16), (.inl rfl)⟩) ?_
        refine s_val (.d _) rfl (v_and rfl (fun hc => gd_pos hc) rfl) ?_
        refine s_val (.d _) rfl rfl ?_
        refine s_nil ?_
        refine l_ret ?_
        obtain rfl := Option.some.inj h
        refine fin_ok (.inr rfl) (resD1 (res_t rfl) rf_d) ?_
        exact (.refl _)
end Go.Abs.Curve
