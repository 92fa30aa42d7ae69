/-
  The functions, part 2.
-/
import Derived.Test.YtkpmfcpgmhkleaaFns1
set_option maxRecDepth 20000
set_option linter.unusedVariables false
namespace Go.Abs.Curve
open Go Go.Abs Go.Proofs
attribute [local irreducible] regW regT AWL

noncomputable def curve_Near_l1 (p2 : Spot) (p3 : Int) (x1 : (List Int)) (a1 : (Int × CurvePiece)) : Option (Stp (List Int) (List Int)) :=
  (curve_from a1.2.p p2).bind fun v4 => (curve_vector_dot a1.2.v v4).bind fun v5 => (curve_vector_cross a1.2.v v4).bind fun v6 => (curve_abs v6).bind fun v7 => cond (((decide (v7 > (w64 (p3 * a1.2.l)))) || (decide (v5 < (w64 ((w64 (0 - p3)) * a1.2.l))))) || (decide (v5 > (w64 ((w64 (a1.2.l + p3)) * a1.2.l))))) (some (.go x1)) ((curve_floor v5 a1.2.l).bind fun v8 => (appc x1 [(w64 (a1.2.start + (mm2 true 0 (mm2 false v8 a1.2.l))))]).bind fun v9 => some (.go v9))
noncomputable def curve_Near (p1 : Curve) (p2 : Spot) (p3 : Int) : Option (List Int) :=
  (curve_Check p1).bind fun v1 => ((cond (!(v1 != 0)) (curve_fair [p2]) (some default))).bind fun v2 => cond ((((v1 != 0) || (!v2)) || (decide (p3 < 0))) || (decide (p3 > 16777216))) (some []) (((piecesC p1.Pts).bind fun v3 => loopL (curve_Near_l1 p2 p3) (fun (x1 : (List Int)) => x1) v3 []).bind fun y1 => some y1)

/-- kerbstone/curve.Near -/
def ac_curve_Near : AC :=
  (.seq (.reg [⟨(some 3), .box 24 true (.t 0), none⟩, ⟨(some 4), .box 43 true (.t 1), none⟩, ⟨(some 5), .box 2 false (.t 2), none⟩, ⟨(some 6), .mv (.c .nilS), none⟩])
  (.seq (.seq (.reg [⟨(some 12), .load 1 true (.t 3), none⟩, ⟨(some 13), .call (.c (.fn (.func 20) [] [])) [(.t 12)], none⟩, ⟨(some 14), .bin .neq (.t 13) (.c (.v (.int .i64 0))), none⟩, ⟨(some 15), .mv (.t 14), none⟩, ⟨(some 16), .load 2 true (.t 4), (some (15, false))⟩, ⟨(some 17), .dslice 43 2 1 [(.v (.int .i64 0)), (.v (.int .i64 0))] [(0, 2, (.t 16))], (some (15, false))⟩, ⟨(some 18), .call (.c (.fn (.func 59) [] [])) [(.t 17)], (some (15, false))⟩, ⟨(some 19), .un .not (.t 18), (some (15, false))⟩, ⟨(some 20), .pick (.t 15) (.c (.v (.bool true))) (.t 19), none⟩, ⟨(some 21), .mv (.t 20), none⟩, ⟨(some 22), .load 1 false (.t 5), (some (21, false))⟩, ⟨(some 23), .bin .lss (.t 22) (.c (.v (.int .i64 0))), (some (21, false))⟩, ⟨(some 24), .pick (.t 21) (.c (.v (.bool true))) (.t 23), none⟩, ⟨(some 25), .mv (.t 24), none⟩, ⟨(some 26), .load 1 false (.t 5), (some (25, false))⟩, ⟨(some 27), .bin .gtr (.t 26) (.c (.v (.int .i64 16777216))), (some (25, false))⟩, ⟨(some 28), .pick (.t 25) (.c (.v (.bool true))) (.t 27), none⟩])
  (.cond (.t 28)
    (.seq (.reg [⟨(some 6), .mv (.c .nilS), none⟩])
    .ret)
    .skip))
  (.seq (.reg [⟨(some 7), .alloc 32 [.nilS], none⟩])
  (.seq (.seq (.reg [⟨(some 29), .load 1 true (.t 3), none⟩, ⟨(some 30), .call (.c (.fn (.func 66) [] [])) [(.t 29)], none⟩])
  (.block 0
    (.rangeF (.t 30) [31, 32]
      (.reg [⟨(some 9), .alloc 89 [(.v (.int .i64 0)), (.v (.int .i64 0)), (.v (.int .i64 0)), (.v (.int .i64 0)), (.v (.int .i64 0)), (.v (.int .i64 0))], none⟩, ⟨none, .store 6 (.t 9) (.t 32), none⟩])
      (.block 1
        (.seq (.reg [⟨(some 33), .fieldA 0 (.t 9), none⟩, ⟨(some 34), .load 2 true (.t 33), none⟩, ⟨(some 35), .load 2 true (.t 4), none⟩, ⟨(some 36), .call (.c (.fn (.func 60) [] [])) [(.t 34), (.t 35)], none⟩, ⟨(some 10), .alloc 78 [(.v (.int .i64 0)), (.v (.int .i64 0))], none⟩, ⟨none, .store 2 (.t 10) (.t 36), none⟩])
        (.seq (.reg [⟨(some 37), .fieldA 2 (.t 9), none⟩, ⟨(some 38), .load 2 true (.t 37), none⟩, ⟨(some 39), .load 2 true (.t 10), none⟩, ⟨(some 40), .call (.c (.fn (.func 62) [] [])) [(.t 38), (.t 39)], none⟩, ⟨(some 11), .mv (.t 40), none⟩])
        (.seq (.seq (.draw [⟨(some 41), .fieldA 2 (.t 9), none⟩, ⟨(some 42), .load 2 true (.t 41), none⟩, ⟨(some 43), .load 2 true (.t 10), none⟩, ⟨(some 44), .call (.c (.fn (.func 73) [] [])) [(.t 42), (.t 43)], none⟩, ⟨(some 45), .call (.c (.fn (.func 72) [] [])) [(.t 44)], none⟩, ⟨(some 46), .load 1 false (.t 5), none⟩, ⟨(some 47), .fieldA 4 (.t 9), none⟩, ⟨(some 48), .load 1 false (.t 47), none⟩, ⟨(some 49), .bin .mul (.t 46) (.t 48), none⟩, ⟨(some 50), .bin .gtr (.t 45) (.t 49), none⟩, ⟨(some 51), .mv (.t 50), none⟩, ⟨(some 52), .mv (.t 11), (some (51, false))⟩, ⟨(some 53), .load 1 false (.t 5), (some (51, false))⟩, ⟨(some 54), .un .neg (.t 53), (some (51, false))⟩, ⟨(some 55), .fieldA 4 (.t 9), (some (51, false))⟩, ⟨(some 56), .load 1 false (.t 55), (some (51, false))⟩, ⟨(some 57), .bin .mul (.t 54) (.t 56), (some (51, false))⟩, ⟨(some 58), .bin .lss (.t 52) (.t 57), (some (51, false))⟩, ⟨(some 59), .pick (.t 51) (.c (.v (.bool true))) (.t 58), none⟩, ⟨(some 60), .mv (.t 59), none⟩, ⟨(some 61), .mv (.t 11), (some (60, false))⟩, ⟨(some 62), .fieldA 4 (.t 9), (some (60, false))⟩, ⟨(some 63), .load 1 false (.t 62), (some (60, false))⟩, ⟨(some 64), .load 1 false (.t 5), (some (60, false))⟩, ⟨(some 65), .bin .add (.t 63) (.t 64), (some (60, false))⟩, ⟨(some 66), .fieldA 4 (.t 9), (some (60, false))⟩, ⟨(some 67), .load 1 false (.t 66), (some (60, false))⟩, ⟨(some 68), .bin .mul (.t 65) (.t 67), (some (60, false))⟩, ⟨(some 69), .bin .gtr (.t 61) (.t 68), (some (60, false))⟩, ⟨(some 70), .pick (.t 60) (.c (.v (.bool true))) (.t 69), none⟩] [])
        (.cond (.t 70)
          (.exit 1)
          .skip))
        (.draw [⟨(some 71), .load 1 false (.t 7), none⟩, ⟨(some 72), .fieldA 5 (.t 9), none⟩, ⟨(some 73), .load 1 false (.t 72), none⟩, ⟨(some 74), .mv (.t 11), none⟩, ⟨(some 75), .fieldA 4 (.t 9), none⟩, ⟨(some 76), .load 1 false (.t 75), none⟩, ⟨(some 77), .call (.c (.fn (.func 70) [] [])) [(.t 74), (.t 76)], none⟩, ⟨(some 78), .fieldA 4 (.t 9), none⟩, ⟨(some 79), .load 1 false (.t 78), none⟩, ⟨(some 80), .mm false (.t 77) [(.t 79)], none⟩, ⟨(some 81), .mm true (.c (.v (.int .i64 0))) [(.t 80)], none⟩, ⟨(some 82), .bin .add (.t 73) (.t 81), none⟩, ⟨(some 83), .dslice 2 1 1 [(.v (.int .i64 0))] [(0, 1, (.t 82))], none⟩, ⟨(some 84), .append 32 2 1 (.t 71) (.t 83), none⟩, ⟨none, .store 1 (.t 7) (.t 84), none⟩] []))))))))
  (.seq (.reg [⟨(some 85), .load 1 false (.t 7), none⟩, ⟨(some 6), .mv (.t 85), none⟩])
  .ret)))))
theorem fn_curve_Near : FnOK Try.prog 34 86 [.t 6] ac_curve_Near := ⟨_, _, Try.func34, rfl, Try.ntmps34, by kernel_rfl, ⟨fun r => if r == 1 then [1005] else if r == 9 then [1012] else [], by kernel_rfl⟩, by kernel_rfl⟩
set_option maxHeartbeats 4000000 in
theorem curve_Near_ok (p1 : Curve) (p2 : Spot) (p3 : Int) (r : (List Int)) (h : curve_Near p1 p2 p3 = some r) : PCall Try.prog 34 [(.agg [(.list (List.map eSpot p1.Pts))]), (.agg [(i64 p2.X), (i64 p2.Y)]), (i64 p3)] (.list (List.map eInt_i64 r)) := by
  refine l_call fn_curve_Near (Nat.le_of_ble_eq_true rfl) ?_
  unfold curve_Near at h
  unfold ac_curve_Near
  refine (l_sub (s0 := ⟨T [(0, (.d (.agg [(.list (List.map eSpot p1.Pts))]))), (1, (.d (.agg [(i64 p2.X), (i64 p2.Y)]))), (2, (.d (i64 p3)))], G []⟩) (sb_of ⟨.of rfl, .of rfl, .of rfl, trivial⟩ trivial) ?_)
  refine l_seq ?_
  refine l_reg fun u1 hu1 => ?_
  refine s_new (.ptr _ _) (.box _ _) rfl rfl ?_
  refine s_new (.ptr _ _) (.box _ _) rfl rfl ?_
  refine s_new (.ptr _ _) (.box _ _) rfl rfl ?_
  refine s_val (.d _) rfl rfl ?_
  refine s_nil ?_
  refine l_seq ?_
  refine l_seq ?_
  refine l_reg fun u2 hu2 => ?_
  refine s_val (.d _) rfl (v_loadG rfl (G_skip rfl (G_skip rfl G_hit)) rfl rfl) ?_
  obtain ⟨v1, hv1, h⟩ := bind_some h
  refine s_call rfl rfl all2_refl (curve_Check_ok _  _ hv1) (.inl rfl) ?_
  refine s_val (.d _) rfl rfl ?_
  refine s_val (.d _) rfl rfl ?_
  refine g_val (!(v1 != 0)) (.d _) rfl (gw_f rfl) (fun w1 => (v_loadG rfl (G_skip rfl G_hit) rfl rfl)) ?_
  refine g_val (!(v1 != 0)) (.d (.list (List.map eSpot [p2]))) rfl (gw_f rfl) (fun w2 => (by simp only [gd_pos w2]; rfl)) ?_
  obtain ⟨v2, hv2, h⟩ := bind_some h
  refine g_call (!(v1 != 0)) (bo v2) (gw_f rfl) (fun w3 => ⟨_, [(.d (.list (List.map eSpot [p2])))], _, _, (by simp only [gd_pos w3]; rfl), rfl, all2_refl, curve_fair_ok _  _ (cond_t w3 hv2), (.inl rfl)⟩) ?_
  refine g_val (!(v1 != 0)) (.d _) rfl (gw_f rfl) (fun w4 => (by simp only [gd_pos w4]; rfl)) ?_
  refine s_val (.d _) rfl (v_or rfl rfl (fun hc => gd_pos (not_t hc))) ?_
  refine s_val (.d _) rfl rfl ?_
  refine g_val (!((v1 != 0) || (!v2))) (.d _) rfl (gw_f rfl) (fun w5 => (v_load rfl G_hit rfl)) ?_
  refine g_val (!((v1 != 0) || (!v2))) (.d _) rfl (gw_f rfl) (fun w6 => (v_bin (gd_pos w6) rfl rfl)) ?_
  refine s_val (.d _) rfl (v_or rfl rfl (fun hc => gd_pos (not_t hc))) ?_
  refine s_val (.d _) rfl rfl ?_
  refine g_val (!(((v1 != 0) || (!v2)) || (decide (p3 < 0)))) (.d _) rfl (gw_f rfl) (fun w7 => (v_load rfl G_hit rfl)) ?_
  refine g_val (!(((v1 != 0) || (!v2)) || (decide (p3 < 0)))) (.d _) rfl (gw_f rfl) (fun w8 => (v_bin (gd_pos w8) rfl rfl)) ?_
  refine s_val (.d _) rfl (v_or rfl rfl (fun hc => gd_pos (not_t hc))) ?_
  refine s_nil ?_
  refine l_cond ((((v1 != 0) || (!v2)) || (decide (p3 < 0))) || (decide (p3 > 16777216))) rfl (fun c1 => ?_) (fun c1 => ?_)
  · replace h := cond_t c1 h
    refine l_seq ?_
    refine l_sub (s0 := ⟨T [], G []⟩) (sb_of trivial trivial) ?_
    refine l_reg fun u3 hu3 => ?_
    refine s_val (.d _) rfl rfl ?_
    refine s_nil ?_
    refine l_ret ?_
    obtain rfl := Option.some.inj h
    refine fin_ok (.inr rfl) (resD1 (res_t rfl) rf_d) ?_
    exact DLe.nil
  · replace h := cond_f c1 h
    refine l_skip ?_
    refine l_seq ?_
    refine l_sub (s0 := ⟨T [(3, (.ptr (3, u1) 0)), (4, (.ptr (4, u1) 0)), (5, (.ptr (5, u1) 0)), (6, (.d .nilS))], G [((3, u1), some (.box 24 [(.d (.list (List.map eSpot p1.Pts)))])), ((4, u1), some (.box 43 [(.d (i64 p2.X)), (.d (i64 p2.Y))])), ((5, u1), some (.box 2 [(.d (i64 p3))]))]⟩) (sb_of ⟨.of rfl, .of rfl, .of rfl, .of rfl, trivial⟩ (sbG_some (G_skip rfl (G_skip rfl G_hit)) (.of rfl) (sbG_some (G_skip rfl G_hit) (.of rfl) (sbG_some G_hit (.of rfl) trivial)))) ?_
    refine l_reg fun u4 hu4 => ?_
    refine s_new (.ptr _ _) (.box _ _) rfl rfl ?_
    refine s_nil ?_
    refine l_seq ?_
    refine l_seq ?_
    refine l_reg fun u5 hu5 => ?_
    refine s_val (.d _) rfl (v_loadG rfl (G_skip rfl G_hit) rfl rfl) ?_
    refine s_call rfl rfl all2_refl (pieces_clos p1) (.inl rfl) ?_
    refine s_nil ?_
    obtain ⟨y1, hy1, h⟩ := bind_some h
    refine l_join (fun s => ∃ g1 : Nat, Sb ⟨T [(7, (.ptr (7, u4) 0))], G [((7, u4), some (.box 32 [(oS y1 (84, g1))])), ((84, g1), oB 2 1 eInt_i64 y1)]⟩ s) ?_ ?_
    · skip
      refine l_block ?_
      obtain ⟨v3, hv3, hy1⟩ := bind_some hy1
      refine l_sub (s0 := ⟨T [(4, (.ptr (4, u1) 0)), (5, (.ptr (5, u1) 0)), (7, (.ptr (7, u4) 0)), (30, (.d (.fn (.func 86) [] [(.bp [(.list (List.map eSpot p1.Pts))] 0)])))], G [((4, u1), some (.box 43 [(.d (i64 p2.X)), (.d (i64 p2.Y))])), ((5, u1), some (.box 2 [(.d (i64 p3))])), ((7, u4), some (.box 32 [(.d .nilS)]))]⟩) (sb_of ⟨.of rfl, .of rfl, .of rfl, .of rfl, trivial⟩ (sbG_some (G_skip rfl (G_skip rfl G_hit)) (.of rfl) (sbG_some (G_skip rfl (G_skip rfl (G_skip rfl G_hit))) (.of rfl) (sbG_some G_hit (.of rfl) trivial)))) ?_
      refine l_rangeL (.fn (.func 86) [] [(.bp [(.list (List.map eSpot p1.Pts))] 0)]) ePiece v3 (curve_Near_l1 p2 p3) (fun (x1 : (List Int)) => x1) (fun (x1 : (List Int)) (g2 : Nat) => [((4, u1), some (.box 43 [(.d (i64 p2.X)), (.d (i64 p2.Y))])), ((5, u1), some (.box 2 [(.d (i64 p3))])), ((7, u4), some (.box 32 [(oS x1 (84, g2))])), ((84, g2), oB 2 1 eInt_i64 x1)]) [] 0 _ rfl (pieces_iter hv3) (fun _ => rfl) hy1 (sb_of trivial (sbG_some G_hit (.of rfl) (sbG_some (G_skip rfl G_hit) (.of rfl) (sbG_some (G_skip rfl (G_skip rfl G_hit)) (.of rfl) (sbG_nil trivial))))) nofun ?_ ?_
      · intro u7 hu7 hku7
        refine ⟨fun x1 g2 => (G_skip rfl (G_skip rfl (G_skip rfl (G_skip rfl rfl)))), ?_⟩
        intro r1 x1 g2 a1 z1 hrr1 hz1 ez1
        unfold curve_Near_l1 at hz1
        show AWL _ _ _ _ _ _ ⟨T [(32, (.d (.agg [(i64 a1.2.p.X), (i64 a1.2.p.Y), (i64 a1.2.v.x), (i64 a1.2.v.y), (i64 a1.2.l), (i64 a1.2.start)]))), (31, (.d (i64 a1.1))), (4, (.ptr (4, u1) 0)), (5, (.ptr (5, u1) 0)), (7, (.ptr (7, u4) 0)), (30, (.d (.fn (.func 86) [] [(.bp [(.list (List.map eSpot p1.Pts))] 0)])))], G [((1000000, u7), some (.obj (T [(4, (.ptr (4, u1) 0)), (5, (.ptr (5, u1) 0)), (7, (.ptr (7, u4) 0)), (30, (.d (.fn (.func 86) [] [(.bp [(.list (List.map eSpot p1.Pts))] 0)])))]) r1)), ((4, u1), some (.box 43 [(.d (i64 p2.X)), (.d (i64 p2.Y))])), ((5, u1), some (.box 2 [(.d (i64 p3))])), ((7, u4), some (.box 32 [(oS x1 (84, g2))])), ((84, g2), oB 2 1 eInt_i64 x1)]⟩
        refine l_reg fun u8 hu8 => ?_
        refine s_new (.ptr _ _) (.box _ _) rfl rfl ?_
        refine s_store _ _ _ _ _ rfl rfl rfl G_hit (Nat.le_of_ble_eq_true rfl) [(.d (i64 a1.2.p.X)), (.d (i64 a1.2.p.Y)), (.d (i64 a1.2.v.x)), (.d (i64 a1.2.v.y)), (.d (i64 a1.2.l)), (.d (i64 a1.2.start))] rfl ?_
        refine s_nil ?_
        refine l_j (mid_ok (G_skip rfl (G_skip rfl G_hit)) ?_)
        refine l_block ?_
        refine l_seq ?_
        refine l_reg fun u9 hu9 => ?_
        refine s_val (.ptr _ _) rfl rfl ?_
        refine s_val (.d _) rfl (v_loadG rfl (G_skip rfl G_hit) rfl rfl) ?_
        refine s_val (.d _) rfl (v_loadG rfl (G_skip rfl (G_skip rfl (G_skip rfl (G_skip rfl G_hit)))) rfl rfl) ?_
        obtain ⟨v4, hv4, hz1⟩ := bind_some hz1
        refine s_call rfl rfl all2_refl (curve_from_ok _ _  _ hv4) (.inl rfl) ?_
        refine s_new (.ptr _ _) (.box _ _) rfl rfl ?_
        refine s_store _ _ _ _ _ rfl rfl rfl G_hit (Nat.le_of_ble_eq_true rfl) [(.d (i64 v4.x)), (.d (i64 v4.y))] rfl ?_
        refine s_nil ?_
        refine l_seq ?_
        refine l_reg fun u10 hu10 => ?_
        refine s_val (.ptr _ _) rfl rfl ?_
        refine s_val (.d _) rfl (v_loadG rfl (G_skip rfl (G_skip rfl (G_skip rfl G_hit))) rfl rfl) ?_
        refine s_val (.d _) rfl (v_loadG rfl G_hit rfl rfl) ?_
        obtain ⟨v5, hv5, hz1⟩ := bind_some hz1
        refine s_call rfl rfl all2_refl (curve_vector_dot_ok _ _  _ hv5) (.inl rfl) ?_
        refine s_val (.d _) rfl rfl ?_
        refine s_nil ?_
        refine l_seq ?_
        refine l_seq ?_
        refine l_sub (s0 := ⟨T [(5, (.ptr (5, u1) 0)), (7, (.ptr (7, u4) 0)), (9, (.ptr (9, u8) 0)), (10, (.ptr (10, u9) 0)), (11, (.d (i64 v5)))], G [((5, u1), some (.box 2 [(.d (i64 p3))])), ((7, u4), some (.box 32 [(oS x1 (84, g2))])), ((84, g2), oB 2 1 eInt_i64 x1), ((9, u8), some (.box 89 [(.d (i64 a1.2.p.X)), (.d (i64 a1.2.p.Y)), (.d (i64 a1.2.v.x)), (.d (i64 a1.2.v.y)), (.d (i64 a1.2.l)), (.d (i64 a1.2.start))])), ((10, u9), some (.box 78 [(.d (i64 v4.x)), (.d (i64 v4.y))])), ((4, u1), some (.box 43 [(.d (i64 p2.X)), (.d (i64 p2.Y))])), ((1000000, u7), some (.obj (T [(4, (.ptr (4, u1) 0)), (5, (.ptr (5, u1) 0)), (7, (.ptr (7, u4) 0)), (30, (.d (.fn (.func 86) [] [(.bp [(.list (List.map eSpot p1.Pts))] 0)])))]) { r1 with state := .busy }))]⟩) (sb_of ⟨.of rfl, .of rfl, .of rfl, .of rfl, .of rfl, trivial⟩ (sbG_some (G_skip rfl (G_skip rfl (G_skip rfl (G_skip rfl (G_skip rfl (G_skip rfl (G_skip rfl G_hit))))))) (.of rfl) (sbG_some (G_skip rfl (G_skip rfl (G_skip rfl (G_skip rfl (G_skip rfl (G_skip rfl (G_skip rfl (G_skip rfl G_hit)))))))) (.of rfl) (sbG_oB (G_skip rfl (G_skip rfl (G_skip rfl (G_skip rfl (G_skip rfl (G_skip rfl (G_skip rfl (G_skip rfl (G_skip rfl G_hit))))))))) (sbG_some (G_skip rfl (G_skip rfl (G_skip rfl G_hit))) (.of rfl) (sbG_some G_hit (.of rfl) (sbG_some (G_skip rfl (G_skip rfl (G_skip rfl (G_skip rfl (G_skip rfl (G_skip rfl G_hit)))))) (.of rfl) (sbG_some (G_skip rfl (G_skip rfl G_hit)) (.of rfl) trivial)))))))) ?_
        refine l_draw rfl fun u11 hu11 => ?_
        refine s_val (.ptr _ _) rfl rfl ?_
        refine s_val (.d _) rfl (v_loadG rfl (G_skip rfl (G_skip rfl (G_skip rfl G_hit))) rfl rfl) ?_
        refine s_val (.d _) rfl (v_loadG rfl (G_skip rfl (G_skip rfl (G_skip rfl (G_skip rfl G_hit)))) rfl rfl) ?_
        obtain ⟨v6, hv6, hz1⟩ := bind_some hz1
        refine s_call rfl rfl all2_refl (curve_vector_cross_ok _ _  _ hv6) (.inl rfl) ?_
        obtain ⟨v7, hv7, hz1⟩ := bind_some hz1
        refine s_call rfl rfl all2_refl (curve_abs_ok _  _ hv7) (.inl rfl) ?_
        refine s_val (.d _) rfl (v_load rfl G_hit rfl) ?_
        refine s_val (.ptr _ _) rfl rfl ?_
        refine s_val (.d _) rfl (v_load rfl (G_skip rfl (G_skip rfl (G_skip rfl G_hit))) rfl) ?_
        refine s_val (.d _) rfl rfl ?_
        refine s_val (.d _) rfl rfl ?_
        refine s_val (.d _) rfl rfl ?_
        refine g_val (!(decide (v7 > (w64 (p3 * a1.2.l))))) (.d _) rfl (gw_f rfl) (fun w9 => rfl) ?_
        refine g_val (!(decide (v7 > (w64 (p3 * a1.2.l))))) (.d _) rfl (gw_f rfl) (fun w10 => (v_load rfl G_hit rfl)) ?_
        refine g_val (!(decide (v7 > (w64 (p3 * a1.2.l))))) (.d _) rfl (gw_f rfl) (fun w11 => (by simp only [gd_pos w11]; rfl)) ?_
        refine g_val (!(decide (v7 > (w64 (p3 * a1.2.l))))) (.ptr _ _) rfl (gw_f rfl) (fun w12 => rfl) ?_
        refine g_val (!(decide (v7 > (w64 (p3 * a1.2.l))))) (.d _) rfl (gw_f rfl) (fun w13 => (v_load (gd_pos w13) (G_skip rfl (G_skip rfl (G_skip rfl G_hit))) rfl)) ?_
        refine g_val (!(decide (v7 > (w64 (p3 * a1.2.l))))) (.d _) rfl (gw_f rfl) (fun w14 => (v_bin (gd_pos w14) (gd_pos w14) rfl)) ?_
        refine g_val (!(decide (v7 > (w64 (p3 * a1.2.l))))) (.d _) rfl (gw_f rfl) (fun w15 => (v_bin (gd_pos w15) (gd_pos w15) rfl)) ?_
        refine s_val (.d _) rfl (v_or rfl rfl (fun hc => gd_pos (not_t hc))) ?_
        refine s_val (.d _) rfl rfl ?_
        refine g_val (!((decide (v7 > (w64 (p3 * a1.2.l)))) || (decide (v5 < (w64 ((w64 (0 - p3)) * a1.2.l)))))) (.d _) rfl (gw_f rfl) (fun w16 => rfl) ?_
        refine g_val (!((decide (v7 > (w64 (p3 * a1.2.l)))) || (decide (v5 < (w64 ((w64 (0 - p3)) * a1.2.l)))))) (.ptr _ _) rfl (gw_f rfl) (fun w17 => rfl) ?_
        refine g_val (!((decide (v7 > (w64 (p3 * a1.2.l)))) || (decide (v5 < (w64 ((w64 (0 - p3)) * a1.2.l)))))) (.d _) rfl (gw_f rfl) (fun w18 => (v_load (gd_pos w18) (G_skip rfl (G_skip rfl (G_skip rfl G_hit))) rfl)) ?_
        refine g_val (!((decide (v7 > (w64 (p3 * a1.2.l)))) || (decide (v5 < (w64 ((w64 (0 - p3)) * a1.2.l)))))) (.d _) rfl (gw_f rfl) (fun w19 => (v_load rfl G_hit rfl)) ?_
        refine g_val (!((decide (v7 > (w64 (p3 * a1.2.l)))) || (decide (v5 < (w64 ((w64 (0 - p3)) * a1.2.l)))))) (.d _) rfl (gw_f rfl) (fun w20 => (v_bin (gd_pos w20) (gd_pos w20) rfl)) ?_
        refine g_val (!((decide (v7 > (w64 (p3 * a1.2.l)))) || (decide (v5 < (w64 ((w64 (0 - p3)) * a1.2.l)))))) (.ptr _ _) rfl (gw_f rfl) (fun w21 => rfl) ?_
        refine g_val (!((decide (v7 > (w64 (p3 * a1.2.l)))) || (decide (v5 < (w64 ((w64 (0 - p3)) * a1.2.l)))))) (.d _) rfl (gw_f rfl) (fun w22 => (v_load (gd_pos w22) (G_skip rfl (G_skip rfl (G_skip rfl G_hit))) rfl)) ?_
        refine g_val (!((decide (v7 > (w64 (p3 * a1.2.l)))) || (decide (v5 < (w64 ((w64 (0 - p3)) * a1.2.l)))))) (.d _) rfl (gw_f rfl) (fun w23 => (v_bin (gd_pos w23) (gd_pos w23) rfl)) ?_
        refine g_val (!((decide (v7 > (w64 (p3 * a1.2.l)))) || (decide (v5 < (w64 ((w64 (0 - p3)) * a1.2.l)))))) (.d _) rfl (gw_f rfl) (fun w24 => (v_bin (gd_pos w24) (gd_pos w24) rfl)) ?_
        refine s_val (.d _) rfl (v_or rfl rfl (fun hc => gd_pos (not_t hc))) ?_
        refine s_nil ?_
        refine l_cond (((decide (v7 > (w64 (p3 * a1.2.l)))) || (decide (v5 < (w64 ((w64 (0 - p3)) * a1.2.l))))) || (decide (v5 > (w64 ((w64 (a1.2.l + p3)) * a1.2.l))))) rfl (fun c2 => ?_) (fun c2 => ?_)
        · replace hz1 := cond_t c2 hz1
          refine l_exit rfl ?_
          refine l_nil ?_
          obtain rfl := Option.some.inj hz1
          exact rnd_go (G_skip rfl (G_skip rfl (G_skip rfl (G_skip rfl (G_skip rfl (G_skip rfl G_hit)))))) g2 (sbG_some (G_skip rfl (G_skip rfl (G_skip rfl (G_skip rfl (G_skip rfl G_hit))))) (.of rfl) (sbG_some G_hit (.of rfl) (sbG_some (G_skip rfl G_hit) (.of rfl) (sbG_oB (G_skip rfl (G_skip rfl G_hit)) trivial))))
        · replace hz1 := cond_f c2 hz1
          refine l_skip ?_
          refine l_sub (s0 := ⟨T [(7, (.ptr (7, u4) 0)), (9, (.ptr (9, u8) 0)), (11, (.d (i64 v5)))], G [((7, u4), some (.box 32 [(oS x1 (84, g2))])), ((84, g2), oB 2 1 eInt_i64 x1), ((9, u8), some (.box 89 [(.d (i64 a1.2.p.X)), (.d (i64 a1.2.p.Y)), (.d (i64 a1.2.v.x)), (.d (i64 a1.2.v.y)), (.d (i64 a1.2.l)), (.d (i64 a1.2.start))])), ((4, u1), some (.box 43 [(.d (i64 p2.X)), (.d (i64 p2.Y))])), ((5, u1), some (.box 2 [(.d (i64 p3))])), ((1000000, u7), some (.obj (T [(4, (.ptr (4, u1) 0)), (5, (.ptr (5, u1) 0)), (7, (.ptr (7, u4) 0)), (30, (.d (.fn (.func 86) [] [(.bp [(.list (List.map eSpot p1.Pts))] 0)])))]) { r1 with state := .busy }))]⟩) (sb_of ⟨.of rfl, .of rfl, .of rfl, trivial⟩ (sbG_some (G_skip rfl G_hit) (.of rfl) (sbG_oB (G_skip rfl (G_skip rfl G_hit)) (sbG_some (G_skip rfl (G_skip rfl (G_skip rfl G_hit))) (.of rfl) (sbG_some (G_skip rfl (G_skip rfl (G_skip rfl (G_skip rfl (G_skip rfl G_hit))))) (.of rfl) (sbG_some G_hit (.of rfl) (sbG_some (G_skip rfl (G_skip rfl (G_skip rfl (G_skip rfl (G_skip rfl (G_skip rfl G_hit)))))) (.of rfl) trivial))))))) ?_
          refine l_draw rfl fun u12 hu12 => ?_
          refine s_val (oS x1 (84, g2)) rfl (v_load rfl G_hit rfl) ?_
          refine s_val (.ptr _ _) rfl rfl ?_
          refine s_val (.d _) rfl (v_load rfl (G_skip rfl (G_skip rfl G_hit)) rfl) ?_
          refine s_val (.d _) rfl rfl ?_
          refine s_val (.ptr _ _) rfl rfl ?_
          refine s_val (.d _) rfl (v_load rfl (G_skip rfl (G_skip rfl G_hit)) rfl) ?_
          obtain ⟨v8, hv8, hz1⟩ := bind_some hz1
          refine s_call rfl rfl all2_refl (curve_floor_ok _ _  _ hv8) (.inl rfl) ?_
          refine s_val (.ptr _ _) rfl rfl ?_
          refine s_val (.d _) rfl (v_load rfl (G_skip rfl (G_skip rfl G_hit)) rfl) ?_
          refine s_val (.d _) rfl rfl ?_
          refine s_val (.d _) rfl rfl ?_
          refine s_val (.d _) rfl rfl ?_
          refine s_val (.d (.list (List.map eInt_i64 [(w64 (a1.2.start + (mm2 true 0 (mm2 false v8 a1.2.l))))]))) rfl rfl ?_
          obtain ⟨v9, hv9, hz1⟩ := bind_some hz1
          refine s_appendO eInt_i64 (84, g2) x1 (w64 (a1.2.start + (mm2 true 0 (mm2 false v8 a1.2.l)))) [] _ (elems_list (fun _ => rfl)) rfl (G_skip rfl G_hit) hv9 ?_
          refine s_store _ _ _ _ _ rfl rfl rfl (G_skip rfl (G_skip rfl G_hit)) (Nat.le_of_ble_eq_true rfl) [(.sl (84, u12))] rfl ?_
          refine s_nil ?_
          refine l_end ?_
          refine l_nil ?_
          obtain rfl := Option.some.inj hz1
          exact rnd_go (G_skip rfl (G_skip rfl (G_skip rfl (G_skip rfl (G_skip rfl (G_skip rfl (G_skip rfl (G_skip rfl G_hit)))))))) u12 (sbG_some (G_skip rfl (G_skip rfl (G_skip rfl (G_skip rfl (G_skip rfl (G_skip rfl G_hit)))))) (.of rfl) (sbG_some (G_skip rfl (G_skip rfl (G_skip rfl (G_skip rfl (G_skip rfl (G_skip rfl (G_skip rfl G_hit))))))) (.of rfl) (sbG_some G_hit (.box (.cons (.of (oS_ne (appc_ne hv9)).symm) .nil)) (sbG_own (G_skip rfl G_hit) trivial))))
      · rintro x1 g2 _ rfl qx1
        refine l_end (l_j ?_)
        exact ⟨g2, (Sb.after qx1 (sb_of ⟨.of rfl, trivial⟩ (sbG_some (G_skip rfl (G_skip rfl G_hit)) (.of rfl) (sbG_oB (G_skip rfl (G_skip rfl (G_skip rfl G_hit))) trivial))))⟩
    · rintro _ ⟨g1, q1⟩
      refine l_sub q1 ?_
      refine l_seq ?_
      refine l_reg fun u13 hu13 => ?_
      refine s_val (oS y1 (84, g1)) rfl (v_load rfl G_hit rfl) ?_
      refine s_val (oS y1 (84, g1)) rfl rfl ?_
      refine s_nil ?_
      refine l_ret ?_
      obtain rfl := Option.some.inj h
      refine fin_ok (.inr rfl) (resD1 (res_t rfl) (rf_oS (G_skip rfl G_hit))) ?_
      exact oD_le

noncomputable def curve_Holds_l1 (p2 : Int) (p3 : Spot) (x1 : Unit) (a1 : (Int × CurvePiece)) : Option (Stp Unit (Sum Unit Bool)) :=
  (curve_from a1.2.p p3).bind fun v4 => (curve_vector_dot a1.2.v v4).bind fun v5 => ((cond ((decide (v5 ≥ 0)) && (decide (v5 ≤ (w64 (a1.2.l * a1.2.l))))) (curve_vector_cross a1.2.v v4) (some default))).bind fun v6 => ((cond ((decide (v5 ≥ 0)) && (decide (v5 ≤ (w64 (a1.2.l * a1.2.l))))) (curve_abs v6) (some default))).bind fun v7 => cond (((decide (v5 ≥ 0)) && (decide (v5 ≤ (w64 (a1.2.l * a1.2.l))))) && (decide (v7 ≤ (w64 (p2 * a1.2.l))))) (some (.out (.inr true))) (some (.go ()))
noncomputable def curve_Holds (p1 : Curve) (p2 : Int) (p3 : Spot) : Option Bool :=
  (curve_Check p1).bind fun v1 => ((cond (!(((v1 != 0) || (decide (p2 < 0))) || (decide (p2 > 4000)))) (curve_fair [p3]) (some default))).bind fun v2 => cond ((((v1 != 0) || (decide (p2 < 0))) || (decide (p2 > 4000))) || (!v2)) (some false) (thenS ((piecesC p1.Pts).bind fun v3 => loopL (curve_Holds_l1 p2 p3) (fun (x1 : Unit) => .inl ()) v3 ()) (fun _ => some false) (fun r => some r))

/-- kerbstone/curve.Holds -/
def ac_curve_Holds : AC :=
  (.seq (.reg [⟨(some 3), .box 24 true (.t 0), none⟩, ⟨(some 4), .box 2 false (.t 1), none⟩, ⟨(some 5), .box 43 true (.t 2), none⟩, ⟨(some 6), .alloc 4 [(.v (.bool false))], none⟩])
  (.seq (.seq (.reg [⟨(some 11), .load 1 true (.t 3), none⟩, ⟨(some 12), .call (.c (.fn (.func 20) [] [])) [(.t 11)], none⟩, ⟨(some 13), .bin .neq (.t 12) (.c (.v (.int .i64 0))), none⟩, ⟨(some 14), .mv (.t 13), none⟩, ⟨(some 15), .load 1 false (.t 4), (some (14, false))⟩, ⟨(some 16), .bin .lss (.t 15) (.c (.v (.int .i64 0))), (some (14, false))⟩, ⟨(some 17), .pick (.t 14) (.c (.v (.bool true))) (.t 16), none⟩, ⟨(some 18), .mv (.t 17), none⟩, ⟨(some 19), .load 1 false (.t 4), (some (18, false))⟩, ⟨(some 20), .bin .gtr (.t 19) (.c (.v (.int .i64 4000))), (some (18, false))⟩, ⟨(some 21), .pick (.t 18) (.c (.v (.bool true))) (.t 20), none⟩, ⟨(some 22), .mv (.t 21), none⟩, ⟨(some 23), .load 2 true (.t 5), (some (22, false))⟩, ⟨(some 24), .dslice 43 2 1 [(.v (.int .i64 0)), (.v (.int .i64 0))] [(0, 2, (.t 23))], (some (22, false))⟩, ⟨(some 25), .call (.c (.fn (.func 59) [] [])) [(.t 24)], (some (22, false))⟩, ⟨(some 26), .un .not (.t 25), (some (22, false))⟩, ⟨(some 27), .pick (.t 22) (.c (.v (.bool true))) (.t 26), none⟩])
  (.cond (.t 27)
    (.seq (.reg [⟨none, .store 1 (.t 6) (.c (.v (.bool false))), none⟩])
    .ret)
    .skip))
  (.seq (.seq (.reg [⟨(some 28), .load 1 true (.t 3), none⟩, ⟨(some 29), .call (.c (.fn (.func 66) [] [])) [(.t 28)], none⟩])
  (.block 0
    (.rangeF (.t 29) [30, 31]
      (.reg [⟨(some 8), .alloc 89 [(.v (.int .i64 0)), (.v (.int .i64 0)), (.v (.int .i64 0)), (.v (.int .i64 0)), (.v (.int .i64 0)), (.v (.int .i64 0))], none⟩, ⟨none, .store 6 (.t 8) (.t 31), none⟩])
      (.block 1
        (.seq (.reg [⟨(some 32), .fieldA 0 (.t 8), none⟩, ⟨(some 33), .load 2 true (.t 32), none⟩, ⟨(some 34), .load 2 true (.t 5), none⟩, ⟨(some 35), .call (.c (.fn (.func 60) [] [])) [(.t 33), (.t 34)], none⟩, ⟨(some 9), .alloc 78 [(.v (.int .i64 0)), (.v (.int .i64 0))], none⟩, ⟨none, .store 2 (.t 9) (.t 35), none⟩])
        (.seq (.reg [⟨(some 36), .fieldA 2 (.t 8), none⟩, ⟨(some 37), .load 2 true (.t 36), none⟩, ⟨(some 38), .load 2 true (.t 9), none⟩, ⟨(some 39), .call (.c (.fn (.func 62) [] [])) [(.t 37), (.t 38)], none⟩, ⟨(some 10), .mv (.t 39), none⟩])
        (.seq (.draw [⟨(some 40), .mv (.t 10), none⟩, ⟨(some 41), .bin .geq (.t 40) (.c (.v (.int .i64 0))), none⟩, ⟨(some 42), .mv (.t 41), none⟩, ⟨(some 43), .mv (.t 10), (some (42, true))⟩, ⟨(some 44), .fieldA 4 (.t 8), (some (42, true))⟩, ⟨(some 45), .load 1 false (.t 44), (some (42, true))⟩, ⟨(some 46), .fieldA 4 (.t 8), (some (42, true))⟩, ⟨(some 47), .load 1 false (.t 46), (some (42, true))⟩, ⟨(some 48), .bin .mul (.t 45) (.t 47), (some (42, true))⟩, ⟨(some 49), .bin .leq (.t 43) (.t 48), (some (42, true))⟩, ⟨(some 50), .pick (.t 42) (.t 49) (.c (.v (.bool false))), none⟩, ⟨(some 51), .mv (.t 50), none⟩, ⟨(some 52), .fieldA 2 (.t 8), (some (51, true))⟩, ⟨(some 53), .load 2 true (.t 52), (some (51, true))⟩, ⟨(some 54), .load 2 true (.t 9), (some (51, true))⟩, ⟨(some 55), .call (.c (.fn (.func 73) [] [])) [(.t 53), (.t 54)], (some (51, true))⟩, ⟨(some 56), .call (.c (.fn (.func 72) [] [])) [(.t 55)], (some (51, true))⟩, ⟨(some 57), .load 1 false (.t 4), (some (51, true))⟩, ⟨(some 58), .fieldA 4 (.t 8), (some (51, true))⟩, ⟨(some 59), .load 1 false (.t 58), (some (51, true))⟩, ⟨(some 60), .bin .mul (.t 57) (.t 59), (some (51, true))⟩, ⟨(some 61), .bin .leq (.t 56) (.t 60), (some (51, true))⟩, ⟨(some 62), .pick (.t 51) (.t 61) (.c (.v (.bool false))), none⟩] [])
        (.cond (.t 62)
          (.seq (.reg [⟨none, .store 1 (.t 6) (.c (.v (.bool true))), none⟩])
          .ret)
          .skip))))))))
  (.seq (.reg [⟨none, .store 1 (.t 6) (.c (.v (.bool false))), none⟩])
  .ret))))
theorem fn_curve_Holds : FnOK Try.prog 38 63 [.cell 6 1 false] ac_curve_Holds := ⟨_, _, Try.func38, rfl, Try.ntmps38, by kernel_rfl, ⟨fun r => if r == 1 then [1013] else [], by kernel_rfl⟩, by kernel_rfl⟩
set_option maxHeartbeats 4000000 in
theorem curve_Holds_ok (p1 : Curve) (p2 : Int) (p3 : Spot) (r : Bool) (h : curve_Holds p1 p2 p3 = some r) : PCall Try.prog 38 [(.agg [(.list (List.map eSpot p1.Pts))]), (i64 p2), (.agg [(i64 p3.X), (i64 p3.Y)])] (bo r) := by
  refine l_call fn_curve_Holds (Nat.le_of_ble_eq_true rfl) ?_
  unfold curve_Holds at h
  unfold ac_curve_Holds
  refine (l_sub (s0 := ⟨T [(0, (.d (.agg [(.list (List.map eSpot p1.Pts))]))), (1, (.d (i64 p2))), (2, (.d (.agg [(i64 p3.X), (i64 p3.Y)])))], G []⟩) (sb_of ⟨.of rfl, .of rfl, .of rfl, trivial⟩ trivial) ?_)
  refine l_seq ?_
  refine l_reg fun u1 hu1 => ?_
  refine s_new (.ptr _ _) (.box _ _) rfl rfl ?_
  refine s_new (.ptr _ _) (.box _ _) rfl rfl ?_
  refine s_new (.ptr _ _) (.box _ _) rfl rfl ?_
  refine s_new (.ptr _ _) (.box _ _) rfl rfl ?_
  refine s_nil ?_
  refine l_seq ?_
  refine l_seq ?_
  refine l_reg fun u2 hu2 => ?_
  refine s_val (.d _) rfl (v_loadG rfl (G_skip rfl (G_skip rfl (G_skip rfl G_hit))) rfl rfl) ?_
  obtain ⟨v1, hv1, h⟩ := bind_some h
  refine s_call rfl rfl all2_refl (curve_Check_ok _  _ hv1) (.inl rfl) ?_
  refine s_val (.d _) rfl rfl ?_
  refine s_val (.d _) rfl rfl ?_
  refine g_val (!(v1 != 0)) (.d _) rfl (gw_f rfl) (fun w1 => (v_load rfl (G_skip rfl (G_skip rfl G_hit)) rfl)) ?_
  refine g_val (!(v1 != 0)) (.d _) rfl (gw_f rfl) (fun w2 => (v_bin (gd_pos w2) rfl rfl)) ?_
  refine s_val (.d _) rfl (v_or rfl rfl (fun hc => gd_pos (not_t hc))) ?_
  refine s_val (.d _) rfl rfl ?_
  refine g_val (!((v1 != 0) || (decide (p2 < 0)))) (.d _) rfl (gw_f rfl) (fun w3 => (v_load rfl (G_skip rfl (G_skip rfl G_hit)) rfl)) ?_
  refine g_val (!((v1 != 0) || (decide (p2 < 0)))) (.d _) rfl (gw_f rfl) (fun w4 => (v_bin (gd_pos w4) rfl rfl)) ?_
  refine s_val (.d _) rfl (v_or rfl rfl (fun hc => gd_pos (not_t hc))) ?_
  refine s_val (.d _) rfl rfl ?_
  refine g_val (!(((v1 != 0) || (decide (p2 < 0))) || (decide (p2 > 4000)))) (.d _) rfl (gw_f rfl) (fun w5 => (v_loadG rfl (G_skip rfl G_hit) rfl rfl)) ?_
  refine g_val (!(((v1 != 0) || (decide (p2 < 0))) || (decide (p2 > 4000)))) (.d (.list (List.map eSpot [p3]))) rfl (gw_f rfl) (fun w6 => (by simp only [gd_pos w6]; rfl)) ?_
  obtain ⟨v2, hv2, h⟩ := bind_some h
  refine g_call (!(((v1 != 0) || (decide (p2 < 0))) || (decide (p2 > 4000)))) (bo v2) (gw_f rfl) (fun w7 => ⟨_, [(.d (.list (List.map eSpot [p3])))], _, _, (by simp only [gd_pos w7]; rfl), rfl, all2_refl, curve_fair_ok _  _ (cond_t w7 hv2), (.inl rfl)⟩) ?_
  refine g_val (!(((v1 != 0) || (decide (p2 < 0))) || (decide (p2 > 4000)))) (.d _) rfl (gw_f rfl) (fun w8 => (by simp only [gd_pos w8]; rfl)) ?_
  refine s_val (.d _) rfl (v_or rfl rfl (fun hc => gd_pos (not_t hc))) ?_
  refine s_nil ?_
  refine l_cond ((((v1 != 0) || (decide (p2 < 0))) || (decide (p2 > 4000))) || (!v2)) rfl (fun c1 => ?_) (fun c1 => ?_)
  · replace h := cond_t c1 h
    refine l_seq ?_
    refine l_sub (s0 := ⟨T [(6, (.ptr (6, u1) 0))], G [((6, u1), some (.box 4 [(.d (bo false))]))]⟩) (sb_of ⟨.of rfl, trivial⟩ (sbG_some G_hit (.of rfl) trivial)) ?_
    refine l_reg fun u3 hu3 => ?_
    refine s_store _ _ _ _ _ rfl rfl rfl G_hit (Nat.le_of_ble_eq_true rfl) [(.d (bo false))] rfl ?_
    refine s_nil ?_
    refine l_ret ?_
    obtain rfl := Option.some.inj h
    refine fin_ok (.inr rfl) (resD1 (res_cell rfl G_hit rfl) rf_d) ?_
    exact (.refl _)
  · replace h := cond_f c1 h
    refine l_skip ?_
    refine l_seq ?_
    refine l_seq ?_
    refine l_sub (s0 := ⟨T [(3, (.ptr (3, u1) 0)), (4, (.ptr (4, u1) 0)), (5, (.ptr (5, u1) 0)), (6, (.ptr (6, u1) 0))], G [((3, u1), some (.box 24 [(.d (.list (List.map eSpot p1.Pts)))])), ((4, u1), some (.box 2 [(.d (i64 p2))])), ((5, u1), some (.box 43 [(.d (i64 p3.X)), (.d (i64 p3.Y))])), ((6, u1), some (.box 4 [(.d (bo false))]))]⟩) (sb_of ⟨.of rfl, .of rfl, .of rfl, .of rfl, trivial⟩ (sbG_some (G_skip rfl (G_skip rfl (G_skip rfl G_hit))) (.of rfl) (sbG_some (G_skip rfl (G_skip rfl G_hit)) (.of rfl) (sbG_some (G_skip rfl G_hit) (.of rfl) (sbG_some G_hit (.of rfl) trivial))))) ?_
    refine l_reg fun u4 hu4 => ?_
    refine s_val (.d _) rfl (v_loadG rfl G_hit rfl rfl) ?_
    refine s_call rfl rfl all2_refl (pieces_clos p1) (.inl rfl) ?_
    refine s_nil ?_
    obtain ⟨z1, hz1, h⟩ := thenS_some h
    refine l_join (fun s => ∃ (y1 : Unit) (g1 : Unit), z1 = .inl y1 ∧ Sb ⟨T [(6, (.ptr (6, u1) 0))], G [((6, u1), some (.box 4 [(.d (bo false))]))]⟩ s) ?_ ?_
    · skip
      refine l_block ?_
      obtain ⟨v3, hv3, hz1⟩ := bind_some hz1
      refine l_sub (s0 := ⟨T [(4, (.ptr (4, u1) 0)), (5, (.ptr (5, u1) 0)), (6, (.ptr (6, u1) 0)), (29, (.d (.fn (.func 86) [] [(.bp [(.list (List.map eSpot p1.Pts))] 0)])))], G [((4, u1), some (.box 2 [(.d (i64 p2))])), ((5, u1), some (.box 43 [(.d (i64 p3.X)), (.d (i64 p3.Y))])), ((6, u1), some (.box 4 [(.d (bo false))]))]⟩) (sb_of ⟨.of rfl, .of rfl, .of rfl, .of rfl, trivial⟩ (sbG_some (G_skip rfl G_hit) (.of rfl) (sbG_some (G_skip rfl (G_skip rfl G_hit)) (.of rfl) (sbG_some (G_skip rfl (G_skip rfl (G_skip rfl G_hit))) (.of rfl) trivial)))) ?_
      refine l_rangeL (.fn (.func 86) [] [(.bp [(.list (List.map eSpot p1.Pts))] 0)]) ePiece v3 (curve_Holds_l1 p2 p3) (fun (x1 : Unit) => (.inl () : Sum Unit Bool)) (fun (x1 : Unit) (g2 : Unit) => [((4, u1), some (.box 2 [(.d (i64 p2))])), ((5, u1), some (.box 43 [(.d (i64 p3.X)), (.d (i64 p3.Y))])), ((6, u1), some (.box 4 [(.d (bo false))]))]) () () _ rfl (pieces_iter hv3) (fun _ => rfl) hz1 (sb_of trivial (sbG_some G_hit (.of rfl) (sbG_some (G_skip rfl G_hit) (.of rfl) (sbG_some (G_skip rfl (G_skip rfl G_hit)) (.of rfl) trivial)))) nofun ?_ ?_
      · intro u6 hu6 hku6
        refine ⟨fun x1 g2 => (G_skip rfl (G_skip rfl (G_skip rfl rfl))), ?_⟩
        intro r1 x1 g2 a1 z2 hrr1 hz2 ez2
        unfold curve_Holds_l1 at hz2
        show AWL _ _ _ _ _ _ ⟨T [(31, (.d (.agg [(i64 a1.2.p.X), (i64 a1.2.p.Y), (i64 a1.2.v.x), (i64 a1.2.v.y), (i64 a1.2.l), (i64 a1.2.start)]))), (30, (.d (i64 a1.1))), (4, (.ptr (4, u1) 0)), (5, (.ptr (5, u1) 0)), (6, (.ptr (6, u1) 0)), (29, (.d (.fn (.func 86) [] [(.bp [(.list (List.map eSpot p1.Pts))] 0)])))], G [((1000000, u6), some (.obj (T [(4, (.ptr (4, u1) 0)), (5, (.ptr (5, u1) 0)), (6, (.ptr (6, u1) 0)), (29, (.d (.fn (.func 86) [] [(.bp [(.list (List.map eSpot p1.Pts))] 0)])))]) r1)), ((4, u1), some (.box 2 [(.d (i64 p2))])), ((5, u1), some (.box 43 [(.d (i64 p3.X)), (.d (i64 p3.Y))])), ((6, u1), some (.box 4 [(.d (bo false))]))]⟩
        refine l_reg fun u7 hu7 => ?_
        refine s_new (.ptr _ _) (.box _ _) rfl rfl ?_
        refine s_store _ _ _ _ _ rfl rfl rfl G_hit (Nat.le_of_ble_eq_true rfl) [(.d (i64 a1.2.p.X)), (.d (i64 a1.2.p.Y)), (.d (i64 a1.2.v.x)), (.d (i64 a1.2.v.y)), (.d (i64 a1.2.l)), (.d (i64 a1.2.start))] rfl ?_
        refine s_nil ?_
        refine l_j (mid_ok (G_skip rfl (G_skip rfl G_hit)) ?_)
        refine l_block ?_
        refine l_seq ?_
        refine l_reg fun u8 hu8 => ?_
        refine s_val (.ptr _ _) rfl rfl ?_
        refine s_val (.d _) rfl (v_loadG rfl (G_skip rfl G_hit) rfl rfl) ?_
        refine s_val (.d _) rfl (v_loadG rfl (G_skip rfl (G_skip rfl (G_skip rfl (G_skip rfl (G_skip rfl G_hit))))) rfl rfl) ?_
        obtain ⟨v4, hv4, hz2⟩ := bind_some hz2
        refine s_call rfl rfl all2_refl (curve_from_ok _ _  _ hv4) (.inl rfl) ?_
        refine s_new (.ptr _ _) (.box _ _) rfl rfl ?_
        refine s_store _ _ _ _ _ rfl rfl rfl G_hit (Nat.le_of_ble_eq_true rfl) [(.d (i64 v4.x)), (.d (i64 v4.y))] rfl ?_
        refine s_nil ?_
        refine l_seq ?_
        refine l_reg fun u9 hu9 => ?_
        refine s_val (.ptr _ _) rfl rfl ?_
        refine s_val (.d _) rfl (v_loadG rfl (G_skip rfl (G_skip rfl (G_skip rfl G_hit))) rfl rfl) ?_
        refine s_val (.d _) rfl (v_loadG rfl G_hit rfl rfl) ?_
        obtain ⟨v5, hv5, hz2⟩ := bind_some hz2
        refine s_call rfl rfl all2_refl (curve_vector_dot_ok _ _  _ hv5) (.inl rfl) ?_
        refine s_val (.d _) rfl rfl ?_
        refine s_nil ?_
        refine l_seq ?_
        refine l_sub (s0 := ⟨T [(4, (.ptr (4, u1) 0)), (6, (.ptr (6, u1) 0)), (8, (.ptr (8, u7) 0)), (9, (.ptr (9, u8) 0)), (10, (.d (i64 v5)))], G [((4, u1), some (.box 2 [(.d (i64 p2))])), ((6, u1), some (.box 4 [(.d (bo false))])), ((8, u7), some (.box 89 [(.d (i64 a1.2.p.X)), (.d (i64 a1.2.p.Y)), (.d (i64 a1.2.v.x)), (.d (i64 a1.2.v.y)), (.d (i64 a1.2.l)), (.d (i64 a1.2.start))])), ((9, u8), some (.box 78 [(.d (i64 v4.x)), (.d (i64 v4.y))])), ((5, u1), some (.box 43 [(.d (i64 p3.X)), (.d (i64 p3.Y))])), ((1000000, u6), some (.obj (T [(4, (.ptr (4, u1) 0)), (5, (.ptr (5, u1) 0)), (6, (.ptr (6, u1) 0)), (29, (.d (.fn (.func 86) [] [(.bp [(.list (List.map eSpot p1.Pts))] 0)])))]) { r1 with state := .busy }))]⟩) (sb_of ⟨.of rfl, .of rfl, .of rfl, .of rfl, .of rfl, trivial⟩ (sbG_some (G_skip rfl (G_skip rfl (G_skip rfl (G_skip rfl (G_skip rfl (G_skip rfl G_hit)))))) (.of rfl) (sbG_some (G_skip rfl (G_skip rfl (G_skip rfl (G_skip rfl (G_skip rfl (G_skip rfl (G_skip rfl (G_skip rfl G_hit)))))))) (.of rfl) (sbG_some (G_skip rfl (G_skip rfl (G_skip rfl G_hit))) (.of rfl) (sbG_some G_hit (.of rfl) (sbG_some (G_skip rfl (G_skip rfl (G_skip rfl (G_skip rfl (G_skip rfl (G_skip rfl (G_skip rfl G_hit))))))) (.of rfl) (sbG_some (G_skip rfl (G_skip rfl G_hit)) (.of rfl) trivial))))))) ?_
        refine l_draw rfl fun u10 hu10 => ?_
        refine s_val (.d _) rfl rfl ?_
        refine s_val (.d _) rfl rfl ?_
        refine s_val (.d _) rfl rfl ?_
        refine g_val (decide (v5 ≥ 0)) (.d _) rfl (gw_t rfl) (fun w9 => rfl) ?_
        refine g_val (decide (v5 ≥ 0)) (.ptr _ _) rfl (gw_t rfl) (fun w10 => rfl) ?_
        refine g_val (decide (v5 ≥ 0)) (.d _) rfl (gw_t rfl) (fun w11 => (v_load (gd_pos w11) (G_skip rfl (G_skip rfl G_hit)) rfl)) ?_
        refine g_val (decide (v5 ≥ 0)) (.ptr _ _) rfl (gw_t rfl) (fun w12 => rfl) ?_
        refine g_val (decide (v5 ≥ 0)) (.d _) rfl (gw_t rfl) (fun w13 => (v_load (gd_pos w13) (G_skip rfl (G_skip rfl G_hit)) rfl)) ?_
        refine g_val (decide (v5 ≥ 0)) (.d _) rfl (gw_t rfl) (fun w14 => (v_bin (gd_pos w14) (gd_pos w14) rfl)) ?_
        refine g_val (decide (v5 ≥ 0)) (.d _) rfl (gw_t rfl) (fun w15 => (v_bin (gd_pos w15) (gd_pos w15) rfl)) ?_
        refine s_val (.d _) rfl (v_and rfl (fun hc => gd_pos hc) rfl) ?_
        refine s_val (.d _) rfl rfl ?_
        refine g_val ((decide (v5 ≥ 0)) && (decide (v5 ≤ (w64 (a1.2.l * a1.2.l))))) (.ptr _ _) rfl (gw_t rfl) (fun w16 => rfl) ?_
        refine g_val ((decide (v5 ≥ 0)) && (decide (v5 ≤ (w64 (a1.2.l * a1.2.l))))) (.d _) rfl (gw_t rfl) (fun w17 => (v_loadG (gd_pos w17) (G_skip rfl (G_skip rfl G_hit)) rfl rfl)) ?_
        refine g_val ((decide (v5 ≥ 0)) && (decide (v5 ≤ (w64 (a1.2.l * a1.2.l))))) (.d _) rfl (gw_t rfl) (fun w18 => (v_loadG rfl (G_skip rfl (G_skip rfl (G_skip rfl G_hit))) rfl rfl)) ?_
        obtain ⟨v6, hv6, hz2⟩ := bind_some hz2
        refine g_call ((decide (v5 ≥ 0)) && (decide (v5 ≤ (w64 (a1.2.l * a1.2.l))))) (i64 v6) (gw_t rfl) (fun w19 => ⟨_, [(.d (.agg [(i64 a1.2.v.x), (i64 a1.2.v.y)])), (.d (.agg [(i64 v4.x), (i64 v4.y)]))], _, _, (by simp only [gd_pos w19]; rfl), rfl, all2_refl, curve_vector_cross_ok _ _  _ (cond_t w19 hv6), (.inl rfl)⟩) ?_
        obtain ⟨v7, hv7, hz2⟩ := bind_some hz2
        refine g_call ((decide (v5 ≥ 0)) && (decide (v5 ≤ (w64 (a1.2.l * a1.2.l))))) (i64 v7) (gw_t rfl) (fun w20 => ⟨_, [(.d (i64 v6))], _, _, (by simp only [gd_pos w20]; rfl), rfl, all2_refl, curve_abs_ok _  _ (cond_t w20 hv7), (.inl rfl)⟩) ?_
        refine g_val ((decide (v5 ≥ 0)) && (decide (v5 ≤ (w64 (a1.2.l * a1.2.l))))) (.d _) rfl (gw_t rfl) (fun w21 => (v_load rfl G_hit rfl)) ?_
        refine g_val ((decide (v5 ≥ 0)) && (decide (v5 ≤ (w64 (a1.2.l * a1.2.l))))) (.ptr _ _) rfl (gw_t rfl) (fun w22 => rfl) ?_
        refine g_val ((decide (v5 ≥ 0)) && (decide (v5 ≤ (w64 (a1.2.l * a1.2.l))))) (.d _) rfl (gw_t rfl) (fun w23 => (v_load (gd_pos w23) (G_skip rfl (G_skip rfl G_hit)) rfl)) ?_
        refine g_val ((decide (v5 ≥ 0)) && (decide (v5 ≤ (w64 (a1.2.l * a1.2.l))))) (.d _) rfl (gw_t rfl) (fun w24 => (v_bin (gd_pos w24) (gd_pos w24) rfl)) ?_
        refine g_val ((decide (v5 ≥ 0)) && (decide (v5 ≤ (w64 (a1.2.l * a1.2.l))))) (.d _) rfl (gw_t rfl) (fun w25 => (v_bin (gd_pos w25) (gd_pos w25) rfl)) ?_
        refine s_val (.d _) rfl (v_and rfl (fun hc => gd_pos hc) rfl) ?_
        refine s_nil ?_
        refine l_cond (((decide (v5 ≥ 0)) && (decide (v5 ≤ (w64 (a1.2.l * a1.2.l))))) && (decide (v7 ≤ (w64 (p2 * a1.2.l))))) rfl (fun c2 => ?_) (fun c2 => ?_)
        · replace hz2 := cond_t c2 hz2
          refine l_seq ?_
          refine l_sub (s0 := ⟨T [(6, (.ptr (6, u1) 0))], G [((6, u1), some (.box 4 [(.d (bo false))])), ((4, u1), some (.box 2 [(.d (i64 p2))])), ((5, u1), some (.box 43 [(.d (i64 p3.X)), (.d (i64 p3.Y))])), ((1000000, u6), some (.obj (T [(4, (.ptr (4, u1) 0)), (5, (.ptr (5, u1) 0)), (6, (.ptr (6, u1) 0)), (29, (.d (.fn (.func 86) [] [(.bp [(.list (List.map eSpot p1.Pts))] 0)])))]) { r1 with state := .busy }))]⟩) (sb_of ⟨.of rfl, trivial⟩ (sbG_some (G_skip rfl G_hit) (.of rfl) (sbG_some G_hit (.of rfl) (sbG_some (G_skip rfl (G_skip rfl (G_skip rfl (G_skip rfl G_hit)))) (.of rfl) (sbG_some (G_skip rfl (G_skip rfl (G_skip rfl (G_skip rfl (G_skip rfl G_hit))))) (.of rfl) trivial))))) ?_
          refine l_reg fun u11 hu11 => ?_
          refine s_store _ _ _ _ _ rfl rfl rfl G_hit (Nat.le_of_ble_eq_true rfl) [(.d (bo true))] rfl ?_
          refine s_nil ?_
          refine l_ret ?_
          obtain rfl := Option.some.inj hz2
          obtain rfl := ez2 _ rfl
          refine rnd_out (G_skip rfl (G_skip rfl (G_skip rfl (G_skip rfl G_hit)))) nofun (awl_ret ?_)
          rw [Sum.elim_inr] at h
          obtain rfl := Option.some.inj h
          refine fin_ok (.inr rfl) (resD1 (res_cell rfl (G_skip rfl G_hit) rfl) rf_d) ?_
          exact (.refl _)
        · replace hz2 := cond_f c2 hz2
          refine l_skip ?_
          refine l_end ?_
          refine l_nil ?_
          obtain rfl := Option.some.inj hz2
          exact rnd_go (G_skip rfl (G_skip rfl (G_skip rfl (G_skip rfl (G_skip rfl G_hit))))) () (sbG_some G_hit (.of rfl) (sbG_some (G_skip rfl (G_skip rfl (G_skip rfl (G_skip rfl G_hit)))) (.of rfl) (sbG_some (G_skip rfl G_hit) (.of rfl) trivial)))
      · rintro x1 g2 _ rfl qx1
        refine l_end (l_j ?_)
        exact ⟨_, (), rfl, (Sb.after qx1 (sb_of ⟨.of rfl, trivial⟩ (sbG_some (G_skip rfl (G_skip rfl G_hit)) (.of rfl) trivial)))⟩
    · rintro _ ⟨y1, g1, rfl, q1⟩
      rw [Sum.elim_inl] at h
      refine l_sub q1 ?_
      refine l_seq ?_
      refine l_reg fun u12 hu12 => ?_
      refine s_store _ _ _ _ _ rfl rfl rfl G_hit (Nat.le_of_ble_eq_true rfl) [(.d (bo false))] rfl ?_
      refine s_nil ?_
      refine l_ret ?_
      obtain rfl := Option.some.inj h
      refine fin_ok (.inr rfl) (resD1 (res_cell rfl G_hit rfl) rf_d) ?_
      exact (.refl _)

noncomputable def curve_vector_left (p1 : CurveVector) : Option CurveVector :=
  some (CurveVector.mk (w64 (0 - p1.y)) p1.x)

/-- (kerbstone/curve.vector).left -/
def ac_curve_vector_left : AC :=
  (.seq (.reg [⟨(some 1), .box 78 true (.t 0), none⟩, ⟨(some 2), .alloc 78 [(.v (.int .i64 0)), (.v (.int .i64 0))], none⟩])
  (.seq (.reg [⟨(some 3), .fieldA 1 (.t 1), none⟩, ⟨(some 4), .load 1 false (.t 3), none⟩, ⟨(some 5), .un .neg (.t 4), none⟩, ⟨(some 6), .fieldA 0 (.t 1), none⟩, ⟨(some 7), .load 1 false (.t 6), none⟩, ⟨(some 8), .build [(.v (.int .i64 0)), (.v (.int .i64 0))] [(0, 1, (.t 5)), (1, 1, (.t 7))], none⟩, ⟨none, .store 2 (.t 2) (.t 8), none⟩])
  .ret))
theorem fn_curve_vector_left : FnOK Try.prog 89 9 [.cell 2 2 true] ac_curve_vector_left := ⟨_, _, Try.func89, rfl, Try.ntmps89, by kernel_rfl, ⟨fun _ => [], by kernel_rfl⟩, by kernel_rfl⟩
theorem curve_vector_left_ok (p1 : CurveVector) (r : CurveVector) (h : curve_vector_left p1 = some r) : PCall Try.prog 89 [(.agg [(i64 p1.x), (i64 p1.y)])] (.agg [(i64 r.x), (i64 r.y)]) := by
  refine l_call fn_curve_vector_left (Nat.le_of_ble_eq_true rfl) ?_
  unfold curve_vector_left at h
  unfold ac_curve_vector_left
  refine (l_sub (s0 := ⟨T [(0, (.d (.agg [(i64 p1.x), (i64 p1.y)])))], G []⟩) (sb_of ⟨.of rfl, trivial⟩ trivial) ?_)
  refine l_seq ?_
  refine l_reg fun u1 hu1 => ?_
  refine s_new (.ptr _ _) (.box _ _) rfl rfl ?_
  refine s_new (.ptr _ _) (.box _ _) rfl rfl ?_
  refine s_nil ?_
  refine l_seq ?_
  refine l_reg fun u2 hu2 => ?_
  refine s_val (.ptr _ _) rfl rfl ?_
  refine s_val (.d _) rfl (v_load rfl (G_skip rfl G_hit) rfl) ?_
  refine s_val (.d _) rfl rfl ?_
  refine s_val (.ptr _ _) rfl rfl ?_
  refine s_val (.d _) rfl (v_load rfl (G_skip rfl G_hit) rfl) ?_
  refine s_val (.d _) rfl rfl ?_
  refine s_store _ _ _ _ _ rfl rfl rfl G_hit (Nat.le_of_ble_eq_true rfl) [(.d (i64 (w64 (0 - p1.y)))), (.d (i64 p1.x))] rfl ?_
  refine s_nil ?_
  refine l_ret ?_
  obtain rfl := Option.some.inj h
  refine fin_ok (.inr rfl) (resD1 (res_cellG rfl G_hit (Nat.le_of_ble_eq_true rfl) rfl) rf_d) ?_
  exact (.refl _)

noncomputable def curve_corridor_apart (p1 : CurveCorridor) (p2 : CurveCorridor) : Option Bool :=
  (curve_from p1.piece.p p2.piece.p).bind fun v1 => (curve_vector_left p1.piece.v).bind fun v2 => thenS ((curve_vector_dot p2.piece.v p1.piece.v).bind fun v3 => (curve_vector_dot p2.piece.v p1.piece.v).bind fun v4 => (curve_vector_left p2.piece.v).bind fun v5 => (curve_vector_dot v5 p1.piece.v).bind fun v6 => (curve_abs v6).bind fun v7 => (curve_vector_dot v1 p1.piece.v).bind fun v8 => (curve_floor (w64 ((w64 (p2.half * v7)) - (mm2 false (w64 (p2.ends.1 * v3)) (w64 (p2.ends.2 * v4))))) p2.piece.l).bind fun v9 => (curve_floor (w64 ((mm2 true (w64 (p2.ends.1 * v3)) (w64 (p2.ends.2 * v4))) + (w64 (p2.half * v7)))) p2.piece.l).bind fun v10 => cond ((decide ((w64 (v8 + (w64 (0 - v9)))) > (w64 (p1.ends.2 * p1.piece.l)))) || (decide ((w64 (v8 + v10)) < (w64 (p1.ends.1 * p1.piece.l))))) (some (.inr true)) ((curve_vector_dot p2.piece.v v2).bind fun v11 => (curve_vector_dot p2.piece.v v2).bind fun v12 => (curve_vector_left p2.piece.v).bind fun v13 => (curve_vector_dot v13 v2).bind fun v14 => (curve_abs v14).bind fun v15 => (curve_vector_dot v1 v2).bind fun v16 => (curve_floor (w64 ((w64 (p2.half * v15)) - (mm2 false (w64 (p2.ends.1 * v11)) (w64 (p2.ends.2 * v12))))) p2.piece.l).bind fun v17 => (curve_floor (w64 ((mm2 true (w64 (p2.ends.1 * v11)) (w64 (p2.ends.2 * v12))) + (w64 (p2.half * v15)))) p2.piece.l).bind fun v18 => cond ((decide ((w64 (v16 + (w64 (0 - v17)))) > (w64 (p1.half * p1.piece.l)))) || (decide ((w64 (v16 + v18)) < (w64 ((w64 (0 - p1.half)) * p1.piece.l))))) (some (.inr true)) (some (.inl ())))) (fun _ => some false) (fun r => some r)

/-- (kerbstone/curve.corridor).apart -/
def ac_curve_corridor_apart : AC :=
  (.seq (.reg [⟨(some 2), .box 102 true (.t 0), none⟩, ⟨(some 3), .box 102 true (.t 1), none⟩, ⟨(some 4), .mv (.c (.v (.bool false))), none⟩])
  (.seq (.reg [⟨(some 16), .fieldA 0 (.t 2), none⟩, ⟨(some 17), .fieldA 0 (.t 16), none⟩, ⟨(some 18), .load 2 true (.t 17), none⟩, ⟨(some 19), .fieldA 0 (.t 3), none⟩, ⟨(some 20), .fieldA 0 (.t 19), none⟩, ⟨(some 21), .load 2 true (.t 20), none⟩, ⟨(some 22), .call (.c (.fn (.func 60) [] [])) [(.t 18), (.t 21)], none⟩, ⟨(some 5), .alloc 78 [(.v (.int .i64 0)), (.v (.int .i64 0))], none⟩, ⟨none, .store 2 (.t 5) (.t 22), none⟩])
  (.seq (.draw [⟨(some 23), .fieldA 0 (.t 2), none⟩, ⟨(some 24), .fieldA 2 (.t 23), none⟩, ⟨(some 25), .load 2 true (.t 24), none⟩, ⟨(some 26), .fieldA 0 (.t 2), none⟩, ⟨(some 27), .fieldA 2 (.t 26), none⟩, ⟨(some 28), .load 2 true (.t 27), none⟩, ⟨(some 29), .call (.c (.fn (.func 89) [] [])) [(.t 28)], none⟩, ⟨(some 30), .build [(.v (.int .i64 0)), (.v (.int .i64 0)), (.v (.int .i64 0)), (.v (.int .i64 0))] [(0, 2, (.t 25)), (2, 2, (.t 29))], none⟩, ⟨(some 6), .alloc 116 [(.v (.int .i64 0)), (.v (.int .i64 0)), (.v (.int .i64 0)), (.v (.int .i64 0))], none⟩, ⟨none, .store 4 (.t 6) (.t 30), none⟩] [])
  (.seq (.reg [⟨(some 31), .fieldA 7 (.t 2), none⟩, ⟨(some 32), .idxP 2 1 (.t 31) (.c (.v (.int .i64 0))), none⟩, ⟨(some 33), .load 1 false (.t 32), none⟩, ⟨(some 34), .fieldA 0 (.t 2), none⟩, ⟨(some 35), .fieldA 4 (.t 34), none⟩, ⟨(some 36), .load 1 false (.t 35), none⟩, ⟨(some 37), .bin .mul (.t 33) (.t 36), none⟩, ⟨(some 38), .fieldA 6 (.t 2), none⟩, ⟨(some 39), .load 1 false (.t 38), none⟩, ⟨(some 40), .un .neg (.t 39), none⟩, ⟨(some 41), .fieldA 0 (.t 2), none⟩, ⟨(some 42), .fieldA 4 (.t 41), none⟩, ⟨(some 43), .load 1 false (.t 42), none⟩, ⟨(some 44), .bin .mul (.t 40) (.t 43), none⟩, ⟨(some 45), .build [(.v (.int .i64 0)), (.v (.int .i64 0))] [(0, 1, (.t 37)), (1, 1, (.t 44))], none⟩, ⟨(some 7), .alloc 100 [(.v (.int .i64 0)), (.v (.int .i64 0))], none⟩, ⟨none, .store 2 (.t 7) (.t 45), none⟩])
  (.seq (.reg [⟨(some 46), .fieldA 7 (.t 2), none⟩, ⟨(some 47), .idxP 2 1 (.t 46) (.c (.v (.int .i64 1))), none⟩, ⟨(some 48), .load 1 false (.t 47), none⟩, ⟨(some 49), .fieldA 0 (.t 2), none⟩, ⟨(some 50), .fieldA 4 (.t 49), none⟩, ⟨(some 51), .load 1 false (.t 50), none⟩, ⟨(some 52), .bin .mul (.t 48) (.t 51), none⟩, ⟨(some 53), .fieldA 6 (.t 2), none⟩, ⟨(some 54), .load 1 false (.t 53), none⟩, ⟨(some 55), .fieldA 0 (.t 2), none⟩, ⟨(some 56), .fieldA 4 (.t 55), none⟩, ⟨(some 57), .load 1 false (.t 56), none⟩, ⟨(some 58), .bin .mul (.t 54) (.t 57), none⟩, ⟨(some 59), .build [(.v (.int .i64 0)), (.v (.int .i64 0))] [(0, 1, (.t 52)), (1, 1, (.t 58))], none⟩, ⟨(some 8), .alloc 100 [(.v (.int .i64 0)), (.v (.int .i64 0))], none⟩, ⟨none, .store 2 (.t 8) (.t 59), none⟩])
  (.seq (.seq (.reg [⟨(some 60), .load 4 true (.t 6), none⟩, ⟨(some 61), .mv (.c (.v (.int .i64 0))), none⟩])
  (.block 0
    (.loop
      (.seq (.reg [⟨(some 62), .bin .lss (.t 61) (.c (.v (.int .i64 2))), none⟩])
      (.seq (.cond (.t 62)
        .skip
        (.exit 0))
      (.seq (.block 1
        (.seq (.reg [⟨(some 63), .mv (.t 61), none⟩, ⟨(some 64), .idxA 2 2 true (.t 60) (.t 61), none⟩, ⟨(some 10), .alloc 78 [(.v (.int .i64 0)), (.v (.int .i64 0))], none⟩, ⟨(some 9), .mv (.t 63), none⟩, ⟨none, .store 2 (.t 10) (.t 64), none⟩])
        (.seq (.draw [⟨(some 65), .fieldA 7 (.t 3), none⟩, ⟨(some 66), .idxP 2 1 (.t 65) (.c (.v (.int .i64 0))), none⟩, ⟨(some 67), .load 1 false (.t 66), none⟩, ⟨(some 68), .fieldA 0 (.t 3), none⟩, ⟨(some 69), .fieldA 2 (.t 68), none⟩, ⟨(some 70), .load 2 true (.t 69), none⟩, ⟨(some 71), .load 2 true (.t 10), none⟩, ⟨(some 72), .call (.c (.fn (.func 62) [] [])) [(.t 70), (.t 71)], none⟩, ⟨(some 73), .bin .mul (.t 67) (.t 72), none⟩, ⟨(some 74), .fieldA 7 (.t 3), none⟩, ⟨(some 75), .idxP 2 1 (.t 74) (.c (.v (.int .i64 1))), none⟩, ⟨(some 76), .load 1 false (.t 75), none⟩, ⟨(some 77), .fieldA 0 (.t 3), none⟩, ⟨(some 78), .fieldA 2 (.t 77), none⟩, ⟨(some 79), .load 2 true (.t 78), none⟩, ⟨(some 80), .load 2 true (.t 10), none⟩, ⟨(some 81), .call (.c (.fn (.func 62) [] [])) [(.t 79), (.t 80)], none⟩, ⟨(some 82), .bin .mul (.t 76) (.t 81), none⟩, ⟨(some 83), .build [(.v (.int .i64 0)), (.v (.int .i64 0))] [(0, 1, (.t 73)), (1, 1, (.t 82))], none⟩, ⟨(some 11), .alloc 100 [(.v (.int .i64 0)), (.v (.int .i64 0))], none⟩, ⟨none, .store 2 (.t 11) (.t 83), none⟩] [])
        (.seq (.draw [⟨(some 84), .fieldA 6 (.t 3), none⟩, ⟨(some 85), .load 1 false (.t 84), none⟩, ⟨(some 86), .fieldA 0 (.t 3), none⟩, ⟨(some 87), .fieldA 2 (.t 86), none⟩, ⟨(some 88), .load 2 true (.t 87), none⟩, ⟨(some 89), .call (.c (.fn (.func 89) [] [])) [(.t 88)], none⟩, ⟨(some 90), .load 2 true (.t 10), none⟩, ⟨(some 91), .call (.c (.fn (.func 62) [] [])) [(.t 89), (.t 90)], none⟩, ⟨(some 92), .call (.c (.fn (.func 72) [] [])) [(.t 91)], none⟩, ⟨(some 93), .bin .mul (.t 85) (.t 92), none⟩, ⟨(some 12), .mv (.t 93), none⟩] [])
        (.seq (.reg [⟨(some 94), .load 2 true (.t 5), none⟩, ⟨(some 95), .load 2 true (.t 10), none⟩, ⟨(some 96), .call (.c (.fn (.func 62) [] [])) [(.t 94), (.t 95)], none⟩, ⟨(some 13), .mv (.t 96), none⟩])
        (.seq (.reg [⟨(some 97), .mv (.t 12), none⟩, ⟨(some 98), .idxP 2 1 (.t 11) (.c (.v (.int .i64 0))), none⟩, ⟨(some 99), .load 1 false (.t 98), none⟩, ⟨(some 100), .idxP 2 1 (.t 11) (.c (.v (.int .i64 1))), none⟩, ⟨(some 101), .load 1 false (.t 100), none⟩, ⟨(some 102), .mm false (.t 99) [(.t 101)], none⟩, ⟨(some 103), .bin .sub (.t 97) (.t 102), none⟩, ⟨(some 104), .fieldA 0 (.t 3), none⟩, ⟨(some 105), .fieldA 4 (.t 104), none⟩, ⟨(some 106), .load 1 false (.t 105), none⟩, ⟨(some 107), .call (.c (.fn (.func 70) [] [])) [(.t 103), (.t 106)], none⟩, ⟨(some 108), .un .neg (.t 107), none⟩, ⟨(some 14), .mv (.t 108), none⟩])
        (.seq (.reg [⟨(some 109), .idxP 2 1 (.t 11) (.c (.v (.int .i64 0))), none⟩, ⟨(some 110), .load 1 false (.t 109), none⟩, ⟨(some 111), .idxP 2 1 (.t 11) (.c (.v (.int .i64 1))), none⟩, ⟨(some 112), .load 1 false (.t 111), none⟩, ⟨(some 113), .mm true (.t 110) [(.t 112)], none⟩, ⟨(some 114), .mv (.t 12), none⟩, ⟨(some 115), .bin .add (.t 113) (.t 114), none⟩, ⟨(some 116), .fieldA 0 (.t 3), none⟩, ⟨(some 117), .fieldA 4 (.t 116), none⟩, ⟨(some 118), .load 1 false (.t 117), none⟩, ⟨(some 119), .call (.c (.fn (.func 70) [] [])) [(.t 115), (.t 118)], none⟩, ⟨(some 15), .mv (.t 119), none⟩])
        (.seq (.reg [⟨(some 120), .mv (.t 13), none⟩, ⟨(some 121), .mv (.t 14), none⟩, ⟨(some 122), .bin .add (.t 120) (.t 121), none⟩, ⟨(some 123), .mv (.t 9), none⟩, ⟨(some 124), .idxP 2 1 (.t 8) (.t 123), none⟩, ⟨(some 125), .load 1 false (.t 124), none⟩, ⟨(some 126), .bin .gtr (.t 122) (.t 125), none⟩, ⟨(some 127), .mv (.t 126), none⟩, ⟨(some 128), .mv (.t 13), (some (127, false))⟩, ⟨(some 129), .mv (.t 15), (some (127, false))⟩, ⟨(some 130), .bin .add (.t 128) (.t 129), (some (127, false))⟩, ⟨(some 131), .mv (.t 9), (some (127, false))⟩, ⟨(some 132), .idxP 2 1 (.t 7) (.t 131), (some (127, false))⟩, ⟨(some 133), .load 1 false (.t 132), (some (127, false))⟩, ⟨(some 134), .bin .lss (.t 130) (.t 133), (some (127, false))⟩, ⟨(some 135), .pick (.t 127) (.c (.v (.bool true))) (.t 134), none⟩])
        (.cond (.t 135)
          (.seq (.reg [⟨(some 4), .mv (.c (.v (.bool true))), none⟩])
          .ret)
          .skip)))))))))
      (.reg [⟨(some 136), .bin .add (.t 61) (.c (.v (.int .i64 1))), none⟩, ⟨(some 61), .mv (.t 136), none⟩])))))))
  (.seq (.reg [⟨(some 4), .mv (.c (.v (.bool false))), none⟩])
  .ret)))))))
theorem fn_curve_corridor_apart : FnOK Try.prog 87 137 [.t 4] ac_curve_corridor_apart := ⟨_, _, Try.func87, rfl, Try.ntmps87, by kernel_rfl, ⟨fun _ => [], by kernel_rfl⟩, by kernel_rfl⟩
set_option maxHeartbeats 4000000 in
theorem curve_corridor_apart_ok (p1 : CurveCorridor) (p2 : CurveCorridor) (r : Bool) (h : curve_corridor_apart p1 p2 = some r) : PCall Try.prog 87 [(.agg [(i64 p1.piece.p.X), (i64 p1.piece.p.Y), (i64 p1.piece.v.x), (i64 p1.piece.v.y), (i64 p1.piece.l), (i64 p1.piece.start), (i64 p1.half), (i64 p1.ends.1), (i64 p1.ends.2)]), (.agg [(i64 p2.piece.p.X), (i64 p2.piece.p.Y), (i64 p2.piece.v.x), (i64 p2.piece.v.y), (i64 p2.piece.l), (i64 p2.piece.start), (i64 p2.half), (i64 p2.ends.1), (i64 p2.ends.2)])] (bo r) := by
  refine l_call fn_curve_corridor_apart (Nat.le_of_ble_eq_true rfl) ?_
  unfold curve_corridor_apart at h
  unfold ac_curve_corridor_apart
  refine (l_sub (s0 := ⟨T [(0, (.d (.agg [(i64 p1.piece.p.X), (i64 p1.piece.p.Y), (i64 p1.piece.v.x), (i64 p1.piece.v.y), (i64 p1.piece.l), (i64 p1.piece.start), (i64 p1.half), (i64 p1.ends.1), (i64 p1.ends.2)]))), (1, (.d (.agg [(i64 p2.piece.p.X), (i64 p2.piece.p.Y), (i64 p2.piece.v.x), (i64 p2.piece.v.y), (i64 p2.piece.l), (i64 p2.piece.start), (i64 p2.half), (i64 p2.ends.1), (i64 p2.ends.2)])))], G []⟩) (sb_of ⟨.of rfl, .of rfl, trivial⟩ trivial) ?_)
  refine l_seq ?_
  refine l_reg fun u1 hu1 => ?_
  refine s_new (.ptr _ _) (.box _ _) rfl rfl ?_
  refine s_new (.ptr _ _) (.box _ _) rfl rfl ?_
  refine s_val (.d _) rfl rfl ?_
  refine s_nil ?_
  refine l_seq ?_
  refine l_reg fun u2 hu2 => ?_
  refine s_val (.ptr _ _) rfl rfl ?_
  refine s_val (.ptr _ _) rfl rfl ?_
  refine s_val (.d _) rfl (v_loadG rfl (G_skip rfl G_hit) rfl rfl) ?_
  refine s_val (.ptr _ _) rfl rfl ?_
  refine s_val (.ptr _ _) rfl rfl ?_
  refine s_val (.d _) rfl (v_loadG rfl G_hit rfl rfl) ?_
  obtain ⟨v1, hv1, h⟩ := bind_some h
  refine s_call rfl rfl all2_refl (curve_from_ok _ _  _ hv1) (.inl rfl) ?_
  refine s_new (.ptr _ _) (.box _ _) rfl rfl ?_
  refine s_store _ _ _ _ _ rfl rfl rfl G_hit (Nat.le_of_ble_eq_true rfl) [(.d (i64 v1.x)), (.d (i64 v1.y))] rfl ?_
  refine s_nil ?_
  refine l_seq ?_
  refine l_draw rfl fun u3 hu3 => ?_
  refine s_val (.ptr _ _) rfl rfl ?_
  refine s_val (.ptr _ _) rfl rfl ?_
  refine s_val (.d _) rfl (v_loadG rfl (G_skip rfl (G_skip rfl (G_skip rfl G_hit))) rfl rfl) ?_
  refine s_val (.ptr _ _) rfl rfl ?_
  refine s_val (.ptr _ _) rfl rfl ?_
  refine s_val (.d _) rfl (v_loadG rfl (G_skip rfl (G_skip rfl (G_skip rfl G_hit))) rfl rfl) ?_
  obtain ⟨v2, hv2, h⟩ := bind_some h
  refine s_call rfl rfl all2_refl (curve_vector_left_ok _  _ hv2) (.inl rfl) ?_
  refine s_val (.d _) rfl rfl ?_
  refine s_new (.ptr _ _) (.box _ _) rfl rfl ?_
  refine s_store _ _ _ _ _ rfl rfl rfl G_hit (Nat.le_of_ble_eq_true rfl) [(.d (i64 p1.piece.v.x)), (.d (i64 p1.piece.v.y)), (.d (i64 v2.x)), (.d (i64 v2.y))] rfl ?_
  refine s_nil ?_
  refine l_seq ?_
  refine l_sub (s0 := ⟨T [(2, (.ptr (2, u1) 0)), (3, (.ptr (3, u1) 0)), (5, (.ptr (5, u2) 0)), (6, (.ptr (6, u3) 0))], G [((2, u1), some (.box 102 [(.d (i64 p1.piece.p.X)), (.d (i64 p1.piece.p.Y)), (.d (i64 p1.piece.v.x)), (.d (i64 p1.piece.v.y)), (.d (i64 p1.piece.l)), (.d (i64 p1.piece.start)), (.d (i64 p1.half)), (.d (i64 p1.ends.1)), (.d (i64 p1.ends.2))])), ((3, u1), some (.box 102 [(.d (i64 p2.piece.p.X)), (.d (i64 p2.piece.p.Y)), (.d (i64 p2.piece.v.x)), (.d (i64 p2.piece.v.y)), (.d (i64 p2.piece.l)), (.d (i64 p2.piece.start)), (.d (i64 p2.half)), (.d (i64 p2.ends.1)), (.d (i64 p2.ends.2))])), ((5, u2), some (.box 78 [(.d (i64 v1.x)), (.d (i64 v1.y))])), ((6, u3), some (.box 116 [(.d (i64 p1.piece.v.x)), (.d (i64 p1.piece.v.y)), (.d (i64 v2.x)), (.d (i64 v2.y))]))]⟩) (sb_of ⟨.of rfl, .of rfl, .of rfl, .of rfl, trivial⟩ (sbG_some (G_skip rfl (G_skip rfl (G_skip rfl (G_skip rfl (G_skip rfl G_hit))))) (.of rfl) (sbG_some (G_skip rfl (G_skip rfl (G_skip rfl (G_skip rfl G_hit)))) (.of rfl) (sbG_some (G_skip rfl (G_skip rfl G_hit)) (.of rfl) (sbG_some G_hit (.of rfl) trivial))))) ?_
  refine l_reg fun u4 hu4 => ?_
  refine s_val (.ptr _ _) rfl rfl ?_
  refine s_val (.ptr _ _) rfl rfl ?_
  refine s_val (.d _) rfl (v_load rfl G_hit rfl) ?_
  refine s_val (.ptr _ _) rfl rfl ?_
  refine s_val (.ptr _ _) rfl rfl ?_
  refine s_val (.d _) rfl (v_load rfl G_hit rfl) ?_
  refine s_val (.d _) rfl rfl ?_
  refine s_val (.ptr _ _) rfl rfl ?_
  refine s_val (.d _) rfl (v_load rfl G_hit rfl) ?_
  refine s_val (.d _) rfl rfl ?_
  refine s_val (.ptr _ _) rfl rfl ?_
  refine s_val (.ptr _ _) rfl rfl ?_
  refine s_val (.d _) rfl (v_load rfl G_hit rfl) ?_
  refine s_val (.d _) rfl rfl ?_
  refine s_val (.d _) rfl rfl ?_
  refine s_new (.ptr _ _) (.box _ _) rfl rfl ?_
  refine s_store _ _ _ _ _ rfl rfl rfl G_hit (Nat.le_of_ble_eq_true rfl) [(.d (i64 (w64 (p1.ends.1 * p1.piece.l)))), (.d (i64 (w64 ((w64 (0 - p1.half)) * p1.piece.l))))] rfl ?_
  refine s_nil ?_
  refine l_seq ?_
  refine l_sub (s0 := ⟨T [(2, (.ptr (2, u1) 0)), (3, (.ptr (3, u1) 0)), (5, (.ptr (5, u2) 0)), (6, (.ptr (6, u3) 0)), (7, (.ptr (7, u4) 0))], G [((2, u1), some (.box 102 [(.d (i64 p1.piece.p.X)), (.d (i64 p1.piece.p.Y)), (.d (i64 p1.piece.v.x)), (.d (i64 p1.piece.v.y)), (.d (i64 p1.piece.l)), (.d (i64 p1.piece.start)), (.d (i64 p1.half)), (.d (i64 p1.ends.1)), (.d (i64 p1.ends.2))])), ((3, u1), some (.box 102 [(.d (i64 p2.piece.p.X)), (.d (i64 p2.piece.p.Y)), (.d (i64 p2.piece.v.x)), (.d (i64 p2.piece.v.y)), (.d (i64 p2.piece.l)), (.d (i64 p2.piece.start)), (.d (i64 p2.half)), (.d (i64 p2.ends.1)), (.d (i64 p2.ends.2))])), ((5, u2), some (.box 78 [(.d (i64 v1.x)), (.d (i64 v1.y))])), ((6, u3), some (.box 116 [(.d (i64 p1.piece.v.x)), (.d (i64 p1.piece.v.y)), (.d (i64 v2.x)), (.d (i64 v2.y))])), ((7, u4), some (.box 100 [(.d (i64 (w64 (p1.ends.1 * p1.piece.l)))), (.d (i64 (w64 ((w64 (0 - p1.half)) * p1.piece.l))))]))]⟩) (sb_of ⟨.of rfl, .of rfl, .of rfl, .of rfl, .of rfl, trivial⟩ (sbG_some (G_skip rfl (G_skip rfl G_hit)) (.of rfl) (sbG_some (G_skip rfl (G_skip rfl (G_skip rfl G_hit))) (.of rfl) (sbG_some (G_skip rfl (G_skip rfl (G_skip rfl (G_skip rfl G_hit)))) (.of rfl) (sbG_some (G_skip rfl (G_skip rfl (G_skip rfl (G_skip rfl (G_skip rfl G_hit))))) (.of rfl) (sbG_some G_hit (.of rfl) trivial)))))) ?_
  refine l_reg fun u5 hu5 => ?_
  refine s_val (.ptr _ _) rfl rfl ?_
  refine s_val (.ptr _ _) rfl rfl ?_
  refine s_val (.d _) rfl (v_load rfl G_hit rfl) ?_
  refine s_val (.ptr _ _) rfl rfl ?_
  refine s_val (.ptr _ _) rfl rfl ?_
  refine s_val (.d _) rfl (v_load rfl G_hit rfl) ?_
  refine s_val (.d _) rfl rfl ?_
  refine s_val (.ptr _ _) rfl rfl ?_
  refine s_val (.d _) rfl (v_load rfl G_hit rfl) ?_
  refine s_val (.ptr _ _) rfl rfl ?_
  refine s_val (.ptr _ _) rfl rfl ?_
  refine s_val (.d _) rfl (v_load rfl G_hit rfl) ?_
  refine s_val (.d _) rfl rfl ?_
  refine s_val (.d _) rfl rfl ?_
  refine s_new (.ptr _ _) (.box _ _) rfl rfl ?_
  refine s_store _ _ _ _ _ rfl rfl rfl G_hit (Nat.le_of_ble_eq_true rfl) [(.d (i64 (w64 (p1.ends.2 * p1.piece.l)))), (.d (i64 (w64 (p1.half * p1.piece.l))))] rfl ?_
  refine s_nil ?_
  refine l_seq ?_
  refine l_seq ?_
  refine l_sub (s0 := ⟨T [(3, (.ptr (3, u1) 0)), (5, (.ptr (5, u2) 0)), (6, (.ptr (6, u3) 0)), (7, (.ptr (7, u4) 0)), (8, (.ptr (8, u5) 0))], G [((3, u1), some (.box 102 [(.d (i64 p2.piece.p.X)), (.d (i64 p2.piece.p.Y)), (.d (i64 p2.piece.v.x)), (.d (i64 p2.piece.v.y)), (.d (i64 p2.piece.l)), (.d (i64 p2.piece.start)), (.d (i64 p2.half)), (.d (i64 p2.ends.1)), (.d (i64 p2.ends.2))])), ((5, u2), some (.box 78 [(.d (i64 v1.x)), (.d (i64 v1.y))])), ((6, u3), some (.box 116 [(.d (i64 p1.piece.v.x)), (.d (i64 p1.piece.v.y)), (.d (i64 v2.x)), (.d (i64 v2.y))])), ((7, u4), some (.box 100 [(.d (i64 (w64 (p1.ends.1 * p1.piece.l)))), (.d (i64 (w64 ((w64 (0 - p1.half)) * p1.piece.l))))])), ((8, u5), some (.box 100 [(.d (i64 (w64 (p1.ends.2 * p1.piece.l)))), (.d (i64 (w64 (p1.half * p1.piece.l))))]))]⟩) (sb_of ⟨.of rfl, .of rfl, .of rfl, .of rfl, .of rfl, trivial⟩ (sbG_some (G_skip rfl (G_skip rfl (G_skip rfl G_hit))) (.of rfl) (sbG_some (G_skip rfl (G_skip rfl (G_skip rfl (G_skip rfl G_hit)))) (.of rfl) (sbG_some (G_skip rfl (G_skip rfl (G_skip rfl (G_skip rfl (G_skip rfl G_hit))))) (.of rfl) (sbG_some (G_skip rfl (G_skip rfl (G_skip rfl (G_skip rfl (G_skip rfl (G_skip rfl G_hit)))))) (.of rfl) (sbG_some G_hit (.of rfl) trivial)))))) ?_
  refine l_reg fun u6 hu6 => ?_
  refine s_val (.d _) rfl (v_loadG rfl (G_skip rfl (G_skip rfl G_hit)) rfl rfl) ?_
  refine s_val (.d _) rfl rfl ?_
  refine s_nil ?_
  obtain ⟨z1, hz1, h⟩ := thenS_some h
  refine l_join (fun s => ∃ (y1 : Unit) (g1 : Unit), z1 = .inl y1 ∧ Sb ⟨T [], G []⟩ s) ?_ ?_
  · skip
    refine l_block ?_
    refine l_unroll ?_
    refine l_seq ?_
    refine l_reg fun u7 hu7 => ?_
    refine s_val (.d _) rfl rfl ?_
    refine s_nil ?_
    refine l_seq ?_
    refine l_condT rfl ?_
    refine l_skip ?_
    refine l_seq ?_
    refine l_block ?_
    refine l_seq ?_
    refine l_reg fun u8 hu8 => ?_
    refine s_val (.d _) rfl rfl ?_
    refine s_val (.d _) rfl rfl ?_
    refine s_new (.ptr _ _) (.box _ _) rfl rfl ?_
    refine s_val (.d _) rfl rfl ?_
    refine s_store _ _ _ _ _ rfl rfl rfl G_hit (Nat.le_of_ble_eq_true rfl) [(.d (i64 p1.piece.v.x)), (.d (i64 p1.piece.v.y))] rfl ?_
    refine s_nil ?_
    refine l_seq ?_
    refine l_draw rfl fun u9 hu9 => ?_
    refine s_val (.ptr _ _) rfl rfl ?_
    refine s_val (.ptr _ _) rfl rfl ?_
    refine s_val (.d _) rfl (v_load rfl (G_skip rfl (G_skip rfl G_hit)) rfl) ?_
    refine s_val (.ptr _ _) rfl rfl ?_
    refine s_val (.ptr _ _) rfl rfl ?_
    refine s_val (.d _) rfl (v_loadG rfl (G_skip rfl (G_skip rfl G_hit)) rfl rfl) ?_
    refine s_val (.d _) rfl (v_loadG rfl G_hit rfl rfl) ?_
    obtain ⟨v3, hv3, hz1⟩ := bind_some hz1
    refine s_call rfl rfl all2_refl (curve_vector_dot_ok _ _  _ hv3) (.inl rfl) ?_
    refine s_val (.d _) rfl rfl ?_
    refine s_val (.ptr _ _) rfl rfl ?_
    refine s_val (.ptr _ _) rfl rfl ?_
    refine s_val (.d _) rfl (v_load rfl (G_skip rfl (G_skip rfl G_hit)) rfl) ?_
    refine s_val (.ptr _ _) rfl rfl ?_
    refine s_val (.ptr _ _) rfl rfl ?_
    refine s_val (.d _) rfl (v_loadG rfl (G_skip rfl (G_skip rfl G_hit)) rfl rfl) ?_
    refine s_val (.d _) rfl (v_loadG rfl G_hit rfl rfl) ?_
    obtain ⟨v4, hv4, hz1⟩ := bind_some hz1
    refine s_call rfl rfl all2_refl (curve_vector_dot_ok _ _  _ hv4) (.inl rfl) ?_
    refine s_val (.d _) rfl rfl ?_
    refine s_val (.d _) rfl rfl ?_
    refine s_new (.ptr _ _) (.box _ _) rfl rfl ?_
    refine s_store _ _ _ _ _ rfl rfl rfl G_hit (Nat.le_of_ble_eq_true rfl) [(.d (i64 (w64 (p2.ends.1 * v3)))), (.d (i64 (w64 (p2.ends.2 * v4))))] rfl ?_
    refine s_nil ?_
    refine l_seq ?_
    refine l_sub (s0 := ⟨T [(3, (.ptr (3, u1) 0)), (5, (.ptr (5, u2) 0)), (7, (.ptr (7, u4) 0)), (8, (.ptr (8, u5) 0)), (9, (.d (i64 0))), (10, (.ptr (10, u8) 0)), (11, (.ptr (11, u9) 0)), (60, (.d (.agg [(i64 p1.piece.v.x), (i64 p1.piece.v.y), (i64 v2.x), (i64 v2.y)]))), (61, (.d (i64 0)))], G [((3, u1), some (.box 102 [(.d (i64 p2.piece.p.X)), (.d (i64 p2.piece.p.Y)), (.d (i64 p2.piece.v.x)), (.d (i64 p2.piece.v.y)), (.d (i64 p2.piece.l)), (.d (i64 p2.piece.start)), (.d (i64 p2.half)), (.d (i64 p2.ends.1)), (.d (i64 p2.ends.2))])), ((5, u2), some (.box 78 [(.d (i64 v1.x)), (.d (i64 v1.y))])), ((7, u4), some (.box 100 [(.d (i64 (w64 (p1.ends.1 * p1.piece.l)))), (.d (i64 (w64 ((w64 (0 - p1.half)) * p1.piece.l))))])), ((8, u5), some (.box 100 [(.d (i64 (w64 (p1.ends.2 * p1.piece.l)))), (.d (i64 (w64 (p1.half * p1.piece.l))))])), ((10, u8), some (.box 78 [(.d (i64 p1.piece.v.x)), (.d (i64 p1.piece.v.y))])), ((11, u9), some (.box 100 [(.d (i64 (w64 (p2.ends.1 * v3)))), (.d (i64 (w64 (p2.ends.2 * v4))))]))]⟩) (sb_of ⟨.of rfl, .of rfl, .of rfl, .of rfl, .of rfl, .of rfl, .of rfl, .of rfl, .of rfl, trivial⟩ (sbG_some (G_skip rfl (G_skip rfl (G_skip rfl (G_skip rfl G_hit)))) (.of rfl) (sbG_some (G_skip rfl (G_skip rfl (G_skip rfl (G_skip rfl (G_skip rfl G_hit))))) (.of rfl) (sbG_some (G_skip rfl (G_skip rfl (G_skip rfl (G_skip rfl (G_skip rfl (G_skip rfl (G_skip rfl G_hit))))))) (.of rfl) (sbG_some (G_skip rfl (G_skip rfl (G_skip rfl (G_skip rfl (G_skip rfl (G_skip rfl (G_skip rfl (G_skip rfl G_hit)))))))) (.of rfl) (sbG_some (G_skip rfl (G_skip rfl G_hit)) (.of rfl) (sbG_some G_hit (.of rfl) trivial))))))) ?_
    refine l_draw rfl fun u10 hu10 => ?_
    refine s_val (.ptr _ _) rfl rfl ?_
    refine s_val (.d _) rfl (v_load rfl G_hit rfl) ?_
    refine s_val (.ptr _ _) rfl rfl ?_
    refine s_val (.ptr _ _) rfl rfl ?_
    refine s_val (.d _) rfl (v_loadG rfl G_hit rfl rfl) ?_
    obtain ⟨v5, hv5, hz1⟩ := bind_some hz1
    refine s_call rfl rfl all2_refl (curve_vector_left_ok _  _ hv5) (.inl rfl) ?_
    refine s_val (.d _) rfl (v_loadG rfl (G_skip rfl (G_skip rfl (G_skip rfl (G_skip rfl G_hit)))) rfl rfl) ?_
    obtain ⟨v6, hv6, hz1⟩ := bind_some hz1
    refine s_call rfl rfl all2_refl (curve_vector_dot_ok _ _  _ hv6) (.inl rfl) ?_
    obtain ⟨v7, hv7, hz1⟩ := bind_some hz1
    refine s_call rfl rfl all2_refl (curve_abs_ok _  _ hv7) (.inl rfl) ?_
    refine s_val (.d _) rfl rfl ?_
    refine s_val (.d _) rfl rfl ?_
    refine s_nil ?_
    refine l_seq ?_
    refine l_sub (s0 := ⟨T [(3, (.ptr (3, u1) 0)), (5, (.ptr (5, u2) 0)), (7, (.ptr (7, u4) 0)), (8, (.ptr (8, u5) 0)), (9, (.d (i64 0))), (10, (.ptr (10, u8) 0)), (11, (.ptr (11, u9) 0)), (12, (.d (i64 (w64 (p2.half * v7))))), (60, (.d (.agg [(i64 p1.piece.v.x), (i64 p1.piece.v.y), (i64 v2.x), (i64 v2.y)]))), (61, (.d (i64 0)))], G [((3, u1), some (.box 102 [(.d (i64 p2.piece.p.X)), (.d (i64 p2.piece.p.Y)), (.d (i64 p2.piece.v.x)), (.d (i64 p2.piece.v.y)), (.d (i64 p2.piece.l)), (.d (i64 p2.piece.start)), (.d (i64 p2.half)), (.d (i64 p2.ends.1)), (.d (i64 p2.ends.2))])), ((5, u2), some (.box 78 [(.d (i64 v1.x)), (.d (i64 v1.y))])), ((7, u4), some (.box 100 [(.d (i64 (w64 (p1.ends.1 * p1.piece.l)))), (.d (i64 (w64 ((w64 (0 - p1.half)) * p1.piece.l))))])), ((8, u5), some (.box 100 [(.d (i64 (w64 (p1.ends.2 * p1.piece.l)))), (.d (i64 (w64 (p1.half * p1.piece.l))))])), ((10, u8), some (.box 78 [(.d (i64 p1.piece.v.x)), (.d (i64 p1.piece.v.y))])), ((11, u9), some (.box 100 [(.d (i64 (w64 (p2.ends.1 * v3)))), (.d (i64 (w64 (p2.ends.2 * v4))))]))]⟩) (sb_of ⟨.of rfl, .of rfl, .of rfl, .of rfl, .of rfl, .of rfl, .of rfl, .of rfl, .of rfl, .of rfl, trivial⟩ (sbG_some G_hit (.of rfl) (sbG_some (G_skip rfl G_hit) (.of rfl) (sbG_some (G_skip rfl (G_skip rfl G_hit)) (.of rfl) (sbG_some (G_skip rfl (G_skip rfl (G_skip rfl G_hit))) (.of rfl) (sbG_some (G_skip rfl (G_skip rfl (G_skip rfl (G_skip rfl G_hit)))) (.of rfl) (sbG_some (G_skip rfl (G_skip rfl (G_skip rfl (G_skip rfl (G_skip rfl G_hit))))) (.of rfl) trivial))))))) ?_
    refine l_reg fun u11 hu11 => ?_
    refine s_val (.d _) rfl (v_loadG rfl (G_skip rfl G_hit) rfl rfl) ?_
    refine s_val (.d _) rfl (v_loadG rfl (G_skip rfl (G_skip rfl (G_skip rfl (G_skip rfl G_hit)))) rfl rfl) ?_
    obtain ⟨v8, hv8, hz1⟩ := bind_some hz1
    refine s_call rfl rfl all2_refl (curve_vector_dot_ok _ _  _ hv8) (.inl rfl) ?_
    refine s_val (.d _) rfl rfl ?_
    refine s_nil ?_
    refine l_seq ?_
    refine l_reg fun u12 hu12 => ?_
    refine s_val (.d _) rfl rfl ?_
    refine s_val (.ptr _ _) rfl rfl ?_
    refine s_val (.d _) rfl (v_load rfl (G_skip rfl (G_skip rfl (G_skip rfl (G_skip rfl (G_skip rfl G_hit))))) rfl) ?_
    refine s_val (.ptr _ _) rfl rfl ?_
    refine s_val (.d _) rfl (v_load rfl (G_skip rfl (G_skip rfl (G_skip rfl (G_skip rfl (G_skip rfl G_hit))))) rfl) ?_
    refine s_val (.d _) rfl rfl ?_
    refine s_val (.d _) rfl rfl ?_
    refine s_val (.ptr _ _) rfl rfl ?_
    refine s_val (.ptr _ _) rfl rfl ?_
    refine s_val (.d _) rfl (v_load rfl G_hit rfl) ?_
    obtain ⟨v9, hv9, hz1⟩ := bind_some hz1
    refine s_call rfl rfl all2_refl (curve_floor_ok _ _  _ hv9) (.inl rfl) ?_
    refine s_val (.d _) rfl rfl ?_
    refine s_val (.d _) rfl rfl ?_
    refine s_nil ?_
    refine l_seq ?_
    refine l_sub (s0 := ⟨T [(3, (.ptr (3, u1) 0)), (5, (.ptr (5, u2) 0)), (7, (.ptr (7, u4) 0)), (8, (.ptr (8, u5) 0)), (9, (.d (i64 0))), (11, (.ptr (11, u9) 0)), (12, (.d (i64 (w64 (p2.half * v7))))), (13, (.d (i64 v8))), (14, (.d (i64 (w64 (0 - v9))))), (60, (.d (.agg [(i64 p1.piece.v.x), (i64 p1.piece.v.y), (i64 v2.x), (i64 v2.y)]))), (61, (.d (i64 0)))], G [((3, u1), some (.box 102 [(.d (i64 p2.piece.p.X)), (.d (i64 p2.piece.p.Y)), (.d (i64 p2.piece.v.x)), (.d (i64 p2.piece.v.y)), (.d (i64 p2.piece.l)), (.d (i64 p2.piece.start)), (.d (i64 p2.half)), (.d (i64 p2.ends.1)), (.d (i64 p2.ends.2))])), ((5, u2), some (.box 78 [(.d (i64 v1.x)), (.d (i64 v1.y))])), ((7, u4), some (.box 100 [(.d (i64 (w64 (p1.ends.1 * p1.piece.l)))), (.d (i64 (w64 ((w64 (0 - p1.half)) * p1.piece.l))))])), ((8, u5), some (.box 100 [(.d (i64 (w64 (p1.ends.2 * p1.piece.l)))), (.d (i64 (w64 (p1.half * p1.piece.l))))])), ((11, u9), some (.box 100 [(.d (i64 (w64 (p2.ends.1 * v3)))), (.d (i64 (w64 (p2.ends.2 * v4))))]))]⟩) (sb_of ⟨.of rfl, .of rfl, .of rfl, .of rfl, .of rfl, .of rfl, .of rfl, .of rfl, .of rfl, .of rfl, .of rfl, trivial⟩ (sbG_some G_hit (.of rfl) (sbG_some (G_skip rfl G_hit) (.of rfl) (sbG_some (G_skip rfl (G_skip rfl G_hit)) (.of rfl) (sbG_some (G_skip rfl (G_skip rfl (G_skip rfl G_hit))) (.of rfl) (sbG_some (G_skip rfl (G_skip rfl (G_skip rfl (G_skip rfl (G_skip rfl G_hit))))) (.of rfl) trivial)))))) ?_
    refine l_reg fun u13 hu13 => ?_
    refine s_val (.ptr _ _) rfl rfl ?_
    refine s_val (.d _) rfl (v_load rfl (G_skip rfl (G_skip rfl (G_skip rfl (G_skip rfl G_hit)))) rfl) ?_
    refine s_val (.ptr _ _) rfl rfl ?_
    refine s_val (.d _) rfl (v_load rfl (G_skip rfl (G_skip rfl (G_skip rfl (G_skip rfl G_hit)))) rfl) ?_
    refine s_val (.d _) rfl rfl ?_
    refine s_val (.d _) rfl rfl ?_
    refine s_val (.d _) rfl rfl ?_
    refine s_val (.ptr _ _) rfl rfl ?_
    refine s_val (.ptr _ _) rfl rfl ?_
    refine s_val (.d _) rfl (v_load rfl G_hit rfl) ?_
    obtain ⟨v10, hv10, hz1⟩ := bind_some hz1
    refine s_call rfl rfl all2_refl (curve_floor_ok _ _  _ hv10) (.inl rfl) ?_
    refine s_val (.d _) rfl rfl ?_
    refine s_nil ?_
    refine l_seq ?_
    refine l_sub (s0 := ⟨T [(3, (.ptr (3, u1) 0)), (5, (.ptr (5, u2) 0)), (7, (.ptr (7, u4) 0)), (8, (.ptr (8, u5) 0)), (9, (.d (i64 0))), (13, (.d (i64 v8))), (14, (.d (i64 (w64 (0 - v9))))), (15, (.d (i64 v10))), (60, (.d (.agg [(i64 p1.piece.v.x), (i64 p1.piece.v.y), (i64 v2.x), (i64 v2.y)]))), (61, (.d (i64 0)))], G [((3, u1), some (.box 102 [(.d (i64 p2.piece.p.X)), (.d (i64 p2.piece.p.Y)), (.d (i64 p2.piece.v.x)), (.d (i64 p2.piece.v.y)), (.d (i64 p2.piece.l)), (.d (i64 p2.piece.start)), (.d (i64 p2.half)), (.d (i64 p2.ends.1)), (.d (i64 p2.ends.2))])), ((5, u2), some (.box 78 [(.d (i64 v1.x)), (.d (i64 v1.y))])), ((7, u4), some (.box 100 [(.d (i64 (w64 (p1.ends.1 * p1.piece.l)))), (.d (i64 (w64 ((w64 (0 - p1.half)) * p1.piece.l))))])), ((8, u5), some (.box 100 [(.d (i64 (w64 (p1.ends.2 * p1.piece.l)))), (.d (i64 (w64 (p1.half * p1.piece.l))))]))]⟩) (sb_of ⟨.of rfl, .of rfl, .of rfl, .of rfl, .of rfl, .of rfl, .of rfl, .of rfl, .of rfl, .of rfl, trivial⟩ (sbG_some G_hit (.of rfl) (sbG_some (G_skip rfl G_hit) (.of rfl) (sbG_some (G_skip rfl (G_skip rfl G_hit)) (.of rfl) (sbG_some (G_skip rfl (G_skip rfl (G_skip rfl G_hit))) (.of rfl) trivial))))) ?_
    refine l_reg fun u14 hu14 => ?_
    refine s_val (.d _) rfl rfl ?_
    refine s_val (.d _) rfl rfl ?_
    refine s_val (.d _) rfl rfl ?_
    refine s_val (.d _) rfl rfl ?_
    refine s_val (.ptr _ _) rfl rfl ?_
    refine s_val (.d _) rfl (v_load rfl (G_skip rfl (G_skip rfl (G_skip rfl G_hit))) rfl) ?_
    refine s_val (.d _) rfl rfl ?_
    refine s_val (.d _) rfl rfl ?_
    refine g_val (!(decide ((w64 (v8 + (w64 (0 - v9)))) > (w64 (p1.ends.2 * p1.piece.l))))) (.d _) rfl (gw_f rfl) (fun w1 => rfl) ?_
    refine g_val (!(decide ((w64 (v8 + (w64 (0 - v9)))) > (w64 (p1.ends.2 * p1.piece.l))))) (.d _) rfl (gw_f rfl) (fun w2 => rfl) ?_
    refine g_val (!(decide ((w64 (v8 + (w64 (0 - v9)))) > (w64 (p1.ends.2 * p1.piece.l))))) (.d _) rfl (gw_f rfl) (fun w3 => (v_bin (gd_pos w3) (gd_pos w3) rfl)) ?_
    refine g_val (!(decide ((w64 (v8 + (w64 (0 - v9)))) > (w64 (p1.ends.2 * p1.piece.l))))) (.d _) rfl (gw_f rfl) (fun w4 => rfl) ?_
    refine g_val (!(decide ((w64 (v8 + (w64 (0 - v9)))) > (w64 (p1.ends.2 * p1.piece.l))))) (.ptr _ _) rfl (gw_f rfl) (fun w5 => (by simp only [gd_pos w5]; rfl)) ?_
    refine g_val (!(decide ((w64 (v8 + (w64 (0 - v9)))) > (w64 (p1.ends.2 * p1.piece.l))))) (.d _) rfl (gw_f rfl) (fun w6 => (v_load (gd_pos w6) (G_skip rfl (G_skip rfl G_hit)) rfl)) ?_
    refine g_val (!(decide ((w64 (v8 + (w64 (0 - v9)))) > (w64 (p1.ends.2 * p1.piece.l))))) (.d _) rfl (gw_f rfl) (fun w7 => (v_bin (gd_pos w7) (gd_pos w7) rfl)) ?_
    refine s_val (.d _) rfl (v_or rfl rfl (fun hc => gd_pos (not_t hc))) ?_
    refine s_nil ?_
    refine l_cond ((decide ((w64 (v8 + (w64 (0 - v9)))) > (w64 (p1.ends.2 * p1.piece.l)))) || (decide ((w64 (v8 + v10)) < (w64 (p1.ends.1 * p1.piece.l))))) rfl (fun c1 => ?_) (fun c1 => ?_)
    · replace hz1 := cond_t c1 hz1
      refine l_seq ?_
      refine l_sub (s0 := ⟨T [], G []⟩) (sb_of trivial trivial) ?_
      refine l_reg fun u15 hu15 => ?_
      refine s_val (.d _) rfl rfl ?_
      refine s_nil ?_
      refine l_ret ?_
      obtain rfl := Option.some.inj hz1
      rw [Sum.elim_inr] at h
      obtain rfl := Option.some.inj h
      refine fin_ok (.inr rfl) (resD1 (res_t rfl) rf_d) ?_
      exact (.refl _)
    · replace hz1 := cond_f c1 hz1
      refine l_skip ?_
      refine l_end ?_
      refine l_sub (s0 := ⟨T [(3, (.ptr (3, u1) 0)), (5, (.ptr (5, u2) 0)), (7, (.ptr (7, u4) 0)), (8, (.ptr (8, u5) 0)), (60, (.d (.agg [(i64 p1.piece.v.x), (i64 p1.piece.v.y), (i64 v2.x), (i64 v2.y)]))), (61, (.d (i64 0))), (128, (gd (!(decide ((w64 (v8 + (w64 (0 - v9)))) > (w64 (p1.ends.2 * p1.piece.l))))) true (.d (i64 v8)))), (129, (gd (!(decide ((w64 (v8 + (w64 (0 - v9)))) > (w64 (p1.ends.2 * p1.piece.l))))) true (.d (i64 v10)))), (130, (gd (!(decide ((w64 (v8 + (w64 (0 - v9)))) > (w64 (p1.ends.2 * p1.piece.l))))) true (.d (i64 (w64 (v8 + v10)))))), (131, (gd (!(decide ((w64 (v8 + (w64 (0 - v9)))) > (w64 (p1.ends.2 * p1.piece.l))))) true (.d (i64 0)))), (132, (gd (!(decide ((w64 (v8 + (w64 (0 - v9)))) > (w64 (p1.ends.2 * p1.piece.l))))) true (.ptr (7, u4) 0))), (133, (gd (!(decide ((w64 (v8 + (w64 (0 - v9)))) > (w64 (p1.ends.2 * p1.piece.l))))) true (.d (i64 (w64 (p1.ends.1 * p1.piece.l)))))), (134, (gd (!(decide ((w64 (v8 + (w64 (0 - v9)))) > (w64 (p1.ends.2 * p1.piece.l))))) true (.d (bo (decide ((w64 (v8 + v10)) < (w64 (p1.ends.1 * p1.piece.l))))))))], G [((3, u1), some (.box 102 [(.d (i64 p2.piece.p.X)), (.d (i64 p2.piece.p.Y)), (.d (i64 p2.piece.v.x)), (.d (i64 p2.piece.v.y)), (.d (i64 p2.piece.l)), (.d (i64 p2.piece.start)), (.d (i64 p2.half)), (.d (i64 p2.ends.1)), (.d (i64 p2.ends.2))])), ((5, u2), some (.box 78 [(.d (i64 v1.x)), (.d (i64 v1.y))])), ((7, u4), some (.box 100 [(.d (i64 (w64 (p1.ends.1 * p1.piece.l)))), (.d (i64 (w64 ((w64 (0 - p1.half)) * p1.piece.l))))])), ((8, u5), some (.box 100 [(.d (i64 (w64 (p1.ends.2 * p1.piece.l)))), (.d (i64 (w64 (p1.half * p1.piece.l))))]))]⟩) (sb_of ⟨.of rfl, .of rfl, .of rfl, .of rfl, .of rfl, .of rfl, .of rfl, .of rfl, .of rfl, .of rfl, .of rfl, .of rfl, .of rfl, trivial⟩ (sbG_some G_hit (.of rfl) (sbG_some (G_skip rfl G_hit) (.of rfl) (sbG_some (G_skip rfl (G_skip rfl G_hit)) (.of rfl) (sbG_some (G_skip rfl (G_skip rfl (G_skip rfl G_hit))) (.of rfl) trivial))))) ?_
      refine l_reg fun u16 hu16 => ?_
      refine s_val (.d _) rfl rfl ?_
      refine s_val (.d _) rfl rfl ?_
      refine s_nil ?_
      refine l_unroll ?_
      refine l_seq ?_
      refine l_reg fun u17 hu17 => ?_
      refine s_val (.d _) rfl rfl ?_
      refine s_nil ?_
      refine l_seq ?_
      refine l_condT rfl ?_
      refine l_skip ?_
      refine l_seq ?_
      refine l_block ?_
      refine l_seq ?_
      refine l_reg fun u18 hu18 => ?_
      refine s_val (.d _) rfl rfl ?_
      refine s_val (.d _) rfl rfl ?_
      refine s_new (.ptr _ _) (.box _ _) rfl rfl ?_
      refine s_val (.d _) rfl rfl ?_
      refine s_store _ _ _ _ _ rfl rfl rfl G_hit (Nat.le_of_ble_eq_true rfl) [(.d (i64 v2.x)), (.d (i64 v2.y))] rfl ?_
      refine s_nil ?_
      refine l_seq ?_
      refine l_draw rfl fun u19 hu19 => ?_
      refine s_val (.ptr _ _) rfl rfl ?_
      refine s_val (.ptr _ _) rfl rfl ?_
      refine s_val (.d _) rfl (v_load rfl (G_skip rfl (G_skip rfl G_hit)) rfl) ?_
      refine s_val (.ptr _ _) rfl rfl ?_
      refine s_val (.ptr _ _) rfl rfl ?_
      refine s_val (.d _) rfl (v_loadG rfl (G_skip rfl (G_skip rfl G_hit)) rfl rfl) ?_
      refine s_val (.d _) rfl (v_loadG rfl G_hit rfl rfl) ?_
      obtain ⟨v11, hv11, hz1⟩ := bind_some hz1
      refine s_call rfl rfl all2_refl (curve_vector_dot_ok _ _  _ hv11) (.inl rfl) ?_
      refine s_val (.d _) rfl rfl ?_
      refine s_val (.ptr _ _) rfl rfl ?_
      refine s_val (.ptr _ _) rfl rfl ?_
      refine s_val (.d _) rfl (v_load rfl (G_skip rfl (G_skip rfl G_hit)) rfl) ?_
      refine s_val (.ptr _ _) rfl rfl ?_
      refine s_val (.ptr _ _) rfl rfl ?_
      refine s_val (.d _) rfl (v_loadG rfl (G_skip rfl (G_skip rfl G_hit)) rfl rfl) ?_
      refine s_val (.d _) rfl (v_loadG rfl G_hit rfl rfl) ?_
      obtain ⟨v12, hv12, hz1⟩ := bind_some hz1
      refine s_call rfl rfl all2_refl (curve_vector_dot_ok _ _  _ hv12) (.inl rfl) ?_
      refine s_val (.d _) rfl rfl ?_
      refine s_val (.d _) rfl rfl ?_
      refine s_new (.ptr _ _) (.box _ _) rfl rfl ?_
      refine s_store _ _ _ _ _ rfl rfl rfl G_hit (Nat.le_of_ble_eq_true rfl) [(.d (i64 (w64 (p2.ends.1 * v11)))), (.d (i64 (w64 (p2.ends.2 * v12))))] rfl ?_
      refine s_nil ?_
      refine l_seq ?_
      refine l_sub (s0 := ⟨T [(3, (.ptr (3, u1) 0)), (5, (.ptr (5, u2) 0)), (7, (.ptr (7, u4) 0)), (8, (.ptr (8, u5) 0)), (9, (.d (i64 1))), (10, (.ptr (10, u18) 0)), (11, (.ptr (11, u19) 0)), (60, (.d (.agg [(i64 p1.piece.v.x), (i64 p1.piece.v.y), (i64 v2.x), (i64 v2.y)]))), (61, (.d (i64 1))), (128, (gd (!(decide ((w64 (v8 + (w64 (0 - v9)))) > (w64 (p1.ends.2 * p1.piece.l))))) true (.d (i64 v8)))), (129, (gd (!(decide ((w64 (v8 + (w64 (0 - v9)))) > (w64 (p1.ends.2 * p1.piece.l))))) true (.d (i64 v10)))), (130, (gd (!(decide ((w64 (v8 + (w64 (0 - v9)))) > (w64 (p1.ends.2 * p1.piece.l))))) true (.d (i64 (w64 (v8 + v10)))))), (131, (gd (!(decide ((w64 (v8 + (w64 (0 - v9)))) > (w64 (p1.ends.2 * p1.piece.l))))) true (.d (i64 0)))), (132, (gd (!(decide ((w64 (v8 + (w64 (0 - v9)))) > (w64 (p1.ends.2 * p1.piece.l))))) true (.ptr (7, u4) 0))), (133, (gd (!(decide ((w64 (v8 + (w64 (0 - v9)))) > (w64 (p1.ends.2 * p1.piece.l))))) true (.d (i64 (w64 (p1.ends.1 * p1.piece.l)))))), (134, (gd (!(decide ((w64 (v8 + (w64 (0 - v9)))) > (w64 (p1.ends.2 * p1.piece.l))))) true (.d (bo (decide ((w64 (v8 + v10)) < (w64 (p1.ends.1 * p1.piece.l))))))))], G [((3, u1), some (.box 102 [(.d (i64 p2.piece.p.X)), (.d (i64 p2.piece.p.Y)), (.d (i64 p2.piece.v.x)), (.d (i64 p2.piece.v.y)), (.d (i64 p2.piece.l)), (.d (i64 p2.piece.start)), (.d (i64 p2.half)), (.d (i64 p2.ends.1)), (.d (i64 p2.ends.2))])), ((5, u2), some (.box 78 [(.d (i64 v1.x)), (.d (i64 v1.y))])), ((7, u4), some (.box 100 [(.d (i64 (w64 (p1.ends.1 * p1.piece.l)))), (.d (i64 (w64 ((w64 (0 - p1.half)) * p1.piece.l))))])), ((8, u5), some (.box 100 [(.d (i64 (w64 (p1.ends.2 * p1.piece.l)))), (.d (i64 (w64 (p1.half * p1.piece.l))))])), ((10, u18), some (.box 78 [(.d (i64 v2.x)), (.d (i64 v2.y))])), ((11, u19), some (.box 100 [(.d (i64 (w64 (p2.ends.1 * v11)))), (.d (i64 (w64 (p2.ends.2 * v12))))]))]⟩) (sb_of ⟨.of rfl, .of rfl, .of rfl, .of rfl, .of rfl, .of rfl, .of rfl, .of rfl, .of rfl, .of rfl, .of rfl, .of rfl, .of rfl, .of rfl, .of rfl, .of rfl, trivial⟩ (sbG_some (G_skip rfl (G_skip rfl (G_skip rfl (G_skip rfl G_hit)))) (.of rfl) (sbG_some (G_skip rfl (G_skip rfl (G_skip rfl (G_skip rfl (G_skip rfl G_hit))))) (.of rfl) (sbG_some (G_skip rfl (G_skip rfl (G_skip rfl (G_skip rfl (G_skip rfl (G_skip rfl G_hit)))))) (.of rfl) (sbG_some (G_skip rfl (G_skip rfl (G_skip rfl (G_skip rfl (G_skip rfl (G_skip rfl (G_skip rfl G_hit))))))) (.of rfl) (sbG_some (G_skip rfl (G_skip rfl G_hit)) (.of rfl) (sbG_some G_hit (.of rfl) trivial))))))) ?_
      refine l_draw rfl fun u20 hu20 => ?_
      refine s_val (.ptr _ _) rfl rfl ?_
      refine s_val (.d _) rfl (v_load rfl G_hit rfl) ?_
      refine s_val (.ptr _ _) rfl rfl ?_
      refine s_val (.ptr _ _) rfl rfl ?_
      refine s_val (.d _) rfl (v_loadG rfl G_hit rfl rfl) ?_
      obtain ⟨v13, hv13, hz1⟩ := bind_some hz1
      refine s_call rfl rfl all2_refl (curve_vector_left_ok _  _ hv13) (.inl rfl) ?_
      refine s_val (.d _) rfl (v_loadG rfl (G_skip rfl (G_skip rfl (G_skip rfl (G_skip rfl G_hit)))) rfl rfl) ?_
      obtain ⟨v14, hv14, hz1⟩ := bind_some hz1
      refine s_call rfl rfl all2_refl (curve_vector_dot_ok _ _  _ hv14) (.inl rfl) ?_
      obtain ⟨v15, hv15, hz1⟩ := bind_some hz1
      refine s_call rfl rfl all2_refl (curve_abs_ok _  _ hv15) (.inl rfl) ?_
      refine s_val (.d _) rfl rfl ?_
      refine s_val (.d _) rfl rfl ?_
      refine s_nil ?_
      refine l_seq ?_
      refine l_sub (s0 := ⟨T [(3, (.ptr (3, u1) 0)), (5, (.ptr (5, u2) 0)), (7, (.ptr (7, u4) 0)), (8, (.ptr (8, u5) 0)), (9, (.d (i64 1))), (10, (.ptr (10, u18) 0)), (11, (.ptr (11, u19) 0)), (12, (.d (i64 (w64 (p2.half * v15))))), (60, (.d (.agg [(i64 p1.piece.v.x), (i64 p1.piece.v.y), (i64 v2.x), (i64 v2.y)]))), (61, (.d (i64 1))), (128, (gd (!(decide ((w64 (v8 + (w64 (0 - v9)))) > (w64 (p1.ends.2 * p1.piece.l))))) true (.d (i64 v8)))), (129, (gd (!(decide ((w64 (v8 + (w64 (0 - v9)))) > (w64 (p1.ends.2 * p1.piece.l))))) true (.d (i64 v10)))), (130, (gd (!(decide ((w64 (v8 + (w64 (0 - v9)))) > (w64 (p1.ends.2 * p1.piece.l))))) true (.d (i64 (w64 (v8 + v10)))))), (131, (gd (!(decide ((w64 (v8 + (w64 (0 - v9)))) > (w64 (p1.ends.2 * p1.piece.l))))) true (.d (i64 0)))), (132, (gd (!(decide ((w64 (v8 + (w64 (0 - v9)))) > (w64 (p1.ends.2 * p1.piece.l))))) true (.ptr (7, u4) 0))), (133, (gd (!(decide ((w64 (v8 + (w64 (0 - v9)))) > (w64 (p1.ends.2 * p1.piece.l))))) true (.d (i64 (w64 (p1.ends.1 * p1.piece.l)))))), (134, (gd (!(decide ((w64 (v8 + (w64 (0 - v9)))) > (w64 (p1.ends.2 * p1.piece.l))))) true (.d (bo (decide ((w64 (v8 + v10)) < (w64 (p1.ends.1 * p1.piece.l))))))))], G [((3, u1), some (.box 102 [(.d (i64 p2.piece.p.X)), (.d (i64 p2.piece.p.Y)), (.d (i64 p2.piece.v.x)), (.d (i64 p2.piece.v.y)), (.d (i64 p2.piece.l)), (.d (i64 p2.piece.start)), (.d (i64 p2.half)), (.d (i64 p2.ends.1)), (.d (i64 p2.ends.2))])), ((5, u2), some (.box 78 [(.d (i64 v1.x)), (.d (i64 v1.y))])), ((7, u4), some (.box 100 [(.d (i64 (w64 (p1.ends.1 * p1.piece.l)))), (.d (i64 (w64 ((w64 (0 - p1.half)) * p1.piece.l))))])), ((8, u5), some (.box 100 [(.d (i64 (w64 (p1.ends.2 * p1.piece.l)))), (.d (i64 (w64 (p1.half * p1.piece.l))))])), ((10, u18), some (.box 78 [(.d (i64 v2.x)), (.d (i64 v2.y))])), ((11, u19), some (.box 100 [(.d (i64 (w64 (p2.ends.1 * v11)))), (.d (i64 (w64 (p2.ends.2 * v12))))]))]⟩) (sb_of ⟨.of rfl, .of rfl, .of rfl, .of rfl, .of rfl, .of rfl, .of rfl, .of rfl, .of rfl, .of rfl, .of rfl, .of rfl, .of rfl, .of rfl, .of rfl, .of rfl, .of rfl, trivial⟩ (sbG_some G_hit (.of rfl) (sbG_some (G_skip rfl G_hit) (.of rfl) (sbG_some (G_skip rfl (G_skip rfl G_hit)) (.of rfl) (sbG_some (G_skip rfl (G_skip rfl (G_skip rfl G_hit))) (.of rfl) (sbG_some (G_skip rfl (G_skip rfl (G_skip rfl (G_skip rfl G_hit)))) (.of rfl) (sbG_some (G_skip rfl (G_skip rfl (G_skip rfl (G_skip rfl (G_skip rfl G_hit))))) (.of rfl) trivial))))))) ?_
      refine l_reg fun u21 hu21 => ?_
      refine s_val (.d _) rfl (v_loadG rfl (G_skip rfl G_hit) rfl rfl) ?_
      refine s_val (.d _) rfl (v_loadG rfl (G_skip rfl (G_skip rfl (G_skip rfl (G_skip rfl G_hit)))) rfl rfl) ?_
      obtain ⟨v16, hv16, hz1⟩ := bind_some hz1
      refine s_call rfl rfl all2_refl (curve_vector_dot_ok _ _  _ hv16) (.inl rfl) ?_
      refine s_val (.d _) rfl rfl ?_
      refine s_nil ?_
      refine l_seq ?_
      refine l_reg fun u22 hu22 => ?_
      refine s_val (.d _) rfl rfl ?_
      refine s_val (.ptr _ _) rfl rfl ?_
      refine s_val (.d _) rfl (v_load rfl (G_skip rfl (G_skip rfl (G_skip rfl (G_skip rfl (G_skip rfl G_hit))))) rfl) ?_
      refine s_val (.ptr _ _) rfl rfl ?_
      refine s_val (.d _) rfl (v_load rfl (G_skip rfl (G_skip rfl (G_skip rfl (G_skip rfl (G_skip rfl G_hit))))) rfl) ?_
      refine s_val (.d _) rfl rfl ?_
      refine s_val (.d _) rfl rfl ?_
      refine s_val (.ptr _ _) rfl rfl ?_
      refine s_val (.ptr _ _) rfl rfl ?_
      refine s_val (.d _) rfl (v_load rfl G_hit rfl) ?_
      obtain ⟨v17, hv17, hz1⟩ := bind_some hz1
      refine s_call rfl rfl all2_refl (curve_floor_ok _ _  _ hv17) (.inl rfl) ?_
      refine s_val (.d _) rfl rfl ?_
      refine s_val (.d _) rfl rfl ?_
      refine s_nil ?_
      refine l_seq ?_
      refine l_sub (s0 := ⟨T [(3, (.ptr (3, u1) 0)), (5, (.ptr (5, u2) 0)), (7, (.ptr (7, u4) 0)), (8, (.ptr (8, u5) 0)), (9, (.d (i64 1))), (11, (.ptr (11, u19) 0)), (12, (.d (i64 (w64 (p2.half * v15))))), (13, (.d (i64 v16))), (14, (.d (i64 (w64 (0 - v17))))), (60, (.d (.agg [(i64 p1.piece.v.x), (i64 p1.piece.v.y), (i64 v2.x), (i64 v2.y)]))), (61, (.d (i64 1))), (128, (gd (!(decide ((w64 (v8 + (w64 (0 - v9)))) > (w64 (p1.ends.2 * p1.piece.l))))) true (.d (i64 v8)))), (129, (gd (!(decide ((w64 (v8 + (w64 (0 - v9)))) > (w64 (p1.ends.2 * p1.piece.l))))) true (.d (i64 v10)))), (130, (gd (!(decide ((w64 (v8 + (w64 (0 - v9)))) > (w64 (p1.ends.2 * p1.piece.l))))) true (.d (i64 (w64 (v8 + v10)))))), (131, (gd (!(decide ((w64 (v8 + (w64 (0 - v9)))) > (w64 (p1.ends.2 * p1.piece.l))))) true (.d (i64 0)))), (132, (gd (!(decide ((w64 (v8 + (w64 (0 - v9)))) > (w64 (p1.ends.2 * p1.piece.l))))) true (.ptr (7, u4) 0))), (133, (gd (!(decide ((w64 (v8 + (w64 (0 - v9)))) > (w64 (p1.ends.2 * p1.piece.l))))) true (.d (i64 (w64 (p1.ends.1 * p1.piece.l)))))), (134, (gd (!(decide ((w64 (v8 + (w64 (0 - v9)))) > (w64 (p1.ends.2 * p1.piece.l))))) true (.d (bo (decide ((w64 (v8 + v10)) < (w64 (p1.ends.1 * p1.piece.l))))))))], G [((3, u1), some (.box 102 [(.d (i64 p2.piece.p.X)), (.d (i64 p2.piece.p.Y)), (.d (i64 p2.piece.v.x)), (.d (i64 p2.piece.v.y)), (.d (i64 p2.piece.l)), (.d (i64 p2.piece.start)), (.d (i64 p2.half)), (.d (i64 p2.ends.1)), (.d (i64 p2.ends.2))])), ((5, u2), some (.box 78 [(.d (i64 v1.x)), (.d (i64 v1.y))])), ((7, u4), some (.box 100 [(.d (i64 (w64 (p1.ends.1 * p1.piece.l)))), (.d (i64 (w64 ((w64 (0 - p1.half)) * p1.piece.l))))])), ((8, u5), some (.box 100 [(.d (i64 (w64 (p1.ends.2 * p1.piece.l)))), (.d (i64 (w64 (p1.half * p1.piece.l))))])), ((11, u19), some (.box 100 [(.d (i64 (w64 (p2.ends.1 * v11)))), (.d (i64 (w64 (p2.ends.2 * v12))))]))]⟩) (sb_of ⟨.of rfl, .of rfl, .of rfl, .of rfl, .of rfl, .of rfl, .of rfl, .of rfl, .of rfl, .of rfl, .of rfl, .of rfl, .of rfl, .of rfl, .of rfl, .of rfl, .of rfl, .of rfl, trivial⟩ (sbG_some G_hit (.of rfl) (sbG_some (G_skip rfl G_hit) (.of rfl) (sbG_some (G_skip rfl (G_skip rfl G_hit)) (.of rfl) (sbG_some (G_skip rfl (G_skip rfl (G_skip rfl G_hit))) (.of rfl) (sbG_some (G_skip rfl (G_skip rfl (G_skip rfl (G_skip rfl (G_skip rfl G_hit))))) (.of rfl) trivial)))))) ?_
      refine l_reg fun u23 hu23 => ?_
      refine s_val (.ptr _ _) rfl rfl ?_
      refine s_val (.d _) rfl (v_load rfl (G_skip rfl (G_skip rfl (G_skip rfl (G_skip rfl G_hit)))) rfl) ?_
      refine s_val (.ptr _ _) rfl rfl ?_
      refine s_val (.d _) rfl (v_load rfl (G_skip rfl (G_skip rfl (G_skip rfl (G_skip rfl G_hit)))) rfl) ?_
      refine s_val (.d _) rfl rfl ?_
      refine s_val (.d _) rfl rfl ?_
      refine s_val (.d _) rfl rfl ?_
      refine s_val (.ptr _ _) rfl rfl ?_
      refine s_val (.ptr _ _) rfl rfl ?_
      refine s_val (.d _) rfl (v_load rfl G_hit rfl) ?_
      obtain ⟨v18, hv18, hz1⟩ := bind_some hz1
      refine s_call rfl rfl all2_refl (curve_floor_ok _ _  _ hv18) (.inl rfl) ?_
      refine s_val (.d _) rfl rfl ?_
      refine s_nil ?_
      refine l_seq ?_
      refine l_sub (s0 := ⟨T [(3, (.ptr (3, u1) 0)), (5, (.ptr (5, u2) 0)), (7, (.ptr (7, u4) 0)), (8, (.ptr (8, u5) 0)), (9, (.d (i64 1))), (13, (.d (i64 v16))), (14, (.d (i64 (w64 (0 - v17))))), (15, (.d (i64 v18))), (60, (.d (.agg [(i64 p1.piece.v.x), (i64 p1.piece.v.y), (i64 v2.x), (i64 v2.y)]))), (61, (.d (i64 1))), (128, (gd (!(decide ((w64 (v8 + (w64 (0 - v9)))) > (w64 (p1.ends.2 * p1.piece.l))))) true (.d (i64 v8)))), (129, (gd (!(decide ((w64 (v8 + (w64 (0 - v9)))) > (w64 (p1.ends.2 * p1.piece.l))))) true (.d (i64 v10)))), (130, (gd (!(decide ((w64 (v8 + (w64 (0 - v9)))) > (w64 (p1.ends.2 * p1.piece.l))))) true (.d (i64 (w64 (v8 + v10)))))), (131, (gd (!(decide ((w64 (v8 + (w64 (0 - v9)))) > (w64 (p1.ends.2 * p1.piece.l))))) true (.d (i64 0)))), (132, (gd (!(decide ((w64 (v8 + (w64 (0 - v9)))) > (w64 (p1.ends.2 * p1.piece.l))))) true (.ptr (7, u4) 0))), (133, (gd (!(decide ((w64 (v8 + (w64 (0 - v9)))) > (w64 (p1.ends.2 * p1.piece.l))))) true (.d (i64 (w64 (p1.ends.1 * p1.piece.l)))))), (134, (gd (!(decide ((w64 (v8 + (w64 (0 - v9)))) > (w64 (p1.ends.2 * p1.piece.l))))) true (.d (bo (decide ((w64 (v8 + v10)) < (w64 (p1.ends.1 * p1.piece.l))))))))], G [((3, u1), some (.box 102 [(.d (i64 p2.piece.p.X)), (.d (i64 p2.piece.p.Y)), (.d (i64 p2.piece.v.x)), (.d (i64 p2.piece.v.y)), (.d (i64 p2.piece.l)), (.d (i64 p2.piece.start)), (.d (i64 p2.half)), (.d (i64 p2.ends.1)), (.d (i64 p2.ends.2))])), ((5, u2), some (.box 78 [(.d (i64 v1.x)), (.d (i64 v1.y))])), ((7, u4), some (.box 100 [(.d (i64 (w64 (p1.ends.1 * p1.piece.l)))), (.d (i64 (w64 ((w64 (0 - p1.half)) * p1.piece.l))))])), ((8, u5), some (.box 100 [(.d (i64 (w64 (p1.ends.2 * p1.piece.l)))), (.d (i64 (w64 (p1.half * p1.piece.l))))]))]⟩) (sb_of ⟨.of rfl, .of rfl, .of rfl, .of rfl, .of rfl, .of rfl, .of rfl, .of rfl, .of rfl, .of rfl, .of rfl, .of rfl, .of rfl, .of rfl, .of rfl, .of rfl, .of rfl, trivial⟩ (sbG_some G_hit (.of rfl) (sbG_some (G_skip rfl G_hit) (.of rfl) (sbG_some (G_skip rfl (G_skip rfl G_hit)) (.of rfl) (sbG_some (G_skip rfl (G_skip rfl (G_skip rfl G_hit))) (.of rfl) trivial))))) ?_
      refine l_reg fun u24 hu24 => ?_
      refine s_val (.d _) rfl rfl ?_
      refine s_val (.d _) rfl rfl ?_
      refine s_val (.d _) rfl rfl ?_
      refine s_val (.d _) rfl rfl ?_
      refine s_val (.ptr _ _) rfl rfl ?_
      refine s_val (.d _) rfl (v_load rfl (G_skip rfl (G_skip rfl (G_skip rfl G_hit))) rfl) ?_
      refine s_val (.d _) rfl rfl ?_
      refine s_val (.d _) rfl rfl ?_
      refine g_val (!(decide ((w64 (v16 + (w64 (0 - v17)))) > (w64 (p1.half * p1.piece.l))))) (.d _) rfl (gw_f rfl) (fun w8 => rfl) ?_
      refine g_val (!(decide ((w64 (v16 + (w64 (0 - v17)))) > (w64 (p1.half * p1.piece.l))))) (.d _) rfl (gw_f rfl) (fun w9 => rfl) ?_
      refine g_val (!(decide ((w64 (v16 + (w64 (0 - v17)))) > (w64 (p1.half * p1.piece.l))))) (.d _) rfl (gw_f rfl) (fun w10 => (v_bin (gd_pos w10) (gd_pos w10) rfl)) ?_
      refine g_val (!(decide ((w64 (v16 + (w64 (0 - v17)))) > (w64 (p1.half * p1.piece.l))))) (.d _) rfl (gw_f rfl) (fun w11 => rfl) ?_
      refine g_val (!(decide ((w64 (v16 + (w64 (0 - v17)))) > (w64 (p1.half * p1.piece.l))))) (.ptr _ _) rfl (gw_f rfl) (fun w12 => (by simp only [gd_pos w12]; rfl)) ?_
      refine g_val (!(decide ((w64 (v16 + (w64 (0 - v17)))) > (w64 (p1.half * p1.piece.l))))) (.d _) rfl (gw_f rfl) (fun w13 => (v_load (gd_pos w13) (G_skip rfl (G_skip rfl G_hit)) rfl)) ?_
      refine g_val (!(decide ((w64 (v16 + (w64 (0 - v17)))) > (w64 (p1.half * p1.piece.l))))) (.d _) rfl (gw_f rfl) (fun w14 => (v_bin (gd_pos w14) (gd_pos w14) rfl)) ?_
      refine s_val (.d _) rfl (v_or rfl rfl (fun hc => gd_pos (not_t hc))) ?_
      refine s_nil ?_
      refine l_cond ((decide ((w64 (v16 + (w64 (0 - v17)))) > (w64 (p1.half * p1.piece.l)))) || (decide ((w64 (v16 + v18)) < (w64 ((w64 (0 - p1.half)) * p1.piece.l))))) rfl (fun c2 => ?_) (fun c2 => ?_)
      · replace hz1 := cond_t c2 hz1
        refine l_seq ?_
        refine l_sub (s0 := ⟨T [], G []⟩) (sb_of trivial trivial) ?_
        refine l_reg fun u25 hu25 => ?_
        refine s_val (.d _) rfl rfl ?_
        refine s_nil ?_
        refine l_ret ?_
        obtain rfl := Option.some.inj hz1
        rw [Sum.elim_inr] at h
        obtain rfl := Option.some.inj h
        refine fin_ok (.inr rfl) (resD1 (res_t rfl) rf_d) ?_
        exact (.refl _)
      · replace hz1 := cond_f c2 hz1
        refine l_skip ?_
        refine l_end ?_
        refine l_sub (s0 := ⟨T [(3, (.ptr (3, u1) 0)), (5, (.ptr (5, u2) 0)), (7, (.ptr (7, u4) 0)), (8, (.ptr (8, u5) 0)), (60, (.d (.agg [(i64 p1.piece.v.x), (i64 p1.piece.v.y), (i64 v2.x), (i64 v2.y)]))), (61, (.d (i64 1))), (128, (gd (!(decide ((w64 (v16 + (w64 (0 - v17)))) > (w64 (p1.half * p1.piece.l))))) true (.d (i64 v16)))), (129, (gd (!(decide ((w64 (v16 + (w64 (0 - v17)))) > (w64 (p1.half * p1.piece.l))))) true (.d (i64 v18)))), (130, (gd (!(decide ((w64 (v16 + (w64 (0 - v17)))) > (w64 (p1.half * p1.piece.l))))) true (.d (i64 (w64 (v16 + v18)))))), (131, (gd (!(decide ((w64 (v16 + (w64 (0 - v17)))) > (w64 (p1.half * p1.piece.l))))) true (.d (i64 1)))), (132, (gd (!(decide ((w64 (v16 + (w64 (0 - v17)))) > (w64 (p1.half * p1.piece.l))))) true (.ptr (7, u4) 1))), (133, (gd (!(decide ((w64 (v16 + (w64 (0 - v17)))) > (w64 (p1.half * p1.piece.l))))) true (.d (i64 (w64 ((w64 (0 - p1.half)) * p1.piece.l)))))), (134, (gd (!(decide ((w64 (v16 + (w64 (0 - v17)))) > (w64 (p1.half * p1.piece.l))))) true (.d (bo (decide ((w64 (v16 + v18)) < (w64 ((w64 (0 - p1.half)) * p1.piece.l))))))))], G [((3, u1), some (.box 102 [(.d (i64 p2.piece.p.X)), (.d (i64 p2.piece.p.Y)), (.d (i64 p2.piece.v.x)), (.d (i64 p2.piece.v.y)), (.d (i64 p2.piece.l)), (.d (i64 p2.piece.start)), (.d (i64 p2.half)), (.d (i64 p2.ends.1)), (.d (i64 p2.ends.2))])), ((5, u2), some (.box 78 [(.d (i64 v1.x)), (.d (i64 v1.y))])), ((7, u4), some (.box 100 [(.d (i64 (w64 (p1.ends.1 * p1.piece.l)))), (.d (i64 (w64 ((w64 (0 - p1.half)) * p1.piece.l))))])), ((8, u5), some (.box 100 [(.d (i64 (w64 (p1.ends.2 * p1.piece.l)))), (.d (i64 (w64 (p1.half * p1.piece.l))))]))]⟩) (sb_of ⟨.of rfl, .of rfl, .of rfl, .of rfl, .of rfl, .of rfl, .of rfl, .of rfl, .of rfl, .of rfl, .of rfl, .of rfl, .of rfl, trivial⟩ (sbG_some G_hit (.of rfl) (sbG_some (G_skip rfl G_hit) (.of rfl) (sbG_some (G_skip rfl (G_skip rfl G_hit)) (.of rfl) (sbG_some (G_skip rfl (G_skip rfl (G_skip rfl G_hit))) (.of rfl) trivial))))) ?_
        refine l_reg fun u26 hu26 => ?_
        refine s_val (.d _) rfl rfl ?_
        refine s_val (.d _) rfl rfl ?_
        refine s_nil ?_
        refine l_unroll ?_
        refine l_seq ?_
        refine l_reg fun u27 hu27 => ?_
        refine s_val (.d _) rfl rfl ?_
        refine s_nil ?_
        refine l_seq ?_
        refine l_condF rfl ?_
        refine l_exit rfl ?_
        obtain rfl := Option.some.inj hz1
        exact l_j ⟨_, (), rfl, (sb_of trivial trivial)⟩
  · rintro _ ⟨y1, g1, rfl, q1⟩
    rw [Sum.elim_inl] at h
    refine l_sub q1 ?_
    refine l_seq ?_
    refine l_reg fun u28 hu28 => ?_
    refine s_val (.d _) rfl rfl ?_
    refine s_nil ?_
    refine l_ret ?_
    obtain rfl := Option.some.inj h
    refine fin_ok (.inr rfl) (resD1 (res_t rfl) rf_d) ?_
    exact (.refl _)

noncomputable def curve_corridor_meets (p1 : CurveCorridor) (p2 : CurveCorridor) : Option Bool :=
  (curve_corridor_apart p1 p2).bind fun v1 => ((cond (!v1) (curve_corridor_apart p2 p1) (some default))).bind fun v2 => some ((!v1) && (!v2))

/-- (kerbstone/curve.corridor).meets -/
def ac_curve_corridor_meets : AC :=
  (.seq (.reg [⟨(some 2), .box 102 true (.t 0), none⟩, ⟨(some 3), .box 102 true (.t 1), none⟩, ⟨(some 4), .mv (.c (.v (.bool false))), none⟩])
  (.seq (.reg [⟨(some 6), .build [(.v .nilFunc), (.v .nilFunc)] [(0, 1, (.c (.fn (.func 87) [] []))), (1, 1, (.c (.fn (.func 87) [] [])))], none⟩, ⟨(some 5), .alloc 114 [(.v .nilFunc), (.v .nilFunc)], none⟩, ⟨none, .store 2 (.t 5) (.t 6), none⟩])
  (.seq (.reg [⟨(some 7), .idxP 2 1 (.t 5) (.c (.v (.int .i64 0))), none⟩, ⟨(some 8), .load 1 false (.t 7), none⟩, ⟨(some 9), .load 9 true (.t 2), none⟩, ⟨(some 10), .load 9 true (.t 3), none⟩, ⟨(some 11), .call (.t 8) [(.t 9), (.t 10)], none⟩, ⟨(some 12), .un .not (.t 11), none⟩, ⟨(some 13), .mv (.t 12), none⟩, ⟨(some 14), .idxP 2 1 (.t 5) (.c (.v (.int .i64 1))), (some (13, true))⟩, ⟨(some 15), .load 1 false (.t 14), (some (13, true))⟩, ⟨(some 16), .load 9 true (.t 3), (some (13, true))⟩, ⟨(some 17), .load 9 true (.t 2), (some (13, true))⟩, ⟨(some 18), .call (.t 15) [(.t 16), (.t 17)], (some (13, true))⟩, ⟨(some 19), .un .not (.t 18), (some (13, true))⟩, ⟨(some 20), .pick (.t 13) (.t 19) (.c (.v (.bool false))), none⟩, ⟨(some 4), .mv (.t 20), none⟩])
  .ret)))
theorem fn_curve_corridor_meets : FnOK Try.prog 81 21 [.t 4] ac_curve_corridor_meets := ⟨_, _, Try.func81, rfl, Try.ntmps81, by kernel_rfl, ⟨fun _ => [], by kernel_rfl⟩, by kernel_rfl⟩
theorem curve_corridor_meets_ok (p1 : CurveCorridor) (p2 : CurveCorridor) (r : Bool) (h : curve_corridor_meets p1 p2 = some r) : PCall Try.prog 81 [(.agg [(i64 p1.piece.p.X), (i64 p1.piece.p.Y), (i64 p1.piece.v.x), (i64 p1.piece.v.y), (i64 p1.piece.l), (i64 p1.piece.start), (i64 p1.half), (i64 p1.ends.1), (i64 p1.ends.2)]), (.agg [(i64 p2.piece.p.X), (i64 p2.piece.p.Y), (i64 p2.piece.v.x), (i64 p2.piece.v.y), (i64 p2.piece.l), (i64 p2.piece.start), (i64 p2.half), (i64 p2.ends.1), (i64 p2.ends.2)])] (bo r) := by
  refine l_call fn_curve_corridor_meets (Nat.le_of_ble_eq_true rfl) ?_
  unfold curve_corridor_meets at h
  unfold ac_curve_corridor_meets
  refine (l_sub (s0 := ⟨T [(0, (.d (.agg [(i64 p1.piece.p.X), (i64 p1.piece.p.Y), (i64 p1.piece.v.x), (i64 p1.piece.v.y), (i64 p1.piece.l), (i64 p1.piece.start), (i64 p1.half), (i64 p1.ends.1), (i64 p1.ends.2)]))), (1, (.d (.agg [(i64 p2.piece.p.X), (i64 p2.piece.p.Y), (i64 p2.piece.v.x), (i64 p2.piece.v.y), (i64 p2.piece.l), (i64 p2.piece.start), (i64 p2.half), (i64 p2.ends.1), (i64 p2.ends.2)])))], G []⟩) (sb_of ⟨.of rfl, .of rfl, trivial⟩ trivial) ?_)
  refine l_seq ?_
  refine l_reg fun u1 hu1 => ?_
  refine s_new (.ptr _ _) (.box _ _) rfl rfl ?_
  refine s_new (.ptr _ _) (.box _ _) rfl rfl ?_
  refine s_val (.d _) rfl rfl ?_
  refine s_nil ?_
  refine l_seq ?_
  refine l_reg fun u2 hu2 => ?_
  refine s_val (.d _) rfl rfl ?_
  refine s_new (.ptr _ _) (.box _ _) rfl rfl ?_
  refine s_store _ _ _ _ _ rfl rfl rfl G_hit (Nat.le_of_ble_eq_true rfl) [(.d (.fn (.func 87) [] [])), (.d (.fn (.func 87) [] []))] rfl ?_
  refine s_nil ?_
  refine l_seq ?_
  refine l_reg fun u3 hu3 => ?_
  refine s_val (.ptr _ _) rfl rfl ?_
  refine s_val (.d _) rfl (v_load rfl G_hit rfl) ?_
  refine s_val (.d _) rfl (v_loadG rfl (G_skip rfl (G_skip rfl (G_skip rfl G_hit))) rfl rfl) ?_
  refine s_val (.d _) rfl (v_loadG rfl (G_skip rfl (G_skip rfl G_hit)) rfl rfl) ?_
  obtain ⟨v1, hv1, h⟩ := bind_some h
  refine s_call rfl rfl all2_refl (curve_corridor_apart_ok _ _  _ hv1) (.inl rfl) ?_
  refine s_val (.d _) rfl rfl ?_
  refine s_val (.d _) rfl rfl ?_
  refine g_val (!v1) (.ptr _ _) rfl (gw_t rfl) (fun w1 => rfl) ?_
  refine g_val (!v1) (.d _) rfl (gw_t rfl) (fun w2 => (v_load (gd_pos w2) G_hit rfl)) ?_
  refine g_val (!v1) (.d _) rfl (gw_t rfl) (fun w3 => (v_loadG rfl (G_skip rfl (G_skip rfl G_hit)) rfl rfl)) ?_
  refine g_val (!v1) (.d _) rfl (gw_t rfl) (fun w4 => (v_loadG rfl (G_skip rfl (G_skip rfl (G_skip rfl G_hit))) rfl rfl)) ?_
  obtain ⟨v2, hv2, h⟩ := bind_some h
  refine g_call (!v1) (bo v2) (gw_t rfl) (fun w5 => ⟨_, [(.d (.agg [(i64 p2.piece.p.X), (i64 p2.piece.p.Y), (i64 p2.piece.v.x), (i64 p2.piece.v.y), (i64 p2.piece.l), (i64 p2.piece.start), (i64 p2.half), (i64 p2.ends.1), (i64 p2.ends.2)])), (.d (.agg [(i64 p1.piece.p.X), (i64 p1.piece.p.Y), (i64 p1.piece.v.x), (i64 p1.piece.v.y), (i64 p1.piece.l), (i64 p1.piece.start), (i64 p1.half), (i64 p1.ends.1), (i64 p1.ends.2)]))], _, _, (by simp only [gd_pos w5]; rfl), rfl, all2_refl, curve_corridor_apart_ok _ _  _ (cond_t w5 hv2), (.inl rfl)⟩) ?_
  refine g_val (!v1) (.d _) rfl (gw_t rfl) (fun w6 => (by simp only [gd_pos w6]; rfl)) ?_
  refine s_val (.d _) rfl (v_and rfl (fun hc => gd_pos hc) rfl) ?_
  refine s_val (.d _) rfl rfl ?_
  refine s_nil ?_
  refine l_ret ?_
  obtain rfl := Option.some.inj h
  refine fin_ok (.inr rfl) (resD1 (res_t rfl) rf_d) ?_
  exact (.refl _)

noncomputable def curve_corridor_span_l2 (p2 : CurveCorridor) (x2 : (Int × Int × CurveCorridor)) : Option (Stp (Int × Int × CurveCorridor) Int) :=
  cond (decide (x2.1 < x2.2.1)) ((curve_corridor_meets (CurveCorridor.mk x2.2.2.piece x2.2.2.half ((w64 ((w64 ((w64 (x2.1 + x2.2.1)) + 1)).tdiv 2)), x2.2.2.ends.2)) p2).bind fun v2 => cond v2 (some (.go ((w64 ((w64 ((w64 (x2.1 + x2.2.1)) + 1)).tdiv 2)), x2.2.1, (CurveCorridor.mk x2.2.2.piece x2.2.2.half ((w64 ((w64 ((w64 (x2.1 + x2.2.1)) + 1)).tdiv 2)), x2.2.2.ends.2))))) (some (.go (x2.1, (w64 ((w64 ((w64 ((w64 (x2.1 + x2.2.1)) + 1)).tdiv 2)) - 1)), (CurveCorridor.mk x2.2.2.piece x2.2.2.half ((w64 ((w64 ((w64 (x2.1 + x2.2.1)) + 1)).tdiv 2)), x2.2.2.ends.2)))))) (some (.out x2.1))
noncomputable def curve_corridor_span_l1 (p2 : CurveCorridor) (x1 : (Int × Int × CurveCorridor)) : Option (Stp (Int × Int × CurveCorridor) Int) :=
  cond (decide (x1.1 < x1.2.1)) ((curve_corridor_meets (CurveCorridor.mk x1.2.2.piece x1.2.2.half (x1.2.2.ends.1, (w64 ((w64 (x1.1 + x1.2.1)).tdiv 2)))) p2).bind fun v1 => cond v1 (some (.go (x1.1, (w64 ((w64 (x1.1 + x1.2.1)).tdiv 2)), (CurveCorridor.mk x1.2.2.piece x1.2.2.half (x1.2.2.ends.1, (w64 ((w64 (x1.1 + x1.2.1)).tdiv 2))))))) (some (.go ((w64 ((w64 ((w64 (x1.1 + x1.2.1)).tdiv 2)) + 1)), x1.2.1, (CurveCorridor.mk x1.2.2.piece x1.2.2.half (x1.2.2.ends.1, (w64 ((w64 (x1.1 + x1.2.1)).tdiv 2)))))))) (some (.out x1.1))
noncomputable def curve_corridor_span (p1 : CurveCorridor) (p2 : CurveCorridor) : Option (Int × Int) :=
  (loop (curve_corridor_span_l1 p2) (0, p1.piece.l, p1)).bind fun y1 => (loop (curve_corridor_span_l2 p2) (0, p1.piece.l, p1)).bind fun y2 => some ((w64 (p1.piece.start + (mm2 true 0 (w64 (y1 - 1))))), (w64 (p1.piece.start + (mm2 false p1.piece.l (w64 (y2 + 1))))))

/-- (kerbstone/curve.corridor).span -/
def ac_curve_corridor_span : AC :=
  (.seq (.reg [⟨(some 2), .box 102 true (.t 0), none⟩, ⟨(some 3), .box 102 true (.t 1), none⟩, ⟨(some 4), .mv (.c (.v (.int .i64 0))), none⟩, ⟨(some 5), .mv (.c (.v (.int .i64 0))), none⟩])
  (.seq (.draw [⟨(some 11), .load 9 true (.t 2), none⟩, ⟨(some 12), .load 9 true (.t 2), none⟩, ⟨(some 6), .alloc 102 [(.v (.int .i64 0)), (.v (.int .i64 0)), (.v (.int .i64 0)), (.v (.int .i64 0)), (.v (.int .i64 0)), (.v (.int .i64 0)), (.v (.int .i64 0)), (.v (.int .i64 0)), (.v (.int .i64 0))], none⟩, ⟨(some 7), .alloc 102 [(.v (.int .i64 0)), (.v (.int .i64 0)), (.v (.int .i64 0)), (.v (.int .i64 0)), (.v (.int .i64 0)), (.v (.int .i64 0)), (.v (.int .i64 0)), (.v (.int .i64 0)), (.v (.int .i64 0))], none⟩, ⟨none, .store 9 (.t 6) (.t 11), none⟩, ⟨none, .store 9 (.t 7) (.t 12), none⟩] [(1, 4)])
  (.seq (.draw [⟨(some 13), .fieldA 0 (.t 2), none⟩, ⟨(some 14), .fieldA 4 (.t 13), none⟩, ⟨(some 15), .load 1 false (.t 14), none⟩, ⟨(some 8), .mv (.c (.v (.int .i64 0))), none⟩, ⟨(some 9), .mv (.t 15), none⟩] [])
  (.seq (.block 0
    (.loop
      (.seq (.seq (.reg [⟨(some 16), .mv (.t 8), none⟩, ⟨(some 17), .mv (.t 9), none⟩, ⟨(some 18), .bin .lss (.t 16) (.t 17), none⟩])
      (.cond (.t 18)
        .skip
        (.exit 0)))
      (.block 1
        (.seq (.reg [⟨(some 19), .mv (.t 8), none⟩, ⟨(some 20), .mv (.t 9), none⟩, ⟨(some 21), .bin .add (.t 19) (.t 20), none⟩, ⟨(some 22), .bin .quo (.t 21) (.c (.v (.int .i64 2))), none⟩, ⟨(some 23), .fieldA 7 (.t 6), none⟩, ⟨(some 24), .idxP 2 1 (.t 23) (.c (.v (.int .i64 1))), none⟩, ⟨none, .store 1 (.t 24) (.t 22), none⟩])
        (.seq (.reg [⟨(some 25), .load 9 true (.t 6), none⟩, ⟨(some 26), .load 9 true (.t 3), none⟩, ⟨(some 27), .call (.c (.fn (.func 81) [] [])) [(.t 25), (.t 26)], none⟩])
        (.cond (.t 27)
          (.reg [⟨(some 28), .fieldA 7 (.t 6), none⟩, ⟨(some 29), .idxP 2 1 (.t 28) (.c (.v (.int .i64 1))), none⟩, ⟨(some 30), .load 1 false (.t 29), none⟩, ⟨(some 9), .mv (.t 30), none⟩])
          (.reg [⟨(some 31), .fieldA 7 (.t 6), none⟩, ⟨(some 32), .idxP 2 1 (.t 31) (.c (.v (.int .i64 1))), none⟩, ⟨(some 33), .load 1 false (.t 32), none⟩, ⟨(some 34), .bin .add (.t 33) (.c (.v (.int .i64 1))), none⟩, ⟨(some 8), .mv (.t 34), none⟩]))))))))
  (.seq (.reg [⟨(some 35), .mv (.t 8), none⟩, ⟨(some 10), .mv (.t 35), none⟩])
  (.seq (.draw [⟨(some 36), .fieldA 0 (.t 2), none⟩, ⟨(some 37), .fieldA 4 (.t 36), none⟩, ⟨(some 38), .load 1 false (.t 37), none⟩, ⟨(some 8), .mv (.c (.v (.int .i64 0))), none⟩, ⟨(some 9), .mv (.t 38), none⟩] [])
  (.seq (.block 2
    (.loop
      (.seq (.seq (.reg [⟨(some 39), .mv (.t 8), none⟩, ⟨(some 40), .mv (.t 9), none⟩, ⟨(some 41), .bin .lss (.t 39) (.t 40), none⟩])
      (.cond (.t 41)
        .skip
        (.exit 2)))
      (.block 3
        (.seq (.reg [⟨(some 42), .mv (.t 8), none⟩, ⟨(some 43), .mv (.t 9), none⟩, ⟨(some 44), .bin .add (.t 42) (.t 43), none⟩, ⟨(some 45), .bin .add (.t 44) (.c (.v (.int .i64 1))), none⟩, ⟨(some 46), .bin .quo (.t 45) (.c (.v (.int .i64 2))), none⟩, ⟨(some 47), .fieldA 7 (.t 7), none⟩, ⟨(some 48), .idxP 2 1 (.t 47) (.c (.v (.int .i64 0))), none⟩, ⟨none, .store 1 (.t 48) (.t 46), none⟩])
        (.seq (.reg [⟨(some 49), .load 9 true (.t 7), none⟩, ⟨(some 50), .load 9 true (.t 3), none⟩, ⟨(some 51), .call (.c (.fn (.func 81) [] [])) [(.t 49), (.t 50)], none⟩])
        (.cond (.t 51)
          (.reg [⟨(some 52), .fieldA 7 (.t 7), none⟩, ⟨(some 53), .idxP 2 1 (.t 52) (.c (.v (.int .i64 0))), none⟩, ⟨(some 54), .load 1 false (.t 53), none⟩, ⟨(some 8), .mv (.t 54), none⟩])
          (.reg [⟨(some 55), .fieldA 7 (.t 7), none⟩, ⟨(some 56), .idxP 2 1 (.t 55) (.c (.v (.int .i64 0))), none⟩, ⟨(some 57), .load 1 false (.t 56), none⟩, ⟨(some 58), .bin .sub (.t 57) (.c (.v (.int .i64 1))), none⟩, ⟨(some 9), .mv (.t 58), none⟩]))))))))
  (.seq (.draw [⟨(some 59), .fieldA 0 (.t 2), none⟩, ⟨(some 60), .fieldA 5 (.t 59), none⟩, ⟨(some 61), .load 1 false (.t 60), none⟩, ⟨(some 62), .mv (.t 10), none⟩, ⟨(some 63), .bin .sub (.t 62) (.c (.v (.int .i64 1))), none⟩, ⟨(some 64), .mm true (.c (.v (.int .i64 0))) [(.t 63)], none⟩, ⟨(some 65), .bin .add (.t 61) (.t 64), none⟩, ⟨(some 66), .fieldA 0 (.t 2), none⟩, ⟨(some 67), .fieldA 5 (.t 66), none⟩, ⟨(some 68), .load 1 false (.t 67), none⟩, ⟨(some 69), .fieldA 0 (.t 2), none⟩, ⟨(some 70), .fieldA 4 (.t 69), none⟩, ⟨(some 71), .load 1 false (.t 70), none⟩, ⟨(some 72), .mv (.t 8), none⟩, ⟨(some 73), .bin .add (.t 72) (.c (.v (.int .i64 1))), none⟩, ⟨(some 74), .mm false (.t 71) [(.t 73)], none⟩, ⟨(some 75), .bin .add (.t 68) (.t 74), none⟩, ⟨(some 4), .mv (.t 65), none⟩, ⟨(some 5), .mv (.t 75), none⟩] [])
  .ret))))))))
theorem fn_curve_corridor_span : FnOK Try.prog 82 76 [.t 4, .t 5] ac_curve_corridor_span := ⟨_, _, Try.func82, rfl, Try.ntmps82, by kernel_rfl, ⟨fun _ => [], by kernel_rfl⟩, by kernel_rfl⟩
set_option maxHeartbeats 4000000 in
theorem curve_corridor_span_ok (p1 : CurveCorridor) (p2 : CurveCorridor) (r : (Int × Int)) (h : curve_corridor_span p1 p2 = some r) : PCall Try.prog 82 [(.agg [(i64 p1.piece.p.X), (i64 p1.piece.p.Y), (i64 p1.piece.v.x), (i64 p1.piece.v.y), (i64 p1.piece.l), (i64 p1.piece.start), (i64 p1.half), (i64 p1.ends.1), (i64 p1.ends.2)]), (.agg [(i64 p2.piece.p.X), (i64 p2.piece.p.Y), (i64 p2.piece.v.x), (i64 p2.piece.v.y), (i64 p2.piece.l), (i64 p2.piece.start), (i64 p2.half), (i64 p2.ends.1), (i64 p2.ends.2)])] (.tup [(i64 r.1), (i64 r.2)]) := by
  refine l_call fn_curve_corridor_span (Nat.le_of_ble_eq_true rfl) ?_
  unfold curve_corridor_span at h
  unfold ac_curve_corridor_span
  refine (l_sub (s0 := ⟨T [(0, (.d (.agg [(i64 p1.piece.p.X), (i64 p1.piece.p.Y), (i64 p1.piece.v.x), (i64 p1.piece.v.y), (i64 p1.piece.l), (i64 p1.piece.start), (i64 p1.half), (i64 p1.ends.1), (i64 p1.ends.2)]))), (1, (.d (.agg [(i64 p2.piece.p.X), (i64 p2.piece.p.Y), (i64 p2.piece.v.x), (i64 p2.piece.v.y), (i64 p2.piece.l), (i64 p2.piece.start), (i64 p2.half), (i64 p2.ends.1), (i64 p2.ends.2)])))], G []⟩) (sb_of ⟨.of rfl, .of rfl, trivial⟩ trivial) ?_)
  refine l_seq ?_
  refine l_reg fun u1 hu1 => ?_
  refine s_new (.ptr _ _) (.box _ _) rfl rfl ?_
  refine s_new (.ptr _ _) (.box _ _) rfl rfl ?_
  refine s_val (.d _) rfl rfl ?_
  refine s_val (.d _) rfl rfl ?_
  refine s_nil ?_
  refine l_seq ?_
  refine l_drawT fun u2 hu2 => ?_
  refine t_val (.d _) rfl (v_loadG rfl (G_skip rfl G_hit) rfl rfl) ?_
  refine t_val (.d _) rfl (v_loadG rfl (G_skip rfl G_hit) rfl rfl) ?_
  refine t_new (.ptr _ _) (.box _ _) rfl rfl ?_
  refine t_new (.ptr _ _) (.box _ _) rfl rfl ?_
  refine t_store _ _ _ _ _ rfl rfl rfl (G_skip rfl G_hit) (Nat.le_of_ble_eq_true rfl) [(.d (i64 p1.piece.p.X)), (.d (i64 p1.piece.p.Y)), (.d (i64 p1.piece.v.x)), (.d (i64 p1.piece.v.y)), (.d (i64 p1.piece.l)), (.d (i64 p1.piece.start)), (.d (i64 p1.half)), (.d (i64 p1.ends.1)), (.d (i64 p1.ends.2))] rfl ?_
  refine t_store _ _ _ _ _ rfl rfl rfl (G_skip rfl G_hit) (Nat.le_of_ble_eq_true rfl) [(.d (i64 p1.piece.p.X)), (.d (i64 p1.piece.p.Y)), (.d (i64 p1.piece.v.x)), (.d (i64 p1.piece.v.y)), (.d (i64 p1.piece.l)), (.d (i64 p1.piece.start)), (.d (i64 p1.half)), (.d (i64 p1.ends.1)), (.d (i64 p1.ends.2))] rfl ?_
  refine t_nil ⟨rfl, ?_⟩
  refine l_seq ?_
  refine l_draw rfl fun u3 hu3 => ?_
  refine s_val (.ptr _ _) rfl rfl ?_
  refine s_val (.ptr _ _) rfl rfl ?_
  refine s_val (.d _) rfl (v_load rfl (G_skip rfl (G_skip rfl (G_skip rfl (G_skip rfl (G_skip rfl G_hit))))) rfl) ?_
  refine s_val (.d _) rfl rfl ?_
  refine s_val (.d _) rfl rfl ?_
  refine s_nil ?_
  refine l_seq ?_
  obtain ⟨y1, hy1, h⟩ := bind_some h
  refine l_join (fun s => ∃ g1 : Unit, Sb ⟨T [(2, (.ptr (2, u1) 0)), (3, (.ptr (3, u1) 0)), (7, (.ptr (7, u2) 0)), (8, (.d (i64 y1)))], G [((2, u1), some (.box 102 [(.d (i64 p1.piece.p.X)), (.d (i64 p1.piece.p.Y)), (.d (i64 p1.piece.v.x)), (.d (i64 p1.piece.v.y)), (.d (i64 p1.piece.l)), (.d (i64 p1.piece.start)), (.d (i64 p1.half)), (.d (i64 p1.ends.1)), (.d (i64 p1.ends.2))])), ((3, u1), some (.box 102 [(.d (i64 p2.piece.p.X)), (.d (i64 p2.piece.p.Y)), (.d (i64 p2.piece.v.x)), (.d (i64 p2.piece.v.y)), (.d (i64 p2.piece.l)), (.d (i64 p2.piece.start)), (.d (i64 p2.half)), (.d (i64 p2.ends.1)), (.d (i64 p2.ends.2))])), ((7, u2), some (.box 102 [(.d (i64 p1.piece.p.X)), (.d (i64 p1.piece.p.Y)), (.d (i64 p1.piece.v.x)), (.d (i64 p1.piece.v.y)), (.d (i64 p1.piece.l)), (.d (i64 p1.piece.start)), (.d (i64 p1.half)), (.d (i64 p1.ends.1)), (.d (i64 p1.ends.2))]))]⟩ s) ?_ ?_
  · skip
    refine l_block ?_
    refine l_loop (curve_corridor_span_l1 p2) (fun (x1 : (Int × Int × CurveCorridor)) (g2 : Unit) => ⟨T [(2, (.ptr (2, u1) 0)), (3, (.ptr (3, u1) 0)), (6, (.ptr (6, u2) 0)), (7, (.ptr (7, u2) 0)), (8, (.d (i64 x1.1))), (9, (.d (i64 x1.2.1)))], G [((2, u1), some (.box 102 [(.d (i64 p1.piece.p.X)), (.d (i64 p1.piece.p.Y)), (.d (i64 p1.piece.v.x)), (.d (i64 p1.piece.v.y)), (.d (i64 p1.piece.l)), (.d (i64 p1.piece.start)), (.d (i64 p1.half)), (.d (i64 p1.ends.1)), (.d (i64 p1.ends.2))])), ((3, u1), some (.box 102 [(.d (i64 p2.piece.p.X)), (.d (i64 p2.piece.p.Y)), (.d (i64 p2.piece.v.x)), (.d (i64 p2.piece.v.y)), (.d (i64 p2.piece.l)), (.d (i64 p2.piece.start)), (.d (i64 p2.half)), (.d (i64 p2.ends.1)), (.d (i64 p2.ends.2))])), ((6, u2), some (.box 102 [(.d (i64 x1.2.2.piece.p.X)), (.d (i64 x1.2.2.piece.p.Y)), (.d (i64 x1.2.2.piece.v.x)), (.d (i64 x1.2.2.piece.v.y)), (.d (i64 x1.2.2.piece.l)), (.d (i64 x1.2.2.piece.start)), (.d (i64 x1.2.2.half)), (.d (i64 x1.2.2.ends.1)), (.d (i64 x1.2.2.ends.2))])), ((7, u2), some (.box 102 [(.d (i64 p1.piece.p.X)), (.d (i64 p1.piece.p.Y)), (.d (i64 p1.piece.v.x)), (.d (i64 p1.piece.v.y)), (.d (i64 p1.piece.l)), (.d (i64 p1.piece.start)), (.d (i64 p1.half)), (.d (i64 p1.ends.1)), (.d (i64 p1.ends.2))]))]⟩) (0, p1.piece.l, p1) () _ hy1 (sb_of ⟨.of rfl, .of rfl, .of rfl, .of rfl, .of rfl, .of rfl, trivial⟩ (sbG_some (G_skip rfl (G_skip rfl (G_skip rfl (G_skip rfl (G_skip rfl G_hit))))) (.of rfl) (sbG_some (G_skip rfl (G_skip rfl (G_skip rfl (G_skip rfl G_hit)))) (.of rfl) (sbG_some (G_skip rfl G_hit) (.of rfl) (sbG_some G_hit (.of rfl) trivial))))) ?_
    intro x1 g2 z1 hz1 ez1
    unfold curve_corridor_span_l1 at hz1
    refine l_seq ?_
    refine l_seq ?_
    refine l_reg fun u4 hu4 => ?_
    refine s_val (.d _) rfl rfl ?_
    refine s_val (.d _) rfl rfl ?_
    refine s_val (.d _) rfl rfl ?_
    refine s_nil ?_
    refine l_cond (decide (x1.1 < x1.2.1)) rfl (fun c1 => ?_) (fun c1 => ?_)
    · replace hz1 := cond_t c1 hz1
      refine l_skip ?_
      refine l_block ?_
      refine l_seq ?_
      refine l_reg fun u5 hu5 => ?_
      refine s_val (.d _) rfl rfl ?_
      refine s_val (.d _) rfl rfl ?_
      refine s_val (.d _) rfl rfl ?_
      refine s_val (.d _) rfl rfl ?_
      refine s_val (.ptr _ _) rfl rfl ?_
      refine s_val (.ptr _ _) rfl rfl ?_
      refine s_store _ _ _ _ _ rfl rfl rfl (G_skip rfl (G_skip rfl G_hit)) (Nat.le_of_ble_eq_true rfl) [(.d (i64 x1.2.2.piece.p.X)), (.d (i64 x1.2.2.piece.p.Y)), (.d (i64 x1.2.2.piece.v.x)), (.d (i64 x1.2.2.piece.v.y)), (.d (i64 x1.2.2.piece.l)), (.d (i64 x1.2.2.piece.start)), (.d (i64 x1.2.2.half)), (.d (i64 x1.2.2.ends.1)), (.d (i64 (w64 ((w64 (x1.1 + x1.2.1)).tdiv 2))))] rfl ?_
      refine s_nil ?_
      refine l_seq ?_
      refine l_reg fun u6 hu6 => ?_
      refine s_val (.d _) rfl (v_loadG rfl G_hit rfl rfl) ?_
      refine s_val (.d _) rfl (v_loadG rfl (G_skip rfl (G_skip rfl G_hit)) rfl rfl) ?_
      obtain ⟨v1, hv1, hz1⟩ := bind_some hz1
      refine s_call rfl rfl all2_refl (curve_corridor_meets_ok _ _  _ hv1) (.inl rfl) ?_
      refine s_nil ?_
      refine l_cond v1 rfl (fun c2 => ?_) (fun c2 => ?_)
      · replace hz1 := cond_t c2 hz1
        refine l_sub (s0 := ⟨T [(2, (.ptr (2, u1) 0)), (3, (.ptr (3, u1) 0)), (6, (.ptr (6, u2) 0)), (7, (.ptr (7, u2) 0)), (8, (.d (i64 x1.1)))], G [((2, u1), some (.box 102 [(.d (i64 p1.piece.p.X)), (.d (i64 p1.piece.p.Y)), (.d (i64 p1.piece.v.x)), (.d (i64 p1.piece.v.y)), (.d (i64 p1.piece.l)), (.d (i64 p1.piece.start)), (.d (i64 p1.half)), (.d (i64 p1.ends.1)), (.d (i64 p1.ends.2))])), ((3, u1), some (.box 102 [(.d (i64 p2.piece.p.X)), (.d (i64 p2.piece.p.Y)), (.d (i64 p2.piece.v.x)), (.d (i64 p2.piece.v.y)), (.d (i64 p2.piece.l)), (.d (i64 p2.piece.start)), (.d (i64 p2.half)), (.d (i64 p2.ends.1)), (.d (i64 p2.ends.2))])), ((6, u2), some (.box 102 [(.d (i64 x1.2.2.piece.p.X)), (.d (i64 x1.2.2.piece.p.Y)), (.d (i64 x1.2.2.piece.v.x)), (.d (i64 x1.2.2.piece.v.y)), (.d (i64 x1.2.2.piece.l)), (.d (i64 x1.2.2.piece.start)), (.d (i64 x1.2.2.half)), (.d (i64 x1.2.2.ends.1)), (.d (i64 (w64 ((w64 (x1.1 + x1.2.1)).tdiv 2))))])), ((7, u2), some (.box 102 [(.d (i64 p1.piece.p.X)), (.d (i64 p1.piece.p.Y)), (.d (i64 p1.piece.v.x)), (.d (i64 p1.piece.v.y)), (.d (i64 p1.piece.l)), (.d (i64 p1.piece.start)), (.d (i64 p1.half)), (.d (i64 p1.ends.1)), (.d (i64 p1.ends.2))]))]⟩) (sb_of ⟨.of rfl, .of rfl, .of rfl, .of rfl, .of rfl, trivial⟩ (sbG_some (G_skip rfl G_hit) (.of rfl) (sbG_some (G_skip rfl (G_skip rfl G_hit)) (.of rfl) (sbG_some G_hit (.of rfl) (sbG_some (G_skip rfl (G_skip rfl (G_skip rfl (G_skip rfl G_hit)))) (.of rfl) trivial))))) ?_
        refine l_reg fun u7 hu7 => ?_
        refine s_val (.ptr _ _) rfl rfl ?_
        refine s_val (.ptr _ _) rfl rfl ?_
        refine s_val (.d _) rfl (v_load rfl (G_skip rfl (G_skip rfl G_hit)) rfl) ?_
        refine s_val (.d _) rfl rfl ?_
        refine s_nil ?_
        refine l_end ?_
        refine l_nil ?_
        obtain rfl := Option.some.inj hz1
        exact ⟨rfl, (), (sb_of ⟨.of rfl, .of rfl, .of rfl, .of rfl, .of rfl, .of rfl, trivial⟩ (sbG_some G_hit (.of rfl) (sbG_some (G_skip rfl G_hit) (.of rfl) (sbG_some (G_skip rfl (G_skip rfl G_hit)) (.of rfl) (sbG_some (G_skip rfl (G_skip rfl (G_skip rfl G_hit))) (.of rfl) trivial)))))⟩
      · replace hz1 := cond_f c2 hz1
        refine l_sub (s0 := ⟨T [(2, (.ptr (2, u1) 0)), (3, (.ptr (3, u1) 0)), (6, (.ptr (6, u2) 0)), (7, (.ptr (7, u2) 0)), (9, (.d (i64 x1.2.1)))], G [((2, u1), some (.box 102 [(.d (i64 p1.piece.p.X)), (.d (i64 p1.piece.p.Y)), (.d (i64 p1.piece.v.x)), (.d (i64 p1.piece.v.y)), (.d (i64 p1.piece.l)), (.d (i64 p1.piece.start)), (.d (i64 p1.half)), (.d (i64 p1.ends.1)), (.d (i64 p1.ends.2))])), ((3, u1), some (.box 102 [(.d (i64 p2.piece.p.X)), (.d (i64 p2.piece.p.Y)), (.d (i64 p2.piece.v.x)), (.d (i64 p2.piece.v.y)), (.d (i64 p2.piece.l)), (.d (i64 p2.piece.start)), (.d (i64 p2.half)), (.d (i64 p2.ends.1)), (.d (i64 p2.ends.2))])), ((6, u2), some (.box 102 [(.d (i64 x1.2.2.piece.p.X)), (.d (i64 x1.2.2.piece.p.Y)), (.d (i64 x1.2.2.piece.v.x)), (.d (i64 x1.2.2.piece.v.y)), (.d (i64 x1.2.2.piece.l)), (.d (i64 x1.2.2.piece.start)), (.d (i64 x1.2.2.half)), (.d (i64 x1.2.2.ends.1)), (.d (i64 (w64 ((w64 (x1.1 + x1.2.1)).tdiv 2))))])), ((7, u2), some (.box 102 [(.d (i64 p1.piece.p.X)), (.d (i64 p1.piece.p.Y)), (.d (i64 p1.piece.v.x)), (.d (i64 p1.piece.v.y)), (.d (i64 p1.piece.l)), (.d (i64 p1.piece.start)), (.d (i64 p1.half)), (.d (i64 p1.ends.1)), (.d (i64 p1.ends.2))]))]⟩) (sb_of ⟨.of rfl, .of rfl, .of rfl, .of rfl, .of rfl, trivial⟩ (sbG_some (G_skip rfl G_hit) (.of rfl) (sbG_some (G_skip rfl (G_skip rfl G_hit)) (.of rfl) (sbG_some G_hit (.of rfl) (sbG_some (G_skip rfl (G_skip rfl (G_skip rfl (G_skip rfl G_hit)))) (.of rfl) trivial))))) ?_
        refine l_reg fun u8 hu8 => ?_
        refine s_val (.ptr _ _) rfl rfl ?_
        refine s_val (.ptr _ _) rfl rfl ?_
        refine s_val (.d _) rfl (v_load rfl (G_skip rfl (G_skip rfl G_hit)) rfl) ?_
        refine s_val (.d _) rfl rfl ?_
        refine s_val (.d _) rfl rfl ?_
        refine s_nil ?_
        refine l_end ?_
        refine l_nil ?_
        obtain rfl := Option.some.inj hz1
        exact ⟨rfl, (), (sb_of ⟨.of rfl, .of rfl, .of rfl, .of rfl, .of rfl, .of rfl, trivial⟩ (sbG_some G_hit (.of rfl) (sbG_some (G_skip rfl G_hit) (.of rfl) (sbG_some (G_skip rfl (G_skip rfl G_hit)) (.of rfl) (sbG_some (G_skip rfl (G_skip rfl (G_skip rfl G_hit))) (.of rfl) trivial)))))⟩
    · replace hz1 := cond_f c1 hz1
      refine l_exitN rfl ?_
      obtain rfl := Option.some.inj hz1
      obtain rfl := ez1 _ rfl
      refine ⟨nofun, awl_pop rfl (l_j ?_)⟩
      exact ⟨(), (sb_of ⟨.of rfl, .of rfl, .of rfl, .of rfl, trivial⟩ (sbG_some G_hit (.of rfl) (sbG_some (G_skip rfl G_hit) (.of rfl) (sbG_some (G_skip rfl (G_skip rfl (G_skip rfl G_hit))) (.of rfl) trivial))))⟩
  · rintro _ ⟨g1, q1⟩
    refine l_sub q1 ?_
    refine l_seq ?_
    refine l_reg fun u9 hu9 => ?_
    refine s_val (.d _) rfl rfl ?_
    refine s_val (.d _) rfl rfl ?_
    refine s_nil ?_
    refine l_seq ?_
    refine l_draw rfl fun u10 hu10 => ?_
    refine s_val (.ptr _ _) rfl rfl ?_
    refine s_val (.ptr _ _) rfl rfl ?_
    refine s_val (.d _) rfl (v_load rfl G_hit rfl) ?_
    refine s_val (.d _) rfl rfl ?_
    refine s_val (.d _) rfl rfl ?_
    refine s_nil ?_
    refine l_seq ?_
    obtain ⟨y2, hy2, h⟩ := bind_some h
    refine l_join (fun s => ∃ g3 : Unit, Sb ⟨T [(2, (.ptr (2, u1) 0)), (8, (.d (i64 y2))), (10, (.d (i64 y1)))], G [((2, u1), some (.box 102 [(.d (i64 p1.piece.p.X)), (.d (i64 p1.piece.p.Y)), (.d (i64 p1.piece.v.x)), (.d (i64 p1.piece.v.y)), (.d (i64 p1.piece.l)), (.d (i64 p1.piece.start)), (.d (i64 p1.half)), (.d (i64 p1.ends.1)), (.d (i64 p1.ends.2))]))]⟩ s) ?_ ?_
    · skip
      refine l_block ?_
      refine l_loop (curve_corridor_span_l2 p2) (fun (x2 : (Int × Int × CurveCorridor)) (g4 : Unit) => ⟨T [(2, (.ptr (2, u1) 0)), (3, (.ptr (3, u1) 0)), (7, (.ptr (7, u2) 0)), (8, (.d (i64 x2.1))), (9, (.d (i64 x2.2.1))), (10, (.d (i64 y1)))], G [((2, u1), some (.box 102 [(.d (i64 p1.piece.p.X)), (.d (i64 p1.piece.p.Y)), (.d (i64 p1.piece.v.x)), (.d (i64 p1.piece.v.y)), (.d (i64 p1.piece.l)), (.d (i64 p1.piece.start)), (.d (i64 p1.half)), (.d (i64 p1.ends.1)), (.d (i64 p1.ends.2))])), ((3, u1), some (.box 102 [(.d (i64 p2.piece.p.X)), (.d (i64 p2.piece.p.Y)), (.d (i64 p2.piece.v.x)), (.d (i64 p2.piece.v.y)), (.d (i64 p2.piece.l)), (.d (i64 p2.piece.start)), (.d (i64 p2.half)), (.d (i64 p2.ends.1)), (.d (i64 p2.ends.2))])), ((7, u2), some (.box 102 [(.d (i64 x2.2.2.piece.p.X)), (.d (i64 x2.2.2.piece.p.Y)), (.d (i64 x2.2.2.piece.v.x)), (.d (i64 x2.2.2.piece.v.y)), (.d (i64 x2.2.2.piece.l)), (.d (i64 x2.2.2.piece.start)), (.d (i64 x2.2.2.half)), (.d (i64 x2.2.2.ends.1)), (.d (i64 x2.2.2.ends.2))]))]⟩) (0, p1.piece.l, p1) () _ hy2 (sb_of ⟨.of rfl, .of rfl, .of rfl, .of rfl, .of rfl, .of rfl, trivial⟩ (sbG_some G_hit (.of rfl) (sbG_some (G_skip rfl G_hit) (.of rfl) (sbG_some (G_skip rfl (G_skip rfl G_hit)) (.of rfl) trivial)))) ?_
      intro x2 g4 z2 hz2 ez2
      unfold curve_corridor_span_l2 at hz2
      refine l_seq ?_
      refine l_seq ?_
      refine l_reg fun u11 hu11 => ?_
      refine s_val (.d _) rfl rfl ?_
      refine s_val (.d _) rfl rfl ?_
      refine s_val (.d _) rfl rfl ?_
      refine s_nil ?_
      refine l_cond (decide (x2.1 < x2.2.1)) rfl (fun c3 => ?_) (fun c3 => ?_)
      · replace hz2 := cond_t c3 hz2
        refine l_skip ?_
        refine l_block ?_
        refine l_seq ?_
        refine l_reg fun u12 hu12 => ?_
        refine s_val (.d _) rfl rfl ?_
        refine s_val (.d _) rfl rfl ?_
        refine s_val (.d _) rfl rfl ?_
        refine s_val (.d _) rfl rfl ?_
        refine s_val (.d _) rfl rfl ?_
        refine s_val (.ptr _ _) rfl rfl ?_
        refine s_val (.ptr _ _) rfl rfl ?_
        refine s_store _ _ _ _ _ rfl rfl rfl (G_skip rfl (G_skip rfl G_hit)) (Nat.le_of_ble_eq_true rfl) [(.d (i64 x2.2.2.piece.p.X)), (.d (i64 x2.2.2.piece.p.Y)), (.d (i64 x2.2.2.piece.v.x)), (.d (i64 x2.2.2.piece.v.y)), (.d (i64 x2.2.2.piece.l)), (.d (i64 x2.2.2.piece.start)), (.d (i64 x2.2.2.half)), (.d (i64 (w64 ((w64 ((w64 (x2.1 + x2.2.1)) + 1)).tdiv 2)))), (.d (i64 x2.2.2.ends.2))] rfl ?_
        refine s_nil ?_
        refine l_seq ?_
        refine l_reg fun u13 hu13 => ?_
        refine s_val (.d _) rfl (v_loadG rfl G_hit rfl rfl) ?_
        refine s_val (.d _) rfl (v_loadG rfl (G_skip rfl (G_skip rfl G_hit)) rfl rfl) ?_
        obtain ⟨v2, hv2, hz2⟩ := bind_some hz2
        refine s_call rfl rfl all2_refl (curve_corridor_meets_ok _ _  _ hv2) (.inl rfl) ?_
        refine s_nil ?_
        refine l_cond v2 rfl (fun c4 => ?_) (fun c4 => ?_)
        · replace hz2 := cond_t c4 hz2
          refine l_sub (s0 := ⟨T [(2, (.ptr (2, u1) 0)), (3, (.ptr (3, u1) 0)), (7, (.ptr (7, u2) 0)), (9, (.d (i64 x2.2.1))), (10, (.d (i64 y1)))], G [((2, u1), some (.box 102 [(.d (i64 p1.piece.p.X)), (.d (i64 p1.piece.p.Y)), (.d (i64 p1.piece.v.x)), (.d (i64 p1.piece.v.y)), (.d (i64 p1.piece.l)), (.d (i64 p1.piece.start)), (.d (i64 p1.half)), (.d (i64 p1.ends.1)), (.d (i64 p1.ends.2))])), ((3, u1), some (.box 102 [(.d (i64 p2.piece.p.X)), (.d (i64 p2.piece.p.Y)), (.d (i64 p2.piece.v.x)), (.d (i64 p2.piece.v.y)), (.d (i64 p2.piece.l)), (.d (i64 p2.piece.start)), (.d (i64 p2.half)), (.d (i64 p2.ends.1)), (.d (i64 p2.ends.2))])), ((7, u2), some (.box 102 [(.d (i64 x2.2.2.piece.p.X)), (.d (i64 x2.2.2.piece.p.Y)), (.d (i64 x2.2.2.piece.v.x)), (.d (i64 x2.2.2.piece.v.y)), (.d (i64 x2.2.2.piece.l)), (.d (i64 x2.2.2.piece.start)), (.d (i64 x2.2.2.half)), (.d (i64 (w64 ((w64 ((w64 (x2.1 + x2.2.1)) + 1)).tdiv 2)))), (.d (i64 x2.2.2.ends.2))]))]⟩) (sb_of ⟨.of rfl, .of rfl, .of rfl, .of rfl, .of rfl, trivial⟩ (sbG_some (G_skip rfl G_hit) (.of rfl) (sbG_some (G_skip rfl (G_skip rfl G_hit)) (.of rfl) (sbG_some G_hit (.of rfl) trivial)))) ?_
          refine l_reg fun u14 hu14 => ?_
          refine s_val (.ptr _ _) rfl rfl ?_
          refine s_val (.ptr _ _) rfl rfl ?_
          refine s_val (.d _) rfl (v_load rfl (G_skip rfl (G_skip rfl G_hit)) rfl) ?_
          refine s_val (.d _) rfl rfl ?_
          refine s_nil ?_
          refine l_end ?_
          refine l_nil ?_
          obtain rfl := Option.some.inj hz2
          exact ⟨rfl, (), (sb_of ⟨.of rfl, .of rfl, .of rfl, .of rfl, .of rfl, .of rfl, trivial⟩ (sbG_some G_hit (.of rfl) (sbG_some (G_skip rfl G_hit) (.of rfl) (sbG_some (G_skip rfl (G_skip rfl G_hit)) (.of rfl) trivial))))⟩
        · replace hz2 := cond_f c4 hz2
          refine l_sub (s0 := ⟨T [(2, (.ptr (2, u1) 0)), (3, (.ptr (3, u1) 0)), (7, (.ptr (7, u2) 0)), (8, (.d (i64 x2.1))), (10, (.d (i64 y1)))], G [((2, u1), some (.box 102 [(.d (i64 p1.piece.p.X)), (.d (i64 p1.piece.p.Y)), (.d (i64 p1.piece.v.x)), (.d (i64 p1.piece.v.y)), (.d (i64 p1.piece.l)), (.d (i64 p1.piece.start)), (.d (i64 p1.half)), (.d (i64 p1.ends.1)), (.d (i64 p1.ends.2))])), ((3, u1), some (.box 102 [(.d (i64 p2.piece.p.X)), (.d (i64 p2.piece.p.Y)), (.d (i64 p2.piece.v.x)), (.d (i64 p2.piece.v.y)), (.d (i64 p2.piece.l)), (.d (i64 p2.piece.start)), (.d (i64 p2.half)), (.d (i64 p2.ends.1)), (.d (i64 p2.ends.2))])), ((7, u2), some (.box 102 [(.d (i64 x2.2.2.piece.p.X)), (.d (i64 x2.2.2.piece.p.Y)), (.d (i64 x2.2.2.piece.v.x)), (.d (i64 x2.2.2.piece.v.y)), (.d (i64 x2.2.2.piece.l)), (.d (i64 x2.2.2.piece.start)), (.d (i64 x2.2.2.half)), (.d (i64 (w64 ((w64 ((w64 (x2.1 + x2.2.1)) + 1)).tdiv 2)))), (.d (i64 x2.2.2.ends.2))]))]⟩) (sb_of ⟨.of rfl, .of rfl, .of rfl, .of rfl, .of rfl, trivial⟩ (sbG_some (G_skip rfl G_hit) (.of rfl) (sbG_some (G_skip rfl (G_skip rfl G_hit)) (.of rfl) (sbG_some G_hit (.of rfl) trivial)))) ?_
          refine l_reg fun u15 hu15 => ?_
          refine s_val (.ptr _ _) rfl rfl ?_
          refine s_val (.ptr _ _) rfl rfl ?_
          refine s_val (.d _) rfl (v_load rfl (G_skip rfl (G_skip rfl G_hit)) rfl) ?_
          refine s_val (.d _) rfl rfl ?_
          refine s_val (.d _) rfl rfl ?_
          refine s_nil ?_
          refine l_end ?_
          refine l_nil ?_
          obtain rfl := Option.some.inj hz2
          exact ⟨rfl, (), (sb_of ⟨.of rfl, .of rfl, .of rfl, .of rfl, .of rfl, .of rfl, trivial⟩ (sbG_some G_hit (.of rfl) (sbG_some (G_skip rfl G_hit) (.of rfl) (sbG_some (G_skip rfl (G_skip rfl G_hit)) (.of rfl) trivial))))⟩
      · replace hz2 := cond_f c3 hz2
        refine l_exitN rfl ?_
        obtain rfl := Option.some.inj hz2
        obtain rfl := ez2 _ rfl
        refine ⟨nofun, awl_pop rfl (l_j ?_)⟩
        exact ⟨(), (sb_of ⟨.of rfl, .of rfl, .of rfl, trivial⟩ (sbG_some G_hit (.of rfl) trivial))⟩
    · rintro _ ⟨g3, q2⟩
      refine l_sub q2 ?_
      refine l_seq ?_
      refine l_draw rfl fun u16 hu16 => ?_
      refine s_val (.ptr _ _) rfl rfl ?_
      refine s_val (.ptr _ _) rfl rfl ?_
      refine s_val (.d _) rfl (v_load rfl G_hit rfl) ?_
      refine s_val (.d _) rfl rfl ?_
      refine s_val (.d _) rfl rfl ?_
      refine s_val (.d _) rfl rfl ?_
      refine s_val (.d _) rfl rfl ?_
      refine s_val (.ptr _ _) rfl rfl ?_
      refine s_val (.ptr _ _) rfl rfl ?_
      refine s_val (.d _) rfl (v_load rfl G_hit rfl) ?_
      refine s_val (.ptr _ _) rfl rfl ?_
      refine s_val (.ptr _ _) rfl rfl ?_
      refine s_val (.d _) rfl (v_load rfl G_hit rfl) ?_
      refine s_val (.d _) rfl rfl ?_
      refine s_val (.d _) rfl rfl ?_
      refine s_val (.d _) rfl rfl ?_
      refine s_val (.d _) rfl rfl ?_
      refine s_val (.d _) rfl rfl ?_
      refine s_val (.d _) rfl rfl ?_
      refine s_nil ?_
      refine l_ret ?_
      obtain rfl := Option.some.inj h
      refine fin_ok (.inr rfl) (resD2 (res_t rfl) (res_t rfl) rf_d rf_d) ?_
      exact .refl _

noncomputable def curve_Corridors_l2 (p2 : Int) (p4 : Int) (a1 : (Int × CurvePiece)) (x2 : (List Cross)) (a2 : (Int × CurvePiece)) : Option (Stp (List Cross) (List Cross)) :=
  (curve_corridor_meets (CurveCorridor.mk a1.2 p2 (0, a1.2.l)) (CurveCorridor.mk a2.2 p4 (0, a2.2.l))).bind fun v5 => cond (!v5) (some (.go x2)) ((curve_corridor_span (CurveCorridor.mk a1.2 p2 (0, a1.2.l)) (CurveCorridor.mk a2.2 p4 (0, a2.2.l))).bind fun v6 => (curve_corridor_span (CurveCorridor.mk a2.2 p4 (0, a2.2.l)) (CurveCorridor.mk a1.2 p2 (0, a1.2.l))).bind fun v7 => (appc x2 [(Cross.mk v6.1 v6.2 v7.1 v7.2)]).bind fun v8 => some (.go v8))
noncomputable def curve_Corridors_l1 (p2 : Int) (p3 : Curve) (p4 : Int) (x1 : (List Cross)) (a1 : (Int × CurvePiece)) : Option (Stp (List Cross) (List Cross)) :=
  ((piecesC p3.Pts).bind fun v4 => loopL (curve_Corridors_l2 p2 p4 a1) (fun (x2 : (List Cross)) => x2) v4 x1).bind fun y2 => some (.go y2)
noncomputable def curve_Corridors (p1 : Curve) (p2 : Int) (p3 : Curve) (p4 : Int) : Option (List Cross) :=
  (curve_Check p1).bind fun v1 => ((cond (!(v1 != 0)) (curve_Check p3) (some default))).bind fun v2 => cond ((((v1 != 0) || (v2 != 0)) || (decide ((mm2 false p2 p4) < 0))) || (decide ((mm2 true p2 p4) > 4000))) (some []) (((piecesC p1.Pts).bind fun v3 => loopL (curve_Corridors_l1 p2 p3 p4) (fun (x1 : (List Cross)) => x1) v3 []).bind fun y1 => some y1)

/-- kerbstone/curve.Corridors -/
def ac_curve_Corridors : AC :=
  (.seq (.reg [⟨(some 4), .box 24 true (.t 0), none⟩, ⟨(some 5), .box 2 false (.t 1), none⟩, ⟨(some 6), .box 24 true (.t 2), none⟩, ⟨(some 7), .box 2 false (.t 3), none⟩, ⟨(some 8), .mv (.c .nilS), none⟩])
  (.seq (.seq (.reg [⟨(some 17), .load 1 true (.t 4), none⟩, ⟨(some 18), .call (.c (.fn (.func 20) [] [])) [(.t 17)], none⟩, ⟨(some 19), .bin .neq (.t 18) (.c (.v (.int .i64 0))), none⟩, ⟨(some 20), .mv (.t 19), none⟩, ⟨(some 21), .load 1 true (.t 6), (some (20, false))⟩, ⟨(some 22), .call (.c (.fn (.func 20) [] [])) [(.t 21)], (some (20, false))⟩, ⟨(some 23), .bin .neq (.t 22) (.c (.v (.int .i64 0))), (some (20, false))⟩, ⟨(some 24), .pick (.t 20) (.c (.v (.bool true))) (.t 23), none⟩, ⟨(some 25), .mv (.t 24), none⟩, ⟨(some 26), .load 1 false (.t 5), (some (25, false))⟩, ⟨(some 27), .load 1 false (.t 7), (some (25, false))⟩, ⟨(some 28), .mm false (.t 26) [(.t 27)], (some (25, false))⟩, ⟨(some 29), .bin .lss (.t 28) (.c (.v (.int .i64 0))), (some (25, false))⟩, ⟨(some 30), .pick (.t 25) (.c (.v (.bool true))) (.t 29), none⟩, ⟨(some 31), .mv (.t 30), none⟩, ⟨(some 32), .load 1 false (.t 5), (some (31, false))⟩, ⟨(some 33), .load 1 false (.t 7), (some (31, false))⟩, ⟨(some 34), .mm true (.t 32) [(.t 33)], (some (31, false))⟩, ⟨(some 35), .bin .gtr (.t 34) (.c (.v (.int .i64 4000))), (some (31, false))⟩, ⟨(some 36), .pick (.t 31) (.c (.v (.bool true))) (.t 35), none⟩])
  (.cond (.t 36)
    (.seq (.reg [⟨(some 8), .mv (.c .nilS), none⟩])
    .ret)
    .skip))
  (.seq (.reg [⟨(some 9), .alloc 65 [.nilS], none⟩])
  (.seq (.seq (.reg [⟨(some 37), .load 1 true (.t 4), none⟩, ⟨(some 38), .call (.c (.fn (.func 66) [] [])) [(.t 37)], none⟩])
  (.block 0
    (.rangeF (.t 38) [39, 40]
      (.reg [⟨(some 11), .alloc 89 [(.v (.int .i64 0)), (.v (.int .i64 0)), (.v (.int .i64 0)), (.v (.int .i64 0)), (.v (.int .i64 0)), (.v (.int .i64 0))], none⟩, ⟨none, .store 6 (.t 11) (.t 40), none⟩])
      (.block 1
        (.seq (.reg [⟨(some 41), .load 1 true (.t 6), none⟩, ⟨(some 42), .call (.c (.fn (.func 66) [] [])) [(.t 41)], none⟩])
        (.block 2
          (.rangeF (.t 42) [43, 44]
            (.reg [⟨(some 13), .alloc 89 [(.v (.int .i64 0)), (.v (.int .i64 0)), (.v (.int .i64 0)), (.v (.int .i64 0)), (.v (.int .i64 0)), (.v (.int .i64 0))], none⟩, ⟨none, .store 6 (.t 13) (.t 44), none⟩])
            (.block 3
              (.seq (.draw [⟨(some 45), .load 6 true (.t 11), none⟩, ⟨(some 46), .load 1 false (.t 5), none⟩, ⟨(some 47), .fieldA 4 (.t 11), none⟩, ⟨(some 48), .load 1 false (.t 47), none⟩, ⟨(some 49), .build [(.v (.int .i64 0)), (.v (.int .i64 0))] [(0, 1, (.c (.v (.int .i64 0)))), (1, 1, (.t 48))], none⟩, ⟨(some 50), .build [(.v (.int .i64 0)), (.v (.int .i64 0)), (.v (.int .i64 0)), (.v (.int .i64 0)), (.v (.int .i64 0)), (.v (.int .i64 0)), (.v (.int .i64 0)), (.v (.int .i64 0)), (.v (.int .i64 0))] [(0, 6, (.t 45)), (6, 1, (.t 46)), (7, 2, (.t 49))], none⟩, ⟨(some 51), .load 6 true (.t 13), none⟩, ⟨(some 52), .load 1 false (.t 7), none⟩, ⟨(some 53), .fieldA 4 (.t 13), none⟩, ⟨(some 54), .load 1 false (.t 53), none⟩, ⟨(some 55), .build [(.v (.int .i64 0)), (.v (.int .i64 0))] [(0, 1, (.c (.v (.int .i64 0)))), (1, 1, (.t 54))], none⟩, ⟨(some 56), .build [(.v (.int .i64 0)), (.v (.int .i64 0)), (.v (.int .i64 0)), (.v (.int .i64 0)), (.v (.int .i64 0)), (.v (.int .i64 0)), (.v (.int .i64 0)), (.v (.int .i64 0)), (.v (.int .i64 0))] [(0, 6, (.t 51)), (6, 1, (.t 52)), (7, 2, (.t 55))], none⟩, ⟨(some 14), .alloc 102 [(.v (.int .i64 0)), (.v (.int .i64 0)), (.v (.int .i64 0)), (.v (.int .i64 0)), (.v (.int .i64 0)), (.v (.int .i64 0)), (.v (.int .i64 0)), (.v (.int .i64 0)), (.v (.int .i64 0))], none⟩, ⟨(some 15), .alloc 102 [(.v (.int .i64 0)), (.v (.int .i64 0)), (.v (.int .i64 0)), (.v (.int .i64 0)), (.v (.int .i64 0)), (.v (.int .i64 0)), (.v (.int .i64 0)), (.v (.int .i64 0)), (.v (.int .i64 0))], none⟩, ⟨none, .store 9 (.t 14) (.t 50), none⟩, ⟨none, .store 9 (.t 15) (.t 56), none⟩] [(6, 14), (7, 14), (9, 14)])
              (.seq (.seq (.reg [⟨(some 57), .load 9 true (.t 14), none⟩, ⟨(some 58), .load 9 true (.t 15), none⟩, ⟨(some 59), .call (.c (.fn (.func 81) [] [])) [(.t 57), (.t 58)], none⟩, ⟨(some 60), .un .not (.t 59), none⟩])
              (.cond (.t 60)
                (.exit 3)
                .skip))
              (.seq (.reg [⟨(some 16), .alloc 69 [(.v (.int .i64 0)), (.v (.int .i64 0)), (.v (.int .i64 0)), (.v (.int .i64 0))], none⟩])
              (.seq (.reg [⟨(some 62), .load 9 true (.t 14), none⟩, ⟨(some 63), .load 9 true (.t 15), none⟩, ⟨(some 64), .call (.c (.fn (.func 82) [] [])) [(.t 62), (.t 63)], none⟩, ⟨(some 61), .mv (.t 64), none⟩, ⟨(some 65), .ext (.t 61) 0, none⟩, ⟨(some 66), .ext (.t 61) 1, none⟩, ⟨(some 67), .fieldA 0 (.t 16), none⟩, ⟨none, .store 1 (.t 67) (.t 65), none⟩, ⟨(some 68), .fieldA 1 (.t 16), none⟩, ⟨none, .store 1 (.t 68) (.t 66), none⟩])
              (.seq (.reg [⟨(some 70), .load 9 true (.t 15), none⟩, ⟨(some 71), .load 9 true (.t 14), none⟩, ⟨(some 72), .call (.c (.fn (.func 82) [] [])) [(.t 70), (.t 71)], none⟩, ⟨(some 69), .mv (.t 72), none⟩, ⟨(some 73), .ext (.t 69) 0, none⟩, ⟨(some 74), .ext (.t 69) 1, none⟩, ⟨(some 75), .fieldA 2 (.t 16), none⟩, ⟨none, .store 1 (.t 75) (.t 73), none⟩, ⟨(some 76), .fieldA 3 (.t 16), none⟩, ⟨none, .store 1 (.t 76) (.t 74), none⟩])
              (.reg [⟨(some 77), .load 1 false (.t 9), none⟩, ⟨(some 78), .load 4 true (.t 16), none⟩, ⟨(some 79), .dslice 69 4 1 [(.v (.int .i64 0)), (.v (.int .i64 0)), (.v (.int .i64 0)), (.v (.int .i64 0))] [(0, 4, (.t 78))], none⟩, ⟨(some 80), .append 65 69 4 (.t 77) (.t 79), none⟩, ⟨none, .store 1 (.t 9) (.t 80), none⟩]))))))))))))))
  (.seq (.reg [⟨(some 81), .load 1 false (.t 9), none⟩, ⟨(some 8), .mv (.t 81), none⟩])
  .ret)))))
theorem fn_curve_Corridors : FnOK Try.prog 54 82 [.t 8] ac_curve_Corridors := ⟨_, _, Try.func54, rfl, Try.ntmps54, by kernel_rfl, ⟨fun r => if r == 13 then [1002] else [], by kernel_rfl⟩, by kernel_rfl⟩
set_option maxHeartbeats 4000000 in
theorem curve_Corridors_ok (p1 : Curve) (p2 : Int) (p3 : Curve) (p4 : Int) (r : (List Cross)) (h : curve_Corridors p1 p2 p3 p4 = some r) : PCall Try.prog 54 [(.agg [(.list (List.map eSpot p1.Pts))]), (i64 p2), (.agg [(.list (List.map eSpot p3.Pts))]), (i64 p4)] (.list (List.map eCross r)) := by
  refine l_call fn_curve_Corridors (Nat.le_of_ble_eq_true rfl) ?_
  unfold curve_Corridors at h
  unfold ac_curve_Corridors
  refine (l_sub (s0 := ⟨T [(0, (.d (.agg [(.list (List.map eSpot p1.Pts))]))), (1, (.d (i64 p2))), (2, (.d (.agg [(.list (List.map eSpot p3.Pts))]))), (3, (.d (i64 p4)))], G []⟩) (sb_of ⟨.of rfl, .of rfl, .of rfl, .of rfl, trivial⟩ trivial) ?_)
  refine l_seq ?_
  refine l_reg fun u1 hu1 => ?_
  refine s_new (.ptr _ _) (.box _ _) rfl rfl ?_
  refine s_new (.ptr _ _) (.box _ _) rfl rfl ?_
  refine s_new (.ptr _ _) (.box _ _) rfl rfl ?_
  refine s_new (.ptr _ _) (.box _ _) rfl rfl ?_
  refine s_val (.d _) rfl rfl ?_
  refine s_nil ?_
  refine l_seq ?_
  refine l_seq ?_
  refine l_reg fun u2 hu2 => ?_
  refine s_val (.d _) rfl (v_loadG rfl (G_skip rfl (G_skip rfl (G_skip rfl G_hit))) rfl rfl) ?_
  obtain ⟨v1, hv1, h⟩ := bind_some h
  refine s_call rfl rfl all2_refl (curve_Check_ok _  _ hv1) (.inl rfl) ?_
  refine s_val (.d _) rfl rfl ?_
  refine s_val (.d _) rfl rfl ?_
  refine g_val (!(v1 != 0)) (.d _) rfl (gw_f rfl) (fun w1 => (v_loadG rfl (G_skip rfl G_hit) rfl rfl)) ?_
  obtain ⟨v2, hv2, h⟩ := bind_some h
  refine g_call (!(v1 != 0)) (i64 v2) (gw_f rfl) (fun w2 => ⟨_, [(.d (.agg [(.list (List.map eSpot p3.Pts))]))], _, _, (by simp only [gd_pos w2]; rfl), rfl, all2_refl, curve_Check_ok _  _ (cond_t w2 hv2), (.inl rfl)⟩) ?_
  refine g_val (!(v1 != 0)) (.d _) rfl (gw_f rfl) (fun w3 => (v_bin (gd_pos w3) rfl rfl)) ?_
  refine s_val (.d _) rfl (v_or rfl rfl (fun hc => gd_pos (not_t hc))) ?_
  refine s_val (.d _) rfl rfl ?_
  refine g_val (!((v1 != 0) || (v2 != 0))) (.d _) rfl (gw_f rfl) (fun w4 => (v_load rfl (G_skip rfl (G_skip rfl G_hit)) rfl)) ?_
  refine g_val (!((v1 != 0) || (v2 != 0))) (.d _) rfl (gw_f rfl) (fun w5 => (v_load rfl G_hit rfl)) ?_
  refine g_val (!((v1 != 0) || (v2 != 0))) (.d _) rfl (gw_f rfl) (fun w6 => (by simp only [gd_pos w6]; rfl)) ?_
  refine g_val (!((v1 != 0) || (v2 != 0))) (.d _) rfl (gw_f rfl) (fun w7 => (v_bin (gd_pos w7) rfl rfl)) ?_
  refine s_val (.d _) rfl (v_or rfl rfl (fun hc => gd_pos (not_t hc))) ?_
  refine s_val (.d _) rfl rfl ?_
  refine g_val (!(((v1 != 0) || (v2 != 0)) || (decide ((mm2 false p2 p4) < 0)))) (.d _) rfl (gw_f rfl) (fun w8 => (v_load rfl (G_skip rfl (G_skip rfl G_hit)) rfl)) ?_
  refine g_val (!(((v1 != 0) || (v2 != 0)) || (decide ((mm2 false p2 p4) < 0)))) (.d _) rfl (gw_f rfl) (fun w9 => (v_load rfl G_hit rfl)) ?_
  refine g_val (!(((v1 != 0) || (v2 != 0)) || (decide ((mm2 false p2 p4) < 0)))) (.d _) rfl (gw_f rfl) (fun w10 => (by simp only [gd_pos w10]; rfl)) ?_
  refine g_val (!(((v1 != 0) || (v2 != 0)) || (decide ((mm2 false p2 p4) < 0)))) (.d _) rfl (gw_f rfl) (fun w11 => (v_bin (gd_pos w11) rfl rfl)) ?_
  refine s_val (.d _) rfl (v_or rfl rfl (fun hc => gd_pos (not_t hc))) ?_
  refine s_nil ?_
  refine l_cond ((((v1 != 0) || (v2 != 0)) || (decide ((mm2 false p2 p4) < 0))) || (decide ((mm2 true p2 p4) > 4000))) rfl (fun c1 => ?_) (fun c1 => ?_)
  · replace h := cond_t c1 h
    refine l_seq ?_
    refine l_sub (s0 := ⟨T [], G []⟩) (sb_of trivial trivial) ?_
    refine l_reg fun u3 hu3 => ?_
    refine s_val (.d _) rfl rfl ?_
    refine s_nil ?_
    refine l_ret ?_
    obtain rfl := Option.some.inj h
    refine fin_ok (.inr rfl) (resD1 (res_t rfl) rf_d) ?_
    exact DLe.nil
  · replace h := cond_f c1 h
    refine l_skip ?_
    refine l_seq ?_
    refine l_sub (s0 := ⟨T [(4, (.ptr (4, u1) 0)), (5, (.ptr (5, u1) 0)), (6, (.ptr (6, u1) 0)), (7, (.ptr (7, u1) 0)), (8, (.d .nilS))], G [((4, u1), some (.box 24 [(.d (.list (List.map eSpot p1.Pts)))])), ((5, u1), some (.box 2 [(.d (i64 p2))])), ((6, u1), some (.box 24 [(.d (.list (List.map eSpot p3.Pts)))])), ((7, u1), some (.box 2 [(.d (i64 p4))]))]⟩) (sb_of ⟨.of rfl, .of rfl, .of rfl, .of rfl, .of rfl, trivial⟩ (sbG_some (G_skip rfl (G_skip rfl (G_skip rfl G_hit))) (.of rfl) (sbG_some (G_skip rfl (G_skip rfl G_hit)) (.of rfl) (sbG_some (G_skip rfl G_hit) (.of rfl) (sbG_some G_hit (.of rfl) trivial))))) ?_
    refine l_reg fun u4 hu4 => ?_
    refine s_new (.ptr _ _) (.box _ _) rfl rfl ?_
    refine s_nil ?_
    refine l_seq ?_
    refine l_seq ?_
    refine l_reg fun u5 hu5 => ?_
    refine s_val (.d _) rfl (v_loadG rfl (G_skip rfl G_hit) rfl rfl) ?_
    refine s_call rfl rfl all2_refl (pieces_clos p1) (.inl rfl) ?_
    refine s_nil ?_
    obtain ⟨y1, hy1, h⟩ := bind_some h
    refine l_join (fun s => ∃ g1 : Nat, Sb ⟨T [(9, (.ptr (9, u4) 0))], G [((9, u4), some (.box 65 [(oS y1 (80, g1))])), ((80, g1), oB 69 4 eCross y1)]⟩ s) ?_ ?_
    · skip
      refine l_block ?_
      obtain ⟨v3, hv3, hy1⟩ := bind_some hy1
      refine l_sub (s0 := ⟨T [(5, (.ptr (5, u1) 0)), (6, (.ptr (6, u1) 0)), (7, (.ptr (7, u1) 0)), (8, (.d .nilS)), (9, (.ptr (9, u4) 0)), (38, (.d (.fn (.func 86) [] [(.bp [(.list (List.map eSpot p1.Pts))] 0)])))], G [((5, u1), some (.box 2 [(.d (i64 p2))])), ((6, u1), some (.box 24 [(.d (.list (List.map eSpot p3.Pts)))])), ((7, u1), some (.box 2 [(.d (i64 p4))])), ((9, u4), some (.box 65 [(.d .nilS)]))]⟩) (sb_of ⟨.of rfl, .of rfl, .of rfl, .of rfl, .of rfl, .of rfl, trivial⟩ (sbG_some (G_skip rfl (G_skip rfl G_hit)) (.of rfl) (sbG_some (G_skip rfl (G_skip rfl (G_skip rfl G_hit))) (.of rfl) (sbG_some (G_skip rfl (G_skip rfl (G_skip rfl (G_skip rfl G_hit)))) (.of rfl) (sbG_some G_hit (.of rfl) trivial))))) ?_
      refine l_rangeL (.fn (.func 86) [] [(.bp [(.list (List.map eSpot p1.Pts))] 0)]) ePiece v3 (curve_Corridors_l1 p2 p3 p4) (fun (x1 : (List Cross)) => x1) (fun (x1 : (List Cross)) (g2 : Nat) => [((5, u1), some (.box 2 [(.d (i64 p2))])), ((6, u1), some (.box 24 [(.d (.list (List.map eSpot p3.Pts)))])), ((7, u1), some (.box 2 [(.d (i64 p4))])), ((9, u4), some (.box 65 [(oS x1 (80, g2))])), ((80, g2), oB 69 4 eCross x1)]) [] 0 _ rfl (pieces_iter hv3) (fun _ => rfl) hy1 (sb_of trivial (sbG_some G_hit (.of rfl) (sbG_some (G_skip rfl G_hit) (.of rfl) (sbG_some (G_skip rfl (G_skip rfl G_hit)) (.of rfl) (sbG_some (G_skip rfl (G_skip rfl (G_skip rfl G_hit))) (.of rfl) (sbG_nil trivial)))))) nofun ?_ ?_
      · intro u7 hu7 hku7
        refine ⟨fun x1 g2 => (G_skip rfl (G_skip rfl (G_skip rfl (G_skip rfl (G_skip rfl rfl))))), ?_⟩
        intro r1 x1 g2 a1 z1 hrr1 hz1 ez1
        unfold curve_Corridors_l1 at hz1
        show AWL _ _ _ _ _ _ ⟨T [(40, (.d (.agg [(i64 a1.2.p.X), (i64 a1.2.p.Y), (i64 a1.2.v.x), (i64 a1.2.v.y), (i64 a1.2.l), (i64 a1.2.start)]))), (39, (.d (i64 a1.1))), (5, (.ptr (5, u1) 0)), (6, (.ptr (6, u1) 0)), (7, (.ptr (7, u1) 0)), (8, (.d .nilS)), (9, (.ptr (9, u4) 0)), (38, (.d (.fn (.func 86) [] [(.bp [(.list (List.map eSpot p1.Pts))] 0)])))], G [((1000000, u7), some (.obj (T [(5, (.ptr (5, u1) 0)), (6, (.ptr (6, u1) 0)), (7, (.ptr (7, u1) 0)), (8, (.d .nilS)), (9, (.ptr (9, u4) 0)), (38, (.d (.fn (.func 86) [] [(.bp [(.list (List.map eSpot p1.Pts))] 0)])))]) r1)), ((5, u1), some (.box 2 [(.d (i64 p2))])), ((6, u1), some (.box 24 [(.d (.list (List.map eSpot p3.Pts)))])), ((7, u1), some (.box 2 [(.d (i64 p4))])), ((9, u4), some (.box 65 [(oS x1 (80, g2))])), ((80, g2), oB 69 4 eCross x1)]⟩
        refine l_reg fun u8 hu8 => ?_
        refine s_new (.ptr _ _) (.box _ _) rfl rfl ?_
        refine s_store _ _ _ _ _ rfl rfl rfl G_hit (Nat.le_of_ble_eq_true rfl) [(.d (i64 a1.2.p.X)), (.d (i64 a1.2.p.Y)), (.d (i64 a1.2.v.x)), (.d (i64 a1.2.v.y)), (.d (i64 a1.2.l)), (.d (i64 a1.2.start))] rfl ?_
        refine s_nil ?_
        refine l_j (mid_ok (G_skip rfl (G_skip rfl G_hit)) ?_)
        refine l_block ?_
        refine l_seq ?_
        refine l_reg fun u9 hu9 => ?_
        refine s_val (.d _) rfl (v_loadG rfl (G_skip rfl (G_skip rfl (G_skip rfl (G_skip rfl (G_skip rfl G_hit))))) rfl rfl) ?_
        refine s_call rfl rfl all2_refl (pieces_clos p3) (.inl rfl) ?_
        refine s_nil ?_
        obtain ⟨y2, hy2, hz1⟩ := bind_some hz1
        refine l_join (fun s => ∃ g3 : Nat, Sb ⟨T [], G [((5, u1), some (.box 2 [(.d (i64 p2))])), ((6, u1), some (.box 24 [(.d (.list (List.map eSpot p3.Pts)))])), ((7, u1), some (.box 2 [(.d (i64 p4))])), ((9, u4), some (.box 65 [(oS y2 (80, g3))])), ((1000000, u7), some (.obj (T [(5, (.ptr (5, u1) 0)), (6, (.ptr (6, u1) 0)), (7, (.ptr (7, u1) 0)), (8, (.d .nilS)), (9, (.ptr (9, u4) 0)), (38, (.d (.fn (.func 86) [] [(.bp [(.list (List.map eSpot p1.Pts))] 0)])))]) { r1 with state := .busy })), ((80, g3), oB 69 4 eCross y2)]⟩ s) ?_ ?_
        · skip
          refine l_block ?_
          obtain ⟨v4, hv4, hy2⟩ := bind_some hy2
          refine l_sub (s0 := ⟨T [(5, (.ptr (5, u1) 0)), (7, (.ptr (7, u1) 0)), (9, (.ptr (9, u4) 0)), (11, (.ptr (11, u8) 0)), (42, (.d (.fn (.func 86) [] [(.bp [(.list (List.map eSpot p3.Pts))] 0)])))], G [((5, u1), some (.box 2 [(.d (i64 p2))])), ((7, u1), some (.box 2 [(.d (i64 p4))])), ((9, u4), some (.box 65 [(oS x1 (80, g2))])), ((80, g2), oB 69 4 eCross x1), ((11, u8), some (.box 89 [(.d (i64 a1.2.p.X)), (.d (i64 a1.2.p.Y)), (.d (i64 a1.2.v.x)), (.d (i64 a1.2.v.y)), (.d (i64 a1.2.l)), (.d (i64 a1.2.start))])), ((6, u1), some (.box 24 [(.d (.list (List.map eSpot p3.Pts)))])), ((1000000, u7), some (.obj (T [(5, (.ptr (5, u1) 0)), (6, (.ptr (6, u1) 0)), (7, (.ptr (7, u1) 0)), (8, (.d .nilS)), (9, (.ptr (9, u4) 0)), (38, (.d (.fn (.func 86) [] [(.bp [(.list (List.map eSpot p1.Pts))] 0)])))]) { r1 with state := .busy }))]⟩) (sb_of ⟨.of rfl, .of rfl, .of rfl, .of rfl, .of rfl, trivial⟩ (sbG_some (G_skip rfl (G_skip rfl (G_skip rfl (G_skip rfl G_hit)))) (.of rfl) (sbG_some (G_skip rfl (G_skip rfl (G_skip rfl (G_skip rfl (G_skip rfl (G_skip rfl G_hit)))))) (.of rfl) (sbG_some (G_skip rfl (G_skip rfl (G_skip rfl (G_skip rfl (G_skip rfl (G_skip rfl (G_skip rfl G_hit))))))) (.of rfl) (sbG_oB (G_skip rfl (G_skip rfl (G_skip rfl (G_skip rfl (G_skip rfl (G_skip rfl (G_skip rfl (G_skip rfl G_hit)))))))) (sbG_some (G_skip rfl G_hit) (.of rfl) (sbG_some (G_skip rfl (G_skip rfl (G_skip rfl (G_skip rfl (G_skip rfl G_hit))))) (.of rfl) (sbG_some G_hit (.of rfl) trivial)))))))) ?_
          refine l_rangeL (.fn (.func 86) [] [(.bp [(.list (List.map eSpot p3.Pts))] 0)]) ePiece v4 (curve_Corridors_l2 p2 p4 a1) (fun (x2 : (List Cross)) => x2) (fun (x2 : (List Cross)) (g4 : Nat) => [((5, u1), some (.box 2 [(.d (i64 p2))])), ((7, u1), some (.box 2 [(.d (i64 p4))])), ((9, u4), some (.box 65 [(oS x2 (80, g4))])), ((11, u8), some (.box 89 [(.d (i64 a1.2.p.X)), (.d (i64 a1.2.p.Y)), (.d (i64 a1.2.v.x)), (.d (i64 a1.2.v.y)), (.d (i64 a1.2.l)), (.d (i64 a1.2.start))])), ((6, u1), some (.box 24 [(.d (.list (List.map eSpot p3.Pts)))])), ((1000000, u7), some (.obj (T [(5, (.ptr (5, u1) 0)), (6, (.ptr (6, u1) 0)), (7, (.ptr (7, u1) 0)), (8, (.d .nilS)), (9, (.ptr (9, u4) 0)), (38, (.d (.fn (.func 86) [] [(.bp [(.list (List.map eSpot p1.Pts))] 0)])))]) { r1 with state := .busy })), ((80, g4), oB 69 4 eCross x2)]) x1 g2 _ rfl (pieces_iter hv4) (fun _ => rfl) hy2 (sb_of trivial (sbG_some G_hit (.of rfl) (sbG_some (G_skip rfl G_hit) (.of rfl) (sbG_some (G_skip rfl (G_skip rfl G_hit)) (.of rfl) (sbG_some (G_skip rfl (G_skip rfl (G_skip rfl (G_skip rfl G_hit)))) (.of rfl) (sbG_some (G_skip rfl (G_skip rfl (G_skip rfl (G_skip rfl (G_skip rfl G_hit))))) (.of rfl) (sbG_some (G_skip rfl (G_skip rfl (G_skip rfl (G_skip rfl (G_skip rfl (G_skip rfl G_hit)))))) (.of rfl) (sbG_oB (G_skip rfl (G_skip rfl (G_skip rfl G_hit))) trivial)))))))) (fun kk hk => by cases hk; exact ⟨_, _, (G_skip rfl (G_skip rfl (G_skip rfl (G_skip rfl (G_skip rfl (G_skip rfl G_hit))))))⟩) ?_ ?_
          · intro u11 hu11 hku11
            refine ⟨fun x2 g4 => (G_skip rfl (G_skip rfl (G_skip rfl (G_skip rfl (G_skip rfl (G_skipU (Ne.symm (fresh_ne hu11 (G_skip rfl (G_skip rfl (G_skip rfl (G_skip rfl (G_skip rfl (G_skip rfl G_hit)))))))) (G_skip rfl rfl))))))), ?_⟩
            intro r2 x2 g4 a2 z2 hrr2 hz2 ez2
            unfold curve_Corridors_l2 at hz2
            show AWL _ _ _ _ _ _ ⟨T [(44, (.d (.agg [(i64 a2.2.p.X), (i64 a2.2.p.Y), (i64 a2.2.v.x), (i64 a2.2.v.y), (i64 a2.2.l), (i64 a2.2.start)]))), (43, (.d (i64 a2.1))), (5, (.ptr (5, u1) 0)), (7, (.ptr (7, u1) 0)), (9, (.ptr (9, u4) 0)), (11, (.ptr (11, u8) 0)), (42, (.d (.fn (.func 86) [] [(.bp [(.list (List.map eSpot p3.Pts))] 0)])))], G [((1000000, u11), some (.obj (T [(5, (.ptr (5, u1) 0)), (7, (.ptr (7, u1) 0)), (9, (.ptr (9, u4) 0)), (11, (.ptr (11, u8) 0)), (42, (.d (.fn (.func 86) [] [(.bp [(.list (List.map eSpot p3.Pts))] 0)])))]) r2)), ((5, u1), some (.box 2 [(.d (i64 p2))])), ((7, u1), some (.box 2 [(.d (i64 p4))])), ((9, u4), some (.box 65 [(oS x2 (80, g4))])), ((11, u8), some (.box 89 [(.d (i64 a1.2.p.X)), (.d (i64 a1.2.p.Y)), (.d (i64 a1.2.v.x)), (.d (i64 a1.2.v.y)), (.d (i64 a1.2.l)), (.d (i64 a1.2.start))])), ((6, u1), some (.box 24 [(.d (.list (List.map eSpot p3.Pts)))])), ((1000000, u7), some (.obj (T [(5, (.ptr (5, u1) 0)), (6, (.ptr (6, u1) 0)), (7, (.ptr (7, u1) 0)), (8, (.d .nilS)), (9, (.ptr (9, u4) 0)), (38, (.d (.fn (.func 86) [] [(.bp [(.list (List.map eSpot p1.Pts))] 0)])))]) { r1 with state := .busy })), ((80, g4), oB 69 4 eCross x2)]⟩
            refine l_reg fun u12 hu12 => ?_
            refine s_new (.ptr _ _) (.box _ _) rfl rfl ?_
            refine s_store _ _ _ _ _ rfl rfl rfl G_hit (Nat.le_of_ble_eq_true rfl) [(.d (i64 a2.2.p.X)), (.d (i64 a2.2.p.Y)), (.d (i64 a2.2.v.x)), (.d (i64 a2.2.v.y)), (.d (i64 a2.2.l)), (.d (i64 a2.2.start))] rfl ?_
            refine s_nil ?_
            refine l_j (mid_ok (G_skip rfl (G_skip rfl G_hit)) ?_)
            refine l_block ?_
            refine l_seq ?_
            refine l_drawT fun u13 hu13 => ?_
            refine t_val (.d _) rfl (v_loadG rfl (G_skip rfl (G_skip rfl (G_skip rfl (G_skip rfl (G_skip rfl (G_skip rfl (G_skip rfl G_hit))))))) rfl rfl) ?_
            refine t_val (.d _) rfl (v_load rfl (G_skip rfl (G_skip rfl (G_skip rfl (G_skip rfl G_hit)))) rfl) ?_
            refine t_val (.ptr _ _) rfl rfl ?_
            refine t_val (.d _) rfl (v_load rfl (G_skip rfl (G_skip rfl (G_skip rfl (G_skip rfl (G_skip rfl (G_skip rfl (G_skip rfl G_hit))))))) rfl) ?_
            refine t_val (.d _) rfl rfl ?_
            refine t_val (.d _) rfl rfl ?_
            refine t_val (.d _) rfl (v_loadG rfl (G_skip rfl G_hit) rfl rfl) ?_
            refine t_val (.d _) rfl (v_load rfl (G_skip rfl (G_skip rfl (G_skip rfl (G_skip rfl (G_skip rfl G_hit))))) rfl) ?_
            refine t_val (.ptr _ _) rfl rfl ?_
            refine t_val (.d _) rfl (v_load rfl (G_skip rfl G_hit) rfl) ?_
            refine t_val (.d _) rfl rfl ?_
            refine t_val (.d _) rfl rfl ?_
            refine t_new (.ptr _ _) (.box _ _) rfl rfl ?_
            refine t_new (.ptr _ _) (.box _ _) rfl rfl ?_
            refine t_store _ _ _ _ _ rfl rfl rfl (G_skip rfl G_hit) (Nat.le_of_ble_eq_true rfl) [(.d (i64 a1.2.p.X)), (.d (i64 a1.2.p.Y)), (.d (i64 a1.2.v.x)), (.d (i64 a1.2.v.y)), (.d (i64 a1.2.l)), (.d (i64 a1.2.start)), (.d (i64 p2)), (.d (i64 0)), (.d (i64 a1.2.l))] rfl ?_
            refine t_store _ _ _ _ _ rfl rfl rfl (G_skip rfl G_hit) (Nat.le_of_ble_eq_true rfl) [(.d (i64 a2.2.p.X)), (.d (i64 a2.2.p.Y)), (.d (i64 a2.2.v.x)), (.d (i64 a2.2.v.y)), (.d (i64 a2.2.l)), (.d (i64 a2.2.start)), (.d (i64 p4)), (.d (i64 0)), (.d (i64 a2.2.l))] rfl ?_
            refine t_nil ⟨rfl, ?_⟩
            refine l_seq ?_
            refine l_seq ?_
            refine l_sub (s0 := ⟨T [(9, (.ptr (9, u4) 0)), (14, (.ptr (14, u13) 0)), (15, (.ptr (15, u13) 0))], G [((9, u4), some (.box 65 [(oS x2 (80, g4))])), ((80, g4), oB 69 4 eCross x2), ((14, u13), some (.box 102 [(.d (i64 a1.2.p.X)), (.d (i64 a1.2.p.Y)), (.d (i64 a1.2.v.x)), (.d (i64 a1.2.v.y)), (.d (i64 a1.2.l)), (.d (i64 a1.2.start)), (.d (i64 p2)), (.d (i64 0)), (.d (i64 a1.2.l))])), ((15, u13), some (.box 102 [(.d (i64 a2.2.p.X)), (.d (i64 a2.2.p.Y)), (.d (i64 a2.2.v.x)), (.d (i64 a2.2.v.y)), (.d (i64 a2.2.l)), (.d (i64 a2.2.start)), (.d (i64 p4)), (.d (i64 0)), (.d (i64 a2.2.l))])), ((5, u1), some (.box 2 [(.d (i64 p2))])), ((6, u1), some (.box 24 [(.d (.list (List.map eSpot p3.Pts)))])), ((7, u1), some (.box 2 [(.d (i64 p4))])), ((11, u8), some (.box 89 [(.d (i64 a1.2.p.X)), (.d (i64 a1.2.p.Y)), (.d (i64 a1.2.v.x)), (.d (i64 a1.2.v.y)), (.d (i64 a1.2.l)), (.d (i64 a1.2.start))])), ((1000000, u7), some (.obj (T [(5, (.ptr (5, u1) 0)), (6, (.ptr (6, u1) 0)), (7, (.ptr (7, u1) 0)), (8, (.d .nilS)), (9, (.ptr (9, u4) 0)), (38, (.d (.fn (.func 86) [] [(.bp [(.list (List.map eSpot p1.Pts))] 0)])))]) { r1 with state := .busy })), ((1000000, u11), some (.obj (T [(5, (.ptr (5, u1) 0)), (7, (.ptr (7, u1) 0)), (9, (.ptr (9, u4) 0)), (11, (.ptr (11, u8) 0)), (42, (.d (.fn (.func 86) [] [(.bp [(.list (List.map eSpot p3.Pts))] 0)])))]) { r2 with state := .busy }))]⟩) (sb_of ⟨.of rfl, .of rfl, .of rfl, trivial⟩ (sbG_some (G_skip rfl (G_skip rfl (G_skip rfl (G_skip rfl (G_skip rfl (G_skip rfl (G_skip rfl (G_skip rfl (G_skip rfl (G_skip rfl G_hit)))))))))) (.of rfl) (sbG_oB (G_skip rfl (G_skip rfl (G_skip rfl (G_skip rfl (G_skip rfl (G_skip rfl (G_skip rfl (G_skip rfl (G_skip rfl (G_skip rfl (G_skip rfl (G_skip rfl (G_skip rfl (G_skip rfl G_hit)))))))))))))) (sbG_some (G_skip rfl G_hit) (.of rfl) (sbG_some G_hit (.of rfl) (sbG_some (G_skip rfl (G_skip rfl (G_skip rfl (G_skip rfl (G_skip rfl (G_skip rfl (G_skip rfl (G_skip rfl G_hit)))))))) (.of rfl) (sbG_some (G_skip rfl (G_skip rfl (G_skip rfl (G_skip rfl (G_skip rfl (G_skip rfl (G_skip rfl (G_skip rfl (G_skip rfl (G_skip rfl (G_skip rfl (G_skip rfl G_hit)))))))))))) (.of rfl) (sbG_some (G_skip rfl (G_skip rfl (G_skip rfl (G_skip rfl (G_skip rfl (G_skip rfl (G_skip rfl (G_skip rfl (G_skip rfl G_hit))))))))) (.of rfl) (sbG_some (G_skip rfl (G_skip rfl (G_skip rfl (G_skip rfl (G_skip rfl (G_skip rfl (G_skip rfl (G_skip rfl (G_skip rfl (G_skip rfl (G_skip rfl G_hit))))))))))) (.of rfl) (sbG_some (G_skip rfl (G_skip rfl (G_skip rfl (G_skip rfl (G_skipU (fresh_ne hu11 (G_skip rfl (G_skip rfl (G_skip rfl (G_skip rfl (G_skip rfl (G_skip rfl G_hit))))))) (G_skip rfl (G_skip rfl (G_skipU (fresh_ne hu11 (G_skip rfl (G_skip rfl (G_skip rfl (G_skip rfl (G_skip rfl (G_skip rfl G_hit))))))) (G_skip rfl (G_skip rfl (G_skip rfl (G_skip rfl (G_skip rfl G_hit))))))))))))) (.of rfl) (sbG_some (G_skip rfl (G_skip rfl (G_skip rfl (G_skip rfl G_hit)))) (.of rfl) trivial))))))))))) ?_
            refine l_reg fun u14 hu14 => ?_
            refine s_val (.d _) rfl (v_loadG rfl (G_skip rfl (G_skip rfl G_hit)) rfl rfl) ?_
            refine s_val (.d _) rfl (v_loadG rfl (G_skip rfl (G_skip rfl (G_skip rfl G_hit))) rfl rfl) ?_
            obtain ⟨v5, hv5, hz2⟩ := bind_some hz2
            refine s_call rfl rfl all2_refl (curve_corridor_meets_ok _ _  _ hv5) (.inl rfl) ?_
            refine s_val (.d _) rfl rfl ?_
            refine s_nil ?_
            refine l_cond (!v5) rfl (fun c2 => ?_) (fun c2 => ?_)
            · replace hz2 := cond_t c2 hz2
              refine l_exit rfl ?_
              refine l_nil ?_
              obtain rfl := Option.some.inj hz2
              exact rnd_go (G_skip rfl (G_skip rfl (G_skip rfl (G_skip rfl (G_skip rfl (G_skip rfl (G_skip rfl (G_skip rfl (G_skipU (Ne.symm (fresh_ne hu11 (G_skip rfl (G_skip rfl (G_skip rfl (G_skip rfl (G_skip rfl (G_skip rfl G_hit)))))))) G_hit))))))))) g4 (sbG_some (G_skip rfl (G_skip rfl (G_skip rfl (G_skip rfl G_hit)))) (.of rfl) (sbG_some (G_skip rfl (G_skip rfl (G_skip rfl (G_skip rfl (G_skip rfl (G_skip rfl G_hit)))))) (.of rfl) (sbG_some G_hit (.of rfl) (sbG_some (G_skip rfl (G_skip rfl (G_skip rfl (G_skip rfl (G_skip rfl (G_skip rfl (G_skip rfl G_hit))))))) (.of rfl) (sbG_some (G_skip rfl (G_skip rfl (G_skip rfl (G_skip rfl (G_skip rfl G_hit))))) (.of rfl) (sbG_some (G_skip rfl (G_skip rfl (G_skip rfl (G_skip rfl (G_skip rfl (G_skip rfl (G_skip rfl (G_skip rfl G_hit)))))))) (.of rfl) (sbG_oB (G_skip rfl G_hit) trivial)))))))
            · replace hz2 := cond_f c2 hz2
              refine l_skip ?_
              refine l_seq ?_
              refine l_reg fun u15 hu15 => ?_
              refine s_new (.ptr _ _) (.box _ _) rfl rfl ?_
              refine s_nil ?_
              refine l_seq ?_
              refine l_reg fun u16 hu16 => ?_
              refine s_val (.d _) rfl (v_loadG rfl (G_skip rfl (G_skip rfl (G_skip rfl G_hit))) rfl rfl) ?_
              refine s_val (.d _) rfl (v_loadG rfl (G_skip rfl (G_skip rfl (G_skip rfl (G_skip rfl G_hit)))) rfl rfl) ?_
              obtain ⟨v6, hv6, hz2⟩ := bind_some hz2
              refine s_call rfl rfl all2_refl (curve_corridor_span_ok _ _  _ hv6) (.inl rfl) ?_
              refine s_val (.d _) rfl rfl ?_
              refine s_val (.d _) rfl rfl ?_
              refine s_val (.d _) rfl rfl ?_
              refine s_val (.ptr _ _) rfl rfl ?_
              refine s_store _ _ _ _ _ rfl rfl rfl G_hit (Nat.le_of_ble_eq_true rfl) [(.d (i64 v6.1)), (.d (i64 0)), (.d (i64 0)), (.d (i64 0))] rfl ?_
              refine s_val (.ptr _ _) rfl rfl ?_
              refine s_store _ _ _ _ _ rfl rfl rfl G_hit (Nat.le_of_ble_eq_true rfl) [(.d (i64 v6.1)), (.d (i64 v6.2)), (.d (i64 0)), (.d (i64 0))] rfl ?_
              refine s_nil ?_
              refine l_seq ?_
              refine l_sub (s0 := ⟨T [(9, (.ptr (9, u4) 0)), (14, (.ptr (14, u13) 0)), (15, (.ptr (15, u13) 0)), (16, (.ptr (16, u15) 0))], G [((9, u4), some (.box 65 [(oS x2 (80, g4))])), ((80, g4), oB 69 4 eCross x2), ((14, u13), some (.box 102 [(.d (i64 a1.2.p.X)), (.d (i64 a1.2.p.Y)), (.d (i64 a1.2.v.x)), (.d (i64 a1.2.v.y)), (.d (i64 a1.2.l)), (.d (i64 a1.2.start)), (.d (i64 p2)), (.d (i64 0)), (.d (i64 a1.2.l))])), ((15, u13), some (.box 102 [(.d (i64 a2.2.p.X)), (.d (i64 a2.2.p.Y)), (.d (i64 a2.2.v.x)), (.d (i64 a2.2.v.y)), (.d (i64 a2.2.l)), (.d (i64 a2.2.start)), (.d (i64 p4)), (.d (i64 0)), (.d (i64 a2.2.l))])), ((16, u15), some (.box 69 [(.d (i64 v6.1)), (.d (i64 v6.2)), (.d (i64 0)), (.d (i64 0))])), ((5, u1), some (.box 2 [(.d (i64 p2))])), ((6, u1), some (.box 24 [(.d (.list (List.map eSpot p3.Pts)))])), ((7, u1), some (.box 2 [(.d (i64 p4))])), ((11, u8), some (.box 89 [(.d (i64 a1.2.p.X)), (.d (i64 a1.2.p.Y)), (.d (i64 a1.2.v.x)), (.d (i64 a1.2.v.y)), (.d (i64 a1.2.l)), (.d (i64 a1.2.start))])), ((1000000, u7), some (.obj (T [(5, (.ptr (5, u1) 0)), (6, (.ptr (6, u1) 0)), (7, (.ptr (7, u1) 0)), (8, (.d .nilS)), (9, (.ptr (9, u4) 0)), (38, (.d (.fn (.func 86) [] [(.bp [(.list (List.map eSpot p1.Pts))] 0)])))]) { r1 with state := .busy })), ((1000000, u11), some (.obj (T [(5, (.ptr (5, u1) 0)), (7, (.ptr (7, u1) 0)), (9, (.ptr (9, u4) 0)), (11, (.ptr (11, u8) 0)), (42, (.d (.fn (.func 86) [] [(.bp [(.list (List.map eSpot p3.Pts))] 0)])))]) { r2 with state := .busy }))]⟩) (sb_of ⟨.of rfl, .of rfl, .of rfl, .of rfl, trivial⟩ (sbG_some (G_skip rfl (G_skip rfl (G_skip rfl G_hit))) (.of rfl) (sbG_oB (G_skip rfl (G_skip rfl (G_skip rfl (G_skip rfl G_hit)))) (sbG_some (G_skip rfl (G_skip rfl (G_skip rfl (G_skip rfl (G_skip rfl G_hit))))) (.of rfl) (sbG_some (G_skip rfl (G_skip rfl (G_skip rfl (G_skip rfl (G_skip rfl (G_skip rfl G_hit)))))) (.of rfl) (sbG_some G_hit (.of rfl) (sbG_some (G_skip rfl (G_skip rfl (G_skip rfl (G_skip rfl (G_skip rfl (G_skip rfl (G_skip rfl G_hit))))))) (.of rfl) (sbG_some (G_skip rfl (G_skip rfl (G_skip rfl (G_skip rfl (G_skip rfl (G_skip rfl (G_skip rfl (G_skip rfl G_hit)))))))) (.of rfl) (sbG_some (G_skip rfl (G_skip rfl (G_skip rfl (G_skip rfl (G_skip rfl (G_skip rfl (G_skip rfl (G_skip rfl (G_skip rfl G_hit))))))))) (.of rfl) (sbG_some (G_skip rfl (G_skip rfl (G_skip rfl (G_skip rfl (G_skip rfl (G_skip rfl (G_skip rfl (G_skip rfl (G_skip rfl (G_skip rfl G_hit)))))))))) (.of rfl) (sbG_some (G_skip rfl (G_skip rfl (G_skip rfl (G_skip rfl (G_skip rfl (G_skip rfl (G_skip rfl (G_skip rfl (G_skip rfl (G_skip rfl (G_skip rfl G_hit))))))))))) (.of rfl) (sbG_some (G_skip rfl (G_skip rfl (G_skip rfl (G_skip rfl (G_skip rfl (G_skip rfl (G_skip rfl (G_skip rfl (G_skip rfl (G_skip rfl (G_skip rfl (G_skipU (Ne.symm (fresh_ne hu11 (G_skip rfl (G_skip rfl (G_skip rfl (G_skip rfl (G_skip rfl (G_skip rfl G_hit)))))))) G_hit)))))))))))) (.of rfl) trivial)))))))))))) ?_
              refine l_reg fun u17 hu17 => ?_
              refine s_val (.d _) rfl (v_loadG rfl (G_skip rfl (G_skip rfl (G_skip rfl G_hit))) rfl rfl) ?_
              refine s_val (.d _) rfl (v_loadG rfl (G_skip rfl (G_skip rfl G_hit)) rfl rfl) ?_
              obtain ⟨v7, hv7, hz2⟩ := bind_some hz2
              refine s_call rfl rfl all2_refl (curve_corridor_span_ok _ _  _ hv7) (.inl rfl) ?_
              refine s_val (.d _) rfl rfl ?_
              refine s_val (.d _) rfl rfl ?_
              refine s_val (.d _) rfl rfl ?_
              refine s_val (.ptr _ _) rfl rfl ?_
              refine s_store _ _ _ _ _ rfl rfl rfl (G_skip rfl (G_skip rfl (G_skip rfl (G_skip rfl G_hit)))) (Nat.le_of_ble_eq_true rfl) [(.d (i64 v6.1)), (.d (i64 v6.2)), (.d (i64 v7.1)), (.d (i64 0))] rfl ?_
              refine s_val (.ptr _ _) rfl rfl ?_
              refine s_store _ _ _ _ _ rfl rfl rfl G_hit (Nat.le_of_ble_eq_true rfl) [(.d (i64 v6.1)), (.d (i64 v6.2)), (.d (i64 v7.1)), (.d (i64 v7.2))] rfl ?_
              refine s_nil ?_
              refine l_sub (s0 := ⟨T [(9, (.ptr (9, u4) 0)), (16, (.ptr (16, u15) 0))], G [((9, u4), some (.box 65 [(oS x2 (80, g4))])), ((80, g4), oB 69 4 eCross x2), ((16, u15), some (.box 69 [(.d (i64 v6.1)), (.d (i64 v6.2)), (.d (i64 v7.1)), (.d (i64 v7.2))])), ((5, u1), some (.box 2 [(.d (i64 p2))])), ((6, u1), some (.box 24 [(.d (.list (List.map eSpot p3.Pts)))])), ((7, u1), some (.box 2 [(.d (i64 p4))])), ((11, u8), some (.box 89 [(.d (i64 a1.2.p.X)), (.d (i64 a1.2.p.Y)), (.d (i64 a1.2.v.x)), (.d (i64 a1.2.v.y)), (.d (i64 a1.2.l)), (.d (i64 a1.2.start))])), ((1000000, u7), some (.obj (T [(5, (.ptr (5, u1) 0)), (6, (.ptr (6, u1) 0)), (7, (.ptr (7, u1) 0)), (8, (.d .nilS)), (9, (.ptr (9, u4) 0)), (38, (.d (.fn (.func 86) [] [(.bp [(.list (List.map eSpot p1.Pts))] 0)])))]) { r1 with state := .busy })), ((1000000, u11), some (.obj (T [(5, (.ptr (5, u1) 0)), (7, (.ptr (7, u1) 0)), (9, (.ptr (9, u4) 0)), (11, (.ptr (11, u8) 0)), (42, (.d (.fn (.func 86) [] [(.bp [(.list (List.map eSpot p3.Pts))] 0)])))]) { r2 with state := .busy }))]⟩) (sb_of ⟨.of rfl, .of rfl, trivial⟩ (sbG_some (G_skip rfl (G_skip rfl G_hit)) (.of rfl) (sbG_oB (G_skip rfl (G_skip rfl (G_skip rfl G_hit))) (sbG_some G_hit (.of rfl) (sbG_some (G_skip rfl (G_skip rfl (G_skip rfl (G_skip rfl (G_skip rfl (G_skip rfl (G_skip rfl G_hit))))))) (.of rfl) (sbG_some (G_skip rfl (G_skip rfl (G_skip rfl (G_skip rfl (G_skip rfl (G_skip rfl (G_skip rfl (G_skip rfl G_hit)))))))) (.of rfl) (sbG_some (G_skip rfl (G_skip rfl (G_skip rfl (G_skip rfl (G_skip rfl (G_skip rfl (G_skip rfl (G_skip rfl (G_skip rfl G_hit))))))))) (.of rfl) (sbG_some (G_skip rfl (G_skip rfl (G_skip rfl (G_skip rfl (G_skip rfl (G_skip rfl (G_skip rfl (G_skip rfl (G_skip rfl (G_skip rfl G_hit)))))))))) (.of rfl) (sbG_some (G_skip rfl (G_skip rfl (G_skip rfl (G_skip rfl (G_skip rfl (G_skip rfl (G_skip rfl (G_skip rfl (G_skip rfl (G_skip rfl (G_skip rfl G_hit))))))))))) (.of rfl) (sbG_some (G_skip rfl (G_skip rfl (G_skip rfl (G_skip rfl (G_skip rfl (G_skip rfl (G_skip rfl (G_skip rfl (G_skip rfl (G_skip rfl (G_skip rfl (G_skipU (Ne.symm (fresh_ne hu11 (G_skip rfl (G_skip rfl (G_skip rfl (G_skip rfl (G_skip rfl (G_skip rfl G_hit)))))))) G_hit)))))))))))) (.of rfl) trivial)))))))))) ?_
              refine l_reg fun u18 hu18 => ?_
              refine s_val (oS x2 (80, g4)) rfl (v_load rfl G_hit rfl) ?_
              refine s_val (.d _) rfl (v_loadG rfl (G_skip rfl (G_skip rfl G_hit)) rfl rfl) ?_
              refine s_val (.d (.list (List.map eCross [(Cross.mk v6.1 v6.2 v7.1 v7.2)]))) rfl rfl ?_
              obtain ⟨v8, hv8, hz2⟩ := bind_some hz2
              refine s_appendO eCross (80, g4) x2 (Cross.mk v6.1 v6.2 v7.1 v7.2) [] _ (elems_list (fun _ => rfl)) rfl (G_skip rfl G_hit) hv8 ?_
              refine s_store _ _ _ _ _ rfl rfl rfl (G_skip rfl (G_skip rfl G_hit)) (Nat.le_of_ble_eq_true rfl) [(.sl (80, u18))] rfl ?_
              refine s_nil ?_
              refine l_end ?_
              refine l_nil ?_
              obtain rfl := Option.some.inj hz2
              exact rnd_go (G_skip rfl (G_skip rfl (G_skip rfl (G_skip rfl (G_skip rfl (G_skip rfl (G_skip rfl (G_skip rfl (G_skip rfl (G_skip rfl (G_skipU (Ne.symm (fresh_ne hu11 (G_skip rfl (G_skip rfl (G_skip rfl (G_skip rfl (G_skip rfl (G_skip rfl G_hit)))))))) G_hit))))))))))) u18 (sbG_some (G_skip rfl (G_skip rfl (G_skip rfl (G_skip rfl (G_skip rfl (G_skip rfl G_hit)))))) (.of rfl) (sbG_some (G_skip rfl (G_skip rfl (G_skip rfl (G_skip rfl (G_skip rfl (G_skip rfl (G_skip rfl (G_skip rfl G_hit)))))))) (.of rfl) (sbG_some G_hit (.box (.cons (.of (oS_ne (appc_ne hv8)).symm) .nil)) (sbG_some (G_skip rfl (G_skip rfl (G_skip rfl (G_skip rfl (G_skip rfl (G_skip rfl (G_skip rfl (G_skip rfl (G_skip rfl G_hit))))))))) (.of rfl) (sbG_some (G_skip rfl (G_skip rfl (G_skip rfl (G_skip rfl (G_skip rfl (G_skip rfl (G_skip rfl G_hit))))))) (.of rfl) (sbG_some (G_skip rfl (G_skip rfl (G_skip rfl (G_skip rfl (G_skip rfl (G_skip rfl (G_skip rfl (G_skip rfl (G_skip rfl (G_skip rfl G_hit)))))))))) (.of rfl) (sbG_own (G_skip rfl G_hit) trivial)))))))
          · rintro x2 g4 _ rfl qx2
            refine l_end (l_j ?_)
            exact ⟨g4, (Sb.after qx2 (sb_of trivial (sbG_some G_hit (.of rfl) (sbG_some (G_skip rfl (G_skip rfl (G_skip rfl (G_skip rfl G_hit)))) (.of rfl) (sbG_some (G_skip rfl G_hit) (.of rfl) (sbG_some (G_skip rfl (G_skip rfl G_hit)) (.of rfl) (sbG_some (G_skip rfl (G_skip rfl (G_skip rfl (G_skip rfl (G_skip rfl G_hit))))) (.of rfl) (sbG_oB (G_skip rfl (G_skip rfl (G_skip rfl (G_skip rfl (G_skip rfl (G_skip rfl G_hit)))))) trivial))))))))⟩
        · rintro _ ⟨g3, q1⟩
          refine l_end ?_
          refine l_nil ?_
          obtain rfl := Option.some.inj hz1
          exact rnd_goV q1 (G_skip rfl (G_skip rfl (G_skip rfl (G_skip rfl G_hit)))) g3 (sbG_some G_hit (.of rfl) (sbG_some (G_skip rfl G_hit) (.of rfl) (sbG_some (G_skip rfl (G_skip rfl G_hit)) (.of rfl) (sbG_some (G_skip rfl (G_skip rfl (G_skip rfl G_hit))) (.of rfl) (sbG_oB (G_skip rfl (G_skip rfl (G_skip rfl (G_skip rfl (G_skip rfl G_hit))))) trivial)))))
      · rintro x1 g2 _ rfl qx1
        refine l_end (l_j ?_)
        exact ⟨g2, (Sb.after qx1 (sb_of ⟨.of rfl, trivial⟩ (sbG_some (G_skip rfl (G_skip rfl (G_skip rfl G_hit))) (.of rfl) (sbG_oB (G_skip rfl (G_skip rfl (G_skip rfl (G_skip rfl G_hit)))) trivial))))⟩
    · rintro _ ⟨g1, q2⟩
      refine l_sub q2 ?_
      refine l_seq ?_
      refine l_reg fun u19 hu19 => ?_
      refine s_val (oS y1 (80, g1)) rfl (v_load rfl G_hit rfl) ?_
      refine s_val (oS y1 (80, g1)) rfl rfl ?_
      refine s_nil ?_
      refine l_ret ?_
      obtain rfl := Option.some.inj h
      refine fin_ok (.inr rfl) (resD1 (res_t rfl) (rf_oS (G_skip rfl G_hit))) ?_
      exact oD_le

noncomputable def kit_SameCrosses_l1 (p1 : (List Cross)) (p2 : (List Cross)) (x1 : Int) : Option (Stp Int (Sum Unit Bool)) :=
  cond (decide (x1 < (p1.length : Int))) ((geti p1 x1).bind fun v1 => (geti p2 x1).bind fun v2 => cond (!(v1.FromA == v2.FromA && (v1.ToA == v2.ToA && (v1.FromB == v2.FromB && (v1.ToB == v2.ToB && true))))) (some (.out (.inr false))) (some (.go (w64 (x1 + 1))))) (some (.out (.inl ())))
noncomputable def kit_SameCrosses (p1 : (List Cross)) (p2 : (List Cross)) : Option Bool :=
  cond ((p1.length : Int) != (p2.length : Int)) (some false) (thenS (loop (kit_SameCrosses_l1 p1 p2) 0) (fun _ => some true) (fun r => some r))

/-- kerbstone/kerbstonekit.SameCrosses -/
def ac_kit_SameCrosses : AC :=
  (.seq (.reg [⟨(some 4), .mv (.c (.v (.bool false))), none⟩])
  (.seq (.seq (.reg [⟨(some 6), .mv (.t 0), none⟩, ⟨(some 7), .len (.t 6), none⟩, ⟨(some 8), .mv (.t 1), none⟩, ⟨(some 9), .len (.t 8), none⟩, ⟨(some 10), .bin .neq (.t 7) (.t 9), none⟩])
  (.cond (.t 10)
    (.seq (.reg [⟨(some 4), .mv (.c (.v (.bool false))), none⟩])
    .ret)
    .skip))
  (.seq (.seq (.reg [⟨(some 5), .mv (.c (.v (.int .i64 0))), none⟩])
  (.block 0
    (.loop
      (.seq (.seq (.reg [⟨(some 11), .mv (.t 5), none⟩, ⟨(some 12), .mv (.t 0), none⟩, ⟨(some 13), .len (.t 12), none⟩, ⟨(some 14), .bin .lss (.t 11) (.t 13), none⟩])
      (.cond (.t 14)
        .skip
        (.exit 0)))
      (.seq (.block 1
        (.seq (.draw [⟨(some 17), .mv (.t 0), none⟩, ⟨(some 18), .mv (.t 5), none⟩, ⟨(some 19), .idxS 4 (.t 17) (.t 18), none⟩, ⟨(some 20), .load 4 true (.t 19), none⟩, ⟨(some 21), .mv (.t 1), none⟩, ⟨(some 22), .mv (.t 5), none⟩, ⟨(some 23), .idxS 4 (.t 21) (.t 22), none⟩, ⟨(some 24), .load 4 true (.t 23), none⟩, ⟨(some 25), .eqA true [false, false, false, false] (.t 20) (.t 24), none⟩] [])
        (.cond (.t 25)
          (.seq (.reg [⟨(some 4), .mv (.c (.v (.bool false))), none⟩])
          .ret)
          .skip)))
      (.reg [⟨(some 15), .mv (.t 5), none⟩, ⟨(some 16), .bin .add (.t 15) (.c (.v (.int .i64 1))), none⟩, ⟨(some 5), .mv (.t 16), none⟩]))))))
  (.seq (.reg [⟨(some 4), .mv (.c (.v (.bool true))), none⟩])
  .ret))))
theorem fn_kit_SameCrosses : FnOK Try.prog 53 26 [.t 4] ac_kit_SameCrosses := ⟨_, _, Try.func53, rfl, Try.ntmps53, by kernel_rfl, ⟨fun _ => [], by kernel_rfl⟩, by kernel_rfl⟩
set_option maxHeartbeats 4000000 in
theorem kit_SameCrosses_ok (p1 : (List Cross)) (p2 : (List Cross)) (r : Bool) (h : kit_SameCrosses p1 p2 = some r) : PCall Try.prog 53 [(.list (List.map eCross p1)), (.list (List.map eCross p2))] (bo r) := by
  refine l_call fn_kit_SameCrosses (Nat.le_of_ble_eq_true rfl) ?_
  unfold kit_SameCrosses at h
  unfold ac_kit_SameCrosses
  refine (l_sub (s0 := ⟨T [(0, (.d (.list (List.map eCross p1)))), (1, (.d (.list (List.map eCross p2))))], G []⟩) (sb_of ⟨.of rfl, .of rfl, trivial⟩ trivial) ?_)
  refine l_seq ?_
  refine l_reg fun u1 hu1 => ?_
  refine s_val (.d _) rfl rfl ?_
  refine s_nil ?_
  refine l_seq ?_
  refine l_seq ?_
  refine l_reg fun u2 hu2 => ?_
  refine s_val (.d _) rfl rfl ?_
  refine s_val (.d _) rfl (v_len rfl) ?_
  refine s_val (.d _) rfl rfl ?_
  refine s_val (.d _) rfl (v_len rfl) ?_
  refine s_val (.d _) rfl rfl ?_
  refine s_nil ?_
  refine l_cond ((p1.length : Int) != (p2.length : Int)) rfl (fun c1 => ?_) (fun c1 => ?_)
  · replace h := cond_t c1 h
    refine l_seq ?_
    refine l_reg fun u3 hu3 => ?_
    refine s_val (.d _) rfl rfl ?_
    refine s_nil ?_
    refine l_ret ?_
    obtain rfl := Option.some.inj h
    refine fin_ok (.inr rfl) (resD1 (res_t rfl) rf_d) ?_
    exact (.refl _)
  · replace h := cond_f c1 h
    refine l_skip ?_
    refine l_seq ?_
    refine l_seq ?_
    refine l_reg fun u4 hu4 => ?_
    refine s_val (.d _) rfl rfl ?_
    refine s_nil ?_
    obtain ⟨z1, hz1, h⟩ := thenS_some h
    refine l_join (fun s => ∃ (y1 : Unit) (g1 : Unit), z1 = .inl y1 ∧ Sb ⟨T [], G []⟩ s) ?_ ?_
    · skip
      refine l_block ?_
      refine l_loop (kit_SameCrosses_l1 p1 p2) (fun (x1 : Int) (g2 : Unit) => ⟨T [(0, (.d (.list (List.map eCross p1)))), (1, (.d (.list (List.map eCross p2)))), (5, (.d (i64 x1)))], G []⟩) 0 () _ hz1 (sb_of ⟨.of rfl, .of rfl, .of rfl, trivial⟩ trivial) ?_
      intro x1 g2 z2 hz2 ez2
      unfold kit_SameCrosses_l1 at hz2
      refine l_seq ?_
      refine l_seq ?_
      refine l_reg fun u5 hu5 => ?_
      refine s_val (.d _) rfl rfl ?_
      refine s_val (.d _) rfl rfl ?_
      refine s_val (.d _) rfl (v_len rfl) ?_
      refine s_val (.d _) rfl rfl ?_
      refine s_nil ?_
      refine l_cond (decide (x1 < (p1.length : Int))) rfl (fun c2 => ?_) (fun c2 => ?_)
      · replace hz2 := cond_t c2 hz2
        refine l_skip ?_
        refine l_seq ?_
        refine l_block ?_
        refine l_seq ?_
        refine l_draw rfl fun u6 hu6 => ?_
        refine s_val (.d _) rfl rfl ?_
        refine s_val (.d _) rfl rfl ?_
        obtain ⟨v1, hv1, hz2⟩ := bind_some hz2
        refine s_val (.d _) rfl (v_idx rfl rfl hv1 rfl) ?_
        refine s_val (.d _) rfl (v_loadLG rfl hv1 rfl rfl) ?_
        refine s_val (.d _) rfl rfl ?_
        refine s_val (.d _) rfl rfl ?_
        obtain ⟨v2, hv2, hz2⟩ := bind_some hz2
        refine s_val (.d _) rfl (v_idx rfl rfl hv2 rfl) ?_
        refine s_val (.d _) rfl (v_loadLG rfl hv2 rfl rfl) ?_
        refine s_val (.d _) rfl rfl ?_
        refine s_nil ?_
        refine l_cond (!(v1.FromA == v2.FromA && (v1.ToA == v2.ToA && (v1.FromB == v2.FromB && (v1.ToB == v2.ToB && true))))) rfl (fun c3 => ?_) (fun c3 => ?_)
        · replace hz2 := cond_t c3 hz2
          refine l_seq ?_
          refine l_reg fun u7 hu7 => ?_
          refine s_val (.d _) rfl rfl ?_
          refine s_nil ?_
          refine l_ret ?_
          obtain rfl := Option.some.inj hz2
          obtain rfl := ez2 _ rfl
          refine ⟨nofun, awl_ret ?_⟩
          rw [Sum.elim_inr] at h
          obtain rfl := Option.some.inj h
          refine fin_ok (.inr rfl) (resD1 (res_t rfl) rf_d) ?_
          exact (.refl _)
        · replace hz2 := cond_f c3 hz2
          refine l_skip ?_
          refine l_end ?_
          refine l_reg fun u8 hu8 => ?_
          refine s_val (.d _) rfl rfl ?_
          refine s_val (.d _) rfl rfl ?_
          refine s_val (.d _) rfl rfl ?_
          refine s_nil ?_
          refine l_nil ?_
          obtain rfl := Option.some.inj hz2
          exact ⟨rfl, (), (sb_of ⟨.of rfl, .of rfl, .of rfl, trivial⟩ trivial)⟩
      · replace hz2 := cond_f c2 hz2
        refine l_exitN rfl ?_
        obtain rfl := Option.some.inj hz2
        obtain rfl := ez2 _ rfl
        refine ⟨nofun, awl_pop rfl (l_j ?_)⟩
        exact ⟨_, (), rfl, (sb_of trivial trivial)⟩
    · rintro _ ⟨y1, g1, rfl, q1⟩
      rw [Sum.elim_inl] at h
      refine l_sub q1 ?_
      refine l_seq ?_
      refine l_reg fun u9 hu9 => ?_
      refine s_val (.d _) rfl rfl ?_
      refine s_nil ?_
      refine l_ret ?_
      obtain rfl := Option.some.inj h
      refine fin_ok (.inr rfl) (resD1 (res_t rfl) rf_d) ?_
      exact (.refl _)
end Go.Abs.Curve
