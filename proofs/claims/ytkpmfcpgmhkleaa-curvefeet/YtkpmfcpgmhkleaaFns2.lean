/-
  The functions, part 2.
-/
import Derived.Test.YtkpmfcpgmhkleaaFns1
set_option maxRecDepth 20000
namespace Go.Abs.Curve
open Go Go.Abs Go.Proofs

noncomputable def ref01_Near_l1 (p1 : Curve) (p2 : Spot) (p3 : Int) (v2 : (List Int)) (x1 : ((List Int) × Int × Int)) : Option (Stp ((List Int) × Int × Int) (List Int)) :=
  cond (decide (x1.2.2 < (v2.length : Int))) ((geti p1.Pts (w64 (x1.2.2 + 1))).bind fun v3 => (geti p1.Pts x1.2.2).bind fun v4 => (ref01_Minus v3 v4).bind fun v5 => (geti p1.Pts x1.2.2).bind fun v6 => (ref01_Minus p2 v6).bind fun v7 => (ref01_Dot v7 v5).bind fun v8 => (ref01_Cross v5 v7).bind fun v9 => (geti v2 x1.2.2).bind fun v10 => ((cond (decide (v9 ≤ (w64 (p3 * v10)))) (geti v2 x1.2.2) (some default))).bind fun v11 => ((cond ((decide (v9 ≤ (w64 (p3 * v10)))) && (decide (v9 ≥ (w64 ((w64 (0 - p3)) * v11))))) (geti v2 x1.2.2) (some default))).bind fun v12 => ((cond (((decide (v9 ≤ (w64 (p3 * v10)))) && (decide (v9 ≥ (w64 ((w64 (0 - p3)) * v11))))) && (decide (v8 ≥ (w64 ((w64 (0 - p3)) * v12))))) (geti v2 x1.2.2) (some default))).bind fun v13 => ((cond (((decide (v9 ≤ (w64 (p3 * v10)))) && (decide (v9 ≥ (w64 ((w64 (0 - p3)) * v11))))) && (decide (v8 ≥ (w64 ((w64 (0 - p3)) * v12))))) (geti v2 x1.2.2) (some default))).bind fun v14 => (cond ((((decide (v9 ≤ (w64 (p3 * v10)))) && (decide (v9 ≥ (w64 ((w64 (0 - p3)) * v11))))) && (decide (v8 ≥ (w64 ((w64 (0 - p3)) * v12))))) && (decide (v8 ≤ (w64 ((w64 (v13 + p3)) * v14))))) ((geti v2 x1.2.2).bind fun v15 => (ref01_floor v8 v15).bind fun v16 => (geti v2 x1.2.2).bind fun v17 => (appc x1.1 [(w64 (x1.2.1 + (mm2 true 0 (mm2 false v16 v17))))]).bind fun v18 => some v18) (some x1.1)).bind fun y2 => (geti v2 x1.2.2).bind fun v19 => some (.go (y2, (w64 (x1.2.1 + v19)), (w64 (x1.2.2 + 1))))) (some (.out x1.1))
noncomputable def ref01_Near (p1 : Curve) (p2 : Spot) (p3 : Int) : Option (List Int) :=
  (ref01_Valid p2).bind fun v1 => cond (((!v1) || (decide (p3 < 0))) || (decide (p3 > 16777216))) (some []) ((ref01_Pieces p1).bind fun v2 => (loop (ref01_Near_l1 p1 p2 p3 v2) ([], 0, 0)).bind fun y1 => some y1)

/-- kerbstone/kerbstoneref01.Near -/
def ac37 : AC :=
  (.seq (.reg [⟨(some 3), .box 24 true (.t 0), none⟩, ⟨(some 4), .box 43 true (.t 1), none⟩, ⟨(some 6), .mv (.c .nilS), none⟩])
  (.seq (.seq (.reg [⟨(some 15), .load 2 true (.t 4), none⟩, ⟨(some 16), .call (.c (.fn (.func 63) [] [])) [(.t 15)], none⟩, ⟨(some 17), .un .not (.t 16), none⟩, ⟨(some 18), .mv (.t 17), none⟩, ⟨(some 19), .mv (.t 2), (some (18, false))⟩, ⟨(some 20), .bin .lss (.t 19) (.c (.v (.int .i64 0))), (some (18, false))⟩, ⟨(some 21), .pick (.t 18) (.c (.v (.bool true))) (.t 20), none⟩, ⟨(some 22), .mv (.t 21), none⟩, ⟨(some 23), .mv (.t 2), (some (22, false))⟩, ⟨(some 24), .bin .gtr (.t 23) (.c (.v (.int .i64 16777216))), (some (22, false))⟩, ⟨(some 25), .pick (.t 22) (.c (.v (.bool true))) (.t 24), none⟩])
  (.cond (.t 25)
    (.seq (.reg [⟨(some 6), .mv (.c .nilS), none⟩])
    .ret)
    .skip))
  (.seq (.reg [⟨(some 7), .mv (.c .nilS), none⟩])
  (.seq (.reg [⟨(some 26), .load 1 true (.t 3), none⟩, ⟨(some 27), .call (.c (.fn (.func 26) [] [])) [(.t 26)], none⟩, ⟨(some 8), .mv (.t 27), none⟩])
  (.seq (.reg [⟨(some 9), .mv (.c (.v (.int .i64 0))), none⟩])
  (.seq (.seq (.reg [⟨(some 10), .mv (.c (.v (.int .i64 0))), none⟩])
  (.block 0
    (.loop
      (.seq (.seq (.reg [⟨(some 28), .mv (.t 10), none⟩, ⟨(some 29), .mv (.t 8), none⟩, ⟨(some 30), .len (.t 29), none⟩, ⟨(some 31), .bin .lss (.t 28) (.t 30), none⟩])
      (.cond (.t 31)
        .skip
        (.exit 0)))
      (.seq (.block 1
        (.seq (.draw [⟨(some 34), .fieldA 0 (.t 3), none⟩, ⟨(some 35), .load 1 false (.t 34), none⟩, ⟨(some 36), .mv (.t 10), none⟩, ⟨(some 37), .bin .add (.t 36) (.c (.v (.int .i64 1))), none⟩, ⟨(some 38), .idxS 2 (.t 35) (.t 37), none⟩, ⟨(some 39), .load 2 true (.t 38), none⟩, ⟨(some 40), .fieldA 0 (.t 3), none⟩, ⟨(some 41), .load 1 false (.t 40), none⟩, ⟨(some 42), .mv (.t 10), none⟩, ⟨(some 43), .idxS 2 (.t 41) (.t 42), none⟩, ⟨(some 44), .load 2 true (.t 43), none⟩, ⟨(some 45), .call (.c (.fn (.func 40) [] [])) [(.t 39), (.t 44)], none⟩, ⟨(some 46), .load 2 true (.t 4), none⟩, ⟨(some 47), .fieldA 0 (.t 3), none⟩, ⟨(some 48), .load 1 false (.t 47), none⟩, ⟨(some 49), .mv (.t 10), none⟩, ⟨(some 50), .idxS 2 (.t 48) (.t 49), none⟩, ⟨(some 51), .load 2 true (.t 50), none⟩, ⟨(some 52), .call (.c (.fn (.func 40) [] [])) [(.t 46), (.t 51)], none⟩, ⟨(some 11), .alloc 43 [(.v (.int .i64 0)), (.v (.int .i64 0))], none⟩, ⟨(some 12), .alloc 43 [(.v (.int .i64 0)), (.v (.int .i64 0))], none⟩, ⟨none, .store 2 (.t 11) (.t 45), none⟩, ⟨none, .store 2 (.t 12) (.t 52), none⟩] [])
        (.seq (.draw [⟨(some 53), .load 2 true (.t 12), none⟩, ⟨(some 54), .load 2 true (.t 11), none⟩, ⟨(some 55), .call (.c (.fn (.func 65) [] [])) [(.t 53), (.t 54)], none⟩, ⟨(some 56), .load 2 true (.t 11), none⟩, ⟨(some 57), .load 2 true (.t 12), none⟩, ⟨(some 58), .call (.c (.fn (.func 76) [] [])) [(.t 56), (.t 57)], none⟩, ⟨(some 13), .mv (.t 55), none⟩, ⟨(some 14), .mv (.t 58), none⟩] [])
        (.seq (.seq (.draw [⟨(some 59), .mv (.t 14), none⟩, ⟨(some 60), .mv (.t 2), none⟩, ⟨(some 61), .mv (.t 8), none⟩, ⟨(some 62), .mv (.t 10), none⟩, ⟨(some 63), .idxS 1 (.t 61) (.t 62), none⟩, ⟨(some 64), .load 1 false (.t 63), none⟩, ⟨(some 65), .bin .mul (.t 60) (.t 64), none⟩, ⟨(some 66), .bin .leq (.t 59) (.t 65), none⟩, ⟨(some 67), .mv (.t 66), none⟩, ⟨(some 68), .mv (.t 14), (some (67, true))⟩, ⟨(some 69), .mv (.t 2), (some (67, true))⟩, ⟨(some 70), .un .neg (.t 69), (some (67, true))⟩, ⟨(some 71), .mv (.t 8), (some (67, true))⟩, ⟨(some 72), .mv (.t 10), (some (67, true))⟩, ⟨(some 73), .idxS 1 (.t 71) (.t 72), (some (67, true))⟩, ⟨(some 74), .load 1 false (.t 73), (some (67, true))⟩, ⟨(some 75), .bin .mul (.t 70) (.t 74), (some (67, true))⟩, ⟨(some 76), .bin .geq (.t 68) (.t 75), (some (67, true))⟩, ⟨(some 77), .pick (.t 67) (.t 76) (.c (.v (.bool false))), none⟩, ⟨(some 78), .mv (.t 77), none⟩, ⟨(some 79), .mv (.t 13), (some (78, true))⟩, ⟨(some 80), .mv (.t 2), (some (78, true))⟩, ⟨(some 81), .un .neg (.t 80), (some (78, true))⟩, ⟨(some 82), .mv (.t 8), (some (78, true))⟩, ⟨(some 83), .mv (.t 10), (some (78, true))⟩, ⟨(some 84), .idxS 1 (.t 82) (.t 83), (some (78, true))⟩, ⟨(some 85), .load 1 false (.t 84), (some (78, true))⟩, ⟨(some 86), .bin .mul (.t 81) (.t 85), (some (78, true))⟩, ⟨(some 87), .bin .geq (.t 79) (.t 86), (some (78, true))⟩, ⟨(some 88), .pick (.t 78) (.t 87) (.c (.v (.bool false))), none⟩, ⟨(some 89), .mv (.t 88), none⟩, ⟨(some 90), .mv (.t 13), (some (89, true))⟩, ⟨(some 91), .mv (.t 8), (some (89, true))⟩, ⟨(some 92), .mv (.t 10), (some (89, true))⟩, ⟨(some 93), .idxS 1 (.t 91) (.t 92), (some (89, true))⟩, ⟨(some 94), .load 1 false (.t 93), (some (89, true))⟩, ⟨(some 95), .mv (.t 2), (some (89, true))⟩, ⟨(some 96), .bin .add (.t 94) (.t 95), (some (89, true))⟩, ⟨(some 97), .mv (.t 8), (some (89, true))⟩, ⟨(some 98), .mv (.t 10), (some (89, true))⟩, ⟨(some 99), .idxS 1 (.t 97) (.t 98), (some (89, true))⟩, ⟨(some 100), .load 1 false (.t 99), (some (89, true))⟩, ⟨(some 101), .bin .mul (.t 96) (.t 100), (some (89, true))⟩, ⟨(some 102), .bin .leq (.t 90) (.t 101), (some (89, true))⟩, ⟨(some 103), .pick (.t 89) (.t 102) (.c (.v (.bool false))), none⟩] [])
        (.cond (.t 103)
          (.draw [⟨(some 104), .mv (.t 7), none⟩, ⟨(some 105), .mv (.t 9), none⟩, ⟨(some 106), .mv (.t 13), none⟩, ⟨(some 107), .mv (.t 8), none⟩, ⟨(some 108), .mv (.t 10), none⟩, ⟨(some 109), .idxS 1 (.t 107) (.t 108), none⟩, ⟨(some 110), .load 1 false (.t 109), none⟩, ⟨(some 111), .call (.c (.fn (.func 71) [] [])) [(.t 106), (.t 110)], none⟩, ⟨(some 112), .mv (.t 8), none⟩, ⟨(some 113), .mv (.t 10), none⟩, ⟨(some 114), .idxS 1 (.t 112) (.t 113), none⟩, ⟨(some 115), .load 1 false (.t 114), none⟩, ⟨(some 116), .mm false (.t 111) [(.t 115)], none⟩, ⟨(some 117), .mm true (.c (.v (.int .i64 0))) [(.t 116)], none⟩, ⟨(some 118), .bin .add (.t 105) (.t 117), none⟩, ⟨(some 119), .dslice 2 1 1 [(.v (.int .i64 0))] [(0, 1, (.t 118))], none⟩, ⟨(some 120), .append 32 2 1 (.t 104) (.t 119), none⟩, ⟨(some 7), .mv (.t 120), none⟩] [])
          .skip))
        (.reg [⟨(some 121), .mv (.t 9), none⟩, ⟨(some 122), .mv (.t 8), none⟩, ⟨(some 123), .mv (.t 10), none⟩, ⟨(some 124), .idxS 1 (.t 122) (.t 123), none⟩, ⟨(some 125), .load 1 false (.t 124), none⟩, ⟨(some 126), .bin .add (.t 121) (.t 125), none⟩, ⟨(some 9), .mv (.t 126), none⟩])))))
      (.reg [⟨(some 32), .mv (.t 10), none⟩, ⟨(some 33), .bin .add (.t 32) (.c (.v (.int .i64 1))), none⟩, ⟨(some 10), .mv (.t 33), none⟩]))))))
  (.seq (.reg [⟨(some 127), .mv (.t 7), none⟩, ⟨(some 6), .mv (.t 127), none⟩])
  .ret)))))))
theorem fn37 : FnOK Try.prog 37 128 [.t 6] ac37 := ⟨_, _, Try.func37, rfl, Try.ntmps37, by kernel_rfl, ⟨fun _ => allD', by kernel_rfl⟩, by kernel_rfl⟩
theorem ref01_Near_ok (p1 : Curve) (p2 : Spot) (p3 : Int) (r : (List Int)) (h : ref01_Near p1 p2 p3 = some r) : PCall Try.prog 37 [(.agg [(.list (List.map eSpot p1.Pts))]), (.agg [(i64 p2.X), (i64 p2.Y)]), (i64 p3)] (.list (List.map eInt_i64 r)) := by
  refine l_call fn37 (Nat.le_of_ble_eq_true rfl) ?_
  unfold ref01_Near at h
  unfold ac37
  refine (l_sub (s0 := ⟨T [(0, (.d (.agg [(.list (List.map eSpot p1.Pts))]))), (1, (.d (.agg [(i64 p2.X), (i64 p2.Y)]))), (2, (.d (i64 p3)))], G []⟩) (sb_of ⟨.of rfl, .of rfl, .of rfl, trivial⟩ trivial) ?_)
  refine l_seq ?_
  refine l_reg fun u1 hu1 => ?_
  refine s_new (.ptr _ _) (.box _ _) rfl rfl ?_
  refine s_new (.ptr _ _) (.box _ _) rfl rfl ?_
  refine s_val (.d _) rfl rfl ?_
  refine s_nil ?_
  refine l_seq ?_
  refine l_seq ?_
  refine l_reg fun u2 hu2 => ?_
  refine s_val (.d _) rfl (v_loadG rfl G_hit rfl rfl) ?_
  obtain ⟨v1, hv1, h⟩ := bind_some h
  refine s_call rfl rfl all2_refl (ref01_Valid_ok _  _ hv1) (.inl rfl) ?_
  refine s_val (.d _) rfl rfl ?_
  refine s_val (.d _) rfl rfl ?_
  refine g_val (!(!v1)) (.d _) rfl (gw_f rfl) (fun w1 => rfl) ?_
  refine g_val (!(!v1)) (.d _) rfl (gw_f rfl) (fun w2 => (v_bin (gd_pos w2) rfl rfl)) ?_
  refine s_val (.d _) rfl (v_or rfl rfl (fun hc => gd_pos (not_t hc))) ?_
  refine s_val (.d _) rfl rfl ?_
  refine g_val (!((!v1) || (decide (p3 < 0)))) (.d _) rfl (gw_f rfl) (fun w3 => rfl) ?_
  refine g_val (!((!v1) || (decide (p3 < 0)))) (.d _) rfl (gw_f rfl) (fun w4 => (v_bin (gd_pos w4) rfl rfl)) ?_
  refine s_val (.d _) rfl (v_or rfl rfl (fun hc => gd_pos (not_t hc))) ?_
  refine s_nil ?_
  refine l_cond (((!v1) || (decide (p3 < 0))) || (decide (p3 > 16777216))) rfl (fun c1 => ?_) (fun c1 => ?_)
  · replace h := cond_t c1 h
    refine l_seq ?_
    refine l_reg fun u3 hu3 => ?_
    refine s_val (.d _) rfl rfl ?_
    refine s_nil ?_
    refine l_ret ?_
    obtain rfl := Option.some.inj h
    refine fin_ok (.inr rfl) (resD1 (res_t rfl) rf_d) ?_
    exact DLe.nil
  · replace h := cond_f c1 h
    refine l_skip ?_
    refine l_seq ?_
    refine l_reg fun u4 hu4 => ?_
    refine s_val (.d _) rfl rfl ?_
    refine s_nil ?_
    refine l_seq ?_
    refine l_reg fun u5 hu5 => ?_
    refine s_val (.d _) rfl (v_loadG rfl (G_skip rfl G_hit) rfl rfl) ?_
    obtain ⟨v2, hv2, h⟩ := bind_some h
    refine s_call rfl rfl all2_refl (ref01_Pieces_ok _  _ hv2) (.inl rfl) ?_
    refine s_val (.d _) rfl rfl ?_
    refine s_nil ?_
    refine l_seq ?_
    refine l_sub (s0 := ⟨T [(2, (.d (i64 p3))), (3, (.ptr (3, u1) 0)), (4, (.ptr (4, u1) 0)), (7, (.d .nilS)), (8, (.d (.list (List.map eInt_i64 v2))))], G [((3, u1), some (.box 24 [(.d (.list (List.map eSpot p1.Pts)))])), ((4, u1), some (.box 43 [(.d (i64 p2.X)), (.d (i64 p2.Y))]))]⟩) (sb_of ⟨.of rfl, .of rfl, .of rfl, .of rfl, .of rfl, trivial⟩ (sbG_some (G_skip rfl G_hit) (.of rfl) (sbG_some G_hit (.of rfl) trivial))) ?_
    refine l_reg fun u6 hu6 => ?_
    refine s_val (.d _) rfl rfl ?_
    refine s_nil ?_
    refine l_seq ?_
    refine l_seq ?_
    refine l_reg fun u7 hu7 => ?_
    refine s_val (.d _) rfl rfl ?_
    refine s_nil ?_
    obtain ⟨y1, hy1, h⟩ := bind_some h
    refine l_join (fun s => ∃ g1 : Nat, Sb ⟨T [(7, (oS y1 (120, g1)))], G [((120, g1), oB 2 1 eInt_i64 y1)]⟩ s) ?_ ?_
    · skip
      refine l_block ?_
      refine l_loop (ref01_Near_l1 p1 p2 p3 v2) (fun (x1 : ((List Int) × Int × Int)) (g2 : Nat) => ⟨T [(2, (.d (i64 p3))), (3, (.ptr (3, u1) 0)), (4, (.ptr (4, u1) 0)), (7, (oS x1.1 (120, g2))), (8, (.d (.list (List.map eInt_i64 v2)))), (9, (.d (i64 x1.2.1))), (10, (.d (i64 x1.2.2)))], G [((3, u1), some (.box 24 [(.d (.list (List.map eSpot p1.Pts)))])), ((4, u1), some (.box 43 [(.d (i64 p2.X)), (.d (i64 p2.Y))])), ((120, g2), oB 2 1 eInt_i64 x1.1)]⟩) ([], 0, 0) 0 _ hy1 (sb_of ⟨.of rfl, .of rfl, .of rfl, .of rfl, .of rfl, .of rfl, .of rfl, trivial⟩ (sbG_some G_hit (.of rfl) (sbG_some (G_skip rfl G_hit) (.of rfl) (sbG_nil trivial)))) ?_
      intro x1 g2 z1 hz1 ez1
      unfold ref01_Near_l1 at hz1
      refine l_seq ?_
      refine l_seq ?_
      refine l_reg fun u8 hu8 => ?_
      refine s_val (.d _) rfl rfl ?_
      refine s_val (.d _) rfl rfl ?_
      refine s_val (.d _) rfl (v_len rfl) ?_
      refine s_val (.d _) rfl rfl ?_
      refine s_nil ?_
      refine l_cond (decide (x1.2.2 < (v2.length : Int))) rfl (fun c2 => ?_) (fun c2 => ?_)
      · replace hz1 := cond_t c2 hz1
        refine l_skip ?_
        refine l_seq ?_
        refine l_block ?_
        refine l_seq ?_
        refine l_draw rfl fun u9 hu9 => ?_
        refine s_val (.ptr _ _) rfl rfl ?_
        refine s_val (.d _) rfl (v_load rfl G_hit rfl) ?_
        refine s_val (.d _) rfl rfl ?_
        refine s_val (.d _) rfl rfl ?_
        obtain ⟨v3, hv3, hz1⟩ := bind_some hz1
        refine s_val (.d _) rfl (v_idx rfl rfl hv3 rfl) ?_
        refine s_val (.d _) rfl (v_loadLG rfl hv3 rfl rfl) ?_
        refine s_val (.ptr _ _) rfl rfl ?_
        refine s_val (.d _) rfl (v_load rfl G_hit rfl) ?_
        refine s_val (.d _) rfl rfl ?_
        obtain ⟨v4, hv4, hz1⟩ := bind_some hz1
        refine s_val (.d _) rfl (v_idx rfl rfl hv4 rfl) ?_
        refine s_val (.d _) rfl (v_loadLG rfl hv4 rfl rfl) ?_
        obtain ⟨v5, hv5, hz1⟩ := bind_some hz1
        refine s_call rfl rfl all2_refl (ref01_Minus_ok _ _  _ hv5) (.inl rfl) ?_
        refine s_val (.d _) rfl (v_loadG rfl (G_skip rfl G_hit) rfl rfl) ?_
        refine s_val (.ptr _ _) rfl rfl ?_
        refine s_val (.d _) rfl (v_load rfl G_hit rfl) ?_
        refine s_val (.d _) rfl rfl ?_
        obtain ⟨v6, hv6, hz1⟩ := bind_some hz1
        refine s_val (.d _) rfl (v_idx rfl rfl hv6 rfl) ?_
        refine s_val (.d _) rfl (v_loadLG rfl hv6 rfl rfl) ?_
        obtain ⟨v7, hv7, hz1⟩ := bind_some hz1
        refine s_call rfl rfl all2_refl (ref01_Minus_ok _ _  _ hv7) (.inl rfl) ?_
        refine s_new (.ptr _ _) (.box _ _) rfl rfl ?_
        refine s_new (.ptr _ _) (.box _ _) rfl rfl ?_
        refine s_store _ _ _ _ _ rfl rfl rfl (G_skip rfl G_hit) (Nat.le_of_ble_eq_true rfl) _ rfl ?_
        refine s_store _ _ _ _ _ rfl rfl rfl (G_skip rfl G_hit) (Nat.le_of_ble_eq_true rfl) _ rfl ?_
        refine s_nil ?_
        refine l_seq ?_
        refine l_sub (s0 := ⟨T [(2, (.d (i64 p3))), (3, (.ptr (3, u1) 0)), (4, (.ptr (4, u1) 0)), (7, (oS x1.1 (120, g2))), (8, (.d (.list (List.map eInt_i64 v2)))), (9, (.d (i64 x1.2.1))), (10, (.d (i64 x1.2.2))), (11, (.ptr (11, u9) 0)), (12, (.ptr (12, u9) 0))], G [((3, u1), some (.box 24 [(.d (.list (List.map eSpot p1.Pts)))])), ((4, u1), some (.box 43 [(.d (i64 p2.X)), (.d (i64 p2.Y))])), ((120, g2), oB 2 1 eInt_i64 x1.1), ((11, u9), some (.box 43 [(.d (i64 v5.X)), (.d (i64 v5.Y))])), ((12, u9), some (.box 43 [(.d (i64 v7.X)), (.d (i64 v7.Y))]))]⟩) (sb_of ⟨.of rfl, .of rfl, .of rfl, .of rfl, .of rfl, .of rfl, .of rfl, .of rfl, .of rfl, trivial⟩ (sbG_some (G_skip rfl (G_skip rfl (G_skip rfl (G_skip rfl G_hit)))) (.of rfl) (sbG_some (G_skip rfl (G_skip rfl (G_skip rfl (G_skip rfl (G_skip rfl G_hit))))) (.of rfl) (sbG_oB (G_skip rfl (G_skip rfl (G_skip rfl (G_skip rfl (G_skip rfl (G_skip rfl G_hit)))))) (sbG_some (G_skip rfl G_hit) (.of rfl) (sbG_some G_hit (.of rfl) trivial)))))) ?_
        refine l_draw rfl fun u10 hu10 => ?_
        refine s_val (.d _) rfl (v_loadG rfl (G_skip rfl (G_skip rfl (G_skip rfl (G_skip rfl G_hit)))) rfl rfl) ?_
        refine s_val (.d _) rfl (v_loadG rfl (G_skip rfl (G_skip rfl (G_skip rfl G_hit))) rfl rfl) ?_
        obtain ⟨v8, hv8, hz1⟩ := bind_some hz1
        refine s_call rfl rfl all2_refl (ref01_Dot_ok _ _  _ hv8) (.inl rfl) ?_
        refine s_val (.d _) rfl (v_loadG rfl (G_skip rfl (G_skip rfl (G_skip rfl G_hit))) rfl rfl) ?_
        refine s_val (.d _) rfl (v_loadG rfl (G_skip rfl (G_skip rfl (G_skip rfl (G_skip rfl G_hit)))) rfl rfl) ?_
        obtain ⟨v9, hv9, hz1⟩ := bind_some hz1
        refine s_call rfl rfl all2_refl (ref01_Cross_ok _ _  _ hv9) (.inl rfl) ?_
        refine s_val (.d _) rfl rfl ?_
        refine s_val (.d _) rfl rfl ?_
        refine s_nil ?_
        refine l_seq ?_
        refine l_seq ?_
        refine l_draw rfl fun u11 hu11 => ?_
        refine s_val (.d _) rfl rfl ?_
        refine s_val (.d _) rfl rfl ?_
        refine s_val (.d _) rfl rfl ?_
        refine s_val (.d _) rfl rfl ?_
        obtain ⟨v10, hv10, hz1⟩ := bind_some hz1
        refine s_val (.d _) rfl (v_idx rfl rfl hv10 rfl) ?_
        refine s_val (.d _) rfl (v_loadL rfl hv10 rfl) ?_
        refine s_val (.d _) rfl rfl ?_
        refine s_val (.d _) rfl rfl ?_
        refine s_val (.d _) rfl rfl ?_
        refine g_val (decide (v9 ≤ (w64 (p3 * v10)))) (.d _) rfl (gw_t rfl) (fun w5 => rfl) ?_
        refine g_val (decide (v9 ≤ (w64 (p3 * v10)))) (.d _) rfl (gw_t rfl) (fun w6 => rfl) ?_
        refine g_val (decide (v9 ≤ (w64 (p3 * v10)))) (.d _) rfl (gw_t rfl) (fun w7 => (by simp only [gd_pos w7]; rfl)) ?_
        refine g_val (decide (v9 ≤ (w64 (p3 * v10)))) (.d _) rfl (gw_t rfl) (fun w8 => rfl) ?_
        refine g_val (decide (v9 ≤ (w64 (p3 * v10)))) (.d _) rfl (gw_t rfl) (fun w9 => rfl) ?_
        obtain ⟨v11, hv11, hz1⟩ := bind_some hz1
        refine g_val (decide (v9 ≤ (w64 (p3 * v10)))) (.d _) rfl (gw_t rfl) (fun w10 => (v_idx (gd_pos w10) (gd_pos w10) (cond_t w10 hv11) rfl)) ?_
        refine g_val (decide (v9 ≤ (w64 (p3 * v10)))) (.d _) rfl (gw_t rfl) (fun w11 => (v_loadL (gd_pos w11) (cond_t w11 hv11) rfl)) ?_
        refine g_val (decide (v9 ≤ (w64 (p3 * v10)))) (.d _) rfl (gw_t rfl) (fun w12 => (v_bin (gd_pos w12) (gd_pos w12) rfl)) ?_
        refine g_val (decide (v9 ≤ (w64 (p3 * v10)))) (.d _) rfl (gw_t rfl) (fun w13 => (v_bin (gd_pos w13) (gd_pos w13) rfl)) ?_
        refine s_val (.d _) rfl (v_and rfl (fun hc => gd_pos hc) rfl) ?_
        refine s_val (.d _) rfl rfl ?_
        refine g_val ((decide (v9 ≤ (w64 (p3 * v10)))) && (decide (v9 ≥ (w64 ((w64 (0 - p3)) * v11))))) (.d _) rfl (gw_t rfl) (fun w14 => rfl) ?_
        refine g_val ((decide (v9 ≤ (w64 (p3 * v10)))) && (decide (v9 ≥ (w64 ((w64 (0 - p3)) * v11))))) (.d _) rfl (gw_t rfl) (fun w15 => rfl) ?_
        refine g_val ((decide (v9 ≤ (w64 (p3 * v10)))) && (decide (v9 ≥ (w64 ((w64 (0 - p3)) * v11))))) (.d _) rfl (gw_t rfl) (fun w16 => (by simp only [gd_pos w16]; rfl)) ?_
        refine g_val ((decide (v9 ≤ (w64 (p3 * v10)))) && (decide (v9 ≥ (w64 ((w64 (0 - p3)) * v11))))) (.d _) rfl (gw_t rfl) (fun w17 => rfl) ?_
        refine g_val ((decide (v9 ≤ (w64 (p3 * v10)))) && (decide (v9 ≥ (w64 ((w64 (0 - p3)) * v11))))) (.d _) rfl (gw_t rfl) (fun w18 => rfl) ?_
        obtain ⟨v12, hv12, hz1⟩ := bind_some hz1
        refine g_val ((decide (v9 ≤ (w64 (p3 * v10)))) && (decide (v9 ≥ (w64 ((w64 (0 - p3)) * v11))))) (.d _) rfl (gw_t rfl) (fun w19 => (v_idx (gd_pos w19) (gd_pos w19) (cond_t w19 hv12) rfl)) ?_
        refine g_val ((decide (v9 ≤ (w64 (p3 * v10)))) && (decide (v9 ≥ (w64 ((w64 (0 - p3)) * v11))))) (.d _) rfl (gw_t rfl) (fun w20 => (v_loadL (gd_pos w20) (cond_t w20 hv12) rfl)) ?_
        refine g_val ((decide (v9 ≤ (w64 (p3 * v10)))) && (decide (v9 ≥ (w64 ((w64 (0 - p3)) * v11))))) (.d _) rfl (gw_t rfl) (fun w21 => (v_bin (gd_pos w21) (gd_pos w21) rfl)) ?_
        refine g_val ((decide (v9 ≤ (w64 (p3 * v10)))) && (decide (v9 ≥ (w64 ((w64 (0 - p3)) * v11))))) (.d _) rfl (gw_t rfl) (fun w22 => (v_bin (gd_pos w22) (gd_pos w22) rfl)) ?_
        refine s_val (.d _) rfl (v_and rfl (fun hc => gd_pos hc) rfl) ?_
        refine s_val (.d _) rfl rfl ?_
        refine g_val (((decide (v9 ≤ (w64 (p3 * v10)))) && (decide (v9 ≥ (w64 ((w64 (0 - p3)) * v11))))) && (decide (v8 ≥ (w64 ((w64 (0 - p3)) * v12))))) (.d _) rfl (gw_t rfl) (fun w23 => rfl) ?_
        refine g_val (((decide (v9 ≤ (w64 (p3 * v10)))) && (decide (v9 ≥ (w64 ((w64 (0 - p3)) * v11))))) && (decide (v8 ≥ (w64 ((w64 (0 - p3)) * v12))))) (.d _) rfl (gw_t rfl) (fun w24 => rfl) ?_
        refine g_val (((decide (v9 ≤ (w64 (p3 * v10)))) && (decide (v9 ≥ (w64 ((w64 (0 - p3)) * v11))))) && (decide (v8 ≥ (w64 ((w64 (0 - p3)) * v12))))) (.d _) rfl (gw_t rfl) (fun w25 => rfl) ?_
        obtain ⟨v13, hv13, hz1⟩ := bind_some hz1
        refine g_val (((decide (v9 ≤ (w64 (p3 * v10)))) && (decide (v9 ≥ (w64 ((w64 (0 - p3)) * v11))))) && (decide (v8 ≥ (w64 ((w64 (0 - p3)) * v12))))) (.d _) rfl (gw_t rfl) (fun w26 => (v_idx (gd_pos w26) (gd_pos w26) (cond_t w26 hv13) rfl)) ?_
        refine g_val (((decide (v9 ≤ (w64 (p3 * v10)))) && (decide (v9 ≥ (w64 ((w64 (0 - p3)) * v11))))) && (decide (v8 ≥ (w64 ((w64 (0 - p3)) * v12))))) (.d _) rfl (gw_t rfl) (fun w27 => (v_loadL (gd_pos w27) (cond_t w27 hv13) rfl)) ?_
        refine g_val (((decide (v9 ≤ (w64 (p3 * v10)))) && (decide (v9 ≥ (w64 ((w64 (0 - p3)) * v11))))) && (decide (v8 ≥ (w64 ((w64 (0 - p3)) * v12))))) (.d _) rfl (gw_t rfl) (fun w28 => rfl) ?_
        refine g_val (((decide (v9 ≤ (w64 (p3 * v10)))) && (decide (v9 ≥ (w64 ((w64 (0 - p3)) * v11))))) && (decide (v8 ≥ (w64 ((w64 (0 - p3)) * v12))))) (.d _) rfl (gw_t rfl) (fun w29 => (v_bin (gd_pos w29) (gd_pos w29) rfl)) ?_
        refine g_val (((decide (v9 ≤ (w64 (p3 * v10)))) && (decide (v9 ≥ (w64 ((w64 (0 - p3)) * v11))))) && (decide (v8 ≥ (w64 ((w64 (0 - p3)) * v12))))) (.d _) rfl (gw_t rfl) (fun w30 => rfl) ?_
        refine g_val (((decide (v9 ≤ (w64 (p3 * v10)))) && (decide (v9 ≥ (w64 ((w64 (0 - p3)) * v11))))) && (decide (v8 ≥ (w64 ((w64 (0 - p3)) * v12))))) (.d _) rfl (gw_t rfl) (fun w31 => rfl) ?_
        obtain ⟨v14, hv14, hz1⟩ := bind_some hz1
        refine g_val (((decide (v9 ≤ (w64 (p3 * v10)))) && (decide (v9 ≥ (w64 ((w64 (0 - p3)) * v11))))) && (decide (v8 ≥ (w64 ((w64 (0 - p3)) * v12))))) (.d _) rfl (gw_t rfl) (fun w32 => (v_idx (gd_pos w32) (gd_pos w32) (cond_t w32 hv14) rfl)) ?_
        refine g_val (((decide (v9 ≤ (w64 (p3 * v10)))) && (decide (v9 ≥ (w64 ((w64 (0 - p3)) * v11))))) && (decide (v8 ≥ (w64 ((w64 (0 - p3)) * v12))))) (.d _) rfl (gw_t rfl) (fun w33 => (v_loadL (gd_pos w33) (cond_t w33 hv14) rfl)) ?_
        refine g_val (((decide (v9 ≤ (w64 (p3 * v10)))) && (decide (v9 ≥ (w64 ((w64 (0 - p3)) * v11))))) && (decide (v8 ≥ (w64 ((w64 (0 - p3)) * v12))))) (.d _) rfl (gw_t rfl) (fun w34 => (v_bin (gd_pos w34) (gd_pos w34) rfl)) ?_
        refine g_val (((decide (v9 ≤ (w64 (p3 * v10)))) && (decide (v9 ≥ (w64 ((w64 (0 - p3)) * v11))))) && (decide (v8 ≥ (w64 ((w64 (0 - p3)) * v12))))) (.d _) rfl (gw_t rfl) (fun w35 => (v_bin (gd_pos w35) (gd_pos w35) rfl)) ?_
        refine s_val (.d _) rfl (v_and rfl (fun hc => gd_pos hc) rfl) ?_
        refine s_nil ?_
        obtain ⟨y2, hy2, hz1⟩ := bind_some hz1
        refine l_join (fun s => ∃ g3 : Nat, Sb ⟨T [(2, (.d (i64 p3))), (3, (.ptr (3, u1) 0)), (4, (.ptr (4, u1) 0)), (7, (oS y2 (120, g3))), (8, (.d (.list (List.map eInt_i64 v2)))), (9, (.d (i64 x1.2.1))), (10, (.d (i64 x1.2.2)))], G [((3, u1), some (.box 24 [(.d (.list (List.map eSpot p1.Pts)))])), ((4, u1), some (.box 43 [(.d (i64 p2.X)), (.d (i64 p2.Y))])), ((120, g3), oB 2 1 eInt_i64 y2)]⟩ s) ?_ ?_
        · skip
          refine l_cond ((((decide (v9 ≤ (w64 (p3 * v10)))) && (decide (v9 ≥ (w64 ((w64 (0 - p3)) * v11))))) && (decide (v8 ≥ (w64 ((w64 (0 - p3)) * v12))))) && (decide (v8 ≤ (w64 ((w64 (v13 + p3)) * v14))))) rfl (fun c3 => ?_) (fun c3 => ?_)
          · replace hy2 := cond_t c3 hy2
            refine l_sub (s0 := ⟨T [(2, (.d (i64 p3))), (3, (.ptr (3, u1) 0)), (4, (.ptr (4, u1) 0)), (7, (oS x1.1 (120, g2))), (8, (.d (.list (List.map eInt_i64 v2)))), (9, (.d (i64 x1.2.1))), (10, (.d (i64 x1.2.2))), (13, (.d (i64 v8))), (68, (gd (decide (v9 ≤ (w64 (p3 * v10)))) true (.d (i64 v9)))), (69, (gd (decide (v9 ≤ (w64 (p3 * v10)))) true (.d (i64 p3)))), (70, (gd (decide (v9 ≤ (w64 (p3 * v10)))) true (.d (i64 (w64 (0 - p3)))))), (71, (gd (decide (v9 ≤ (w64 (p3 * v10)))) true (.d (.list (List.map eInt_i64 v2))))), (72, (gd (decide (v9 ≤ (w64 (p3 * v10)))) true (.d (i64 x1.2.2)))), (73, (gd (decide (v9 ≤ (w64 (p3 * v10)))) true (.d (.lp (List.map eInt_i64 v2) (x1.2.2).toNat 0)))), (74, (gd (decide (v9 ≤ (w64 (p3 * v10)))) true (.d (i64 v11)))), (75, (gd (decide (v9 ≤ (w64 (p3 * v10)))) true (.d (i64 (w64 ((w64 (0 - p3)) * v11)))))), (76, (gd (decide (v9 ≤ (w64 (p3 * v10)))) true (.d (bo (decide (v9 ≥ (w64 ((w64 (0 - p3)) * v11)))))))), (79, (gd ((decide (v9 ≤ (w64 (p3 * v10)))) && (decide (v9 ≥ (w64 ((w64 (0 - p3)) * v11))))) true (.d (i64 v8)))), (80, (gd ((decide (v9 ≤ (w64 (p3 * v10)))) && (decide (v9 ≥ (w64 ((w64 (0 - p3)) * v11))))) true (.d (i64 p3)))), (81, (gd ((decide (v9 ≤ (w64 (p3 * v10)))) && (decide (v9 ≥ (w64 ((w64 (0 - p3)) * v11))))) true (.d (i64 (w64 (0 - p3)))))), (82, (gd ((decide (v9 ≤ (w64 (p3 * v10)))) && (decide (v9 ≥ (w64 ((w64 (0 - p3)) * v11))))) true (.d (.list (List.map eInt_i64 v2))))), (83, (gd ((decide (v9 ≤ (w64 (p3 * v10)))) && (decide (v9 ≥ (w64 ((w64 (0 - p3)) * v11))))) true (.d (i64 x1.2.2)))), (84, (gd ((decide (v9 ≤ (w64 (p3 * v10)))) && (decide (v9 ≥ (w64 ((w64 (0 - p3)) * v11))))) true (.d (.lp (List.map eInt_i64 v2) (x1.2.2).toNat 0)))), (85, (gd ((decide (v9 ≤ (w64 (p3 * v10)))) && (decide (v9 ≥ (w64 ((w64 (0 - p3)) * v11))))) true (.d (i64 v12)))), (86, (gd ((decide (v9 ≤ (w64 (p3 * v10)))) && (decide (v9 ≥ (w64 ((w64 (0 - p3)) * v11))))) true (.d (i64 (w64 ((w64 (0 - p3)) * v12)))))), (87, (gd ((decide (v9 ≤ (w64 (p3 * v10)))) && (decide (v9 ≥ (w64 ((w64 (0 - p3)) * v11))))) true (.d (bo (decide (v8 ≥ (w64 ((w64 (0 - p3)) * v12)))))))), (90, (gd (((decide (v9 ≤ (w64 (p3 * v10)))) && (decide (v9 ≥ (w64 ((w64 (0 - p3)) * v11))))) && (decide (v8 ≥ (w64 ((w64 (0 - p3)) * v12))))) true (.d (i64 v8)))), (91, (gd (((decide (v9 ≤ (w64 (p3 * v10)))) && (decide (v9 ≥ (w64 ((w64 (0 - p3)) * v11))))) && (decide (v8 ≥ (w64 ((w64 (0 - p3)) * v12))))) true (.d (.list (List.map eInt_i64 v2))))), (92, (gd (((decide (v9 ≤ (w64 (p3 * v10)))) && (decide (v9 ≥ (w64 ((w64 (0 - p3)) * v11))))) && (decide (v8 ≥ (w64 ((w64 (0 - p3)) * v12))))) true (.d (i64 x1.2.2)))), (93, (gd (((decide (v9 ≤ (w64 (p3 * v10)))) && (decide (v9 ≥ (w64 ((w64 (0 - p3)) * v11))))) && (decide (v8 ≥ (w64 ((w64 (0 - p3)) * v12))))) true (.d (.lp (List.map eInt_i64 v2) (x1.2.2).toNat 0)))), (94, (gd (((decide (v9 ≤ (w64 (p3 * v10)))) && (decide (v9 ≥ (w64 ((w64 (0 - p3)) * v11))))) && (decide (v8 ≥ (w64 ((w64 (0 - p3)) * v12))))) true (.d (i64 v13)))), (95, (gd (((decide (v9 ≤ (w64 (p3 * v10)))) && (decide (v9 ≥ (w64 ((w64 (0 - p3)) * v11))))) && (decide (v8 ≥ (w64 ((w64 (0 - p3)) * v12))))) true (.d (i64 p3)))), (96, (gd (((decide (v9 ≤ (w64 (p3 * v10)))) && (decide (v9 ≥ (w64 ((w64 (0 - p3)) * v11))))) && (decide (v8 ≥ (w64 ((w64 (0 - p3)) * v12))))) true (.d (i64 (w64 (v13 + p3)))))), (97, (gd (((decide (v9 ≤ (w64 (p3 * v10)))) && (decide (v9 ≥ (w64 ((w64 (0 - p3)) * v11))))) && (decide (v8 ≥ (w64 ((w64 (0 - p3)) * v12))))) true (.d (.list (List.map eInt_i64 v2))))), (98, (gd (((decide (v9 ≤ (w64 (p3 * v10)))) && (decide (v9 ≥ (w64 ((w64 (0 - p3)) * v11))))) && (decide (v8 ≥ (w64 ((w64 (0 - p3)) * v12))))) true (.d (i64 x1.2.2)))), (99, (gd (((decide (v9 ≤ (w64 (p3 * v10)))) && (decide (v9 ≥ (w64 ((w64 (0 - p3)) * v11))))) && (decide (v8 ≥ (w64 ((w64 (0 - p3)) * v12))))) true (.d (.lp (List.map eInt_i64 v2) (x1.2.2).toNat 0)))), (100, (gd (((decide (v9 ≤ (w64 (p3 * v10)))) && (decide (v9 ≥ (w64 ((w64 (0 - p3)) * v11))))) && (decide (v8 ≥ (w64 ((w64 (0 - p3)) * v12))))) true (.d (i64 v14)))), (101, (gd (((decide (v9 ≤ (w64 (p3 * v10)))) && (decide (v9 ≥ (w64 ((w64 (0 - p3)) * v11))))) && (decide (v8 ≥ (w64 ((w64 (0 - p3)) * v12))))) true (.d (i64 (w64 ((w64 (v13 + p3)) * v14)))))), (102, (gd (((decide (v9 ≤ (w64 (p3 * v10)))) && (decide (v9 ≥ (w64 ((w64 (0 - p3)) * v11))))) && (decide (v8 ≥ (w64 ((w64 (0 - p3)) * v12))))) true (.d (bo (decide (v8 ≤ (w64 ((w64 (v13 + p3)) * v14))))))))], G [((3, u1), some (.box 24 [(.d (.list (List.map eSpot p1.Pts)))])), ((4, u1), some (.box 43 [(.d (i64 p2.X)), (.d (i64 p2.Y))])), ((120, g2), oB 2 1 eInt_i64 x1.1)]⟩) (sb_of ⟨.of rfl, .of rfl, .of rfl, .of rfl, .of rfl, .of rfl, .of rfl, .of rfl, .of rfl, .of rfl, .of rfl, .of rfl, .of rfl, .of rfl, .of rfl, .of rfl, .of rfl, .of rfl, .of rfl, .of rfl, .of rfl, .of rfl, .of rfl, .of rfl, .of rfl, .of rfl, .of rfl, .of rfl, .of rfl, .of rfl, .of rfl, .of rfl, .of rfl, .of rfl, .of rfl, .of rfl, .of rfl, .of rfl, .of rfl, trivial⟩ (sbG_some G_hit (.of rfl) (sbG_some (G_skip rfl G_hit) (.of rfl) (sbG_oB (G_skip rfl (G_skip rfl G_hit)) trivial)))) ?_
            refine l_draw rfl fun u12 hu12 => ?_
            refine s_val (oS x1.1 (120, g2)) rfl rfl ?_
            refine s_val (.d _) rfl rfl ?_
            refine s_val (.d _) rfl rfl ?_
            refine s_val (.d _) rfl rfl ?_
            refine s_val (.d _) rfl rfl ?_
            obtain ⟨v15, hv15, hy2⟩ := bind_some hy2
            refine s_val (.d _) rfl (v_idx rfl rfl hv15 rfl) ?_
            refine s_val (.d _) rfl (v_loadL rfl hv15 rfl) ?_
            obtain ⟨v16, hv16, hy2⟩ := bind_some hy2
            refine s_call rfl rfl all2_refl (ref01_floor_ok _ _  _ hv16) (.inl rfl) ?_
            refine s_val (.d _) rfl rfl ?_
            refine s_val (.d _) rfl rfl ?_
            obtain ⟨v17, hv17, hy2⟩ := bind_some hy2
            refine s_val (.d _) rfl (v_idx rfl rfl hv17 rfl) ?_
            refine s_val (.d _) rfl (v_loadL rfl hv17 rfl) ?_
            refine s_val (.d _) rfl rfl ?_
            refine s_val (.d _) rfl rfl ?_
            refine s_val (.d _) rfl rfl ?_
            refine s_val (.d (.list (List.map eInt_i64 [(w64 (x1.2.1 + (mm2 true 0 (mm2 false v16 v17))))]))) rfl rfl ?_
            obtain ⟨v18, hv18, hy2⟩ := bind_some hy2
            refine s_appendO eInt_i64 (120, g2) x1.1 (w64 (x1.2.1 + (mm2 true 0 (mm2 false v16 v17)))) [] _ (elems_list (fun _ => rfl)) rfl (G_skip rfl (G_skip rfl G_hit)) hv18 ?_
            refine s_val (.sl _) rfl rfl ?_
            refine s_nil ?_
            obtain rfl := Option.some.inj hy2
            exact l_j ⟨u12, (sb_of ⟨.of rfl, .of rfl, .of rfl, (.of (oS_ne (appc_ne hv18)).symm), .of rfl, .of rfl, .of rfl, trivial⟩ (sbG_some (G_skip rfl (G_skip rfl G_hit)) (.of rfl) (sbG_some (G_skip rfl (G_skip rfl (G_skip rfl G_hit))) (.of rfl) (sbG_own G_hit trivial))))⟩
          · replace hy2 := cond_f c3 hy2
            refine l_skip ?_
            obtain rfl := Option.some.inj hy2
            exact l_j ⟨g2, (sb_of ⟨.of rfl, .of rfl, .of rfl, .of rfl, .of rfl, .of rfl, .of rfl, trivial⟩ (sbG_some G_hit (.of rfl) (sbG_some (G_skip rfl G_hit) (.of rfl) (sbG_oB (G_skip rfl (G_skip rfl G_hit)) trivial))))⟩
        · rintro _ ⟨g3, q1⟩
          refine l_sub q1 ?_
          refine l_reg fun u13 hu13 => ?_
          refine s_val (.d _) rfl rfl ?_
          refine s_val (.d _) rfl rfl ?_
          refine s_val (.d _) rfl rfl ?_
          obtain ⟨v19, hv19, hz1⟩ := bind_some hz1
          refine s_val (.d _) rfl (v_idx rfl rfl hv19 rfl) ?_
          refine s_val (.d _) rfl (v_loadL rfl hv19 rfl) ?_
          refine s_val (.d _) rfl rfl ?_
          refine s_val (.d _) rfl rfl ?_
          refine s_nil ?_
          refine l_end ?_
          refine l_reg fun u14 hu14 => ?_
          refine s_val (.d _) rfl rfl ?_
          refine s_val (.d _) rfl rfl ?_
          refine s_val (.d _) rfl rfl ?_
          refine s_nil ?_
          refine l_nil ?_
          obtain rfl := Option.some.inj hz1
          exact ⟨rfl, g3, (sb_of ⟨.of rfl, .of rfl, .of rfl, .of rfl, .of rfl, .of rfl, .of rfl, trivial⟩ (sbG_some G_hit (.of rfl) (sbG_some (G_skip rfl G_hit) (.of rfl) (sbG_oB (G_skip rfl (G_skip rfl G_hit)) trivial))))⟩
      · replace hz1 := cond_f c2 hz1
        refine l_exitN rfl ?_
        obtain rfl := Option.some.inj hz1
        obtain rfl := ez1 _ rfl
        refine ⟨nofun, awl_pop rfl (l_j ?_)⟩
        exact ⟨g2, (sb_of ⟨.of rfl, trivial⟩ (sbG_oB (G_skip rfl (G_skip rfl G_hit)) trivial))⟩
    · rintro _ ⟨g1, q2⟩
      refine l_sub q2 ?_
      refine l_seq ?_
      refine l_reg fun u15 hu15 => ?_
      refine s_val (oS y1 (120, g1)) rfl rfl ?_
      refine s_val (oS y1 (120, g1)) rfl rfl ?_
      refine s_nil ?_
      refine l_ret ?_
      obtain rfl := Option.some.inj h
      refine fin_ok (.inr rfl) (resD1 (res_t rfl) (rf_oS G_hit)) ?_
      exact oD_le

noncomputable def curve_Holds_l1 (p2 : Int) (p3 : Spot) (x1 : Unit) (a1 : (Int × CurvePiece)) : Option (Stp Unit (Sum Unit Bool)) :=
  (curve_from a1.2.p p3).bind fun v4 => (curve_vector_dot a1.2.v v4).bind fun v5 => ((cond ((decide (v5 ≥ 0)) && (decide (v5 ≤ (w64 (a1.2.l * a1.2.l))))) (curve_vector_cross a1.2.v v4) (some default))).bind fun v6 => ((cond ((decide (v5 ≥ 0)) && (decide (v5 ≤ (w64 (a1.2.l * a1.2.l))))) (curve_abs v6) (some default))).bind fun v7 => cond (((decide (v5 ≥ 0)) && (decide (v5 ≤ (w64 (a1.2.l * a1.2.l))))) && (decide (v7 ≤ (w64 (p2 * a1.2.l))))) (some (.out (.inr true))) (some (.go ()))
noncomputable def curve_Holds (p1 : Curve) (p2 : Int) (p3 : Spot) : Option Bool :=
  (curve_Check p1).bind fun v1 => ((cond (!(((v1 != 0) || (decide (p2 < 0))) || (decide (p2 > 4000)))) (curve_fair [p3]) (some default))).bind fun v2 => cond ((((v1 != 0) || (decide (p2 < 0))) || (decide (p2 > 4000))) || (!v2)) (some false) (thenS ((piecesC p1.Pts).bind fun v3 => loopL (curve_Holds_l1 p2 p3) (fun (x1 : Unit) => .inl ()) v3 ()) (fun _ => some false) (fun r => some r))

/-- kerbstone/curve.Holds -/
def ac38 : AC :=
  (.seq (.reg [⟨(some 3), .box 24 true (.t 0), none⟩, ⟨(some 4), .box 2 false (.t 1), none⟩, ⟨(some 5), .box 43 true (.t 2), none⟩, ⟨(some 6), .alloc 4 [(.v (.bool false))], none⟩])
  (.seq (.seq (.reg [⟨(some 11), .load 1 true (.t 3), none⟩, ⟨(some 12), .call (.c (.fn (.func 20) [] [])) [(.t 11)], none⟩, ⟨(some 13), .bin .neq (.t 12) (.c (.v (.int .i64 0))), none⟩, ⟨(some 14), .mv (.t 13), none⟩, ⟨(some 15), .load 1 false (.t 4), (some (14, false))⟩, ⟨(some 16), .bin .lss (.t 15) (.c (.v (.int .i64 0))), (some (14, false))⟩, ⟨(some 17), .pick (.t 14) (.c (.v (.bool true))) (.t 16), none⟩, ⟨(some 18), .mv (.t 17), none⟩, ⟨(some 19), .load 1 false (.t 4), (some (18, false))⟩, ⟨(some 20), .bin .gtr (.t 19) (.c (.v (.int .i64 4000))), (some (18, false))⟩, ⟨(some 21), .pick (.t 18) (.c (.v (.bool true))) (.t 20), none⟩, ⟨(some 22), .mv (.t 21), none⟩, ⟨(some 23), .load 2 true (.t 5), (some (22, false))⟩, ⟨(some 24), .dslice 43 2 1 [(.v (.int .i64 0)), (.v (.int .i64 0))] [(0, 2, (.t 23))], (some (22, false))⟩, ⟨(some 25), .call (.c (.fn (.func 59) [] [])) [(.t 24)], (some (22, false))⟩, ⟨(some 26), .un .not (.t 25), (some (22, false))⟩, ⟨(some 27), .pick (.t 22) (.c (.v (.bool true))) (.t 26), none⟩])
  (.cond (.t 27)
    (.seq (.reg [⟨none, .store 1 (.t 6) (.c (.v (.bool false))), none⟩])
    .ret)
    .skip))
  (.seq (.seq (.reg [⟨(some 28), .load 1 true (.t 3), none⟩, ⟨(some 29), .call (.c (.fn (.func 66) [] [])) [(.t 28)], none⟩])
  (.block 0
    (.rangeF (.t 29) [30, 31]
      (.reg [⟨(some 8), .alloc 89 [(.v (.int .i64 0)), (.v (.int .i64 0)), (.v (.int .i64 0)), (.v (.int .i64 0)), (.v (.int .i64 0)), (.v (.int .i64 0))], none⟩, ⟨none, .store 6 (.t 8) (.t 31), none⟩])
      (.block 1
        (.seq (.reg [⟨(some 32), .fieldA 0 (.t 8), none⟩, ⟨(some 33), .load 2 true (.t 32), none⟩, ⟨(some 34), .load 2 true (.t 5), none⟩, ⟨(some 35), .call (.c (.fn (.func 60) [] [])) [(.t 33), (.t 34)], none⟩, ⟨(some 9), .alloc 78 [(.v (.int .i64 0)), (.v (.int .i64 0))], none⟩, ⟨none, .store 2 (.t 9) (.t 35), none⟩])
        (.seq (.reg [⟨(some 36), .fieldA 2 (.t 8), none⟩, ⟨(some 37), .load 2 true (.t 36), none⟩, ⟨(some 38), .load 2 true (.t 9), none⟩, ⟨(some 39), .call (.c (.fn (.func 62) [] [])) [(.t 37), (.t 38)], none⟩, ⟨(some 10), .mv (.t 39), none⟩])
        (.seq (.draw [⟨(some 40), .mv (.t 10), none⟩, ⟨(some 41), .bin .geq (.t 40) (.c (.v (.int .i64 0))), none⟩, ⟨(some 42), .mv (.t 41), none⟩, ⟨(some 43), .mv (.t 10), (some (42, true))⟩, ⟨(some 44), .fieldA 4 (.t 8), (some (42, true))⟩, ⟨(some 45), .load 1 false (.t 44), (some (42, true))⟩, ⟨(some 46), .fieldA 4 (.t 8), (some (42, true))⟩, ⟨(some 47), .load 1 false (.t 46), (some (42, true))⟩, ⟨(some 48), .bin .mul (.t 45) (.t 47), (some (42, true))⟩, ⟨(some 49), .bin .leq (.t 43) (.t 48), (some (42, true))⟩, ⟨(some 50), .pick (.t 42) (.t 49) (.c (.v (.bool false))), none⟩, ⟨(some 51), .mv (.t 50), none⟩, ⟨(some 52), .fieldA 2 (.t 8), (some (51, true))⟩, ⟨(some 53), .load 2 true (.t 52), (some (51, true))⟩, ⟨(some 54), .load 2 true (.t 9), (some (51, true))⟩, ⟨(some 55), .call (.c (.fn (.func 73) [] [])) [(.t 53), (.t 54)], (some (51, true))⟩, ⟨(some 56), .call (.c (.fn (.func 72) [] [])) [(.t 55)], (some (51, true))⟩, ⟨(some 57), .load 1 false (.t 4), (some (51, true))⟩, ⟨(some 58), .fieldA 4 (.t 8), (some (51, true))⟩, ⟨(some 59), .load 1 false (.t 58), (some (51, true))⟩, ⟨(some 60), .bin .mul (.t 57) (.t 59), (some (51, true))⟩, ⟨(some 61), .bin .leq (.t 56) (.t 60), (some (51, true))⟩, ⟨(some 62), .pick (.t 51) (.t 61) (.c (.v (.bool false))), none⟩] [])
        (.cond (.t 62)
          (.seq (.reg [⟨none, .store 1 (.t 6) (.c (.v (.bool true))), none⟩])
          .ret)
          .skip))))))))
  (.seq (.reg [⟨none, .store 1 (.t 6) (.c (.v (.bool false))), none⟩])
  .ret))))
theorem fn38 : FnOK Try.prog 38 63 [.cell 6 1 false] ac38 := ⟨_, _, Try.func38, rfl, Try.ntmps38, by kernel_rfl, ⟨fun _ => allD', by kernel_rfl⟩, by kernel_rfl⟩
theorem curve_Holds_ok (p1 : Curve) (p2 : Int) (p3 : Spot) (r : Bool) (h : curve_Holds p1 p2 p3 = some r) : PCall Try.prog 38 [(.agg [(.list (List.map eSpot p1.Pts))]), (i64 p2), (.agg [(i64 p3.X), (i64 p3.Y)])] (bo r) := by
  refine l_call fn38 (Nat.le_of_ble_eq_true rfl) ?_
  unfold curve_Holds at h
  unfold ac38
  refine (l_sub (s0 := ⟨T [(0, (.d (.agg [(.list (List.map eSpot p1.Pts))]))), (1, (.d (i64 p2))), (2, (.d (.agg [(i64 p3.X), (i64 p3.Y)])))], G []⟩) (sb_of ⟨.of rfl, .of rfl, .of rfl, trivial⟩ trivial) ?_)
  refine l_seq ?_
  refine l_reg fun u1 hu1 => ?_
  refine s_new (.ptr _ _) (.box _ _) rfl rfl ?_
  refine s_new (.ptr _ _) (.box _ _) rfl rfl ?_
  refine s_new (.ptr _ _) (.box _ _) rfl rfl ?_
  refine s_new (.ptr _ _) (.box _ _) rfl rfl ?_
  refine s_nil ?_
  refine l_seq ?_
  refine l_seq ?_
  refine l_reg fun u2 hu2 => ?_
  refine s_val (.d _) rfl (v_loadG rfl (G_skip rfl (G_skip rfl (G_skip rfl G_hit))) rfl rfl) ?_
  obtain ⟨v1, hv1, h⟩ := bind_some h
  refine s_call rfl rfl all2_refl (curve_Check_ok _  _ hv1) (.inl rfl) ?_
  refine s_val (.d _) rfl rfl ?_
  refine s_val (.d _) rfl rfl ?_
  refine g_val (!(v1 != 0)) (.d _) rfl (gw_f rfl) (fun w1 => (v_load rfl (G_skip rfl (G_skip rfl G_hit)) rfl)) ?_
  refine g_val (!(v1 != 0)) (.d _) rfl (gw_f rfl) (fun w2 => (v_bin (gd_pos w2) rfl rfl)) ?_
  refine s_val (.d _) rfl (v_or rfl rfl (fun hc => gd_pos (not_t hc))) ?_
  refine s_val (.d _) rfl rfl ?_
  refine g_val (!((v1 != 0) || (decide (p2 < 0)))) (.d _) rfl (gw_f rfl) (fun w3 => (v_load rfl (G_skip rfl (G_skip rfl G_hit)) rfl)) ?_
  refine g_val (!((v1 != 0) || (decide (p2 < 0)))) (.d _) rfl (gw_f rfl) (fun w4 => (v_bin (gd_pos w4) rfl rfl)) ?_
  refine s_val (.d _) rfl (v_or rfl rfl (fun hc => gd_pos (not_t hc))) ?_
  refine s_val (.d _) rfl rfl ?_
  refine g_val (!(((v1 != 0) || (decide (p2 < 0))) || (decide (p2 > 4000)))) (.d _) rfl (gw_f rfl) (fun w5 => (v_loadG rfl (G_skip rfl G_hit) rfl rfl)) ?_
  refine g_val (!(((v1 != 0) || (decide (p2 < 0))) || (decide (p2 > 4000)))) (.d (.list (List.map eSpot [p3]))) rfl (gw_f rfl) (fun w6 => (by simp only [gd_pos w6]; rfl)) ?_
  obtain ⟨v2, hv2, h⟩ := bind_some h
  refine g_call (!(((v1 != 0) || (decide (p2 < 0))) || (decide (p2 > 4000)))) (bo v2) (gw_f rfl) (fun w7 => ⟨_, [(.d (.list (List.map eSpot [p3])))], _, _, (by simp only [gd_pos w7]; rfl), rfl, all2_refl, curve_fair_ok _  _ (cond_t w7 hv2), (.inl rfl)⟩) ?_
  refine g_val (!(((v1 != 0) || (decide (p2 < 0))) || (decide (p2 > 4000)))) (.d _) rfl (gw_f rfl) (fun w8 => (by simp only [gd_pos w8]; rfl)) ?_
  refine s_val (.d _) rfl (v_or rfl rfl (fun hc => gd_pos (not_t hc))) ?_
  refine s_nil ?_
  refine l_cond ((((v1 != 0) || (decide (p2 < 0))) || (decide (p2 > 4000))) || (!v2)) rfl (fun c1 => ?_) (fun c1 => ?_)
  · replace h := cond_t c1 h
    refine l_seq ?_
    refine l_sub (s0 := ⟨T [(6, (.ptr (6, u1) 0))], G [((6, u1), some (.box 4 [(.d (bo false))]))]⟩) (sb_of ⟨.of rfl, trivial⟩ (sbG_some G_hit (.of rfl) trivial)) ?_
    refine l_reg fun u3 hu3 => ?_
    refine s_store _ _ _ _ _ rfl rfl rfl G_hit (Nat.le_of_ble_eq_true rfl) _ rfl ?_
    refine s_nil ?_
    refine l_ret ?_
    obtain rfl := Option.some.inj h
    refine fin_ok (.inr rfl) (resD1 (res_cell rfl G_hit rfl) rf_d) ?_
    exact (.refl _)
  · replace h := cond_f c1 h
    refine l_skip ?_
    refine l_seq ?_
    refine l_seq ?_
    refine l_sub (s0 := ⟨T [(3, (.ptr (3, u1) 0)), (4, (.ptr (4, u1) 0)), (5, (.ptr (5, u1) 0)), (6, (.ptr (6, u1) 0))], G [((3, u1), some (.box 24 [(.d (.list (List.map eSpot p1.Pts)))])), ((4, u1), some (.box 2 [(.d (i64 p2))])), ((5, u1), some (.box 43 [(.d (i64 p3.X)), (.d (i64 p3.Y))])), ((6, u1), some (.box 4 [(.d (bo false))]))]⟩) (sb_of ⟨.of rfl, .of rfl, .of rfl, .of rfl, trivial⟩ (sbG_some (G_skip rfl (G_skip rfl (G_skip rfl G_hit))) (.of rfl) (sbG_some (G_skip rfl (G_skip rfl G_hit)) (.of rfl) (sbG_some (G_skip rfl G_hit) (.of rfl) (sbG_some G_hit (.of rfl) trivial))))) ?_
    refine l_reg fun u4 hu4 => ?_
    refine s_val (.d _) rfl (v_loadG rfl G_hit rfl rfl) ?_
    refine s_call rfl rfl all2_refl (pieces_clos p1) (.inl rfl) ?_
    refine s_nil ?_
    obtain ⟨z1, hz1, h⟩ := thenS_some h
    refine l_join (fun s => ∃ (y1 : Unit) (g1 : Unit), z1 = .inl y1 ∧ Sb ⟨T [(6, (.ptr (6, u1) 0))], G [((6, u1), some (.box 4 [(.d (bo false))]))]⟩ s) ?_ ?_
    · skip
      refine l_block ?_
      obtain ⟨v3, hv3, hz1⟩ := bind_some hz1
      refine l_sub (s0 := ⟨T [(4, (.ptr (4, u1) 0)), (5, (.ptr (5, u1) 0)), (6, (.ptr (6, u1) 0)), (29, (.d (.fn (.func 86) [] [(.bp [(.list (List.map eSpot p1.Pts))] 0)])))], G [((4, u1), some (.box 2 [(.d (i64 p2))])), ((5, u1), some (.box 43 [(.d (i64 p3.X)), (.d (i64 p3.Y))])), ((6, u1), some (.box 4 [(.d (bo false))]))]⟩) (sb_of ⟨.of rfl, .of rfl, .of rfl, .of rfl, trivial⟩ (sbG_some (G_skip rfl G_hit) (.of rfl) (sbG_some (G_skip rfl (G_skip rfl G_hit)) (.of rfl) (sbG_some (G_skip rfl (G_skip rfl (G_skip rfl G_hit))) (.of rfl) trivial)))) ?_
      refine l_rangeL (.fn (.func 86) [] [(.bp [(.list (List.map eSpot p1.Pts))] 0)]) ePiece v3 (curve_Holds_l1 p2 p3) (fun (x1 : Unit) => (.inl () : Sum Unit Bool)) (fun (x1 : Unit) (g2 : Unit) => [((4, u1), some (.box 2 [(.d (i64 p2))])), ((5, u1), some (.box 43 [(.d (i64 p3.X)), (.d (i64 p3.Y))])), ((6, u1), some (.box 4 [(.d (bo false))]))]) () () _ rfl (pieces_iter hv3) (fun _ => rfl) hz1 (sb_of trivial (sbG_some G_hit (.of rfl) (sbG_some (G_skip rfl G_hit) (.of rfl) (sbG_some (G_skip rfl (G_skip rfl G_hit)) (.of rfl) trivial)))) nofun ?_ ?_
      · intro u6 hu6 hku6
        refine ⟨fun x1 g2 => (G_skip rfl (G_skip rfl (G_skip rfl rfl))), ?_⟩
        intro r1 x1 g2 a1 z2 hrr1 hz2 ez2
        unfold curve_Holds_l1 at hz2
        show AWL _ _ _ _ _ _ ⟨T [(31, (.d (.agg [(i64 a1.2.p.X), (i64 a1.2.p.Y), (i64 a1.2.v.x), (i64 a1.2.v.y), (i64 a1.2.l), (i64 a1.2.start)]))), (30, (.d (i64 a1.1))), (4, (.ptr (4, u1) 0)), (5, (.ptr (5, u1) 0)), (6, (.ptr (6, u1) 0)), (29, (.d (.fn (.func 86) [] [(.bp [(.list (List.map eSpot p1.Pts))] 0)])))], G [((1000000, u6), some (.obj (T [(4, (.ptr (4, u1) 0)), (5, (.ptr (5, u1) 0)), (6, (.ptr (6, u1) 0)), (29, (.d (.fn (.func 86) [] [(.bp [(.list (List.map eSpot p1.Pts))] 0)])))]) r1)), ((4, u1), some (.box 2 [(.d (i64 p2))])), ((5, u1), some (.box 43 [(.d (i64 p3.X)), (.d (i64 p3.Y))])), ((6, u1), some (.box 4 [(.d (bo false))]))]⟩
        refine l_reg fun u7 hu7 => ?_
        refine s_new (.ptr _ _) (.box _ _) rfl rfl ?_
        refine s_store _ _ _ _ _ rfl rfl rfl G_hit (Nat.le_of_ble_eq_true rfl) _ rfl ?_
        refine s_nil ?_
        refine l_j (mid_ok (G_skip rfl (G_skip rfl G_hit)) ?_)
        refine l_block ?_
        refine l_seq ?_
        refine l_reg fun u8 hu8 => ?_
        refine s_val (.ptr _ _) rfl rfl ?_
        refine s_val (.d _) rfl (v_loadG rfl (G_skip rfl G_hit) rfl rfl) ?_
        refine s_val (.d _) rfl (v_loadG rfl (G_skip rfl (G_skip rfl (G_skip rfl (G_skip rfl (G_skip rfl G_hit))))) rfl rfl) ?_
        obtain ⟨v4, hv4, hz2⟩ := bind_some hz2
        refine s_call rfl rfl all2_refl (curve_from_ok _ _  _ hv4) (.inl rfl) ?_
        refine s_new (.ptr _ _) (.box _ _) rfl rfl ?_
        refine s_store _ _ _ _ _ rfl rfl rfl G_hit (Nat.le_of_ble_eq_true rfl) _ rfl ?_
        refine s_nil ?_
        refine l_seq ?_
        refine l_reg fun u9 hu9 => ?_
        refine s_val (.ptr _ _) rfl rfl ?_
        refine s_val (.d _) rfl (v_loadG rfl (G_skip rfl (G_skip rfl (G_skip rfl G_hit))) rfl rfl) ?_
        refine s_val (.d _) rfl (v_loadG rfl G_hit rfl rfl) ?_
        obtain ⟨v5, hv5, hz2⟩ := bind_some hz2
        refine s_call rfl rfl all2_refl (curve_vector_dot_ok _ _  _ hv5) (.inl rfl) ?_
        refine s_val (.d _) rfl rfl ?_
        refine s_nil ?_
        refine l_seq ?_
        refine l_sub (s0 := ⟨T [(4, (.ptr (4, u1) 0)), (6, (.ptr (6, u1) 0)), (8, (.ptr (8, u7) 0)), (9, (.ptr (9, u8) 0)), (10, (.d (i64 v5)))], G [((4, u1), some (.box 2 [(.d (i64 p2))])), ((6, u1), some (.box 4 [(.d (bo false))])), ((8, u7), some (.box 89 [(.d (i64 a1.2.p.X)), (.d (i64 a1.2.p.Y)), (.d (i64 a1.2.v.x)), (.d (i64 a1.2.v.y)), (.d (i64 a1.2.l)), (.d (i64 a1.2.start))])), ((9, u8), some (.box 78 [(.d (i64 v4.x)), (.d (i64 v4.y))])), ((5, u1), some (.box 43 [(.d (i64 p3.X)), (.d (i64 p3.Y))])), ((1000000, u6), some (.obj (T [(4, (.ptr (4, u1) 0)), (5, (.ptr (5, u1) 0)), (6, (.ptr (6, u1) 0)), (29, (.d (.fn (.func 86) [] [(.bp [(.list (List.map eSpot p1.Pts))] 0)])))]) { r1 with state := .busy }))]⟩) (sb_of ⟨.of rfl, .of rfl, .of rfl, .of rfl, .of rfl, trivial⟩ (sbG_some (G_skip rfl (G_skip rfl (G_skip rfl (G_skip rfl (G_skip rfl (G_skip rfl G_hit)))))) (.of rfl) (sbG_some (G_skip rfl (G_skip rfl (G_skip rfl (G_skip rfl (G_skip rfl (G_skip rfl (G_skip rfl (G_skip rfl G_hit)))))))) (.of rfl) (sbG_some (G_skip rfl (G_skip rfl (G_skip rfl G_hit))) (.of rfl) (sbG_some G_hit (.of rfl) (sbG_some (G_skip rfl (G_skip rfl (G_skip rfl (G_skip rfl (G_skip rfl (G_skip rfl (G_skip rfl G_hit))))))) (.of rfl) (sbG_some (G_skip rfl (G_skip rfl G_hit)) (.of rfl) trivial))))))) ?_
        refine l_draw rfl fun u10 hu10 => ?_
        refine s_val (.d _) rfl rfl ?_
        refine s_val (.d _) rfl rfl ?_
        refine s_val (.d _) rfl rfl ?_
        refine g_val (decide (v5 ≥ 0)) (.d _) rfl (gw_t rfl) (fun w9 => rfl) ?_
        refine g_val (decide (v5 ≥ 0)) (.ptr _ _) rfl (gw_t rfl) (fun w10 => rfl) ?_
        refine g_val (decide (v5 ≥ 0)) (.d _) rfl (gw_t rfl) (fun w11 => (v_load (gd_pos w11) (G_skip rfl (G_skip rfl G_hit)) rfl)) ?_
        refine g_val (decide (v5 ≥ 0)) (.ptr _ _) rfl (gw_t rfl) (fun w12 => rfl) ?_
        refine g_val (decide (v5 ≥ 0)) (.d _) rfl (gw_t rfl) (fun w13 => (v_load (gd_pos w13) (G_skip rfl (G_skip rfl G_hit)) rfl)) ?_
        refine g_val (decide (v5 ≥ 0)) (.d _) rfl (gw_t rfl) (fun w14 => (v_bin (gd_pos w14) (gd_pos w14) rfl)) ?_
        refine g_val (decide (v5 ≥ 0)) (.d _) rfl (gw_t rfl) (fun w15 => (v_bin (gd_pos w15) (gd_pos w15) rfl)) ?_
        refine s_val (.d _) rfl (v_and rfl (fun hc => gd_pos hc) rfl) ?_
        refine s_val (.d _) rfl rfl ?_
        refine g_val ((decide (v5 ≥ 0)) && (decide (v5 ≤ (w64 (a1.2.l * a1.2.l))))) (.ptr _ _) rfl (gw_t rfl) (fun w16 => rfl) ?_
        refine g_val ((decide (v5 ≥ 0)) && (decide (v5 ≤ (w64 (a1.2.l * a1.2.l))))) (.d _) rfl (gw_t rfl) (fun w17 => (v_loadG (gd_pos w17) (G_skip rfl (G_skip rfl G_hit)) rfl rfl)) ?_
        refine g_val ((decide (v5 ≥ 0)) && (decide (v5 ≤ (w64 (a1.2.l * a1.2.l))))) (.d _) rfl (gw_t rfl) (fun w18 => (v_loadG rfl (G_skip rfl (G_skip rfl (G_skip rfl G_hit))) rfl rfl)) ?_
        obtain ⟨v6, hv6, hz2⟩ := bind_some hz2
        refine g_call ((decide (v5 ≥ 0)) && (decide (v5 ≤ (w64 (a1.2.l * a1.2.l))))) (i64 v6) (gw_t rfl) (fun w19 => ⟨_, [(.d (.agg [(i64 a1.2.v.x), (i64 a1.2.v.y)])), (.d (.agg [(i64 v4.x), (i64 v4.y)]))], _, _, (by simp only [gd_pos w19]; rfl), rfl, all2_refl, curve_vector_cross_ok _ _  _ (cond_t w19 hv6), (.inl rfl)⟩) ?_
        obtain ⟨v7, hv7, hz2⟩ := bind_some hz2
        refine g_call ((decide (v5 ≥ 0)) && (decide (v5 ≤ (w64 (a1.2.l * a1.2.l))))) (i64 v7) (gw_t rfl) (fun w20 => ⟨_, [(.d (i64 v6))], _, _, (by simp only [gd_pos w20]; rfl), rfl, all2_refl, curve_abs_ok _  _ (cond_t w20 hv7), (.inl rfl)⟩) ?_
        refine g_val ((decide (v5 ≥ 0)) && (decide (v5 ≤ (w64 (a1.2.l * a1.2.l))))) (.d _) rfl (gw_t rfl) (fun w21 => (v_load rfl G_hit rfl)) ?_
        refine g_val ((decide (v5 ≥ 0)) && (decide (v5 ≤ (w64 (a1.2.l * a1.2.l))))) (.ptr _ _) rfl (gw_t rfl) (fun w22 => rfl) ?_
        refine g_val ((decide (v5 ≥ 0)) && (decide (v5 ≤ (w64 (a1.2.l * a1.2.l))))) (.d _) rfl (gw_t rfl) (fun w23 => (v_load (gd_pos w23) (G_skip rfl (G_skip rfl G_hit)) rfl)) ?_
        refine g_val ((decide (v5 ≥ 0)) && (decide (v5 ≤ (w64 (a1.2.l * a1.2.l))))) (.d _) rfl (gw_t rfl) (fun w24 => (v_bin (gd_pos w24) (gd_pos w24) rfl)) ?_
        refine g_val ((decide (v5 ≥ 0)) && (decide (v5 ≤ (w64 (a1.2.l * a1.2.l))))) (.d _) rfl (gw_t rfl) (fun w25 => (v_bin (gd_pos w25) (gd_pos w25) rfl)) ?_
        refine s_val (.d _) rfl (v_and rfl (fun hc => gd_pos hc) rfl) ?_
        refine s_nil ?_
        refine l_cond (((decide (v5 ≥ 0)) && (decide (v5 ≤ (w64 (a1.2.l * a1.2.l))))) && (decide (v7 ≤ (w64 (p2 * a1.2.l))))) rfl (fun c2 => ?_) (fun c2 => ?_)
        · replace hz2 := cond_t c2 hz2
          refine l_seq ?_
          refine l_sub (s0 := ⟨T [(6, (.ptr (6, u1) 0))], G [((6, u1), some (.box 4 [(.d (bo false))])), ((4, u1), some (.box 2 [(.d (i64 p2))])), ((5, u1), some (.box 43 [(.d (i64 p3.X)), (.d (i64 p3.Y))])), ((1000000, u6), some (.obj (T [(4, (.ptr (4, u1) 0)), (5, (.ptr (5, u1) 0)), (6, (.ptr (6, u1) 0)), (29, (.d (.fn (.func 86) [] [(.bp [(.list (List.map eSpot p1.Pts))] 0)])))]) { r1 with state := .busy }))]⟩) (sb_of ⟨.of rfl, trivial⟩ (sbG_some (G_skip rfl G_hit) (.of rfl) (sbG_some G_hit (.of rfl) (sbG_some (G_skip rfl (G_skip rfl (G_skip rfl (G_skip rfl G_hit)))) (.of rfl) (sbG_some (G_skip rfl (G_skip rfl (G_skip rfl (G_skip rfl (G_skip rfl G_hit))))) (.of rfl) trivial))))) ?_
          refine l_reg fun u11 hu11 => ?_
          refine s_store _ _ _ _ _ rfl rfl rfl G_hit (Nat.le_of_ble_eq_true rfl) _ rfl ?_
          refine s_nil ?_
          refine l_ret ?_
          obtain rfl := Option.some.inj hz2
          obtain rfl := ez2 _ rfl
          refine rnd_out (G_skip rfl (G_skip rfl (G_skip rfl (G_skip rfl G_hit)))) nofun (awl_ret ?_)
          rw [Sum.elim_inr] at h
          obtain rfl := Option.some.inj h
          refine fin_ok (.inr rfl) (resD1 (res_cell rfl (G_skip rfl G_hit) rfl) rf_d) ?_
          exact (.refl _)
        · replace hz2 := cond_f c2 hz2
          refine l_skip ?_
          refine l_end ?_
          refine l_nil ?_
          obtain rfl := Option.some.inj hz2
          exact rnd_go (G_skip rfl (G_skip rfl (G_skip rfl (G_skip rfl (G_skip rfl G_hit))))) () (sbG_some G_hit (.of rfl) (sbG_some (G_skip rfl (G_skip rfl (G_skip rfl (G_skip rfl G_hit)))) (.of rfl) (sbG_some (G_skip rfl G_hit) (.of rfl) trivial)))
      · rintro x1 g2 _ rfl qx1
        refine l_end (l_j ?_)
        exact ⟨_, (), rfl, (Sb.after qx1 (sb_of ⟨.of rfl, trivial⟩ (sbG_some (G_skip rfl (G_skip rfl G_hit)) (.of rfl) trivial)))⟩
    · rintro _ ⟨y1, g1, rfl, q1⟩
      rw [Sum.elim_inl] at h
      refine l_sub q1 ?_
      refine l_seq ?_
      refine l_reg fun u12 hu12 => ?_
      refine s_store _ _ _ _ _ rfl rfl rfl G_hit (Nat.le_of_ble_eq_true rfl) _ rfl ?_
      refine s_nil ?_
      refine l_ret ?_
      obtain rfl := Option.some.inj h
      refine fin_ok (.inr rfl) (resD1 (res_cell rfl G_hit rfl) rf_d) ?_
      exact (.refl _)

noncomputable def ref01_Holds_l1 (p1 : Curve) (p2 : Int) (p3 : Spot) (v2 : (List Int)) (x1 : Int) : Option (Stp Int (Sum Unit Bool)) :=
  cond (decide (x1 < (v2.length : Int))) ((geti p1.Pts (w64 (x1 + 1))).bind fun v3 => (geti p1.Pts x1).bind fun v4 => (ref01_Minus v3 v4).bind fun v5 => (geti p1.Pts x1).bind fun v6 => (ref01_Minus p3 v6).bind fun v7 => (ref01_Dot v7 v5).bind fun v8 => (ref01_Cross v5 v7).bind fun v9 => (geti v2 x1).bind fun v10 => ((cond (decide (v9 ≤ (w64 (p2 * v10)))) (geti v2 x1) (some default))).bind fun v11 => ((cond (((decide (v9 ≤ (w64 (p2 * v10)))) && (decide (v9 ≥ (w64 ((w64 (0 - p2)) * v11))))) && (decide (v8 ≥ 0))) (geti v2 x1) (some default))).bind fun v12 => ((cond (((decide (v9 ≤ (w64 (p2 * v10)))) && (decide (v9 ≥ (w64 ((w64 (0 - p2)) * v11))))) && (decide (v8 ≥ 0))) (geti v2 x1) (some default))).bind fun v13 => cond ((((decide (v9 ≤ (w64 (p2 * v10)))) && (decide (v9 ≥ (w64 ((w64 (0 - p2)) * v11))))) && (decide (v8 ≥ 0))) && (decide (v8 ≤ (w64 (v12 * v13))))) (some (.out (.inr true))) (some (.go (w64 (x1 + 1))))) (some (.out (.inl ())))
noncomputable def ref01_Holds (p1 : Curve) (p2 : Int) (p3 : Spot) : Option Bool :=
  ((cond (!((decide (p2 < 0)) || (decide (p2 > 4000)))) (ref01_Valid p3) (some default))).bind fun v1 => cond (((decide (p2 < 0)) || (decide (p2 > 4000))) || (!v1)) (some false) ((ref01_Pieces p1).bind fun v2 => thenS (loop (ref01_Holds_l1 p1 p2 p3 v2) 0) (fun _ => some false) (fun r => some r))

/-- kerbstone/kerbstoneref01.Holds -/
def ac39 : AC :=
  (.seq (.reg [⟨(some 3), .box 24 true (.t 0), none⟩, ⟨(some 5), .box 43 true (.t 2), none⟩, ⟨(some 6), .mv (.c (.v (.bool false))), none⟩])
  (.seq (.seq (.reg [⟨(some 13), .mv (.t 1), none⟩, ⟨(some 14), .bin .lss (.t 13) (.c (.v (.int .i64 0))), none⟩, ⟨(some 15), .mv (.t 14), none⟩, ⟨(some 16), .mv (.t 1), (some (15, false))⟩, ⟨(some 17), .bin .gtr (.t 16) (.c (.v (.int .i64 4000))), (some (15, false))⟩, ⟨(some 18), .pick (.t 15) (.c (.v (.bool true))) (.t 17), none⟩, ⟨(some 19), .mv (.t 18), none⟩, ⟨(some 20), .load 2 true (.t 5), (some (19, false))⟩, ⟨(some 21), .call (.c (.fn (.func 63) [] [])) [(.t 20)], (some (19, false))⟩, ⟨(some 22), .un .not (.t 21), (some (19, false))⟩, ⟨(some 23), .pick (.t 19) (.c (.v (.bool true))) (.t 22), none⟩])
  (.cond (.t 23)
    (.seq (.reg [⟨(some 6), .mv (.c (.v (.bool false))), none⟩])
    .ret)
    .skip))
  (.seq (.reg [⟨(some 24), .load 1 true (.t 3), none⟩, ⟨(some 25), .call (.c (.fn (.func 26) [] [])) [(.t 24)], none⟩, ⟨(some 7), .mv (.t 25), none⟩])
  (.seq (.seq (.reg [⟨(some 8), .mv (.c (.v (.int .i64 0))), none⟩])
  (.block 0
    (.loop
      (.seq (.seq (.reg [⟨(some 26), .mv (.t 8), none⟩, ⟨(some 27), .mv (.t 7), none⟩, ⟨(some 28), .len (.t 27), none⟩, ⟨(some 29), .bin .lss (.t 26) (.t 28), none⟩])
      (.cond (.t 29)
        .skip
        (.exit 0)))
      (.seq (.block 1
        (.seq (.draw [⟨(some 32), .fieldA 0 (.t 3), none⟩, ⟨(some 33), .load 1 false (.t 32), none⟩, ⟨(some 34), .mv (.t 8), none⟩, ⟨(some 35), .bin .add (.t 34) (.c (.v (.int .i64 1))), none⟩, ⟨(some 36), .idxS 2 (.t 33) (.t 35), none⟩, ⟨(some 37), .load 2 true (.t 36), none⟩, ⟨(some 38), .fieldA 0 (.t 3), none⟩, ⟨(some 39), .load 1 false (.t 38), none⟩, ⟨(some 40), .mv (.t 8), none⟩, ⟨(some 41), .idxS 2 (.t 39) (.t 40), none⟩, ⟨(some 42), .load 2 true (.t 41), none⟩, ⟨(some 43), .call (.c (.fn (.func 40) [] [])) [(.t 37), (.t 42)], none⟩, ⟨(some 44), .load 2 true (.t 5), none⟩, ⟨(some 45), .fieldA 0 (.t 3), none⟩, ⟨(some 46), .load 1 false (.t 45), none⟩, ⟨(some 47), .mv (.t 8), none⟩, ⟨(some 48), .idxS 2 (.t 46) (.t 47), none⟩, ⟨(some 49), .load 2 true (.t 48), none⟩, ⟨(some 50), .call (.c (.fn (.func 40) [] [])) [(.t 44), (.t 49)], none⟩, ⟨(some 9), .alloc 43 [(.v (.int .i64 0)), (.v (.int .i64 0))], none⟩, ⟨(some 10), .alloc 43 [(.v (.int .i64 0)), (.v (.int .i64 0))], none⟩, ⟨none, .store 2 (.t 9) (.t 43), none⟩, ⟨none, .store 2 (.t 10) (.t 50), none⟩] [])
        (.seq (.draw [⟨(some 51), .load 2 true (.t 10), none⟩, ⟨(some 52), .load 2 true (.t 9), none⟩, ⟨(some 53), .call (.c (.fn (.func 65) [] [])) [(.t 51), (.t 52)], none⟩, ⟨(some 54), .load 2 true (.t 9), none⟩, ⟨(some 55), .load 2 true (.t 10), none⟩, ⟨(some 56), .call (.c (.fn (.func 76) [] [])) [(.t 54), (.t 55)], none⟩, ⟨(some 11), .mv (.t 53), none⟩, ⟨(some 12), .mv (.t 56), none⟩] [])
        (.seq (.draw [⟨(some 57), .mv (.t 12), none⟩, ⟨(some 58), .mv (.t 1), none⟩, ⟨(some 59), .mv (.t 7), none⟩, ⟨(some 60), .mv (.t 8), none⟩, ⟨(some 61), .idxS 1 (.t 59) (.t 60), none⟩, ⟨(some 62), .load 1 false (.t 61), none⟩, ⟨(some 63), .bin .mul (.t 58) (.t 62), none⟩, ⟨(some 64), .bin .leq (.t 57) (.t 63), none⟩, ⟨(some 65), .mv (.t 64), none⟩, ⟨(some 66), .mv (.t 12), (some (65, true))⟩, ⟨(some 67), .mv (.t 1), (some (65, true))⟩, ⟨(some 68), .un .neg (.t 67), (some (65, true))⟩, ⟨(some 69), .mv (.t 7), (some (65, true))⟩, ⟨(some 70), .mv (.t 8), (some (65, true))⟩, ⟨(some 71), .idxS 1 (.t 69) (.t 70), (some (65, true))⟩, ⟨(some 72), .load 1 false (.t 71), (some (65, true))⟩, ⟨(some 73), .bin .mul (.t 68) (.t 72), (some (65, true))⟩, ⟨(some 74), .bin .geq (.t 66) (.t 73), (some (65, true))⟩, ⟨(some 75), .pick (.t 65) (.t 74) (.c (.v (.bool false))), none⟩, ⟨(some 76), .mv (.t 75), none⟩, ⟨(some 77), .mv (.t 11), (some (76, true))⟩, ⟨(some 78), .bin .geq (.t 77) (.c (.v (.int .i64 0))), (some (76, true))⟩, ⟨(some 79), .pick (.t 76) (.t 78) (.c (.v (.bool false))), none⟩, ⟨(some 80), .mv (.t 79), none⟩, ⟨(some 81), .mv (.t 11), (some (80, true))⟩, ⟨(some 82), .mv (.t 7), (some (80, true))⟩, ⟨(some 83), .mv (.t 8), (some (80, true))⟩, ⟨(some 84), .idxS 1 (.t 82) (.t 83), (some (80, true))⟩, ⟨(some 85), .load 1 false (.t 84), (some (80, true))⟩, ⟨(some 86), .mv (.t 7), (some (80, true))⟩, ⟨(some 87), .mv (.t 8), (some (80, true))⟩, ⟨(some 88), .idxS 1 (.t 86) (.t 87), (some (80, true))⟩, ⟨(some 89), .load 1 false (.t 88), (some (80, true))⟩, ⟨(some 90), .bin .mul (.t 85) (.t 89), (some (80, true))⟩, ⟨(some 91), .bin .leq (.t 81) (.t 90), (some (80, true))⟩, ⟨(some 92), .pick (.t 80) (.t 91) (.c (.v (.bool false))), none⟩] [])
        (.cond (.t 92)
          (.seq (.reg [⟨(some 6), .mv (.c (.v (.bool true))), none⟩])
          .ret)
          .skip)))))
      (.reg [⟨(some 30), .mv (.t 8), none⟩, ⟨(some 31), .bin .add (.t 30) (.c (.v (.int .i64 1))), none⟩, ⟨(some 8), .mv (.t 31), none⟩]))))))
  (.seq (.reg [⟨(some 6), .mv (.c (.v (.bool false))), none⟩])
  .ret)))))
theorem fn39 : FnOK Try.prog 39 93 [.t 6] ac39 := ⟨_, _, Try.func39, rfl, Try.ntmps39, by kernel_rfl, ⟨fun _ => allD', by kernel_rfl⟩, by kernel_rfl⟩
theorem ref01_Holds_ok (p1 : Curve) (p2 : Int) (p3 : Spot) (r : Bool) (h : ref01_Holds p1 p2 p3 = some r) : PCall Try.prog 39 [(.agg [(.list (List.map eSpot p1.Pts))]), (i64 p2), (.agg [(i64 p3.X), (i64 p3.Y)])] (bo r) := by
  refine l_call fn39 (Nat.le_of_ble_eq_true rfl) ?_
  unfold ref01_Holds at h
  unfold ac39
  refine (l_sub (s0 := ⟨T [(0, (.d (.agg [(.list (List.map eSpot p1.Pts))]))), (1, (.d (i64 p2))), (2, (.d (.agg [(i64 p3.X), (i64 p3.Y)])))], G []⟩) (sb_of ⟨.of rfl, .of rfl, .of rfl, trivial⟩ trivial) ?_)
  refine l_seq ?_
  refine l_reg fun u1 hu1 => ?_
  refine s_new (.ptr _ _) (.box _ _) rfl rfl ?_
  refine s_new (.ptr _ _) (.box _ _) rfl rfl ?_
  refine s_val (.d _) rfl rfl ?_
  refine s_nil ?_
  refine l_seq ?_
  refine l_seq ?_
  refine l_reg fun u2 hu2 => ?_
  refine s_val (.d _) rfl rfl ?_
  refine s_val (.d _) rfl rfl ?_
  refine s_val (.d _) rfl rfl ?_
  refine g_val (!(decide (p2 < 0))) (.d _) rfl (gw_f rfl) (fun w1 => rfl) ?_
  refine g_val (!(decide (p2 < 0))) (.d _) rfl (gw_f rfl) (fun w2 => (v_bin (gd_pos w2) rfl rfl)) ?_
  refine s_val (.d _) rfl (v_or rfl rfl (fun hc => gd_pos (not_t hc))) ?_
  refine s_val (.d _) rfl rfl ?_
  refine g_val (!((decide (p2 < 0)) || (decide (p2 > 4000)))) (.d _) rfl (gw_f rfl) (fun w3 => (v_loadG rfl G_hit rfl rfl)) ?_
  obtain ⟨v1, hv1, h⟩ := bind_some h
  refine g_call (!((decide (p2 < 0)) || (decide (p2 > 4000)))) (bo v1) (gw_f rfl) (fun w4 => ⟨_, [(.d (.agg [(i64 p3.X), (i64 p3.Y)]))], _, _, (by simp only [gd_pos w4]; rfl), rfl, all2_refl, ref01_Valid_ok _  _ (cond_t w4 hv1), (.inl rfl)⟩) ?_
  refine g_val (!((decide (p2 < 0)) || (decide (p2 > 4000)))) (.d _) rfl (gw_f rfl) (fun w5 => (by simp only [gd_pos w5]; rfl)) ?_
  refine s_val (.d _) rfl (v_or rfl rfl (fun hc => gd_pos (not_t hc))) ?_
  refine s_nil ?_
  refine l_cond (((decide (p2 < 0)) || (decide (p2 > 4000))) || (!v1)) rfl (fun c1 => ?_) (fun c1 => ?_)
  · replace h := cond_t c1 h
    refine l_seq ?_
    refine l_reg fun u3 hu3 => ?_
    refine s_val (.d _) rfl rfl ?_
    refine s_nil ?_
    refine l_ret ?_
    obtain rfl := Option.some.inj h
    refine fin_ok (.inr rfl) (resD1 (res_t rfl) rf_d) ?_
    exact (.refl _)
  · replace h := cond_f c1 h
    refine l_skip ?_
    refine l_seq ?_
    refine l_reg fun u4 hu4 => ?_
    refine s_val (.d _) rfl (v_loadG rfl (G_skip rfl G_hit) rfl rfl) ?_
    obtain ⟨v2, hv2, h⟩ := bind_some h
    refine s_call rfl rfl all2_refl (ref01_Pieces_ok _  _ hv2) (.inl rfl) ?_
    refine s_val (.d _) rfl rfl ?_
    refine s_nil ?_
    refine l_seq ?_
    refine l_seq ?_
    refine l_reg fun u5 hu5 => ?_
    refine s_val (.d _) rfl rfl ?_
    refine s_nil ?_
    obtain ⟨z1, hz1, h⟩ := thenS_some h
    refine l_join (fun s => ∃ (y1 : Unit) (g1 : Unit), z1 = .inl y1 ∧ Sb ⟨T [], G []⟩ s) ?_ ?_
    · skip
      refine l_block ?_
      refine l_loop (ref01_Holds_l1 p1 p2 p3 v2) (fun (x1 : Int) (g2 : Unit) => ⟨T [(1, (.d (i64 p2))), (3, (.ptr (3, u1) 0)), (5, (.ptr (5, u1) 0)), (7, (.d (.list (List.map eInt_i64 v2)))), (8, (.d (i64 x1)))], G [((3, u1), some (.box 24 [(.d (.list (List.map eSpot p1.Pts)))])), ((5, u1), some (.box 43 [(.d (i64 p3.X)), (.d (i64 p3.Y))]))]⟩) 0 () _ hz1 (sb_of ⟨.of rfl, .of rfl, .of rfl, .of rfl, .of rfl, trivial⟩ (sbG_some (G_skip rfl G_hit) (.of rfl) (sbG_some G_hit (.of rfl) trivial))) ?_
      intro x1 g2 z2 hz2 ez2
      unfold ref01_Holds_l1 at hz2
      refine l_seq ?_
      refine l_seq ?_
      refine l_reg fun u6 hu6 => ?_
      refine s_val (.d _) rfl rfl ?_
      refine s_val (.d _) rfl rfl ?_
      refine s_val (.d _) rfl (v_len rfl) ?_
      refine s_val (.d _) rfl rfl ?_
      refine s_nil ?_
      refine l_cond (decide (x1 < (v2.length : Int))) rfl (fun c2 => ?_) (fun c2 => ?_)
      · replace hz2 := cond_t c2 hz2
        refine l_skip ?_
        refine l_seq ?_
        refine l_block ?_
        refine l_seq ?_
        refine l_draw rfl fun u7 hu7 => ?_
        refine s_val (.ptr _ _) rfl rfl ?_
        refine s_val (.d _) rfl (v_load rfl G_hit rfl) ?_
        refine s_val (.d _) rfl rfl ?_
        refine s_val (.d _) rfl rfl ?_
        obtain ⟨v3, hv3, hz2⟩ := bind_some hz2
        refine s_val (.d _) rfl (v_idx rfl rfl hv3 rfl) ?_
        refine s_val (.d _) rfl (v_loadLG rfl hv3 rfl rfl) ?_
        refine s_val (.ptr _ _) rfl rfl ?_
        refine s_val (.d _) rfl (v_load rfl G_hit rfl) ?_
        refine s_val (.d _) rfl rfl ?_
        obtain ⟨v4, hv4, hz2⟩ := bind_some hz2
        refine s_val (.d _) rfl (v_idx rfl rfl hv4 rfl) ?_
        refine s_val (.d _) rfl (v_loadLG rfl hv4 rfl rfl) ?_
        obtain ⟨v5, hv5, hz2⟩ := bind_some hz2
        refine s_call rfl rfl all2_refl (ref01_Minus_ok _ _  _ hv5) (.inl rfl) ?_
        refine s_val (.d _) rfl (v_loadG rfl (G_skip rfl G_hit) rfl rfl) ?_
        refine s_val (.ptr _ _) rfl rfl ?_
        refine s_val (.d _) rfl (v_load rfl G_hit rfl) ?_
        refine s_val (.d _) rfl rfl ?_
        obtain ⟨v6, hv6, hz2⟩ := bind_some hz2
        refine s_val (.d _) rfl (v_idx rfl rfl hv6 rfl) ?_
        refine s_val (.d _) rfl (v_loadLG rfl hv6 rfl rfl) ?_
        obtain ⟨v7, hv7, hz2⟩ := bind_some hz2
        refine s_call rfl rfl all2_refl (ref01_Minus_ok _ _  _ hv7) (.inl rfl) ?_
        refine s_new (.ptr _ _) (.box _ _) rfl rfl ?_
        refine s_new (.ptr _ _) (.box _ _) rfl rfl ?_
        refine s_store _ _ _ _ _ rfl rfl rfl (G_skip rfl G_hit) (Nat.le_of_ble_eq_true rfl) _ rfl ?_
        refine s_store _ _ _ _ _ rfl rfl rfl (G_skip rfl G_hit) (Nat.le_of_ble_eq_true rfl) _ rfl ?_
        refine s_nil ?_
        refine l_seq ?_
        refine l_sub (s0 := ⟨T [(1, (.d (i64 p2))), (3, (.ptr (3, u1) 0)), (5, (.ptr (5, u1) 0)), (7, (.d (.list (List.map eInt_i64 v2)))), (8, (.d (i64 x1))), (9, (.ptr (9, u7) 0)), (10, (.ptr (10, u7) 0))], G [((3, u1), some (.box 24 [(.d (.list (List.map eSpot p1.Pts)))])), ((5, u1), some (.box 43 [(.d (i64 p3.X)), (.d (i64 p3.Y))])), ((9, u7), some (.box 43 [(.d (i64 v5.X)), (.d (i64 v5.Y))])), ((10, u7), some (.box 43 [(.d (i64 v7.X)), (.d (i64 v7.Y))]))]⟩) (sb_of ⟨.of rfl, .of rfl, .of rfl, .of rfl, .of rfl, .of rfl, .of rfl, trivial⟩ (sbG_some (G_skip rfl (G_skip rfl (G_skip rfl (G_skip rfl G_hit)))) (.of rfl) (sbG_some (G_skip rfl (G_skip rfl (G_skip rfl (G_skip rfl (G_skip rfl G_hit))))) (.of rfl) (sbG_some (G_skip rfl G_hit) (.of rfl) (sbG_some G_hit (.of rfl) trivial))))) ?_
        refine l_draw rfl fun u8 hu8 => ?_
        refine s_val (.d _) rfl (v_loadG rfl (G_skip rfl (G_skip rfl (G_skip rfl G_hit))) rfl rfl) ?_
        refine s_val (.d _) rfl (v_loadG rfl (G_skip rfl (G_skip rfl G_hit)) rfl rfl) ?_
        obtain ⟨v8, hv8, hz2⟩ := bind_some hz2
        refine s_call rfl rfl all2_refl (ref01_Dot_ok _ _  _ hv8) (.inl rfl) ?_
        refine s_val (.d _) rfl (v_loadG rfl (G_skip rfl (G_skip rfl G_hit)) rfl rfl) ?_
        refine s_val (.d _) rfl (v_loadG rfl (G_skip rfl (G_skip rfl (G_skip rfl G_hit))) rfl rfl) ?_
        obtain ⟨v9, hv9, hz2⟩ := bind_some hz2
        refine s_call rfl rfl all2_refl (ref01_Cross_ok _ _  _ hv9) (.inl rfl) ?_
        refine s_val (.d _) rfl rfl ?_
        refine s_val (.d _) rfl rfl ?_
        refine s_nil ?_
        refine l_seq ?_
        refine l_draw rfl fun u9 hu9 => ?_
        refine s_val (.d _) rfl rfl ?_
        refine s_val (.d _) rfl rfl ?_
        refine s_val (.d _) rfl rfl ?_
        refine s_val (.d _) rfl rfl ?_
        obtain ⟨v10, hv10, hz2⟩ := bind_some hz2
        refine s_val (.d _) rfl (v_idx rfl rfl hv10 rfl) ?_
        refine s_val (.d _) rfl (v_loadL rfl hv10 rfl) ?_
        refine s_val (.d _) rfl rfl ?_
        refine s_val (.d _) rfl rfl ?_
        refine s_val (.d _) rfl rfl ?_
        refine g_val (decide (v9 ≤ (w64 (p2 * v10)))) (.d _) rfl (gw_t rfl) (fun w6 => rfl) ?_
        refine g_val (decide (v9 ≤ (w64 (p2 * v10)))) (.d _) rfl (gw_t rfl) (fun w7 => rfl) ?_
        refine g_val (decide (v9 ≤ (w64 (p2 * v10)))) (.d _) rfl (gw_t rfl) (fun w8 => (by simp only [gd_pos w8]; rfl)) ?_
        refine g_val (decide (v9 ≤ (w64 (p2 * v10)))) (.d _) rfl (gw_t rfl) (fun w9 => rfl) ?_
        refine g_val (decide (v9 ≤ (w64 (p2 * v10)))) (.d _) rfl (gw_t rfl) (fun w10 => rfl) ?_
        obtain ⟨v11, hv11, hz2⟩ := bind_some hz2
        refine g_val (decide (v9 ≤ (w64 (p2 * v10)))) (.d _) rfl (gw_t rfl) (fun w11 => (v_idx (gd_pos w11) (gd_pos w11) (cond_t w11 hv11) rfl)) ?_
        refine g_val (decide (v9 ≤ (w64 (p2 * v10)))) (.d _) rfl (gw_t rfl) (fun w12 => (v_loadL (gd_pos w12) (cond_t w12 hv11) rfl)) ?_
        refine g_val (decide (v9 ≤ (w64 (p2 * v10)))) (.d _) rfl (gw_t rfl) (fun w13 => (v_bin (gd_pos w13) (gd_pos w13) rfl)) ?_
        refine g_val (decide (v9 ≤ (w64 (p2 * v10)))) (.d _) rfl (gw_t rfl) (fun w14 => (v_bin (gd_pos w14) (gd_pos w14) rfl)) ?_
        refine s_val (.d _) rfl (v_and rfl (fun hc => gd_pos hc) rfl) ?_
        refine s_val (.d _) rfl rfl ?_
        refine g_val ((decide (v9 ≤ (w64 (p2 * v10)))) && (decide (v9 ≥ (w64 ((w64 (0 - p2)) * v11))))) (.d _) rfl (gw_t rfl) (fun w15 => rfl) ?_
        refine g_val ((decide (v9 ≤ (w64 (p2 * v10)))) && (decide (v9 ≥ (w64 ((w64 (0 - p2)) * v11))))) (.d _) rfl (gw_t rfl) (fun w16 => (v_bin (gd_pos w16) rfl rfl)) ?_
        refine s_val (.d _) rfl (v_and rfl (fun hc => gd_pos hc) rfl) ?_
        refine s_val (.d _) rfl rfl ?_
        refine g_val (((decide (v9 ≤ (w64 (p2 * v10)))) && (decide (v9 ≥ (w64 ((w64 (0 - p2)) * v11))))) && (decide (v8 ≥ 0))) (.d _) rfl (gw_t rfl) (fun w17 => rfl) ?_
        refine g_val (((decide (v9 ≤ (w64 (p2 * v10)))) && (decide (v9 ≥ (w64 ((w64 (0 - p2)) * v11))))) && (decide (v8 ≥ 0))) (.d _) rfl (gw_t rfl) (fun w18 => rfl) ?_
        refine g_val (((decide (v9 ≤ (w64 (p2 * v10)))) && (decide (v9 ≥ (w64 ((w64 (0 - p2)) * v11))))) && (decide (v8 ≥ 0))) (.d _) rfl (gw_t rfl) (fun w19 => rfl) ?_
        obtain ⟨v12, hv12, hz2⟩ := bind_some hz2
        refine g_val (((decide (v9 ≤ (w64 (p2 * v10)))) && (decide (v9 ≥ (w64 ((w64 (0 - p2)) * v11))))) && (decide (v8 ≥ 0))) (.d _) rfl (gw_t rfl) (fun w20 => (v_idx (gd_pos w20) (gd_pos w20) (cond_t w20 hv12) rfl)) ?_
        refine g_val (((decide (v9 ≤ (w64 (p2 * v10)))) && (decide (v9 ≥ (w64 ((w64 (0 - p2)) * v11))))) && (decide (v8 ≥ 0))) (.d _) rfl (gw_t rfl) (fun w21 => (v_loadL (gd_pos w21) (cond_t w21 hv12) rfl)) ?_
        refine g_val (((decide (v9 ≤ (w64 (p2 * v10)))) && (decide (v9 ≥ (w64 ((w64 (0 - p2)) * v11))))) && (decide (v8 ≥ 0))) (.d _) rfl (gw_t rfl) (fun w22 => rfl) ?_
        refine g_val (((decide (v9 ≤ (w64 (p2 * v10)))) && (decide (v9 ≥ (w64 ((w64 (0 - p2)) * v11))))) && (decide (v8 ≥ 0))) (.d _) rfl (gw_t rfl) (fun w23 => rfl) ?_
        obtain ⟨v13, hv13, hz2⟩ := bind_some hz2
        refine g_val (((decide (v9 ≤ (w64 (p2 * v10)))) && (decide (v9 ≥ (w64 ((w64 (0 - p2)) * v11))))) && (decide (v8 ≥ 0))) (.d _) rfl (gw_t rfl) (fun w24 => (v_idx (gd_pos w24) (gd_pos w24) (cond_t w24 hv13) rfl)) ?_
        refine g_val (((decide (v9 ≤ (w64 (p2 * v10)))) && (decide (v9 ≥ (w64 ((w64 (0 - p2)) * v11))))) && (decide (v8 ≥ 0))) (.d _) rfl (gw_t rfl) (fun w25 => (v_loadL (gd_pos w25) (cond_t w25 hv13) rfl)) ?_
        refine g_val (((decide (v9 ≤ (w64 (p2 * v10)))) && (decide (v9 ≥ (w64 ((w64 (0 - p2)) * v11))))) && (decide (v8 ≥ 0))) (.d _) rfl (gw_t rfl) (fun w26 => (v_bin (gd_pos w26) (gd_pos w26) rfl)) ?_
        refine g_val (((decide (v9 ≤ (w64 (p2 * v10)))) && (decide (v9 ≥ (w64 ((w64 (0 - p2)) * v11))))) && (decide (v8 ≥ 0))) (.d _) rfl (gw_t rfl) (fun w27 => (v_bin (gd_pos w27) (gd_pos w27) rfl)) ?_
        refine s_val (.d _) rfl (v_and rfl (fun hc => gd_pos hc) rfl) ?_
        refine s_nil ?_
        refine l_cond ((((decide (v9 ≤ (w64 (p2 * v10)))) && (decide (v9 ≥ (w64 ((w64 (0 - p2)) * v11))))) && (decide (v8 ≥ 0))) && (decide (v8 ≤ (w64 (v12 * v13))))) rfl (fun c3 => ?_) (fun c3 => ?_)
        · replace hz2 := cond_t c3 hz2
          refine l_seq ?_
          refine l_sub (s0 := ⟨T [], G []⟩) (sb_of trivial trivial) ?_
          refine l_reg fun u10 hu10 => ?_
          refine s_val (.d _) rfl rfl ?_
          refine s_nil ?_
          refine l_ret ?_
          obtain rfl := Option.some.inj hz2
          obtain rfl := ez2 _ rfl
          refine ⟨nofun, awl_ret ?_⟩
          rw [Sum.elim_inr] at h
          obtain rfl := Option.some.inj h
          refine fin_ok (.inr rfl) (resD1 (res_t rfl) rf_d) ?_
          exact (.refl _)
        · replace hz2 := cond_f c3 hz2
          refine l_skip ?_
          refine l_end ?_
          refine l_sub (s0 := ⟨T [(1, (.d (i64 p2))), (3, (.ptr (3, u1) 0)), (5, (.ptr (5, u1) 0)), (7, (.d (.list (List.map eInt_i64 v2)))), (8, (.d (i64 x1))), (66, (gd (decide (v9 ≤ (w64 (p2 * v10)))) true (.d (i64 v9)))), (67, (gd (decide (v9 ≤ (w64 (p2 * v10)))) true (.d (i64 p2)))), (68, (gd (decide (v9 ≤ (w64 (p2 * v10)))) true (.d (i64 (w64 (0 - p2)))))), (69, (gd (decide (v9 ≤ (w64 (p2 * v10)))) true (.d (.list (List.map eInt_i64 v2))))), (70, (gd (decide (v9 ≤ (w64 (p2 * v10)))) true (.d (i64 x1)))), (71, (gd (decide (v9 ≤ (w64 (p2 * v10)))) true (.d (.lp (List.map eInt_i64 v2) (x1).toNat 0)))), (72, (gd (decide (v9 ≤ (w64 (p2 * v10)))) true (.d (i64 v11)))), (73, (gd (decide (v9 ≤ (w64 (p2 * v10)))) true (.d (i64 (w64 ((w64 (0 - p2)) * v11)))))), (74, (gd (decide (v9 ≤ (w64 (p2 * v10)))) true (.d (bo (decide (v9 ≥ (w64 ((w64 (0 - p2)) * v11)))))))), (77, (gd ((decide (v9 ≤ (w64 (p2 * v10)))) && (decide (v9 ≥ (w64 ((w64 (0 - p2)) * v11))))) true (.d (i64 v8)))), (78, (gd ((decide (v9 ≤ (w64 (p2 * v10)))) && (decide (v9 ≥ (w64 ((w64 (0 - p2)) * v11))))) true (.d (bo (decide (v8 ≥ 0)))))), (81, (gd (((decide (v9 ≤ (w64 (p2 * v10)))) && (decide (v9 ≥ (w64 ((w64 (0 - p2)) * v11))))) && (decide (v8 ≥ 0))) true (.d (i64 v8)))), (82, (gd (((decide (v9 ≤ (w64 (p2 * v10)))) && (decide (v9 ≥ (w64 ((w64 (0 - p2)) * v11))))) && (decide (v8 ≥ 0))) true (.d (.list (List.map eInt_i64 v2))))), (83, (gd (((decide (v9 ≤ (w64 (p2 * v10)))) && (decide (v9 ≥ (w64 ((w64 (0 - p2)) * v11))))) && (decide (v8 ≥ 0))) true (.d (i64 x1)))), (84, (gd (((decide (v9 ≤ (w64 (p2 * v10)))) && (decide (v9 ≥ (w64 ((w64 (0 - p2)) * v11))))) && (decide (v8 ≥ 0))) true (.d (.lp (List.map eInt_i64 v2) (x1).toNat 0)))), (85, (gd (((decide (v9 ≤ (w64 (p2 * v10)))) && (decide (v9 ≥ (w64 ((w64 (0 - p2)) * v11))))) && (decide (v8 ≥ 0))) true (.d (i64 v12)))), (86, (gd (((decide (v9 ≤ (w64 (p2 * v10)))) && (decide (v9 ≥ (w64 ((w64 (0 - p2)) * v11))))) && (decide (v8 ≥ 0))) true (.d (.list (List.map eInt_i64 v2))))), (87, (gd (((decide (v9 ≤ (w64 (p2 * v10)))) && (decide (v9 ≥ (w64 ((w64 (0 - p2)) * v11))))) && (decide (v8 ≥ 0))) true (.d (i64 x1)))), (88, (gd (((decide (v9 ≤ (w64 (p2 * v10)))) && (decide (v9 ≥ (w64 ((w64 (0 - p2)) * v11))))) && (decide (v8 ≥ 0))) true (.d (.lp (List.map eInt_i64 v2) (x1).toNat 0)))), (89, (gd (((decide (v9 ≤ (w64 (p2 * v10)))) && (decide (v9 ≥ (w64 ((w64 (0 - p2)) * v11))))) && (decide (v8 ≥ 0))) true (.d (i64 v13)))), (90, (gd (((decide (v9 ≤ (w64 (p2 * v10)))) && (decide (v9 ≥ (w64 ((w64 (0 - p2)) * v11))))) && (decide (v8 ≥ 0))) true (.d (i64 (w64 (v12 * v13)))))), (91, (gd (((decide (v9 ≤ (w64 (p2 * v10)))) && (decide (v9 ≥ (w64 ((w64 (0 - p2)) * v11))))) && (decide (v8 ≥ 0))) true (.d (bo (decide (v8 ≤ (w64 (v12 * v13))))))))], G [((3, u1), some (.box 24 [(.d (.list (List.map eSpot p1.Pts)))])), ((5, u1), some (.box 43 [(.d (i64 p3.X)), (.d (i64 p3.Y))]))]⟩) (sb_of ⟨.of rfl, .of rfl, .of rfl, .of rfl, .of rfl, .of rfl, .of rfl, .of rfl, .of rfl, .of rfl, .of rfl, .of rfl, .of rfl, .of rfl, .of rfl, .of rfl, .of rfl, .of rfl, .of rfl, .of rfl, .of rfl, .of rfl, .of rfl, .of rfl, .of rfl, .of rfl, .of rfl, trivial⟩ (sbG_some G_hit (.of rfl) (sbG_some (G_skip rfl G_hit) (.of rfl) trivial))) ?_
          refine l_reg fun u11 hu11 => ?_
          refine s_val (.d _) rfl rfl ?_
          refine s_val (.d _) rfl rfl ?_
          refine s_val (.d _) rfl rfl ?_
          refine s_nil ?_
          refine l_nil ?_
          obtain rfl := Option.some.inj hz2
          exact ⟨rfl, (), (sb_of ⟨.of rfl, .of rfl, .of rfl, .of rfl, .of rfl, trivial⟩ (sbG_some G_hit (.of rfl) (sbG_some (G_skip rfl G_hit) (.of rfl) trivial)))⟩
      · replace hz2 := cond_f c2 hz2
        refine l_exitN rfl ?_
        obtain rfl := Option.some.inj hz2
        obtain rfl := ez2 _ rfl
        refine ⟨nofun, awl_pop rfl (l_j ?_)⟩
        exact ⟨_, (), rfl, (sb_of trivial trivial)⟩
    · rintro _ ⟨y1, g1, rfl, q1⟩
      rw [Sum.elim_inl] at h
      refine l_sub q1 ?_
      refine l_seq ?_
      refine l_reg fun u12 hu12 => ?_
      refine s_val (.d _) rfl rfl ?_
      refine s_nil ?_
      refine l_ret ?_
      obtain rfl := Option.some.inj h
      refine fin_ok (.inr rfl) (resD1 (res_t rfl) rf_d) ?_
      exact (.refl _)

noncomputable def law01_CurveFeet_l1 (p1 : Curve) (p3 : Spot) (p4 : Int) (v3 : Curve) (x1 : Int) : Option (Stp Int (Sum Unit Bool)) :=
  cond (decide (x1 < 2)) ((geti [p1, v3] x1).bind fun v4 => (curve_Near v4 p3 p4).bind fun v5 => (geti [p1, v3] x1).bind fun v6 => (ref01_Near v6 p3 p4).bind fun v7 => (kit_SameLongs v5 v7).bind fun v8 => ((cond (!(!v8)) (geti [p1, v3] x1) (some default))).bind fun v9 => ((cond (!(!v8)) (curve_Holds v9 p4 p3) (some default))).bind fun v10 => ((cond (!(!v8)) (geti [p1, v3] x1) (some default))).bind fun v11 => ((cond (!(!v8)) (ref01_Holds v11 p4 p3) (some default))).bind fun v12 => cond ((!v8) || (!(v10 == v12))) (some (.out (.inr false))) (some (.go (w64 (x1 + 1))))) (some (.out (.inl ())))
noncomputable def law01_CurveFeet (p1 : Curve) (p2 : KitChain) (p3 : Spot) (p4 : Int) : Option Bool :=
  (law01_long p1).bind fun v1 => cond v1 ((law01_awake).bind fun v2 => some v2) ((kit_Curve p2).bind fun v3 => thenS (loop (law01_CurveFeet_l1 p1 p3 p4 v3) 0) (fun _ => (law01_awake).bind fun v13 => some v13) (fun r => some r))

/-- kerbstone/kerbstonelaw01.CurveFeet -/
def ac8 : AC :=
  (.seq (.reg [⟨(some 4), .box 24 true (.t 0), none⟩, ⟨(some 5), .box 37 true (.t 1), none⟩, ⟨(some 6), .box 43 true (.t 2), none⟩, ⟨(some 8), .mv (.c (.v (.bool false))), none⟩])
  (.seq (.seq (.reg [⟨(some 11), .load 1 true (.t 4), none⟩, ⟨(some 12), .call (.c (.fn (.func 17) [] [])) [(.t 11)], none⟩])
  (.cond (.t 12)
    (.seq (.reg [⟨(some 13), .call (.c (.fn (.func 18) [] [])) [], none⟩, ⟨(some 8), .mv (.t 13), none⟩])
    .ret)
    .skip))
  (.seq (.draw [⟨(some 14), .load 1 true (.t 4), none⟩, ⟨(some 15), .load 3 true (.t 5), none⟩, ⟨(some 16), .call (.c (.fn (.func 28) [] [])) [(.t 15)], none⟩, ⟨(some 17), .dslice 24 1 2 [.nilS] [(0, 1, (.t 14)), (1, 1, (.t 16))], none⟩, ⟨(some 9), .mv (.t 17), none⟩] [])
  (.seq (.seq (.reg [⟨(some 10), .mv (.c (.v (.int .i64 0))), none⟩])
  (.block 0
    (.loop
      (.seq (.seq (.reg [⟨(some 18), .mv (.t 10), none⟩, ⟨(some 19), .bin .lss (.t 18) (.c (.v (.int .i64 2))), none⟩])
      (.cond (.t 19)
        .skip
        (.exit 0)))
      (.seq (.block 1
        (.seq (.draw [⟨(some 22), .mv (.t 9), none⟩, ⟨(some 23), .mv (.t 10), none⟩, ⟨(some 24), .idxS 1 (.t 22) (.t 23), none⟩, ⟨(some 25), .load 1 true (.t 24), none⟩, ⟨(some 26), .load 2 true (.t 6), none⟩, ⟨(some 27), .mv (.t 3), none⟩, ⟨(some 28), .call (.c (.fn (.func 34) [] [])) [(.t 25), (.t 26), (.t 27)], none⟩, ⟨(some 29), .mv (.t 9), none⟩, ⟨(some 30), .mv (.t 10), none⟩, ⟨(some 31), .idxS 1 (.t 29) (.t 30), none⟩, ⟨(some 32), .load 1 true (.t 31), none⟩, ⟨(some 33), .load 2 true (.t 6), none⟩, ⟨(some 34), .mv (.t 3), none⟩, ⟨(some 35), .call (.c (.fn (.func 37) [] [])) [(.t 32), (.t 33), (.t 34)], none⟩, ⟨(some 36), .call (.c (.fn (.func 24) [] [])) [(.t 28), (.t 35)], none⟩, ⟨(some 37), .un .not (.t 36), none⟩, ⟨(some 38), .mv (.t 37), none⟩, ⟨(some 39), .mv (.t 9), (some (38, false))⟩, ⟨(some 40), .mv (.t 10), (some (38, false))⟩, ⟨(some 41), .idxS 1 (.t 39) (.t 40), (some (38, false))⟩, ⟨(some 42), .load 1 true (.t 41), (some (38, false))⟩, ⟨(some 43), .mv (.t 3), (some (38, false))⟩, ⟨(some 44), .load 2 true (.t 6), (some (38, false))⟩, ⟨(some 45), .call (.c (.fn (.func 38) [] [])) [(.t 42), (.t 43), (.t 44)], (some (38, false))⟩, ⟨(some 46), .mv (.t 9), (some (38, false))⟩, ⟨(some 47), .mv (.t 10), (some (38, false))⟩, ⟨(some 48), .idxS 1 (.t 46) (.t 47), (some (38, false))⟩, ⟨(some 49), .load 1 true (.t 48), (some (38, false))⟩, ⟨(some 50), .mv (.t 3), (some (38, false))⟩, ⟨(some 51), .load 2 true (.t 6), (some (38, false))⟩, ⟨(some 52), .call (.c (.fn (.func 39) [] [])) [(.t 49), (.t 50), (.t 51)], (some (38, false))⟩, ⟨(some 53), .eqB true (.t 45) (.t 52), (some (38, false))⟩, ⟨(some 54), .pick (.t 38) (.c (.v (.bool true))) (.t 53), none⟩] [])
        (.cond (.t 54)
          (.seq (.reg [⟨(some 8), .mv (.c (.v (.bool false))), none⟩])
          .ret)
          .skip)))
      (.reg [⟨(some 20), .mv (.t 10), none⟩, ⟨(some 21), .bin .add (.t 20) (.c (.v (.int .i64 1))), none⟩, ⟨(some 10), .mv (.t 21), none⟩]))))))
  (.seq (.reg [⟨(some 55), .call (.c (.fn (.func 18) [] [])) [], none⟩, ⟨(some 8), .mv (.t 55), none⟩])
  .ret)))))
theorem fn8 : FnOK Try.prog 8 56 [.t 8] ac8 := ⟨_, _, Try.func8, rfl, Try.ntmps8, by kernel_rfl, ⟨fun _ => allD', by kernel_rfl⟩, by kernel_rfl⟩
theorem law01_CurveFeet_ok (p1 : Curve) (p2 : KitChain) (p3 : Spot) (p4 : Int) (r : Bool) (h : law01_CurveFeet p1 p2 p3 p4 = some r) : PCall Try.prog 8 [(.agg [(.list (List.map eSpot p1.Pts))]), (.agg [(i64 p2.X), (i64 p2.Y), (.list (List.map eInt_i64 p2.Steps))]), (.agg [(i64 p3.X), (i64 p3.Y)]), (i64 p4)] (bo r) := by
  refine l_call fn8 (Nat.le_of_ble_eq_true rfl) ?_
  unfold law01_CurveFeet at h
  unfold ac8
  refine (l_sub (s0 := ⟨T [(0, (.d (.agg [(.list (List.map eSpot p1.Pts))]))), (1, (.d (.agg [(i64 p2.X), (i64 p2.Y), (.list (List.map eInt_i64 p2.Steps))]))), (2, (.d (.agg [(i64 p3.X), (i64 p3.Y)]))), (3, (.d (i64 p4)))], G []⟩) (sb_of ⟨.of rfl, .of rfl, .of rfl, .of rfl, trivial⟩ trivial) ?_)
  refine l_seq ?_
  refine l_reg fun u1 hu1 => ?_
  refine s_new (.ptr _ _) (.box _ _) rfl rfl ?_
  refine s_new (.ptr _ _) (.box _ _) rfl rfl ?_
  refine s_new (.ptr _ _) (.box _ _) rfl rfl ?_
  refine s_val (.d _) rfl rfl ?_
  refine s_nil ?_
  refine l_seq ?_
  refine l_seq ?_
  refine l_reg fun u2 hu2 => ?_
  refine s_val (.d _) rfl (v_loadG rfl (G_skip rfl (G_skip rfl G_hit)) rfl rfl) ?_
  obtain ⟨v1, hv1, h⟩ := bind_some h
  refine s_call rfl rfl all2_refl (law01_long_ok _  _ hv1) (.inl rfl) ?_
  refine s_nil ?_
  refine l_cond v1 rfl (fun c1 => ?_) (fun c1 => ?_)
  · replace h := cond_t c1 h
    refine l_seq ?_
    refine l_reg fun u3 hu3 => ?_
    obtain ⟨v2, hv2, h⟩ := bind_some h
    refine s_call rfl rfl all2_refl (law01_awake_ok  _ hv2) (.inl rfl) ?_
    refine s_val (.d _) rfl rfl ?_
    refine s_nil ?_
    refine l_ret ?_
    obtain rfl := Option.some.inj h
    refine fin_ok (.inr rfl) (resD1 (res_t rfl) rf_d) ?_
    exact (.refl _)
  · replace h := cond_f c1 h
    refine l_skip ?_
    refine l_seq ?_
    refine l_draw rfl fun u4 hu4 => ?_
    refine s_val (.d _) rfl (v_loadG rfl (G_skip rfl (G_skip rfl G_hit)) rfl rfl) ?_
    refine s_val (.d _) rfl (v_loadG rfl (G_skip rfl G_hit) rfl rfl) ?_
    obtain ⟨v3, hv3, h⟩ := bind_some h
    refine s_call rfl rfl all2_refl (kit_Curve_ok _  _ hv3) (.inl rfl) ?_
    refine s_val (.d (.list (List.map eCurve [p1, v3]))) rfl rfl ?_
    refine s_val (.d (.list (List.map eCurve [p1, v3]))) rfl rfl ?_
    refine s_nil ?_
    refine l_seq ?_
    refine l_seq ?_
    refine l_reg fun u5 hu5 => ?_
    refine s_val (.d _) rfl rfl ?_
    refine s_nil ?_
    obtain ⟨z1, hz1, h⟩ := thenS_some h
    refine l_join (fun s => ∃ (y1 : Unit) (g1 : Unit), z1 = .inl y1 ∧ Sb ⟨T [], G []⟩ s) ?_ ?_
    · skip
      refine l_block ?_
      refine l_loop (law01_CurveFeet_l1 p1 p3 p4 v3) (fun (x1 : Int) (g2 : Unit) => ⟨T [(3, (.d (i64 p4))), (6, (.ptr (6, u1) 0)), (9, (.d (.list (List.map eCurve [p1, v3])))), (10, (.d (i64 x1)))], G [((6, u1), some (.box 43 [(.d (i64 p3.X)), (.d (i64 p3.Y))]))]⟩) 0 () _ hz1 (sb_of ⟨.of rfl, .of rfl, .of rfl, .of rfl, trivial⟩ (sbG_some G_hit (.of rfl) trivial)) ?_
      intro x1 g2 z2 hz2 ez2
      unfold law01_CurveFeet_l1 at hz2
      refine l_seq ?_
      refine l_seq ?_
      refine l_reg fun u6 hu6 => ?_
      refine s_val (.d _) rfl rfl ?_
      refine s_val (.d _) rfl rfl ?_
      refine s_nil ?_
      refine l_cond (decide (x1 < 2)) rfl (fun c2 => ?_) (fun c2 => ?_)
      · replace hz2 := cond_t c2 hz2
        refine l_skip ?_
        refine l_seq ?_
        refine l_block ?_
        refine l_seq ?_
        refine l_draw rfl fun u7 hu7 => ?_
        refine s_val (.d (.list (List.map eCurve [p1, v3]))) rfl rfl ?_
        refine s_val (.d _) rfl rfl ?_
        obtain ⟨v4, hv4, hz2⟩ := bind_some hz2
        refine s_val (.d _) rfl (v_idx rfl rfl hv4 rfl) ?_
        refine s_val (.d _) rfl (v_loadLG rfl hv4 rfl rfl) ?_
        refine s_val (.d _) rfl (v_loadG rfl G_hit rfl rfl) ?_
        refine s_val (.d _) rfl rfl ?_
        obtain ⟨v5, hv5, hz2⟩ := bind_some hz2
        refine s_call rfl rfl all2_refl (curve_Near_ok _ _ _  _ hv5) (.inl rfl) ?_
        refine s_val (.d (.list (List.map eCurve [p1, v3]))) rfl rfl ?_
        refine s_val (.d _) rfl rfl ?_
        obtain ⟨v6, hv6, hz2⟩ := bind_some hz2
        refine s_val (.d _) rfl (v_idx rfl rfl hv6 rfl) ?_
        refine s_val (.d _) rfl (v_loadLG rfl hv6 rfl rfl) ?_
        refine s_val (.d _) rfl (v_loadG rfl G_hit rfl rfl) ?_
        refine s_val (.d _) rfl rfl ?_
        obtain ⟨v7, hv7, hz2⟩ := bind_some hz2
        refine s_call rfl rfl all2_refl (ref01_Near_ok _ _ _  _ hv7) (.inl rfl) ?_
        obtain ⟨v8, hv8, hz2⟩ := bind_some hz2
        refine s_call rfl rfl all2_refl (kit_SameLongs_ok _ _  _ hv8) (.inl rfl) ?_
        refine s_val (.d _) rfl rfl ?_
        refine s_val (.d _) rfl rfl ?_
        refine g_val (!(!v8)) (.d (.list (List.map eCurve [p1, v3]))) rfl (gw_f rfl) (fun w1 => rfl) ?_
        refine g_val (!(!v8)) (.d _) rfl (gw_f rfl) (fun w2 => rfl) ?_
        obtain ⟨v9, hv9, hz2⟩ := bind_some hz2
        refine g_val (!(!v8)) (.d _) rfl (gw_f rfl) (fun w3 => (v_idx (gd_pos w3) (gd_pos w3) (cond_t w3 hv9) rfl)) ?_
        refine g_val (!(!v8)) (.d _) rfl (gw_f rfl) (fun w4 => (v_loadLG (gd_pos w4) (cond_t w4 hv9) rfl rfl)) ?_
        refine g_val (!(!v8)) (.d _) rfl (gw_f rfl) (fun w5 => rfl) ?_
        refine g_val (!(!v8)) (.d _) rfl (gw_f rfl) (fun w6 => (v_loadG rfl G_hit rfl rfl)) ?_
        obtain ⟨v10, hv10, hz2⟩ := bind_some hz2
        refine g_call (!(!v8)) (bo v10) (gw_f rfl) (fun w7 => ⟨_, [(.d (.agg [(.list (List.map eSpot v9.Pts))])), (.d (i64 p4)), (.d (.agg [(i64 p3.X), (i64 p3.Y)]))], _, _, (by simp only [gd_pos w7]; rfl), rfl, all2_refl, curve_Holds_ok _ _ _  _ (cond_t w7 hv10), (.inl rfl)⟩) ?_
        refine g_val (!(!v8)) (.d (.list (List.map eCurve [p1, v3]))) rfl (gw_f rfl) (fun w8 => rfl) ?_
        refine g_val (!(!v8)) (.d _) rfl (gw_f rfl) (fun w9 => rfl) ?_
        obtain ⟨v11, hv11, hz2⟩ := bind_some hz2
        refine g_val (!(!v8)) (.d _) rfl (gw_f rfl) (fun w10 => (v_idx (gd_pos w10) (gd_pos w10) (cond_t w10 hv11) rfl)) ?_
        refine g_val (!(!v8)) (.d _) rfl (gw_f rfl) (fun w11 => (v_loadLG (gd_pos w11) (cond_t w11 hv11) rfl rfl)) ?_
        refine g_val (!(!v8)) (.d _) rfl (gw_f rfl) (fun w12 => rfl) ?_
        refine g_val (!(!v8)) (.d _) rfl (gw_f rfl) (fun w13 => (v_loadG rfl G_hit rfl rfl)) ?_
        obtain ⟨v12, hv12, hz2⟩ := bind_some hz2
        refine g_call (!(!v8)) (bo v12) (gw_f rfl) (fun w14 => ⟨_, [(.d (.agg [(.list (List.map eSpot v11.Pts))])), (.d (i64 p4)), (.d (.agg [(i64 p3.X), (i64 p3.Y)]))], _, _, (by simp only [gd_pos w14]; rfl), rfl, all2_refl, ref01_Holds_ok _ _ _  _ (cond_t w14 hv12), (.inl rfl)⟩) ?_
        refine g_val (!(!v8)) (.d _) rfl (gw_f rfl) (fun w15 => (by simp only [gd_pos w15]; rfl)) ?_
        refine s_val (.d _) rfl (v_or rfl rfl (fun hc => gd_pos (not_t hc))) ?_
        refine s_nil ?_
        refine l_cond ((!v8) || (!(v10 == v12))) rfl (fun c3 => ?_) (fun c3 => ?_)
        · replace hz2 := cond_t c3 hz2
          refine l_seq ?_
          refine l_sub (s0 := ⟨T [], G []⟩) (sb_of trivial trivial) ?_
          refine l_reg fun u8 hu8 => ?_
          refine s_val (.d _) rfl rfl ?_
          refine s_nil ?_
          refine l_ret ?_
          obtain rfl := Option.some.inj hz2
          obtain rfl := ez2 _ rfl
          refine ⟨nofun, awl_ret ?_⟩
          rw [Sum.elim_inr] at h
          obtain rfl := Option.some.inj h
          refine fin_ok (.inr rfl) (resD1 (res_t rfl) rf_d) ?_
          exact (.refl _)
        · replace hz2 := cond_f c3 hz2
          refine l_skip ?_
          refine l_end ?_
          refine l_sub (s0 := ⟨T [(3, (.d (i64 p4))), (6, (.ptr (6, u1) 0)), (9, (.d (.list (List.map eCurve [p1, v3])))), (10, (.d (i64 x1))), (39, (gd (!(!v8)) true (.d (.list (List.map eCurve [p1, v3]))))), (40, (gd (!(!v8)) true (.d (i64 x1)))), (41, (gd (!(!v8)) true (.d (.lp (List.map eCurve [p1, v3]) (x1).toNat 0)))), (42, (gd (!(!v8)) true (.d (.agg [(.list (List.map eSpot v9.Pts))])))), (43, (gd (!(!v8)) true (.d (i64 p4)))), (44, (gd (!(!v8)) true (.d (.agg [(i64 p3.X), (i64 p3.Y)])))), (45, (gd (!(!v8)) true (.d (bo v10)))), (46, (gd (!(!v8)) true (.d (.list (List.map eCurve [p1, v3]))))), (47, (gd (!(!v8)) true (.d (i64 x1)))), (48, (gd (!(!v8)) true (.d (.lp (List.map eCurve [p1, v3]) (x1).toNat 0)))), (49, (gd (!(!v8)) true (.d (.agg [(.list (List.map eSpot v11.Pts))])))), (50, (gd (!(!v8)) true (.d (i64 p4)))), (51, (gd (!(!v8)) true (.d (.agg [(i64 p3.X), (i64 p3.Y)])))), (52, (gd (!(!v8)) true (.d (bo v12)))), (53, (gd (!(!v8)) true (.d (bo (!(v10 == v12))))))], G [((6, u1), some (.box 43 [(.d (i64 p3.X)), (.d (i64 p3.Y))]))]⟩) (sb_of ⟨.of rfl, .of rfl, .of rfl, .of rfl, .of rfl, .of rfl, .of rfl, .of rfl, .of rfl, .of rfl, .of rfl, .of rfl, .of rfl, .of rfl, .of rfl, .of rfl, .of rfl, .of rfl, .of rfl, trivial⟩ (sbG_some G_hit (.of rfl) trivial)) ?_
          refine l_reg fun u9 hu9 => ?_
          refine s_val (.d _) rfl rfl ?_
          refine s_val (.d _) rfl rfl ?_
          refine s_val (.d _) rfl rfl ?_
          refine s_nil ?_
          refine l_nil ?_
          obtain rfl := Option.some.inj hz2
          exact ⟨rfl, (), (sb_of ⟨.of rfl, .of rfl, .of rfl, .of rfl, trivial⟩ (sbG_some G_hit (.of rfl) trivial))⟩
      · replace hz2 := cond_f c2 hz2
        refine l_exitN rfl ?_
        obtain rfl := Option.some.inj hz2
        obtain rfl := ez2 _ rfl
        refine ⟨nofun, awl_pop rfl (l_j ?_)⟩
        exact ⟨_, (), rfl, (sb_of trivial trivial)⟩
    · rintro _ ⟨y1, g1, rfl, q1⟩
      rw [Sum.elim_inl] at h
      refine l_sub q1 ?_
      refine l_seq ?_
      refine l_reg fun u10 hu10 => ?_
      obtain ⟨v13, hv13, h⟩ := bind_some h
      refine s_call rfl rfl all2_refl (law01_awake_ok  _ hv13) (.inl rfl) ?_
      refine s_val (.d _) rfl rfl ?_
      refine s_nil ?_
      refine l_ret ?_
      obtain rfl := Option.some.inj h
      refine fin_ok (.inr rfl) (resD1 (res_t rfl) rf_d) ?_
      exact (.refl _)
end Go.Abs.Curve
